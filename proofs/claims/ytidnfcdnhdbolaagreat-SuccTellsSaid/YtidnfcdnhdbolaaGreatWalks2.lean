/- Each Go function of this seat computes what its model says, part 2. -/
import Derived.Test.YtidnfcdnhdbolaaGreatWalks
namespace Go.Proofs.YtidnfcdnhdbolaaGreat
open Go SX
theorem qfc (F : Nat) (g1 : Nat) (x2 : Int) (x3 : List Int) (a4 : Option Addr) (c5 : Nat) (x6 : Int) (x7 : Int) (r : ((List Int × Int × Int) ⊕ (Int × Int))) (hm : vS F x2 x3 x6 x7 = some r) :
    PureL Tryz.prog 82 [.pointer (some ⟨g1, 0, none⟩), .int .i64 x7] [⟨g1, 69, [.int .i64 x2, .slice a4 x3.length c5, .int .i64 x6]⟩] [] [Sl (eI .u8) 1 (.slice a4 x3.length c5) x3] lostCh (Option Addr × Nat) (fun (r : (List Int × Int × Int)) (g : (Option Addr × Nat)) => .slice g.1 r.1.length g.2) (fun (r : (List Int × Int × Int)) (_ : (Option Addr × Nat)) => [⟨g1, 69, [.int .i64 r.2.1, .slice a4 x3.length c5, .int .i64 r.2.2]⟩]) (fun (r : (List Int × Int × Int)) (g : (Option Addr × Nat)) => [Ro (eI .i64) 3 1 (.slice g.1 r.1.length g.2) r.1]) (fun (z : (Int × Int)) => [⟨g1, 69, [.int .i64 z.1, .slice a4 x3.length c5, .int .i64 z.2]⟩]) r := by
 refine qfp Tryz.func82 rfl Tryz.ntmps82 rfl hm (fun w => qF (l' := [(0, .pointer (some ⟨g1, 0, none⟩)), (1, .int .i64 x7)]) rfl (qf (qa (qb rfl rfl rfl (qe (qd (qf (qa (qc rfl rfl rfl (qc rfl rfl rfl (qD rfl rfl rfl rfl (kY ent80 rfl rfl rfl (fun x8 e8 => ym F g1 x2 x3 a4 c5 x6 (iadd .i64 x7 1) x8 e8) (.cons 0 rfl .nil) .nil (.consF 0 rfl .nil) (fun x9 _ => ?_) (fun x8 e8 => ?_)))))))))))))
 exact zI (vi (.cons 0 rfl .nil))
 intro _
 refine ql9 (qL .i64) rfl Tryz.underlying22 tf3 rfl rfl rfl rfl rfl rfl rfl (fun x10 e10 a11 c12 => qb rfl rfl rfl (qe (qd (qC (fun (((x72, x73, x74), _) : ((List Int × Int × Int) × Unit)) => [(5, .slice a11 x72.length c12)]) (fun (((x72, x73, x74), _) : ((List Int × Int × Int) × Unit)) => [⟨g1, 69, [.int .i64 x73, .slice a4 x3.length c5, .int .i64 x74]⟩]) (fun (((x72, x73, x74), _) : ((List Int × Int × Int) × Unit)) => [Ro (eI .i64) 3 1 (.slice a11 x72.length c12) x72]) (fun (((x72, x73, x74), _) : ((List Int × Int × Int) × Unit)) => [Sl (eI .u8) 1 (.slice a4 x3.length c5) x3]) (fun (((x72, x73, x74), _) : ((List Int × Int × Int) × Unit)) => jm F x72 x73 x74) ?_ ?_))))
 refine qf (qa (qc rfl rfl rfl (qN rfl Tryz.underlying22 rfl rfl (qc rfl rfl rfl (qe (qd (qt (qM (fun (((x93, x94, x95, x96), _) : ((List Int × Int × Int × Int) × Unit)) => [(0, .pointer (some ⟨g1, 0, none⟩)), (1, .int .i64 x7), (5, .slice a11 x93.length c12), (13, .int .i64 (x10.length : Int)), (14, .int .i64 x94)]) (fun (((x93, x94, x95, x96), _) : ((List Int × Int × Int × Int) × Unit)) => [⟨g1, 69, [.int .i64 x95, .slice a4 x3.length c5, .int .i64 x96]⟩]) (fun (((x93, x94, x95, x96), _) : ((List Int × Int × Int × Int) × Unit)) => [Ro (eI .i64) 3 1 (.slice a11 x93.length c12) x93]) (fun (((x93, x94, x95, x96), _) : ((List Int × Int × Int × Int) × Unit)) => [Sl (eI .u8) 1 (.slice a4 x3.length c5) x3]) (fun k (s : ((List Int × Int × Int × Int) × Unit)) => kB F x3 x7 x10 k s.1) ((x10, 0, x8.2.1, x8.2.2), ()) F ?_ (hB := (.cons 0 rfl .nil)) (hR := (.cons 0 rfl .nil)) (hF := (qi 0 rfl qu))))))))))
 intro k115
 rintro ⟨⟨x93, x94, x95, x96⟩, _⟩
 try dsimp only
 refine qZ (m' := yT F x3 x7 x10 (kB F x3 x7 x10 k115) x93 x94 x95 x96) rfl (qf (qa (qP rfl rfl rfl rfl (qe (qd (qf (qy rfl (fun h133 => ?_) (fun h133 => ?_))))))))
 refine ql (qd (qf (qt (qf (qa (qc rfl rfl rfl (qb rfl rfl rfl (qe (qd (qa (qc rfl rfl rfl (qc rfl rfl rfl ?_))))))))))))
 refine qc rfl rfl rfl (qc rfl rfl rfl (kY ent80 rfl rfl rfl (fun x125 e125 => ym F g1 x95 x3 a4 c5 x96 x7 x125 e125) (.cons 0 rfl .nil) .nil (.consF 0 rfl .nil) (fun x126 _ => ?_) (fun x125 e125 => ?_)))
 exact qc4 (zI (zI (qc4 (zI (vi (.cons 0 rfl .nil))))))
 intro _
 refine qc rfl rfl rfl (qho rfl rfl rfl rfl (qD rfl rfl rfl rfl (qbV (j := 0) rfl Tryz.underlying22 tf3 rfl rfl rfl rfl (fun x127 e127 g128 h129 => qeE (j := 0) (y' := iadd .i64 x125.1 (imin x94 1)) (qL .i64) rfl rfl rfl tf3 rfl h129 (zW e127).2.1 rfl (fun x130 e130 h131 => ?_)))))
 have h132 : x130.length = x93.length := by rw [← e130, List.length_set]
 exact qA (d := 5) (v := .slice a11 x130.length c12) rfl h131 (qA (d := 17) (v := .slice a11 x130.length c12) rfl h131 (qe (qH (qd (qa (qD rfl rfl rfl rfl (qc rfl rfl rfl (qe (qG ((x130, iadd .i64 x94 1, x125.2.1, x125.2.2), ()) (hB := (.cons 0 rfl .nil)) (hR := (.cons 0 rfl .nil)) (hF := (qi 0 rfl qu)))))))))))
 exact qS (qx (qx (qT (qj ((x93, x95, x96), ()) (hB := (.cons 0 rfl .nil)) (hR := (.cons 0 rfl .nil)) (hF := (qi 0 rfl qu))))))
 rintro ⟨⟨x72, x73, x74⟩, _⟩
 try dsimp only
 exact qf (qa (qc rfl rfl rfl (qb rfl rfl rfl (qe (qd (qr (qcw (a11, c12) (.inl rfl) (res1 rfl rfl) rfl (.cons 0 rfl .nil) (.cons 0 rfl .nil))))))))
theorem qe3 (F : Nat) (x1 : Int) (r : Int) (hm : j2 F x1 = some r) :
    Pure Tryz.prog 102 [.int .u64 x1] [] Unit (fun _ => .int .i64 r) (fun _ => []) (fun _ => []) := by
 refine qQ Tryz.func102 rfl Tryz.ntmps102 rfl hm (fun w => qF (l' := [(0, .int .u64 x1)]) rfl (qf (qa (qb rfl rfl rfl (qe (qd (qf (qa (qc rfl rfl rfl (qdU rfl rfl rfl rfl rfl (q9 rfl Tryz.underlying72 Tryz.underlying2 rfl rfl (qc rfl rfl rfl ?_))))))))))))
 exact qhv rfl rfl rfl rfl (q9 rfl Tryz.underlying72 Tryz.underlying2 rfl rfl (qmW rfl rfl rfl (qms rfl rfl rfl rfl (qb rfl rfl rfl (yf (fun x2 e2 => qA (d := 2) (v := .int .i64 x2) rfl (by rw [e2] <;> rfl) (qe (qd (qr (qm () (res1 rfl rfl)))))))))))
theorem qge (F : Nat) (g1 : Nat) (x2 : Int) (x3 : List Int) (a4 : Option Addr) (c5 : Nat) (x6 : Int) (x7 : Int) (x8 : Int) (x9 : Int) (r : ((List (Int × Int) × Int × Int) ⊕ (Int × Int))) (hm : jT F x2 x3 x6 x7 x8 x9 = some r) :
    PureL Tryz.prog 83 [.pointer (some ⟨g1, 0, none⟩), .int .i64 x7, .int .i64 x8, .int .i64 x9] [⟨g1, 69, [.int .i64 x2, .slice a4 x3.length c5, .int .i64 x6]⟩] [] [Sl (eI .u8) 1 (.slice a4 x3.length c5) x3] lostCh (Option Addr × Nat) (fun (r : (List (Int × Int) × Int × Int)) (g : (Option Addr × Nat)) => .slice g.1 r.1.length g.2) (fun (r : (List (Int × Int) × Int × Int)) (_ : (Option Addr × Nat)) => [⟨g1, 69, [.int .i64 r.2.1, .slice a4 x3.length c5, .int .i64 r.2.2]⟩]) (fun (r : (List (Int × Int) × Int × Int)) (g : (Option Addr × Nat)) => [Ro eS75 75 2 (.slice g.1 r.1.length g.2) r.1]) (fun (z : (Int × Int)) => [⟨g1, 69, [.int .i64 z.1, .slice a4 x3.length c5, .int .i64 z.2]⟩]) r := by
 refine qfp Tryz.func83 rfl Tryz.ntmps83 rfl hm (fun w => qF (l' := [(0, .pointer (some ⟨g1, 0, none⟩)), (1, .int .i64 x7), (2, .int .i64 x8), (3, .int .i64 x9)]) rfl (qf (qa (qb rfl rfl rfl (qe (qd (qf (qa (qc rfl rfl rfl (qc rfl rfl rfl (qc rfl rfl rfl (vY (fun h10 => ?_)))))))))))))
 refine qbL rfl rfl rfl rfl h10 (kY ent80 rfl rfl rfl (fun x11 e11 => ym F g1 x2 x3 a4 c5 x6 (iquo .i64 x9 x8) x11 e11) (.cons 0 rfl .nil) .nil (.consF 0 rfl .nil) (fun x12 _ => ?_) (fun x11 e11 => ?_))
 exact zI (vi (.cons 0 rfl .nil))
 intro _
 refine qpJ yl (by decide) rfl Tryz.underlying57 tf75 rfl rfl rfl rfl rfl rfl (fun x13 e13 a14 c15 => qb rfl rfl rfl (qe (qd (qf (qa (qc rfl rfl rfl (qb rfl rfl rfl (qe (qd (qC (fun (((x136, x137, x138), _) : ((List (Int × Int) × Int × Int) × Unit)) => [(9, .slice a14 x136.length c15)]) (fun (((x136, x137, x138), _) : ((List (Int × Int) × Int × Int) × Unit)) => [⟨g1, 69, [.int .i64 x137, .slice a4 x3.length c5, .int .i64 x138]⟩]) (fun (((x136, x137, x138), _) : ((List (Int × Int) × Int × Int) × Unit)) => [Ro eS75 75 2 (.slice a14 x136.length c15) x136]) (fun (((x136, x137, x138), _) : ((List (Int × Int) × Int × Int) × Unit)) => [Sl (eI .u8) 1 (.slice a4 x3.length c5) x3]) (fun (((x136, x137, x138), _) : ((List (Int × Int) × Int × Int) × Unit)) => qaj F x136 x137 x138) ?_ ?_))))))))))
 refine qf (qa (qc rfl rfl rfl (qN rfl Tryz.underlying57 rfl rfl (qc rfl rfl rfl (qe (qd (qt (qM (fun (((x177, x178, x179, x180, x181), _) : ((List (Int × Int) × Int × Int × Int × Int) × Unit)) => [(0, .pointer (some ⟨g1, 0, none⟩)), (2, .int .i64 x8), (3, .int .i64 x9), (9, .slice a14 x177.length c15), (10, .int .i64 x178), (21, .int .i64 (x13.length : Int)), (22, .int .i64 x179)]) (fun (((x177, x178, x179, x180, x181), _) : ((List (Int × Int) × Int × Int × Int × Int) × Unit)) => [⟨g1, 69, [.int .i64 x180, .slice a4 x3.length c5, .int .i64 x181]⟩]) (fun (((x177, x178, x179, x180, x181), _) : ((List (Int × Int) × Int × Int × Int × Int) × Unit)) => [Ro eS75 75 2 (.slice a14 x177.length c15) x177]) (fun (((x177, x178, x179, x180, x181), _) : ((List (Int × Int) × Int × Int × Int × Int) × Unit)) => [Sl (eI .u8) 1 (.slice a4 x3.length c5) x3]) (fun k (s : ((List (Int × Int) × Int × Int × Int × Int) × Unit)) => zZ F x3 x8 x9 x13 k s.1) ((x13, x7, 0, x11.2.1, x11.2.2), ()) F ?_ (hB := (.cons 0 rfl .nil)) (hR := (.cons 0 rfl .nil)) (hF := (qi 0 rfl qu))))))))))
 intro k220
 rintro ⟨⟨x177, x178, x179, x180, x181⟩, _⟩
 try dsimp only
 refine qZ (m' := y9 F x3 x8 x9 x13 (zZ F x3 x8 x9 x13 k220) x177 x178 x179 x180 x181) rfl (qf (qa (qP rfl rfl rfl rfl (qe (qd (qf (qy rfl (fun h258 => ?_) (fun h258 => ?_))))))))
 refine ql (qd (qf (qt (qf (qa (qc rfl rfl rfl (qb rfl rfl rfl (qe (qd (qf (qa (qc rfl rfl rfl ?_))))))))))))
 refine kY ent80 rfl rfl rfl (fun x240 e240 => ym F g1 x180 x3 a4 c5 x181 2097152 x240 e240) (.cons 0 rfl .nil) .nil (.consF 0 rfl .nil) (fun x241 _ => ?_) (fun x240 e240 => ?_)
 exact zI (qc4 (zI (zI (qc4 (zI (vi (.cons 0 rfl .nil)))))))
 intro _
 refine qb rfl rfl rfl (qe (qd (qC (fun ((x244, _) : (Int × Unit)) => [(0, .pointer (some ⟨g1, 0, none⟩)), (2, .int .i64 x8), (3, .int .i64 x9), (9, .slice a14 x177.length c15), (10, .int .i64 x244), (11, .int .i64 x179), (21, .int .i64 (x13.length : Int)), (22, .int .i64 x179)]) (fun ((x244, _) : (Int × Unit)) => [⟨g1, 69, [.int .i64 x240.2.1, .slice a4 x3.length c5, .int .i64 x240.2.2]⟩]) (fun ((x244, _) : (Int × Unit)) => [Ro eS75 75 2 (.slice a14 x177.length c15) x177]) (fun ((x244, _) : (Int × Unit)) => [Sl (eI .u8) 1 (.slice a4 x3.length c5) x3]) (fun ((x244, _) : (Int × Unit)) => yb F (zZ F x3 x8 x9 x13 k220) x3 x8 x9 x177 x179 x240 x244) ?_ ?_)))
 refine qf (qa (qc rfl rfl rfl (zu rfl rfl rfl rfl (qe (qd (qy rfl (fun h257 => ?_) (fun h257 => ?_)))))))
 refine qa (qc rfl rfl rfl (qc rfl rfl rfl (q9 rfl Tryz.underlying3 Tryz.underlying72 rfl rfl (qv ent102 rfl rfl rfl (fun x256 e256 => qe3 F (iconv .u64 x240.1) x256 e256) .nil (fun x256 e256 => ?_)))))
 intro _
 exact qD rfl rfl rfl rfl (qb rfl rfl rfl (qe (qj (iadd .i64 x178 x256, ()) (hB := (.cons 0 rfl .nil)) (hR := (.cons 0 rfl .nil)) (hF := (qi 0 rfl qu)))))
 exact qa (qc rfl rfl rfl (qc rfl rfl rfl (qD rfl rfl rfl rfl (qD rfl rfl rfl rfl (qb rfl rfl rfl (qe (qj (iadd .i64 x178 (iadd .i64 x240.1 2), ()) (hB := (.cons 0 rfl .nil)) (hR := (.cons 0 rfl .nil)) (hF := (qi 0 rfl qu)))))))))
 rintro ⟨x244, _⟩
 try dsimp only
 refine qf (qa (qc rfl rfl rfl (qc rfl rfl rfl (qc rfl rfl rfl (qc rfl rfl rfl (qc rfl rfl rfl (kY ent80 rfl rfl rfl (fun x245 e245 => ym F g1 x240.2.1 x3 a4 c5 x240.2.2 x9 x245 e245) (.cons 0 rfl .nil) .nil (.consF 0 rfl .nil) (fun x246 _ => ?_) (fun x245 e245 => ?_))))))))
 exact zI (qc4 (zI (zI (qc4 (zI (vi (.cons 0 rfl .nil)))))))
 intro _
 refine qc rfl rfl rfl (qD rfl rfl rfl rfl (zX (cells := [.int .i64 x244, .int .i64 (iadd .i64 x245.1 x8)]) rfl st75 rfl (by kernel_rfl) rfl (qbV (j := 0) rfl Tryz.underlying57 tf75 rfl rfl rfl rfl (fun x247 e247 g248 h249 => qeE (j := 0) (y' := (x244, iadd .i64 x245.1 x8)) yl rfl rfl rfl tf75 rfl h249 (zW e247).2.1 rfl (fun x250 e250 h251 => ?_)))))
 have h252 : x250.length = x177.length := by rw [← e250, List.length_set]
 refine qA (d := 9) (v := .slice a14 x250.length c15) rfl h251 (qA (d := 38) (v := .slice a14 x250.length c15) rfl h251 (qe (qd (qa (qc rfl rfl rfl (qc rfl rfl rfl (qc rfl rfl rfl (qbV (j := 0) rfl Tryz.underlying57 tf75 rfl rfl rfl rfl (fun x253 e253 g254 h255 => qo rfl rfl qdG rfl (qin (j := 0) (y := x253) (off := 1) yl rfl rfl tf3 rfl h255 (zW e253).2.2 rfl (fun _ => rfl) rfl rfl (zd rfl rfl rfl rfl (qD rfl rfl rfl rfl ?_))))))))))))
 exact qb rfl rfl rfl (qe (qH (qd (qa (qD rfl rfl rfl rfl (qc rfl rfl rfl (qe (qG ((x250, iadd .i64 x244 (isub .i64 x253.2 1), iadd .i64 x179 1, x245.2.1, x245.2.2), ()) (hB := (.cons 0 rfl .nil)) (hR := (.cons 0 rfl .nil)) (hF := (qi 0 rfl qu))))))))))
 exact qS (qx (qx (qT (qj ((x177, x180, x181), ()) (hB := (.cons 0 rfl .nil)) (hR := (.cons 0 rfl .nil)) (hF := (qi 0 rfl qu))))))
 rintro ⟨⟨x136, x137, x138⟩, _⟩
 try dsimp only
 exact qf (qa (qc rfl rfl rfl (qb rfl rfl rfl (qe (qd (qr (qcw (a14, c15) (.inl rfl) (res1 rfl rfl) rfl (.cons 0 rfl .nil) (.cons 0 rfl .nil))))))))
theorem qe8 (F : Nat) (x1 : List Int) (a2 : Option Addr) (c3 : Nat) (x4 : Int) (r : List Int) (hm : vw F x1 c3 x4 = some r) :
    PureM Tryz.prog 108 [.slice a2 x1.length c3, .int .i64 x4] [] [Ro (eI .i64) 3 1 (.slice a2 x1.length c3) x1] [] (Option Addr × Nat) (fun g => .slice g.1 r.length g.2) (fun _ => []) (fun g => [Ro (eI .i64) 3 1 (.slice g.1 r.length g.2) r]) := by
 refine yJ Tryz.func108 rfl Tryz.ntmps108 rfl hm (fun w => qF (l' := [(0, .slice a2 x1.length c3), (1, .int .i64 x4)]) rfl (qf (qa (qb rfl rfl rfl (qe (qd (qf (qf (qa (qc rfl rfl rfl (qP rfl rfl rfl rfl (qe ?_))))))))))))
 refine qd (qy rfl (fun h23 => ?_) (fun h23 => ?_))
 exact qkM
 refine ql (qd (qC (fun ((x15, (a13, c14)) : (List Int × (Option Addr × Nat))) => [(0, .slice a13 x15.length c14)]) (fun ((x15, (a13, c14)) : (List Int × (Option Addr × Nat))) => []) (fun ((x15, (a13, c14)) : (List Int × (Option Addr × Nat))) => [Ro (eI .i64) 3 1 (.slice a13 x15.length c14) x15]) (fun ((x15, (a13, c14)) : (List Int × (Option Addr × Nat))) => []) (fun ((x15, _) : (List Int × (Option Addr × Nat))) => jb F x15) ?_ ?_))
 refine qf (qa (qc rfl rfl rfl (qc rfl rfl rfl (qnp rfl Tryz.underlying22 rfl rfl (qc rfl rfl rfl (qN rfl Tryz.underlying22 rfl rfl (zd rfl rfl rfl rfl (zd rfl rfl rfl rfl (qb rfl rfl rfl (yf (fun x16 e16 => qA (d := 1) (v := .int .i64 x16) rfl (by rw [e16] <;> rfl) (qe ?_))))))))))))
 refine qd (qf (qa (qc rfl rfl rfl (zi rfl rfl rfl rfl (qe (qd (qy rfl (fun h22 => ?_) (fun h22 => ?_))))))))
 exact qa (qc rfl rfl rfl (qc rfl rfl rfl (qnp rfl Tryz.underlying22 rfl rfl (qlm (i := 0) (qL .i64) rfl Tryz.underlying22 tf3 rfl rfl rfl rfl (fun x17 e17 => qc rfl rfl rfl (qoA (y := (0 : Int)) 0 (qL .i64) rfl Tryz.underlying22 Tryz.underlying3 tf3 rfl rfl rfl rfl rfl rfl rfl rfl rfl (fun x18 e18 a19 c20 => qc rfl rfl rfl (qN rfl Tryz.underlying22 rfl rfl (qlm (i := 0) (qL .i64) rfl Tryz.underlying22 tf3 rfl rfl rfl rfl (fun x21 e21 => qb rfl rfl rfl (qe (qj (x21, (a19, c20)) (hR := (.cons 0 rfl .nil))))))))))))))
 exact ql (qj (x1, (a2, c3)) (hR := (.cons 0 rfl .nil)))
 rintro ⟨x15, ⟨a13, c14⟩⟩
 try dsimp only
 exact qf (qa (qc rfl rfl rfl (qb rfl rfl rfl (qe (qd (qr (zT (a13, c14) (res1 rfl rfl) (hR := fun h => by subst h; exact (.cons 0 rfl .nil)))))))))
theorem qbZ (F : Nat) (x1 : List (List Int)) (a2 : Option Addr) (c3 : (Nat × List (Option Addr × Nat))) (r : List Int) (hm : kh F x1 = some r) :
    Pure Tryz.prog 86 [.slice a2 x1.length c3.1] [SlN eN22 iN22 1 (.slice a2 x1.length c3.1) x1 c3.2] (Option Addr × Nat) (fun g => .slice g.1 r.length g.2) (fun g => [Ro (eI .i64) 3 1 (.slice g.1 r.length g.2) r]) (fun _ => []) := by
 refine qQ Tryz.func86 rfl Tryz.ntmps86 rfl hm (fun w => qF (l' := [(0, .slice a2 x1.length c3.1)]) rfl (qf (qa (qb rfl rfl rfl (qe (qd (qf (qa (qb rfl rfl rfl (qe (qd (qC (fun ((x43, _) : (Int × Unit)) => [(0, .slice a2 x1.length c3.1), (3, .int .i64 x43)]) (fun ((x43, _) : (Int × Unit)) => []) (fun ((x43, _) : (Int × Unit)) => []) (fun ((x43, _) : (Int × Unit)) => [SlN eN22 iN22 1 (.slice a2 x1.length c3.1) x1 c3.2]) (fun ((x43, _) : (Int × Unit)) => kI F x1 x43) ?_ ?_))))))))))))
 refine qf (qa (qc rfl rfl rfl (qN rfl Tryz.underlying147 rfl rfl (qc rfl rfl rfl (qe (qd (qt (qM (fun (((x168, x169), _) : ((Int × Int) × Unit)) => [(0, .slice a2 x1.length c3.1), (3, .int .i64 x168), (9, .slice a2 x1.length c3.1), (10, .int .i64 (x1.length : Int)), (11, .int .i64 x169)]) (fun (((x168, x169), _) : ((Int × Int) × Unit)) => []) (fun (((x168, x169), _) : ((Int × Int) × Unit)) => []) (fun (((x168, x169), _) : ((Int × Int) × Unit)) => [SlN eN22 iN22 1 (.slice a2 x1.length c3.1) x1 c3.2]) (fun k (s : ((Int × Int) × Unit)) => zC F x1 k s.1) ((0, 0), ()) F ?_ (hF := (qi 0 rfl qu))))))))))
 intro k182
 rintro ⟨⟨x168, x169⟩, _⟩
 try dsimp only
 refine qZ (m' := zw F x1 (zC F x1 k182) x168 x169) rfl (qf (qa (qP rfl rfl rfl rfl (qe (qd (qf (qy rfl (fun h194 => ?_) (fun h194 => ?_))))))))
 refine ql (qd (qf (qt (qf (qa (qh1 (j := 0) qhw (by decide) rfl Tryz.underlying147 tf22 rfl rfl rfl rfl (fun x189 e189 g192 b190 o191 => zl (j := 0) rfl rfl tf22 rfl rfl (fun _ => rfl) rfl rfl (qb rfl rfl rfl (qe (qd (qf (qa ?_))))))))))))
 refine qc rfl rfl rfl (qc rfl rfl rfl (qN rfl Tryz.underlying22 rfl rfl (qD rfl rfl rfl rfl (qb rfl rfl rfl (qe (qd (qf (qa (qc rfl rfl rfl (qP rfl rfl rfl rfl (qe (qd ?_))))))))))))
 refine qy rfl (fun h193 => ?_) (fun h193 => ?_)
 exact qkM
 exact ql (qH (qd (qa (qD rfl rfl rfl rfl (qc rfl rfl rfl (qe (qG ((iadd .i64 x168 (x189.length : Int), iadd .i64 x169 1), ()) (hF := (qi 2 rfl qu)))))))))
 exact qS (qx (qx (qT (qj (x168, ()) (hF := (qi 0 rfl qu))))))
 rintro ⟨x43, _⟩
 try dsimp only
 refine qf (qa (qc rfl rfl rfl (yB Int (eI .i64) 3 1 (zA ent108 rfl rfl rfl (fun x44 e44 => qe8 F ([] : List Int) none 0 x43 x44 e44) .nil (.cons 0 rfl .nil) .nil (fun x44 e44 => ?_)))))
 rintro ⟨a45, c46⟩
 refine qb rfl rfl rfl (qe (qd (qC (fun ((x102, (a100, c101)) : (List Int × (Option Addr × Nat))) => [(6, .slice a100 x102.length c101)]) (fun ((x102, (a100, c101)) : (List Int × (Option Addr × Nat))) => []) (fun ((x102, (a100, c101)) : (List Int × (Option Addr × Nat))) => [Ro (eI .i64) 3 1 (.slice a100 x102.length c101) x102]) (fun ((x102, (a100, c101)) : (List Int × (Option Addr × Nat))) => []) (fun ((x102, _) : (List Int × (Option Addr × Nat))) => vp F x102) ?_ ?_)))
 refine qf (qa (qc rfl rfl rfl (qN rfl Tryz.underlying147 rfl rfl (qc rfl rfl rfl (qe (qd (qt (qM (fun (((x121, x122), (a119, c120)) : ((List Int × Int) × (Option Addr × Nat))) => [(6, .slice a119 x121.length c120), (25, .slice a2 x1.length c3.1), (26, .int .i64 (x1.length : Int)), (27, .int .i64 x122)]) (fun (((x121, x122), (a119, c120)) : ((List Int × Int) × (Option Addr × Nat))) => []) (fun (((x121, x122), (a119, c120)) : ((List Int × Int) × (Option Addr × Nat))) => [Ro (eI .i64) 3 1 (.slice a119 x121.length c120) x121]) (fun (((x121, x122), (a119, c120)) : ((List Int × Int) × (Option Addr × Nat))) => [SlN eN22 iN22 1 (.slice a2 x1.length c3.1) x1 c3.2]) (fun k (s : ((List Int × Int) × (Option Addr × Nat))) => zD F x1 k s.1) ((x44, 0), (a45, c46)) F ?_ (hR := (.cons 0 rfl .nil)) (hF := (qi 0 rfl qu))))))))))
 intro k139
 rintro ⟨⟨x121, x122⟩, ⟨a119, c120⟩⟩
 try dsimp only
 refine qZ (m' := zv F x1 (zD F x1 k139) x121 x122) rfl (qf (qa (qP rfl rfl rfl rfl (qe (qd (qf (qy rfl (fun h155 => ?_) (fun h155 => ?_))))))))
 refine ql (qd (qf (qt (qf (qa (qh1 (j := 0) qhw (by decide) rfl Tryz.underlying147 tf22 rfl rfl rfl rfl (fun x148 e148 g151 b149 o150 => zl (j := 0) rfl rfl tf22 rfl rfl (fun _ => rfl) rfl rfl (qb rfl rfl rfl (qe (qd (qa (qc rfl rfl rfl ?_))))))))))))
 exact qc rfl rfl rfl (zy 0 (qL .i64) rfl Tryz.underlying22 tf3 rfl rfl rfl rfl rfl (.inr ⟨1, rfl⟩) rfl rfl (fun x152 e152 a153 c154 => qb rfl rfl rfl (qe (qH (qd (qa (qD rfl rfl rfl rfl (qc rfl rfl rfl (qe (qG ((x152, iadd .i64 x122 1), (a153, c154)) (hR := (.cons 0 rfl .nil)) (hF := (qi 2 rfl qu))))))))))))
 exact qS (qx (qx (qT (qj (x121, (a119, c120)) (hR := (.cons 0 rfl .nil))))))
 rintro ⟨x102, ⟨a100, c101⟩⟩
 try dsimp only
 exact qf (qa (qc rfl rfl rfl (qb rfl rfl rfl (qe (qd (qr (qm (a100, c101) (res1 rfl rfl) (fun h => by subst h; exact (.cons 0 rfl .nil)))))))))
theorem qcq (F : Nat) (x1 : List Int) (a2 : Option Addr) (c3 : Nat) (r : List Int) (hm : ka F x1 = some r) :
    PureM Tryz.prog 87 [.slice a2 x1.length c3] [] [Ro (eI .i64) 3 1 (.slice a2 x1.length c3) x1] [] Unit (fun _ => .tuple #[]) (fun _ => []) (fun _ => [Ro (eI .i64) 3 1 (.slice a2 r.length c3) r]) := by
  unfold ka at hm
  split at hm
  · cases hm
    exact qlK Tryz.slices_Sort_int Tryz.slices_Sort_int_none (by assumption)
  · simp at hm
theorem qfM (F : Nat) (x1 : Int) (x2 : Int) (x3 : Int) (r : Bool) (hm : qbu F x1 x2 x3 = some r) :
    Pure Tryz.prog 114 [.int .i64 x1, .int .i64 x2, .int .i64 x3] [] Unit (fun _ => .bool r) (fun _ => []) (fun _ => []) := by
 refine qQ Tryz.func114 rfl Tryz.ntmps114 rfl hm (fun w => qF (l' := [(0, .int .i64 x1), (1, .int .i64 x2), (2, .int .i64 x3)]) rfl (qf (qa (qb rfl rfl rfl (qe (qd (qf (qa (qc rfl rfl rfl (qc rfl rfl rfl (jl rfl rfl rfl rfl (qc rfl rfl rfl ?_))))))))))))
 refine zH 4 (decide (x2 ≤ x1)) [(14, .bool ((decide (x2 ≤ x1)) && (decide (x1 ≤ x3))))] (fun h4 => ?_) (fun h4 => ?_) ?_
 exact qw (os := _) rfl (zj (k := 10) rfl h4 (qc rfl rfl rfl (qc rfl rfl rfl (qdX rfl rfl rfl rfl (qE (b := true) rfl rfl rfl rfl (qA (d := 14) (v := .bool ((decide (x2 ≤ x1)) && (decide (x1 ≤ x3)))) rfl (by rw [h4]; simp only [Bool.true_and]) (qe (qO (qh rfl q8)))))))))
 exact qw (os := _) rfl (zk (k := 10) rfl h4 (qk rfl rfl rfl (qk rfl rfl rfl (qk rfl rfl rfl (qE (b := false) rfl rfl rfl rfl (qA (d := 14) (v := .bool ((decide (x2 ≤ x1)) && (decide (x1 ≤ x3)))) rfl (by rw [h4]; simp only [Bool.false_and]) (qe (qO (qh rfl q8)))))))))
 exact qw (os := _) rfl (qb rfl rfl rfl (qe (qd (qr (qm () (res1 rfl rfl))))))
set_option maxHeartbeats 4000000 in
theorem qiM (F : Nat) (x1 : List (Int × Int)) (a2 : Option Addr) (c3 : Nat) (r : (List Int × Int)) (hm : qcS F x1 = some r) :
    Pure Tryz.prog 103 [.slice a2 x1.length c3] [Sl eS75 2 (.slice a2 x1.length c3) x1] (Option Addr × Nat) (fun g => .tuple #[.slice g.1 r.1.length g.2, .int .i64 r.2]) (fun g => [Ro (eI .i64) 3 1 (.slice g.1 r.1.length g.2) r.1]) (fun _ => []) := by
 refine qQ Tryz.func103 rfl Tryz.ntmps103 rfl hm (fun w => qF (l' := [(0, .slice a2 x1.length c3)]) rfl (qf (qa (qb rfl rfl rfl (qb rfl rfl rfl (qe (qd (qf (qf (qa (qc rfl rfl rfl (qN rfl Tryz.underlying57 rfl rfl ?_))))))))))))
 refine zi rfl rfl rfl rfl (qe (qd (qy rfl (fun h918 => ?_) (fun h918 => ?_))))
 exact qf (qa (qb rfl rfl rfl (qb rfl rfl rfl (qe (qd (qr (qn (qU Int (eI .i64) 3 1 (qm (none, 0) (res2 rfl rfl rfl) (fun h => by subst h; exact (.cons 0 rfl .nil)))))))))))
 refine ql (qd (qf (qa (qb rfl rfl rfl (qe (qd (qC (fun ((_, _) : (Unit × Unit)) => [(0, .slice a2 x1.length c3)]) (fun ((_, _) : (Unit × Unit)) => []) (fun ((_, _) : (Unit × Unit)) => []) (fun ((_, _) : (Unit × Unit)) => [Sl eS75 2 (.slice a2 x1.length c3) x1]) (fun ((_, _) : (Unit × Unit)) => qaG F x1) ?_ ?_)))))))
 refine qf (qa (qc rfl rfl rfl (qN rfl Tryz.underlying57 rfl rfl (qc rfl rfl rfl (qe (qd (qt (qM (fun (((x807, x808), _) : ((Int × Int) × Unit)) => [(0, .slice a2 x1.length c3), (4, .int .i64 x807), (14, .slice a2 x1.length c3), (15, .int .i64 (x1.length : Int)), (16, .int .i64 x808)]) (fun (((x807, x808), _) : ((Int × Int) × Unit)) => []) (fun (((x807, x808), _) : ((Int × Int) × Unit)) => []) (fun (((x807, x808), _) : ((Int × Int) × Unit)) => [Sl eS75 2 (.slice a2 x1.length c3) x1]) (fun k (s : ((Int × Int) × Unit)) => yk F x1 k s.1) ((-2, 0), ()) F ?_ (hF := (qi 0 rfl qu))))))))))
 intro k863
 rintro ⟨⟨x807, x808⟩, _⟩
 try dsimp only
 refine qZ (m' := qas F x1 (yk F x1 k863) x807 x808) rfl (qf (qa (qP rfl rfl rfl rfl (qe (qd (qf (qy rfl (fun h917 => ?_) (fun h917 => ?_))))))))
 refine ql (qd (qf (qt (qf (qa (q7 (j := 0) yl (by decide) rfl Tryz.underlying57 tf75 rfl rfl rfl rfl (fun x891 e891 b892 o893 => zl (j := 0) rfl rfl tf75 rfl rfl (by simp) rfl rfl (zL rfl tf75 rfl (fun g894 => qI (i := 0) rfl rfl rfl tf75 rfl rfl rfl rfl rfl (qe (qd (qf ?_))))))))))))
 refine qt (qC (fun ((x910, _) : (Bool × Unit)) => [(0, .slice a2 x1.length c3), (4, .int .i64 x807), (6, .pointer (some ⟨g894, 0, none⟩)), (14, .slice a2 x1.length c3), (15, .int .i64 (x1.length : Int)), (16, .int .i64 x808), (20, .bool x910)]) (fun ((x910, _) : (Bool × Unit)) => [⟨g894, 75, [.int .i64 x891.1, .int .i64 x891.2]⟩]) (fun ((x910, _) : (Bool × Unit)) => []) (fun ((x910, _) : (Bool × Unit)) => [Sl eS75 2 (.slice a2 x1.length c3) x1]) (fun ((x910, _) : (Bool × Unit)) => vQ F (yk F x1 k863) x807 x808 x891 x910) ?_ ?_)
 refine qf (qa (qo rfl rfl qdg rfl (qp (i := 0) rfl rfl tf3 rfl rfl (fun _ => rfl) rfl rfl (qv ent114 rfl rfl rfl (fun x913 e913 => qfM F x891.1 0 1048576 x913 e913) .nil (fun x913 e913 => ?_)))))
 intro _
 refine ko rfl rfl rfl (qb rfl rfl rfl (qe (qd (qy rfl (fun h916 => ?_) (fun h916 => ?_)))))
 exact ql (qj ((!x913), ()) (hB := (.cons 0 rfl .nil)) (hF := (qi 1 rfl qu)))
 refine qf (qa (qo rfl rfl qdG rfl (qp (i := 0) rfl rfl tf3 rfl rfl (fun _ => rfl) rfl rfl (qv ent114 rfl rfl rfl (fun x914 e914 => qfM F x891.2 1 300 x914 e914) .nil (fun x914 e914 => ?_)))))
 intro _
 refine ko rfl rfl rfl (qb rfl rfl rfl (qe (qd (qy rfl (fun h915 => ?_) (fun h915 => ?_)))))
 exact ql (qj ((!x914), ()) (hB := (.cons 0 rfl .nil)) (hF := (qi 1 rfl qu)))
 exact qa (qo rfl rfl qdg rfl (qp (i := 0) rfl rfl tf3 rfl rfl (fun _ => rfl) rfl rfl (qo rfl rfl qdG rfl (qp (i := 0) rfl rfl tf3 rfl rfl (fun _ => rfl) rfl rfl (qD rfl rfl rfl rfl (zd rfl rfl rfl rfl (zi rfl rfl rfl rfl (qb rfl rfl rfl (qe (qj ((decide (1048576 < (isub .i64 (iadd .i64 x891.1 x891.2) 1))), ()) (hB := (.cons 0 rfl .nil)) (hF := (qi 1 rfl qu))))))))))))
 rintro ⟨x910, _⟩
 try dsimp only
 refine qy rfl (fun h912 => ?_) (fun h912 => ?_)
 refine qf (qa (qb rfl rfl rfl (qb rfl rfl rfl (qe (qd (qr (qR (qn (qR (qn (qn (qR ?_))))))))))))
 exact qn (qU Int (eI .i64) 3 1 (qm (none, 0) (res2 rfl rfl rfl) (fun h => by subst h; exact (.cons 0 rfl .nil))))
 refine qf (qa (qo rfl rfl qdg rfl (qp (i := 0) rfl rfl tf3 rfl rfl (fun _ => rfl) rfl rfl (qc rfl rfl rfl (qD rfl rfl rfl rfl (qP rfl rfl rfl rfl (qb rfl rfl rfl (qe (qd (qy rfl (fun h911 => ?_) (fun h911 => ?_)))))))))))
 refine qf (qa (qb rfl rfl rfl (qb rfl rfl rfl (qe (qd (qr (qR (qn (qR (qn (qn (qR ?_))))))))))))
 exact qn (qU Int (eI .i64) 3 1 (qm (none, 0) (res2 rfl rfl rfl) (fun h => by subst h; exact (.cons 0 rfl .nil))))
 refine ql (qH (qd (qa (qo rfl rfl qdg rfl (qp (i := 0) rfl rfl tf3 rfl rfl (fun _ => rfl) rfl rfl (qo rfl rfl qdG rfl (qp (i := 0) rfl rfl tf3 rfl rfl (fun _ => rfl) rfl rfl (qD rfl rfl rfl rfl (zd rfl rfl rfl rfl (qb rfl rfl rfl (qe (qH ?_))))))))))))
 exact qd (qa (qD rfl rfl rfl rfl (qc rfl rfl rfl (qe (qG ((isub .i64 (iadd .i64 x891.1 x891.2) 1, iadd .i64 x808 1), ()) (hF := (qi 0 rfl qu)))))))
 exact qS (qx (qx (qT (qj ((), ()) (hF := (qi 0 rfl qu))))))
 rintro ⟨_, _⟩
 try dsimp only
 refine qf (qa (qb rfl rfl rfl (qe (qd (qC (fun ((x462, (a460, c461)) : (List Int × (Option Addr × Nat))) => [(7, .slice a460 x462.length c461)]) (fun ((x462, (a460, c461)) : (List Int × (Option Addr × Nat))) => []) (fun ((x462, (a460, c461)) : (List Int × (Option Addr × Nat))) => [Ro (eI .i64) 3 1 (.slice a460 x462.length c461) x462]) (fun ((x462, (a460, c461)) : (List Int × (Option Addr × Nat))) => []) (fun ((x462, _) : (List Int × (Option Addr × Nat))) => qdW F x462) ?_ ?_)))))
 refine qf (qa (qc rfl rfl rfl (qN rfl Tryz.underlying57 rfl rfl (qc rfl rfl rfl (qe (qd (qt (zS Int (eI .i64) 3 1 (qM (fun (((x560, x561), (a558, c559)) : ((List Int × Int) × (Option Addr × Nat))) => [(7, .slice a558 x560.length c559), (49, .slice a2 x1.length c3), (50, .int .i64 (x1.length : Int)), (51, .int .i64 x561)]) (fun (((x560, x561), (a558, c559)) : ((List Int × Int) × (Option Addr × Nat))) => []) (fun (((x560, x561), (a558, c559)) : ((List Int × Int) × (Option Addr × Nat))) => [Ro (eI .i64) 3 1 (.slice a558 x560.length c559) x560]) (fun (((x560, x561), (a558, c559)) : ((List Int × Int) × (Option Addr × Nat))) => [Sl eS75 2 (.slice a2 x1.length c3) x1]) (fun k (s : ((List Int × Int) × (Option Addr × Nat))) => zY F x1 k s.1) ((([] : List Int), 0), (none, 0)) F ?_ (hR := (.cons 0 rfl .nil)) (hF := (qi 0 rfl qu)))))))))))
 intro k657
 rintro ⟨⟨x560, x561⟩, ⟨a558, c559⟩⟩
 try dsimp only
 refine qZ (m' := qap F x1 (zY F x1 k657) x560 x561) rfl (qf (qa (qP rfl rfl rfl rfl (qe (qd (qf (qy rfl (fun h752 => ?_) (fun h752 => ?_))))))))
 refine ql (qd (qC (fun ((x706, (a704, c705)) : (List Int × (Option Addr × Nat))) => [(7, .slice a704 x706.length c705), (49, .slice a2 x1.length c3), (50, .int .i64 (x1.length : Int)), (51, .int .i64 x561)]) (fun ((x706, (a704, c705)) : (List Int × (Option Addr × Nat))) => []) (fun ((x706, (a704, c705)) : (List Int × (Option Addr × Nat))) => [Ro (eI .i64) 3 1 (.slice a704 x706.length c705) x706]) (fun ((x706, (a704, c705)) : (List Int × (Option Addr × Nat))) => [Sl eS75 2 (.slice a2 x1.length c3) x1]) (fun ((x706, _) : (List Int × (Option Addr × Nat))) => qao F (zY F x1 k657) x561 x706) ?_ ?_))
 refine qt (qf (qa (q7 (j := 0) yl (by decide) rfl Tryz.underlying57 tf75 rfl rfl rfl rfl (fun x707 e707 b708 o709 => zl (j := 0) rfl rfl tf75 rfl rfl (by simp) rfl rfl (zL rfl tf75 rfl (fun g710 => qI (i := 0) rfl rfl rfl tf75 rfl rfl rfl rfl rfl (qe (qd (qf (qa (qo rfl rfl qdG rfl (qp (i := 0) rfl rfl tf3 rfl rfl (fun _ => rfl) rfl rfl ?_))))))))))))
 refine qc rfl rfl rfl (qe (qd (qt (qM (fun (((x725, x726), (a723, c724)) : ((List Int × Int) × (Option Addr × Nat))) => [(7, .slice a723 x725.length c724), (9, .pointer (some ⟨g710, 0, none⟩)), (49, .slice a2 x1.length c3), (50, .int .i64 (x1.length : Int)), (51, .int .i64 x561), (56, .int .i64 x707.2), (57, .int .i64 x726)]) (fun (((x725, x726), (a723, c724)) : ((List Int × Int) × (Option Addr × Nat))) => [⟨g710, 75, [.int .i64 x707.1, .int .i64 x707.2]⟩]) (fun (((x725, x726), (a723, c724)) : ((List Int × Int) × (Option Addr × Nat))) => [Ro (eI .i64) 3 1 (.slice a723 x725.length c724) x725]) (fun (((x725, x726), (a723, c724)) : ((List Int × Int) × (Option Addr × Nat))) => [Sl eS75 2 (.slice a2 x1.length c3) x1]) (fun k (s : ((List Int × Int) × (Option Addr × Nat))) => yM F (zY F x1 k657) x561 x707 k s.1) ((x560, 0), (a558, c559)) F ?_ (hB := (.cons 0 rfl .nil)) (hR := (.cons 0 rfl .nil)) (hF := (qi 1 rfl qu))))))
 intro k739
 rintro ⟨⟨x725, x726⟩, ⟨a723, c724⟩⟩
 try dsimp only
 refine qZ (m' := qal F (zY F x1 k657) x561 x707 (yM F (zY F x1 k657) x561 x707 k739) x725 x726) rfl (qf (qa (qP rfl rfl rfl rfl (qe (qd (qf (qy rfl (fun h751 => ?_) (fun h751 => ?_))))))))
 refine ql (qd (qf (qt (qf (qa (qc rfl rfl rfl (qb rfl rfl rfl (qe (qd (qa (qc rfl rfl rfl (qo rfl rfl qdg rfl ?_))))))))))))
 refine qp (i := 0) rfl rfl tf3 rfl rfl (fun _ => rfl) rfl rfl (qc rfl rfl rfl (qD rfl rfl rfl rfl (zE (vs := [.int .i64 (iadd .i64 x707.1 x726)]) (ys := ([iadd .i64 x707.1 x726] : List Int)) (qL .i64) (by decide) rfl Tryz.underlying22 tf3 rfl rfl rfl rfl rfl (by decide) (fun a746 c747 => zy 1 (qL .i64) rfl Tryz.underlying22 tf3 rfl rfl rfl rfl rfl (.inl ⟨0, _, rfl⟩) rfl rfl (fun x748 e748 a749 c750 => qb rfl rfl rfl (qe (qH (qd (qa (qD rfl rfl rfl rfl (qc rfl rfl rfl (qe ?_))))))))))))
 exact qG ((x748, iadd .i64 x726 1), (a749, c750)) (hB := (.cons 0 rfl .nil)) (hR := (.cons 0 rfl .nil)) (hF := (qi 0 rfl qu))
 exact qS (qx (qx (qT (qH (qj (x725, (a723, c724)) (hR := (.cons 0 rfl .nil)) (hF := (qi 0 rfl qu)))))))
 rintro ⟨x706, ⟨a704, c705⟩⟩
 try dsimp only
 exact qa (qD rfl rfl rfl rfl (qc rfl rfl rfl (qe (qG ((x706, iadd .i64 x561 1), (a704, c705)) (hR := (.cons 0 rfl .nil)) (hF := (qi 0 rfl qu))))))
 exact qS (qx (qx (qT (qj (x560, (a558, c559)) (hR := (.cons 0 rfl .nil))))))
 rintro ⟨x462, ⟨a460, c461⟩⟩
 try dsimp only
 exact qf (qa (qc rfl rfl rfl (qb rfl rfl rfl (qb rfl rfl rfl (qe (qd (qr (qm (a460, c461) (res2 rfl rfl rfl) (fun h => by subst h; exact (.cons 0 rfl .nil))))))))))
theorem qd9 (F : Nat) (x1 : List Int) (a2 : Option Addr) (c3 : Nat) (r : List Int) (hm : kR F x1 = some r) :
    PureM Tryz.prog 104 [.slice a2 x1.length c3] [] [Ro (eI .i64) 3 1 (.slice a2 x1.length c3) x1] [] (Option Addr × Nat) (fun g => .slice g.1 r.length g.2) (fun _ => []) (fun g => [Ro (eI .i64) 3 1 (.slice g.1 r.length g.2) r]) := by
  unfold kR at hm
  split at hm
  · cases hm
    exact qiC Tryz.slices_Compact_int Tryz.slices_Compact_int_empty (by assumption)
  · simp at hm
theorem qeH (F : Nat) (x1 : List Int) (a2 : Option Addr) (c3 : Nat) (r : List Int) (hm : va F x1 = some r) :
    Pure Tryz.prog 105 [.slice a2 x1.length c3] [Sl (eI .i64) 1 (.slice a2 x1.length c3) x1] (Option Addr × Nat) (fun g => .slice g.1 r.length g.2) (fun g => [Ro (eI .i64) 3 1 (.slice g.1 r.length g.2) r]) (fun _ => []) := by
 refine qQ Tryz.func105 rfl Tryz.ntmps105 rfl hm (fun w => qF (l' := [(0, .slice a2 x1.length c3)]) rfl (qf (qa (qb rfl rfl rfl (qe (qd (qf (qf (qa (qc rfl rfl rfl (qjr rfl Tryz.underlying22 rfl rfl rfl (qe ?_))))))))))))
 refine qd (qcl rfl (fun h11 => ?_) (fun h11 => ?_))
 refine qku 0 (qL .i64) (by decide) rfl h11 (fun h12 => ?_)
 subst h12
 exact qZ (m' := some ([] : List Int)) rfl (qf (qa (qb rfl rfl rfl (qe (qd (qr (qn (qU Int (eI .i64) 3 1 (qm (none, 0) (res1 rfl rfl) (fun h => by subst h; exact (.cons 0 rfl .nil)))))))))))
 exact ql (qd (qf (qa (zE (vs := []) (ys := ([] : List Int)) (qL .i64) (by decide) rfl Tryz.underlying22 tf3 rfl rfl rfl rfl rfl (by decide) (fun a6 c7 => qc rfl rfl rfl (zy 0 (qL .i64) rfl Tryz.underlying22 tf3 rfl rfl rfl rfl rfl (.inr ⟨0, rfl⟩) rfl rfl (fun x8 e8 a9 c10 => qb rfl rfl rfl (qe (qd (qr (qm (a9, c10) (res1 rfl rfl) (fun h => by subst h; exact (.cons 0 rfl .nil)))))))))))))
theorem qkr (F : Nat) (x1 : List (Int × Int)) (a2 : Option Addr) (c3 : Nat) (x4 : List Int) (a5 : Option Addr) (c6 : Nat) (r : (List Int × Int)) (hm : qdr F x1 x4 = some r) :
    Pure Tryz.prog 84 [.slice a2 x1.length c3, .slice a5 x4.length c6] [Sl eS75 2 (.slice a2 x1.length c3) x1, Sl (eI .i64) 1 (.slice a5 x4.length c6) x4] (Option Addr × Nat) (fun g => .tuple #[.slice g.1 r.1.length g.2, .int .i64 r.2]) (fun g => [Ro (eI .i64) 3 1 (.slice g.1 r.1.length g.2) r.1]) (fun _ => []) := by
  refine qQ Tryz.func84 rfl Tryz.ntmps84 rfl hm (fun w => ?_)
  refine qF (l' := [(0, .slice a2 x1.length c3), (1, .slice a5 x4.length c6)]) rfl ?_
  refine qf ?_
  refine qa ?_
  refine qb rfl rfl rfl ?_
  refine qb rfl rfl rfl ?_
  refine qe ?_
  refine qd ?_
  refine qf ?_
  refine qa ?_
  refine qc rfl rfl rfl ?_
  refine qv ent103 rfl rfl rfl (fun x7 e7 => qiM F x1 a2 c3 x7 e7) (.consF 0 rfl .nil) (fun x7 e7 => ?_)
  rintro ⟨a8, c9⟩
  refine qc rfl rfl rfl ?_
  refine qq rfl rfl rfl rfl ?_
  refine qq rfl rfl rfl rfl ?_
  refine qb rfl rfl rfl ?_
  refine qb rfl rfl rfl ?_
  refine qe ?_
  refine qd ?_
  refine qC (fun ((x12, _) : (Int × Unit)) => [(1, .slice a5 x4.length c6), (6, .slice a8 x7.1.length c9), (7, .int .i64 x12)]) (fun ((x12, _) : (Int × Unit)) => []) (fun ((x12, _) : (Int × Unit)) => [Ro (eI .i64) 3 1 (.slice a8 x7.1.length c9) x7.1]) (fun ((x12, _) : (Int × Unit)) => [Sl (eI .i64) 1 (.slice a5 x4.length c6) x4]) (fun ((x12, _) : (Int × Unit)) => j5 F x4 x7 x12) ?_ ?_
  · refine qf ?_
    refine qa ?_
    refine qc rfl rfl rfl ?_
    refine zu rfl rfl rfl rfl ?_
    refine qe ?_
    refine qd ?_
    refine qy rfl (fun h39 => ?_) (fun h39 => ?_)
    · refine qa ?_
      refine qc rfl rfl rfl ?_
      refine qv ent13 rfl rfl rfl (fun x38 e38 => qcn F x4 a5 c6 x38 e38) (.consF 1 rfl .nil) (fun x38 e38 => ?_)
      intro _
      refine qb rfl rfl rfl ?_
      refine qe ?_
      exact qj (x38, ()) (hR := (.cons 0 rfl .nil)) (hF := (qi 1 rfl qu))
    · refine ql ?_
      exact qj (x7.2, ()) (hR := (.cons 0 rfl .nil)) (hF := (qi 1 rfl qu))
  · rintro ⟨x12, _⟩
    try dsimp only
    refine qf ?_
    refine qf ?_
    refine qa ?_
    refine qc rfl rfl rfl ?_
    refine kD rfl rfl rfl rfl ?_
    refine qe ?_
    refine qd ?_
    refine qy rfl (fun h37 => ?_) (fun h37 => ?_)
    · refine qf ?_
      refine qa ?_
      refine qc rfl rfl rfl ?_
      refine qb rfl rfl rfl ?_
      refine qb rfl rfl rfl ?_
      refine qe ?_
      refine qd ?_
      refine qr ?_
      refine qn ?_
      refine qU Int (eI .i64) 3 1 ?_
      exact qm (none, 0) (res2 rfl rfl rfl) (fun h => by subst h; exact (.cons 0 rfl .nil))
    · refine ql ?_
      refine qd ?_
      refine qf ?_
      refine qa ?_
      refine qc rfl rfl rfl ?_
      refine qc rfl rfl rfl ?_
      refine qdF 0 rfl ?_
      refine zE (vs := [.slice a8 x7.1.length c9, .slice a5 x4.length c6]) (ys := ([(x7.1, (a8, c9)), (x4, (a5, c6))] : List (List Int × (Option Addr × Nat)))) qhw (by decide) rfl Tryz.underlying147 tf22 rfl rfl rfl rfl rfl (by decide) (fun a14 c15 => ?_)
      refine qi3 (inn := iN22) ([x7.1, x4] : List (List Int)) ([(a8, c9), (a5, c6)] : List (Option Addr × Nat)) 0 rfl rfl (qi 0 rfl (qi 1 rfl qu)) ?_
      refine qv ent86 rfl rfl rfl (fun x16 e16 => qbZ F ([x7.1, x4] : List (List Int)) a14 (c15, ([(a8, c9), (a5, c6)] : List (Option Addr × Nat))) x16 e16) (.consF 0 rfl .nil) (fun x16 e16 => ?_)
      rintro ⟨a17, c18⟩
      refine qb rfl rfl rfl ?_
      refine qe ?_
      refine qd ?_
      refine qf ?_
      refine qa ?_
      refine qc rfl rfl rfl ?_
      refine zA ent87 rfl rfl rfl (fun x19 e19 => qcq F x16 a17 c18 x19 e19) .nil (.cons 0 rfl .nil) .nil (fun x19 e19 => ?_)
      intro _
      refine vY (fun h20 => ?_)
      replace h20 := of_decide_eq_true h20
      refine qA (d := 8) (v := .slice a17 x19.length c18) rfl (by rw [h20] <;> rfl) ?_
      refine qA (d := 24) (v := .slice a17 x19.length c18) rfl (by rw [h20] <;> rfl) ?_
      refine qA (d := 25) (v := .slice a17 x19.length c18) rfl (by rw [h20] <;> rfl) ?_
      refine qe ?_
      refine qd ?_
      refine qf ?_
      refine qt ?_
      refine qf ?_
      refine qa ?_
      refine qc rfl rfl rfl ?_
      refine qv ent105 rfl rfl rfl (fun x29 e29 => qeH F x19 a17 c18 x29 e29) (.consR 0 (Ro (eI .i64) 3 1 (.slice a17 x19.length c18) x19) rfl .nil) (fun x29 e29 => ?_)
      rintro ⟨a30, c31⟩
      refine zA ent104 rfl rfl rfl (fun x32 e32 => qd9 F x29 a30 c31 x32 e32) .nil (.cons 0 rfl .nil) .nil (fun x32 e32 => ?_)
      rintro ⟨a33, c34⟩
      refine qN rfl Tryz.underlying22 rfl rfl ?_
      refine qc rfl rfl rfl ?_
      refine qN rfl Tryz.underlying22 rfl rfl ?_
      refine qP rfl rfl rfl rfl ?_
      refine qb rfl rfl rfl ?_
      refine qe ?_
      refine qd ?_
      refine qy rfl (fun h36 => ?_) (fun h36 => ?_)
      · refine qf ?_
        refine qa ?_
        refine qb rfl rfl rfl ?_
        refine qb rfl rfl rfl ?_
        refine qe ?_
        refine qd ?_
        refine qr ?_
        refine qR ?_
        refine qn ?_
        refine qU Int (eI .i64) 3 1 ?_
        exact qm (none, 0) (res2 rfl rfl rfl) (fun h => by subst h; exact (.cons 0 rfl .nil))
      · refine qf ?_
        refine qa ?_
        refine qc rfl rfl rfl ?_
        refine qN rfl Tryz.underlying22 rfl rfl ?_
        refine zi rfl rfl rfl rfl ?_
        refine qb rfl rfl rfl ?_
        refine qe ?_
        refine qd ?_
        refine qy rfl (fun h35 => ?_) (fun h35 => ?_)
        · refine qf ?_
          refine qa ?_
          refine qb rfl rfl rfl ?_
          refine qb rfl rfl rfl ?_
          refine qe ?_
          refine qd ?_
          refine qr ?_
          refine qR ?_
          refine qn ?_
          refine qU Int (eI .i64) 3 1 ?_
          exact qm (none, 0) (res2 rfl rfl rfl) (fun h => by subst h; exact (.cons 0 rfl .nil))
        · refine ql ?_
          refine qH ?_
          refine qd ?_
          refine qf ?_
          refine qa ?_
          refine qc rfl rfl rfl ?_
          refine qb rfl rfl rfl ?_
          refine qb rfl rfl rfl ?_
          refine qe ?_
          refine qd ?_
          refine qr ?_
          exact qm (a17, c18) (res2 rfl rfl rfl) (fun h => by subst h; exact (.cons 1 rfl .nil))
theorem qf3 (F : Nat) (x1 : Int) (x2 : List Int) (a3 : Option Addr) (c4 : Nat) (x5 : Int) (x6 : Int) (r : (Int × Int × Bool)) (hm : z6 F x1 x2 x5 x6 = some r) :
    Pure Tryz.prog 116 [.agg #[.int .i64 x1, .slice a3 x2.length c4], .int .i64 x5, .int .u64 x6] [Sl (eI .u8) 1 (.slice a3 x2.length c4) x2] Unit (fun _ => .tuple #[.int .u64 r.1, .int .i64 r.2.1, .bool r.2.2]) (fun _ => []) (fun _ => []) := by
 refine qQ Tryz.func116 rfl Tryz.ntmps116 rfl hm (fun w => qF (l' := [(0, .agg #[.int .i64 x1, .slice a3 x2.length c4]), (1, .int .i64 x5), (2, .int .u64 x6)]) rfl (qf (qa (zp rfl rfl rfl (fun g7 => qb rfl rfl rfl (qb rfl rfl rfl (qb rfl rfl rfl (qe (qd (qf (qa (qc rfl rfl rfl ?_))))))))))))
 refine qv ent96 rfl rfl rfl (fun x8 e8 => qfk F x6 x8 e8) .nil (fun x8 e8 _ => qc rfl rfl rfl (qq rfl rfl rfl rfl (qq rfl rfl rfl rfl (qb rfl rfl rfl (qb rfl rfl rfl (qe (qd (qC (fun ((_, _) : (Unit × Unit)) => [(1, .int .i64 x5), (3, .pointer (some ⟨g7, 0, none⟩)), (9, .int .i64 x8.1), (10, .int .u64 x8.2)]) (fun ((_, _) : (Unit × Unit)) => [⟨g7, 27, [.int .i64 x1, .slice a3 x2.length c4]⟩]) (fun ((_, _) : (Unit × Unit)) => []) (fun ((_, _) : (Unit × Unit)) => [Sl (eI .u8) 1 (.slice a3 x2.length c4) x2]) (fun ((_, _) : (Unit × Unit)) => kb F x1 x2 x5 x8) ?_ ?_))))))))
 refine qf (qa (qc rfl rfl rfl (zi rfl rfl rfl rfl (qe (qd (qy rfl (fun h19 => ?_) (fun h19 => ?_)))))))
 refine qf (qa (qp (i := 0) rfl rfl tf27 rfl rfl (by simp) rfl rfl (qc rfl rfl rfl (qc rfl rfl rfl (zd rfl rfl rfl rfl (qv ent127 rfl rfl rfl (fun x15 e15 => qfn F x1 x2 a3 c4 x5 (isub .i64 x8.1 1) x15 e15) (.consF 0 rfl .nil) (fun x15 e15 => ?_)))))))
 intro _
 refine qc rfl rfl rfl (qq rfl rfl rfl rfl (qq rfl rfl rfl rfl (qb rfl rfl rfl (qb rfl rfl rfl (qe (qd (qf (qf (qa (qc rfl rfl rfl (ko rfl rfl rfl (qe ?_))))))))))))
 refine qd (qy rfl (fun h18 => ?_) (fun h18 => ?_))
 exact qf (qa (qb rfl rfl rfl (qb rfl rfl rfl (qb rfl rfl rfl (qe (qd (qr (qn (qn (qm () (res3 rfl rfl rfl rfl)))))))))))
 refine ql (qd (qf (qa (qc rfl rfl rfl (qc rfl rfl rfl (qP rfl rfl rfl rfl (qe (qd (qy rfl (fun h17 => ?_) (fun h17 => ?_))))))))))
 refine qf (qa (qc rfl rfl rfl (qc rfl rfl rfl (qc rfl rfl rfl (qD rfl rfl rfl rfl (zd rfl rfl rfl rfl (qb rfl rfl rfl (qb rfl rfl rfl (qb rfl rfl rfl (qe (qd (qr ?_))))))))))))
 exact qn (qm () (res3 rfl rfl rfl rfl))
 exact ql (qj ((), ()) (hB := (.cons 0 rfl .nil)) (hF := (qi 0 rfl qu)))
 exact ql (qj ((), ()) (hB := (.cons 0 rfl .nil)) (hF := (qi 0 rfl qu)))
 rintro ⟨_, _⟩
 try dsimp only
 refine qf (qa (qp (i := 0) rfl rfl tf27 rfl rfl (by simp) rfl rfl (qc rfl rfl rfl (qc rfl rfl rfl (qv ent127 rfl rfl rfl (fun x14 e14 => qfn F x1 x2 a3 c4 x5 x8.1 x14 e14) (.consF 0 rfl .nil) (fun x14 e14 => ?_))))))
 intro _
 refine qc rfl rfl rfl (qq rfl rfl rfl rfl (qq rfl rfl rfl rfl (qb rfl rfl rfl (qb rfl rfl rfl (qe (qd (qf (qa (qc rfl rfl rfl (qc rfl rfl rfl (zd rfl rfl rfl rfl (qc rfl rfl rfl ?_))))))))))))
 exact qc rfl rfl rfl (qD rfl rfl rfl rfl (qc rfl rfl rfl (qb rfl rfl rfl (qb rfl rfl rfl (qb rfl rfl rfl (qe (qd (qr (qm () (res3 rfl rfl rfl rfl))))))))))
theorem qhI (F : Nat) (x1 : Int) (x2 : Int) (x3 : Bool) (r : (Int × Int × Int)) (hm : qcg F x1 x2 x3 = some r) :
    Pure Tryz.prog 117 [.int .u64 x1, .int .i64 x2, .bool x3] [] Unit (fun _ => .tuple #[.int .u64 r.1, .int .i64 r.2.1, .int .i64 r.2.2]) (fun _ => []) (fun _ => []) := by
 refine qQ Tryz.func117 rfl Tryz.ntmps117 rfl hm (fun w => qF (l' := [(0, .int .u64 x1), (1, .int .i64 x2), (2, .bool x3)]) rfl (qf (qa (qb rfl rfl rfl (qb rfl rfl rfl (qb rfl rfl rfl (qe (qd (qf (qt (qf (qa ?_))))))))))))
 refine qc rfl rfl rfl (ko rfl rfl rfl (qb rfl rfl rfl (qe (qd (qy rfl (fun h7 => ?_) (fun h7 => ?_))))))
 exact qf (qa (qb rfl rfl rfl (qb rfl rfl rfl (qb rfl rfl rfl (qe (qd (qr (qR (qn (qm () (res3 rfl rfl rfl rfl)))))))))))
 refine qf (qa (qc rfl rfl rfl (zi rfl rfl rfl rfl (qb rfl rfl rfl (qe (qd (qy rfl (fun h6 => ?_) (fun h6 => ?_))))))))
 exact qf (qa (qb rfl rfl rfl (qb rfl rfl rfl (qb rfl rfl rfl (qe (qd (qr (qR (qn (qm () (res3 rfl rfl rfl rfl)))))))))))
 refine ql (qH (qd (qf (qa (qc rfl rfl rfl (qc rfl rfl rfl (qb rfl rfl rfl (qb rfl rfl rfl (qb rfl rfl rfl (qe (qd (qr ?_))))))))))))
 exact qm () (res3 rfl rfl rfl rfl)
theorem qgi (F : Nat) (x1 : Int) (x2 : List Int) (a3 : Option Addr) (c4 : Nat) (x5 : Int) (x6 : Int) (r : (Int × Int × Int)) (hm : qaI F x1 x2 x5 x6 = some r) :
    Pure Tryz.prog 106 [.agg #[.int .i64 x1, .slice a3 x2.length c4], .int .i64 x5, .int .i64 x6] [Sl (eI .u8) 1 (.slice a3 x2.length c4) x2] Unit (fun _ => .tuple #[.int .u64 r.1, .int .i64 r.2.1, .int .i64 r.2.2]) (fun _ => []) (fun _ => []) := by
 refine qQ Tryz.func106 rfl Tryz.ntmps106 rfl hm (fun w => qF (l' := [(0, .agg #[.int .i64 x1, .slice a3 x2.length c4]), (1, .int .i64 x5), (2, .int .i64 x6)]) rfl (qf (qa (zp rfl rfl rfl (fun g7 => qb rfl rfl rfl (qb rfl rfl rfl (qb rfl rfl rfl (qe (qd (qf (qa (qp (i := 0) rfl rfl tf27 rfl rfl (by simp) rfl rfl ?_))))))))))))
 refine qc rfl rfl rfl (qv ent115 rfl rfl rfl (fun x8 e8 => qgj F x1 x2 a3 c4 x5 x8 e8) (.consF 0 rfl .nil) (fun x8 e8 => ?_))
 intro _
 refine qc rfl rfl rfl (qq rfl rfl rfl rfl (qq rfl rfl rfl rfl (qq rfl rfl rfl rfl (qb rfl rfl rfl (qb rfl rfl rfl (qb rfl rfl rfl (qe (qd (qf (qf (qa (qc rfl rfl rfl ?_))))))))))))
 refine ko rfl rfl rfl (qe (qd (qy rfl (fun h23 => ?_) (fun h23 => ?_))))
 exact qf (qa (qb rfl rfl rfl (qb rfl rfl rfl (qb rfl rfl rfl (qe (qd (qr (qn (qm () (res3 rfl rfl rfl rfl))))))))))
 refine ql (qd (qf (qf (qa (qc rfl rfl rfl (qc rfl rfl rfl (q9 rfl Tryz.underlying3 Tryz.underlying72 rfl rfl (qdp rfl rfl rfl rfl (jl rfl rfl rfl rfl (qe (qd (qy rfl (fun h22 => ?_) (fun h22 => ?_)))))))))))))
 exact qf (qa (qb rfl rfl rfl (qb rfl rfl rfl (qb rfl rfl rfl (qe (qd (qr (qn (qm () (res3 rfl rfl rfl rfl))))))))))
 refine ql (qd (qf (qa (qc rfl rfl rfl (q9 rfl Tryz.underlying72 Tryz.underlying3 rfl rfl (qc rfl rfl rfl (qdp rfl rfl rfl rfl (vY (fun h11 => qa5 rfl rfl rfl rfl h11 (qb rfl rfl rfl (yf (fun x12 e12 => qA (d := 12) (v := .int .u64 x12) rfl (by rw [e12] <;> rfl) ?_))))))))))))
 refine qe (qd (qf (qeY (fun h17 => zP mixed [] [⟨g7, 27, [.int .i64 x1, .slice a3 x2.length c4]⟩] [Sl (eI .u8) 1 (.slice a3 x2.length c4) x2] (.cons 0 rfl .nil) (qW 0 rfl qV) 15 rfl (zF 0 (.agg #[.int .i64 x1, .slice a3 x2.length c4]) rfl rfl rfl (zB (i := 0) rfl tf27 rfl rfl (by simp) rfl) (qg 1 (.int .i64 x8.2.1) rfl rfl rfl (qs rfl) (qg 2 (.int .u64 x12) rfl rfl rfl (qs rfl) (qg 3 (.int .i64 x6) rfl rfl rfl (qs rfl) (qg 4 (.int .u64 (ishl .u64 x12 x6)) rfl rfl rfl (qf9 rfl rfl h17) (qg 5 (.int .u64 x12) rfl rfl rfl (qs rfl) (qg 6 (.int .u64 (isub .u64 (ishl .u64 x12 x6) x12)) rfl rfl rfl (qs rfl) (q6 7 rfl (by kernel_rfl) rfl ?_))))))))))))
 refine qv ent116 rfl rfl rfl (fun x20 e20 => qf3 F x1 x2 a3 c4 x8.2.1 (isub .u64 (ishl .u64 x12 x6) x12) x20 e20) (.consF 0 rfl .nil) (fun x20 e20 _ => qe (qY (.cons 0 rfl .nil) (qW 0 rfl qV) (qg 8 (.tuple #[.int .u64 x20.1, .int .i64 x20.2.1, .bool x20.2.2]) rfl rfl rfl (qs rfl) (qg 9 (.int .u64 x20.1) rfl rfl rfl (qs rfl) (qg 10 (.int .i64 x20.2.1) rfl rfl rfl (qs rfl) (qg 11 (.bool x20.2.2) rfl rfl rfl (qs rfl) (qg 12 (.int .u64 x20.1) rfl rfl rfl (qs rfl) (qg 13 (.int .i64 x20.2.1) rfl rfl rfl (qs rfl) (qg 14 (.bool x20.2.2) rfl rfl rfl (qs rfl) (zm (by kernel_rfl) (z7 (qd ?_) (by intro c h; cases h))))))))))))
 refine qf (qa (qc rfl rfl rfl (qc rfl rfl rfl (qD rfl rfl rfl rfl (zd rfl rfl rfl rfl (qc rfl rfl rfl (qc rfl rfl rfl (qv ent117 rfl rfl rfl (fun x21 e21 => qhI F (isub .u64 (iadd .u64 x12 x20.1) 1) x20.2.1 x20.2.2 x21 e21) .nil (fun x21 e21 => ?_)))))))))
 intro _
 exact qq rfl rfl rfl rfl (qq rfl rfl rfl rfl (qq rfl rfl rfl rfl (qb rfl rfl rfl (qb rfl rfl rfl (qb rfl rfl rfl (qe (qd (qr (qm () (res3 rfl rfl rfl rfl))))))))))
theorem qf2 (F : Nat) (g1 : Nat) (x2 : Int) (x3 : Bool) (x4 : Int) (r : (Bool × Int × Bool)) (hm : kV F x2 x3 x4 = some r) :
    PureM Tryz.prog 107 [.pointer (some ⟨g1, 0, none⟩), .int .u64 x4] [⟨g1, 97, [.int .i64 x2, .bool x3]⟩] [] [] Unit (fun _ => .bool r.1) (fun _ => [⟨g1, 97, [.int .i64 r.2.1, .bool r.2.2]⟩]) (fun _ => []) := by
 refine yJ Tryz.func107 rfl Tryz.ntmps107 rfl hm (fun w => qF (l' := [(0, .pointer (some ⟨g1, 0, none⟩)), (1, .int .u64 x4)]) rfl (qf (qa (qb rfl rfl rfl (qe (qd (qf (qf (qa (qc rfl rfl rfl (zi rfl rfl rfl rfl (qe ?_))))))))))))
 refine qd (qy rfl (fun h12 => ?_) (fun h12 => ?_))
 exact qf (qa (qb rfl rfl rfl (qe (qd (qr (qn (zT () (res1 rfl rfl) (hB := fun h => by subst h; exact (.cons 0 rfl .nil)))))))))
 refine ql (qd (qC (fun ((x8, _) : (Int × Unit)) => [(0, .pointer (some ⟨g1, 0, none⟩))]) (fun ((x8, _) : (Int × Unit)) => [⟨g1, 97, [.int .i64 x8, .bool x3]⟩]) (fun ((x8, _) : (Int × Unit)) => []) (fun ((x8, _) : (Int × Unit)) => []) (fun ((x8, _) : (Int × Unit)) => yq F x8) ?_ ?_))
 refine qf (qa (qc rfl rfl rfl (qX rfl rfl rfl (qo rfl rfl qj7 rfl (qp (i := 0) rfl rfl tf4 rfl rfl (fun _ => rfl) rfl rfl (qe (qd (qy rfl (fun h11 => ?_) (fun h11 => ?_)))))))))
 refine qa (qc rfl rfl rfl (qX rfl rfl rfl (qo rfl rfl qeL rfl (qp (i := 0) rfl rfl tf3 rfl rfl (fun _ => rfl) rfl rfl (qc rfl rfl rfl (q9 rfl Tryz.underlying72 Tryz.underlying3 rfl rfl (qD rfl rfl rfl rfl (qD rfl rfl rfl rfl (qX rfl rfl rfl (qo rfl rfl qeL rfl (qI (i := 0) rfl rfl rfl tf3 rfl rfl rfl rfl rfl (qe ?_))))))))))))
 exact qj (iadd .i64 x2 (iadd .i64 (iconv .i64 x4) 1), ()) (hB := (.cons 0 rfl .nil))
 refine zP mixed [9] [] [(BlkD.is ⟨g1, 97, [.int .i64 x2, .bool x3]⟩)] .nil (qjI 0 rfl qV) 10 rfl (qg 0 (.pointer (some ⟨g1, 0, none⟩)) rfl rfl rfl (qs rfl) (qg 1 (.pointer (some ⟨g1, 0, none⟩)) rfl rfl rfl (qs rfl) (qg 2 (.pointer (some ⟨g1, 0, none⟩)) rfl rfl rfl (qK rfl qeL) (z8 3 (.int .i64 x2) [[9]] rfl rfl rfl (qdL (j := 0) rfl tf3 rfl rfl (fun _ => rfl) rfl) (qg 4 (.int .u64 x4) rfl rfl rfl (qs rfl) (q6 5 rfl (by kernel_rfl) rfl (qv ent102 rfl rfl rfl (fun x10 e10 => qe3 F x4 x10 e10) .nil (fun x10 e10 => ?_))))))))
 intro _
 exact qe (qY .nil (qjI 0 rfl qV) (qg 6 (.int .i64 (iadd .i64 x2 x10)) rfl rfl rfl (qs rfl) (qg 7 (.pointer (some ⟨g1, 0, none⟩)) rfl rfl rfl (qs rfl) (qg 8 (.pointer (some ⟨g1, 0, none⟩)) rfl rfl rfl (qK rfl qeL) (q6 9 rfl (by kernel_rfl) rfl (qI (i := 0) rfl rfl rfl tf3 rfl rfl rfl rfl rfl (qe (qex 9 rfl (by kernel_rfl) .nil (zm (by kernel_rfl) (z7 (qj (iadd .i64 x2 x10, ()) (hB := (.cons 0 rfl .nil))) (by intro c h; cases h)))))))))))
 rintro ⟨x8, _⟩
 try dsimp only
 refine qf (qa (qc rfl rfl rfl (qX rfl rfl rfl (qo rfl rfl qj7 rfl (qI (i := 0) rfl rfl rfl tf4 rfl rfl rfl rfl rfl (qe (qd (qf (qa (qc rfl rfl rfl (qX rfl rfl rfl (qo rfl rfl qeL rfl ?_))))))))))))
 refine qp (i := 0) rfl rfl tf3 rfl rfl (fun _ => rfl) rfl rfl (qv ent27 rfl rfl rfl (fun x9 e9 => qhh F x8 x9 e9) .nil (fun x9 e9 => ?_))
 intro _
 exact qb rfl rfl rfl (qe (qd (qr (zT () (res1 rfl rfl) (hB := fun h => by subst h; exact (.cons 0 rfl .nil))))))
theorem qkP (F : Nat) (x1 : Int) (x2 : List Int) (a3 : Option Addr) (c4 : Nat) (x5 : Int) (x6 : Int) (x7 : Int) (x8 : Int) (r : (List Int × Int × Int)) (hm : qdZ F x1 x2 x5 x6 x7 x8 = some r) :
    Pure Tryz.prog 85 [.agg #[.int .i64 x1, .slice a3 x2.length c4], .int .i64 x5, .int .i64 x6, .int .i64 x7, .int .i64 x8] [Sl (eI .u8) 1 (.slice a3 x2.length c4) x2] (Option Addr × Nat) (fun g => .tuple #[.slice g.1 r.1.length g.2, .int .i64 r.2.1, .int .i64 r.2.2]) (fun g => [Ro (eI .i64) 3 1 (.slice g.1 r.1.length g.2) r.1]) (fun _ => []) := by
 refine qQ Tryz.func85 rfl Tryz.ntmps85 rfl hm (fun w => qF (l' := [(0, .agg #[.int .i64 x1, .slice a3 x2.length c4]), (1, .int .i64 x5), (2, .int .i64 x6), (3, .int .i64 x7), (4, .int .i64 x8)]) rfl (qf (qa (zp rfl rfl rfl (fun g9 => qb rfl rfl rfl (qb rfl rfl rfl (qb rfl rfl rfl (qe (qd (qf (qa (qc rfl rfl rfl ?_))))))))))))
 refine zX (cells := [.int .i64 x6, .bool false]) rfl st97 rfl (by kernel_rfl) rfl (zp rfl rfl rfl (fun g10 => qb rfl rfl rfl (qe (qd (qC (fun (((x105, x108), (a106, c107)) : ((Int × List Int) × (Option Addr × Nat))) => [(1, .int .i64 x105), (10, .slice a106 x108.length c107)]) (fun (((x105, x108), (a106, c107)) : ((Int × List Int) × (Option Addr × Nat))) => []) (fun (((x105, x108), (a106, c107)) : ((Int × List Int) × (Option Addr × Nat))) => [Ro (eI .i64) 3 1 (.slice a106 x108.length c107) x108]) (fun (((x105, x108), (a106, c107)) : ((Int × List Int) × (Option Addr × Nat))) => []) (fun (((x105, x108), _) : ((Int × List Int) × (Option Addr × Nat))) => qdS F x105 x108) ?_ ?_)))))
 refine qf (qa (qc rfl rfl rfl (qc rfl rfl rfl (qe (qd (qt (zS Int (eI .i64) 3 1 (qM (fun (((x138, x141, x142, x143, x144), (a139, c140)) : ((Int × List Int × Int × Int × Bool) × (Option Addr × Nat))) => [(1, .int .i64 x138), (3, .int .i64 x7), (5, .pointer (some ⟨g9, 0, none⟩)), (10, .slice a139 x141.length c140), (13, .pointer (some ⟨g10, 0, none⟩)), (18, .int .i64 x8), (19, .int .i64 x142)]) (fun (((x138, x141, x142, x143, x144), (a139, c140)) : ((Int × List Int × Int × Int × Bool) × (Option Addr × Nat))) => [⟨g10, 97, [.int .i64 x143, .bool x144]⟩, ⟨g9, 27, [.int .i64 x1, .slice a3 x2.length c4]⟩]) (fun (((x138, x141, x142, x143, x144), (a139, c140)) : ((Int × List Int × Int × Int × Bool) × (Option Addr × Nat))) => [Ro (eI .i64) 3 1 (.slice a139 x141.length c140) x141]) (fun (((x138, x141, x142, x143, x144), (a139, c140)) : ((Int × List Int × Int × Int × Bool) × (Option Addr × Nat))) => [Sl (eI .u8) 1 (.slice a3 x2.length c4) x2]) (fun k (s : ((Int × List Int × Int × Int × Bool) × (Option Addr × Nat))) => jp F x1 x2 x7 x8 k s.1) ((x5, ([] : List Int), 0, x6, false), (none, 0)) F ?_ (hB := (.cons 0 rfl (.cons 0 rfl .nil))) (hR := (.cons 0 rfl .nil)) (hF := (qi 0 rfl qu))))))))))
 intro k173
 rintro ⟨⟨x138, x141, x142, x143, x144⟩, ⟨a139, c140⟩⟩
 try dsimp only
 refine qZ (m' := qch F x1 x2 x7 x8 (jp F x1 x2 x7 x8 k173) x138 x141 x142 x143 x144) rfl (qf (qa (qP rfl rfl rfl rfl (qe (qd (qf (qy rfl (fun h201 => ?_) (fun h201 => ?_))))))))
 refine ql (qd (qf (qt (qf (qa (qb rfl rfl rfl (qe (qd (qf (qf (qa (qp (i := 1) rfl rfl tf27 rfl rfl (by simp) rfl rfl ?_))))))))))))
 refine qc rfl rfl rfl (qc rfl rfl rfl (qv ent106 rfl rfl rfl (fun x190 e190 => qgi F x1 x2 a3 c4 x138 x7 x190 e190) (.consF 0 rfl .nil) (fun x190 e190 => ?_)))
 intro _
 refine qc rfl rfl rfl (qq rfl rfl rfl rfl (qq rfl rfl rfl rfl (qq rfl rfl rfl rfl (qb rfl rfl rfl (qb rfl rfl rfl (qb rfl rfl rfl (qe (qd (qf (qa (qc rfl rfl rfl (kD rfl rfl rfl rfl ?_))))))))))))
 refine qe (qd (qy rfl (fun h200 => ?_) (fun h200 => ?_)))
 refine qf (qa (qc rfl rfl rfl (qb rfl rfl rfl (qb rfl rfl rfl (qb rfl rfl rfl (qe (qd (qr (qn (qR (qn (qn ?_))))))))))))
 exact qR (qn (qU Int (eI .i64) 3 1 (qm (none, 0) (res3 rfl rfl rfl rfl) (fun h => by subst h; exact (.cons 0 rfl .nil)))))
 refine ql (qd (qf (qf (qa (qc rfl rfl rfl (qc rfl rfl rfl (zA ent107 rfl rfl rfl (fun x193 e193 => qf2 F g10 x143 x144 x190.1 x193 e193) (.cons 0 rfl .nil) .nil .nil (fun x193 e193 => ?_))))))))
 intro _
 refine ko rfl rfl rfl (qe (qd (qy rfl (fun h199 => ?_) (fun h199 => ?_))))
 refine qf (qa (qb rfl rfl rfl (qb rfl rfl rfl (qb rfl rfl rfl (qe (qd (qr (qn (qR (qn (qn (qR ?_))))))))))))
 exact qn (qU Int (eI .i64) 3 1 (qm (none, 0) (res3 rfl rfl rfl rfl) (fun h => by subst h; exact (.cons 0 rfl .nil))))
 refine ql (qd (qa (qc rfl rfl rfl (qc rfl rfl rfl (qX rfl rfl rfl (qo rfl rfl qeL rfl (qp (i := 0) rfl rfl tf3 rfl rfl (fun _ => rfl) rfl rfl (zE (vs := [.int .i64 x193.2.1]) (ys := ([x193.2.1] : List Int)) (qL .i64) (by decide) rfl Tryz.underlying22 tf3 rfl rfl rfl rfl rfl (by decide) (fun a194 c195 => zy 1 (qL .i64) rfl Tryz.underlying22 tf3 rfl rfl rfl rfl rfl (.inl ⟨0, _, rfl⟩) rfl rfl (fun x196 e196 a197 c198 => qb rfl rfl rfl (qe (qH ?_))))))))))))
 exact qd (qa (qD rfl rfl rfl rfl (qc rfl rfl rfl (qe (qG ((x190.2.1, x196, iadd .i64 x142 1, x193.2.1, x193.2.2), (a197, c198)) (hB := (.cons 0 rfl (.cons 0 rfl .nil))) (hR := (.cons 0 rfl .nil)) (hF := (qi 0 rfl qu)))))))
 exact qS (qx (qx (qT (qj ((x138, x141), (a139, c140)) (hR := (.cons 0 rfl .nil))))))
 rintro ⟨⟨x105, x108⟩, ⟨a106, c107⟩⟩
 try dsimp only
 exact qf (qa (qc rfl rfl rfl (qc rfl rfl rfl (qb rfl rfl rfl (qb rfl rfl rfl (qb rfl rfl rfl (qe (qd (qr (qm (a106, c107) (res3 rfl rfl rfl rfl) (fun h => by subst h; exact (.cons 0 rfl .nil))))))))))))
set_option maxHeartbeats 4000000 in
theorem qfY (F : Nat) (g1 : Nat) (x2 : Int) (x3 : List Int) (a4 : Option Addr) (c5 : Nat) (x6 : Int) (x7 : Int) (x8 : List Int) (a9 : Option Addr) (c10 : Nat) (x11 : Int) (x12 : Int) (x13 : Int) (r : ((List Int × Int × Int) ⊕ (Int × Int))) (hm : vo F x2 x3 x6 x7 x8 x11 x12 x13 = some r) :
    PureL Tryz.prog 59 [.pointer (some ⟨g1, 0, none⟩), .int .i64 x7, .slice a9 x8.length c10, .agg #[.int .i64 x11, .int .i64 x12, .int .i64 x13]] [⟨g1, 69, [.int .i64 x2, .slice a4 x3.length c5, .int .i64 x6]⟩] [] [Sl (eI .u8) 1 (.slice a4 x3.length c5) x3, Sl (eI .i64) 1 (.slice a9 x8.length c10) x8] lostCh (Option Addr × Nat) (fun (r : (List Int × Int × Int)) (g : (Option Addr × Nat)) => .slice g.1 r.1.length g.2) (fun (r : (List Int × Int × Int)) (_ : (Option Addr × Nat)) => [⟨g1, 69, [.int .i64 r.2.1, .slice a4 x3.length c5, .int .i64 r.2.2]⟩]) (fun (r : (List Int × Int × Int)) (g : (Option Addr × Nat)) => [Ro (eI .i64) 3 1 (.slice g.1 r.1.length g.2) r.1]) (fun (z : (Int × Int)) => [⟨g1, 69, [.int .i64 z.1, .slice a4 x3.length c5, .int .i64 z.2]⟩]) r := by
  refine qfp Tryz.func59 rfl Tryz.ntmps59 rfl hm (fun w => ?_)
  refine qF (l' := [(0, .pointer (some ⟨g1, 0, none⟩)), (1, .int .i64 x7), (2, .slice a9 x8.length c10), (3, .agg #[.int .i64 x11, .int .i64 x12, .int .i64 x13])]) rfl ?_
  refine qf ?_
  refine qa ?_
  refine zp rfl rfl rfl (fun g14 => ?_)
  refine qb rfl rfl rfl ?_
  refine qe ?_
  refine qd ?_
  refine qf ?_
  refine qa ?_
  refine qc rfl rfl rfl ?_
  refine kY ent80 rfl rfl rfl (fun x15 e15 => ym F g1 x2 x3 a4 c5 x6 300 x15 e15) (.cons 1 rfl .nil) .nil (.consF 0 rfl .nil) (fun x16 _ => ?_) (fun x15 e15 => ?_)
  · refine zI ?_
    exact vi (.cons 0 rfl .nil)
  intro _
  refine qb rfl rfl rfl ?_
  refine qe ?_
  refine qd ?_
  refine qf ?_
  refine qf ?_
  refine qa ?_
  refine qc rfl rfl rfl ?_
  refine zu rfl rfl rfl rfl ?_
  refine qe ?_
  refine qd ?_
  refine qy rfl (fun h83 => ?_) (fun h83 => ?_)
  · refine qf ?_
    refine qa ?_
    refine qb rfl rfl rfl ?_
    refine qe ?_
    refine qd ?_
    refine qr ?_
    refine qn ?_
    refine qU Int (eI .i64) 3 1 ?_
    exact qcw (none, 0) (.inl rfl) (res1 rfl rfl) rfl (.cons 0 rfl .nil) (.cons 0 rfl .nil)
  · refine ql ?_
    refine qd ?_
    refine qf ?_
    refine qa ?_
    refine qb rfl rfl rfl ?_
    refine qe ?_
    refine qd ?_
    refine qC (fun (((x31, x32, x33), (a29, c30)) : ((List Int × Int × Int) × (Option Addr × Nat))) => [(0, .pointer (some ⟨g1, 0, none⟩)), (1, .int .i64 x7), (7, .pointer (some ⟨g14, 0, none⟩)), (9, .int .i64 x15.1), (10, .slice a29 x31.length c30)]) (fun (((x31, x32, x33), (a29, c30)) : ((List Int × Int × Int) × (Option Addr × Nat))) => [⟨g1, 69, [.int .i64 x32, .slice a4 x3.length c5, .int .i64 x33]⟩, ⟨g14, 24, [.int .i64 x11, .int .i64 x12, .int .i64 x13]⟩]) (fun (((x31, x32, x33), (a29, c30)) : ((List Int × Int × Int) × (Option Addr × Nat))) => [Ro (eI .i64) 3 1 (.slice a29 x31.length c30) x31]) (fun (((x31, x32, x33), (a29, c30)) : ((List Int × Int × Int) × (Option Addr × Nat))) => [Sl (eI .u8) 1 (.slice a4 x3.length c5) x3]) (fun (((x31, x32, x33), _) : ((List Int × Int × Int) × (Option Addr × Nat))) => yx F x3 x7 x12 x13 x15 x31 x32 x33) ?_ ?_
    · refine qf ?_
      refine qa ?_
      refine qo rfl rfl qeK rfl ?_
      refine qp (i := 1) rfl rfl tf3 rfl rfl (fun _ => rfl) rfl rfl ?_
      refine zi rfl rfl rfl rfl ?_
      refine qe ?_
      refine qd ?_
      refine qy rfl (fun h82 => ?_) (fun h82 => ?_)
      · refine qf ?_
        refine qa ?_
        refine qb rfl rfl rfl ?_
        refine qe ?_
        refine qd ?_
        refine qf ?_
        refine qa ?_
        refine qc rfl rfl rfl ?_
        refine qc rfl rfl rfl ?_
        refine qc rfl rfl rfl ?_
        refine qN rfl Tryz.underlying22 rfl rfl ?_
        refine kY ent82 rfl rfl rfl (fun x72 e72 => qfc F g1 x15.2.1 x3 a4 c5 x15.2.2 (x8.length : Int) x72 e72) (.cons 0 rfl .nil) .nil (.consF 0 rfl .nil) (fun x73 _ => ?_) (fun x72 e72 => ?_)
        · refine zI ?_
          refine zI ?_
          exact vi (.cons 0 rfl .nil)
        rintro ⟨a74, c75⟩
        refine qv ent81 rfl rfl rfl (fun x76 e76 => qjJ F x8 a9 c10 x72.1 a74 c75 x76 e76) (.consF 1 rfl (.consR 0 (Ro (eI .i64) 3 1 (.slice a74 x72.1.length c75) x72.1) rfl .nil)) (fun x76 e76 => ?_)
        rintro ⟨a77, c78⟩
        refine qc rfl rfl rfl ?_
        refine qq rfl rfl rfl rfl ?_
        refine qq rfl rfl rfl rfl ?_
        refine qb rfl rfl rfl ?_
        refine qb rfl rfl rfl ?_
        refine qe ?_
        refine qd ?_
        refine qa ?_
        refine qc rfl rfl rfl ?_
        refine zu rfl rfl rfl rfl ?_
        refine qc rfl rfl rfl ?_
        refine zH 5 ((x76.2 : Int) == 0) [(0, .pointer (some ⟨g1, 0, none⟩)), (1, .int .i64 x7), (7, .pointer (some ⟨g14, 0, none⟩)), (9, .int .i64 x15.1), (10, .slice a77 x76.1.length c78), (41, .bool (((x76.2 : Int) == 0) && (decide ((x76.1.length : Int) ≤ x15.1))))] (fun h79 => ?_) (fun h79 => ?_) ?_
        · refine qw (os := _) rfl ?_
          refine zj (k := 36) rfl h79 ?_
          refine qc rfl rfl rfl ?_
          refine qN rfl Tryz.underlying22 rfl rfl ?_
          refine qc rfl rfl rfl ?_
          refine qdX rfl rfl rfl rfl ?_
          refine qE (b := true) rfl rfl rfl rfl ?_
          refine qA (d := 41) (v := .bool (((x76.2 : Int) == 0) && (decide ((x76.1.length : Int) ≤ x15.1)))) rfl (by rw [h79]; simp only [Bool.true_and]) ?_
          refine qe ?_
          exact qO (qh rfl (qh rfl (qh rfl (qh rfl (qh rfl (qh rfl q8))))))
        · refine qw (os := _) rfl ?_
          refine zk (k := 36) rfl h79 ?_
          refine qk rfl rfl rfl ?_
          refine qk rfl rfl rfl ?_
          refine qk rfl rfl rfl ?_
          refine qk rfl rfl rfl ?_
          refine qE (b := false) rfl rfl rfl rfl ?_
          refine qA (d := 41) (v := .bool (((x76.2 : Int) == 0) && (decide ((x76.1.length : Int) ≤ x15.1)))) rfl (by rw [h79]; simp only [Bool.false_and]) ?_
          refine qe ?_
          exact qO (qh rfl (qh rfl (qh rfl (qh rfl (qh rfl (qh rfl q8))))))
        refine qw (os := _) rfl ?_
        refine kY ent60 rfl rfl rfl (fun x80 e80 => jD F (((x76.2 : Int) == 0) && (decide ((x76.1.length : Int) ≤ x15.1))) x80 e80) .nil .nil .nil (fun x81 _ => ?_) (fun x80 e80 => ?_)
        · refine zI ?_
          exact vi (.cons 0 rfl .nil)
        intro _
        refine qe ?_
        exact qj ((x76.1, x72.2.1, x72.2.2), (a77, c78)) (hB := (.cons 0 rfl (.cons 0 rfl .nil))) (hR := (.cons 0 rfl .nil)) (hF := (qi 0 rfl qu))
      · refine ql ?_
        refine qU Int (eI .i64) 3 1 ?_
        exact qj ((([] : List Int), x15.2.1, x15.2.2), (none, 0)) (hB := (.cons 0 rfl (.cons 0 rfl .nil))) (hR := (.cons 0 rfl .nil)) (hF := (qi 0 rfl qu))
    · rintro ⟨⟨x31, x32, x33⟩, ⟨a29, c30⟩⟩
      try dsimp only
      refine qf ?_
      refine qa ?_
      refine qc rfl rfl rfl ?_
      refine qc rfl rfl rfl ?_
      refine qN rfl Tryz.underlying22 rfl rfl ?_
      refine zd rfl rfl rfl rfl ?_
      refine qb rfl rfl rfl ?_
      refine qe ?_
      refine qd ?_
      refine qf ?_
      refine qf ?_
      refine qa ?_
      refine qc rfl rfl rfl ?_
      refine zu rfl rfl rfl rfl ?_
      refine qe ?_
      refine qd ?_
      refine qy rfl (fun h71 => ?_) (fun h71 => ?_)
      · refine qf ?_
        refine qa ?_
        refine qc rfl rfl rfl ?_
        refine qb rfl rfl rfl ?_
        refine qe ?_
        refine qd ?_
        refine qr ?_
        refine qn ?_
        exact qcw (a29, c30) (.inl rfl) (res1 rfl rfl) rfl (.cons 0 rfl .nil) (.cons 0 rfl .nil)
      · refine ql ?_
        refine qd ?_
        refine qf ?_
        refine qa ?_
        refine qb rfl rfl rfl ?_
        refine qe ?_
        refine qd ?_
        refine qC (fun (((x42, x43, x44), (a40, c41)) : ((List (Int × Int) × Int × Int) × (Option Addr × Nat))) => [(0, .pointer (some ⟨g1, 0, none⟩)), (1, .int .i64 x7), (7, .pointer (some ⟨g14, 0, none⟩)), (10, .slice a29 x31.length c30), (12, .int .i64 (isub .i64 x15.1 (x31.length : Int))), (13, .slice a40 x42.length c41)]) (fun (((x42, x43, x44), (a40, c41)) : ((List (Int × Int) × Int × Int) × (Option Addr × Nat))) => [⟨g1, 69, [.int .i64 x43, .slice a4 x3.length c5, .int .i64 x44]⟩, ⟨g14, 24, [.int .i64 x11, .int .i64 x12, .int .i64 x13]⟩]) (fun (((x42, x43, x44), (a40, c41)) : ((List (Int × Int) × Int × Int) × (Option Addr × Nat))) => [Ro (eI .i64) 3 1 (.slice a29 x31.length c30) x31, Ro eS75 75 2 (.slice a40 x42.length c41) x42]) (fun (((x42, x43, x44), (a40, c41)) : ((List (Int × Int) × Int × Int) × (Option Addr × Nat))) => [Sl (eI .u8) 1 (.slice a4 x3.length c5) x3]) (fun (((x42, x43, x44), _) : ((List (Int × Int) × Int × Int) × (Option Addr × Nat))) => yr F x3 x7 x13 x15 x31 x42 x43 x44) ?_ ?_
        · refine qf ?_
          refine qa ?_
          refine qo rfl rfl qbl rfl ?_
          refine qp (i := 1) rfl rfl tf3 rfl rfl (fun _ => rfl) rfl rfl ?_
          refine zi rfl rfl rfl rfl ?_
          refine qe ?_
          refine qd ?_
          refine qy rfl (fun h70 => ?_) (fun h70 => ?_)
          · refine qa ?_
            refine qc rfl rfl rfl ?_
            refine qc rfl rfl rfl ?_
            refine qo rfl rfl qbl rfl ?_
            refine qp (i := 1) rfl rfl tf3 rfl rfl (fun _ => rfl) rfl rfl ?_
            refine qc rfl rfl rfl ?_
            refine kY ent83 rfl rfl rfl (fun x66 e66 => qge F g1 x32 x3 a4 c5 x33 x7 x12 (isub .i64 x15.1 (x31.length : Int)) x66 e66) (.cons 0 rfl .nil) .nil (.consF 0 rfl .nil) (fun x67 _ => ?_) (fun x66 e66 => ?_)
            · refine zI ?_
              exact vi (.cons 0 rfl .nil)
            rintro ⟨a68, c69⟩
            refine qb rfl rfl rfl ?_
            refine qe ?_
            exact qj ((x66.1, x66.2.1, x66.2.2), (a68, c69)) (hB := (.cons 0 rfl (.cons 0 rfl .nil))) (hR := (.cons 1 rfl (.cons 0 rfl .nil))) (hF := (qi 0 rfl qu))
          · refine ql ?_
            refine qU (Int × Int) eS75 75 2 ?_
            exact qj ((([] : List (Int × Int)), x32, x33), (none, 0)) (hB := (.cons 0 rfl (.cons 0 rfl .nil))) (hR := (.cons 1 rfl (.cons 0 rfl .nil))) (hF := (qi 0 rfl qu))
        · rintro ⟨⟨x42, x43, x44⟩, ⟨a40, c41⟩⟩
          try dsimp only
          refine qf ?_
          refine qa ?_
          refine qc rfl rfl rfl ?_
          refine yB Int (eI .i64) 3 1 ?_
          refine qv ent84 rfl rfl rfl (fun x45 e45 => qkr F x42 a40 c41 ([] : List Int) none 0 x45 e45) (.consR 2 (Ro eS75 75 2 (.slice a40 x42.length c41) x42) rfl (.consR 0 (Ro (eI .i64) 3 1 (.slice none ([] : List Int).length 0) ([] : List Int)) rfl .nil)) (fun x45 e45 => ?_)
          rintro ⟨a46, c47⟩
          refine qc rfl rfl rfl ?_
          refine qq rfl rfl rfl rfl ?_
          refine qq rfl rfl rfl rfl ?_
          refine qb rfl rfl rfl ?_
          refine qb rfl rfl rfl ?_
          refine qe ?_
          refine qd ?_
          refine qf ?_
          refine qa ?_
          refine qc rfl rfl rfl ?_
          refine zu rfl rfl rfl rfl ?_
          refine qc rfl rfl rfl ?_
          refine zH 5 ((x45.2 : Int) == 0) [(0, .pointer (some ⟨g1, 0, none⟩)), (1, .int .i64 x7), (7, .pointer (some ⟨g14, 0, none⟩)), (10, .slice a29 x31.length c30), (12, .int .i64 (isub .i64 x15.1 (x31.length : Int))), (14, .slice a46 x45.1.length c47), (71, .bool (((x45.2 : Int) == 0) && (decide ((x45.1.length : Int) ≤ (isub .i64 x15.1 (x31.length : Int))))))] (fun h48 => ?_) (fun h48 => ?_) ?_
          · refine qw (os := _) rfl ?_
            refine zj (k := 66) rfl h48 ?_
            refine qc rfl rfl rfl ?_
            refine qN rfl Tryz.underlying22 rfl rfl ?_
            refine qc rfl rfl rfl ?_
            refine qdX rfl rfl rfl rfl ?_
            refine qE (b := true) rfl rfl rfl rfl ?_
            refine qA (d := 71) (v := .bool (((x45.2 : Int) == 0) && (decide ((x45.1.length : Int) ≤ (isub .i64 x15.1 (x31.length : Int)))))) rfl (by rw [h48]; simp only [Bool.true_and]) ?_
            refine qe ?_
            exact qO (qh rfl (qh rfl (qh rfl (qh rfl (qh rfl (qh rfl (qh rfl q8)))))))
          · refine qw (os := _) rfl ?_
            refine zk (k := 66) rfl h48 ?_
            refine qk rfl rfl rfl ?_
            refine qk rfl rfl rfl ?_
            refine qk rfl rfl rfl ?_
            refine qk rfl rfl rfl ?_
            refine qE (b := false) rfl rfl rfl rfl ?_
            refine qA (d := 71) (v := .bool (((x45.2 : Int) == 0) && (decide ((x45.1.length : Int) ≤ (isub .i64 x15.1 (x31.length : Int)))))) rfl (by rw [h48]; simp only [Bool.false_and]) ?_
            refine qe ?_
            exact qO (qh rfl (qh rfl (qh rfl (qh rfl (qh rfl (qh rfl (qh rfl q8)))))))
          refine qw (os := _) rfl ?_
          refine kY ent60 rfl rfl rfl (fun x49 e49 => jD F (((x45.2 : Int) == 0) && (decide ((x45.1.length : Int) ≤ (isub .i64 x15.1 (x31.length : Int))))) x49 e49) .nil .nil .nil (fun x50 _ => ?_) (fun x49 e49 => ?_)
          · refine zI ?_
            exact vi (.cons 0 rfl .nil)
          intro _
          refine qe ?_
          refine qd ?_
          refine qf ?_
          refine zP mixed [] [⟨g1, 69, [.int .i64 x43, .slice a4 x3.length c5, .int .i64 x44]⟩, ⟨g14, 24, [.int .i64 x11, .int .i64 x12, .int .i64 x13]⟩] [Sl (eI .u8) 1 (.slice a4 x3.length c5) x3] (.cons 0 rfl (.cons 0 rfl .nil)) (qW 0 rfl qV) 23 rfl ?_
          refine qg 0 (.pointer (some ⟨g1, 0, none⟩)) rfl rfl rfl (qs rfl) ?_
          refine qg 1 (.pointer (some ⟨g1, 0, none⟩)) rfl rfl rfl (qs rfl) ?_
          refine qg 2 (.pointer (some ⟨g1, 0, none⟩)) rfl rfl rfl (qK rfl qlS) ?_
          refine zF 3 (.agg #[.int .i64 x43, .slice a4 x3.length c5]) rfl rfl rfl (zB (i := 0) rfl tf27 rfl rfl (by simp) rfl) ?_
          refine qg 4 (.pointer (some ⟨g1, 0, none⟩)) rfl rfl rfl (qs rfl) ?_
          refine qg 5 (.pointer (some ⟨g1, 0, none⟩)) rfl rfl rfl (qs rfl) ?_
          refine qg 6 (.pointer (some ⟨g1, 2, none⟩)) rfl rfl rfl (qK rfl qfV) ?_
          refine zF 7 (.int .i64 x44) rfl rfl rfl (zB (i := 0) rfl tf3 rfl rfl (fun _ => rfl) rfl) ?_
          refine qg 8 (.int .i64 x7) rfl rfl rfl (qs rfl) ?_
          refine qg 9 (.pointer (some ⟨g14, 2, none⟩)) rfl rfl rfl (qK rfl qfW) ?_
          refine zF 10 (.int .i64 x13) rfl rfl rfl (zB (i := 1) rfl tf3 rfl rfl (fun _ => rfl) rfl) ?_
          refine qg 11 (.int .i64 (isub .i64 x15.1 (x31.length : Int))) rfl rfl rfl (qs rfl) ?_
          refine qg 12 (.slice a46 x45.1.length c47) rfl rfl rfl (qs rfl) ?_
          refine qg 13 (.int .i64 (x45.1.length : Int)) rfl rfl rfl (qks Tryz.underlying22 rfl) ?_
          refine qg 14 (.int .i64 (isub .i64 (isub .i64 x15.1 (x31.length : Int)) (x45.1.length : Int))) rfl rfl rfl (qs rfl) ?_
          refine q6 15 rfl (by kernel_rfl) rfl ?_
          refine qv ent85 rfl rfl rfl (fun x54 e54 => qkP F x43 x3 a4 c5 x44 x7 x13 (isub .i64 (isub .i64 x15.1 (x31.length : Int)) (x45.1.length : Int)) x54 e54) (.consF 0 rfl .nil) (fun x54 e54 => ?_)
          rintro ⟨a55, c56⟩
          refine qe ?_
          refine qY (.cons 0 rfl (.cons 0 rfl .nil)) (qW 0 rfl qV) ?_
          refine qg 16 (.tuple #[.slice a55 x54.1.length c56, .int .i64 x54.2.1, .int .i64 x54.2.2]) rfl rfl rfl (qs rfl) ?_
          refine qg 17 (.slice a55 x54.1.length c56) rfl rfl rfl (qs rfl) ?_
          refine qg 18 (.int .i64 x54.2.1) rfl rfl rfl (qs rfl) ?_
          refine qg 19 (.int .i64 x54.2.2) rfl rfl rfl (qs rfl) ?_
          refine qg 20 (.slice a55 x54.1.length c56) rfl rfl rfl (qs rfl) ?_
          refine qg 21 (.int .i64 x54.2.1) rfl rfl rfl (qs rfl) ?_
          refine qg 22 (.int .i64 x54.2.2) rfl rfl rfl (qs rfl) ?_
          refine zm (by kernel_rfl) ?_
          refine z7 ?_ (by intro c h; cases h)
          refine qd ?_
          refine qf ?_
          refine qa ?_
          refine qc rfl rfl rfl ?_
          refine zu rfl rfl rfl rfl ?_
          refine kY ent60 rfl rfl rfl (fun x57 e57 => jD F ((x54.2.2 : Int) == 0) x57 e57) .nil .nil .nil (fun x58 _ => ?_) (fun x57 e57 => ?_)
          · refine zI ?_
            exact vi (.cons 0 rfl .nil)
          intro _
          refine qe ?_
          refine qd ?_
          refine qf ?_
          refine qa ?_
          refine qc rfl rfl rfl ?_
          refine qc rfl rfl rfl ?_
          refine qX rfl rfl rfl ?_
          refine qo rfl rfl qfV rfl ?_
          refine qI (i := 0) rfl rfl rfl tf3 rfl rfl rfl rfl rfl ?_
          refine qe ?_
          refine qd ?_
          refine qf ?_
          refine qa ?_
          refine qc rfl rfl rfl ?_
          refine qc rfl rfl rfl ?_
          refine qc rfl rfl rfl ?_
          refine qdF 3 rfl ?_
          refine qdF 1 rfl ?_
          refine qdF 0 rfl ?_
          refine zE (vs := [.slice a29 x31.length c30, .slice a46 x45.1.length c47, .slice a55 x54.1.length c56]) (ys := ([(x31, (a29, c30)), (x45.1, (a46, c47)), (x54.1, (a55, c56))] : List (List Int × (Option Addr × Nat)))) qhw (by decide) rfl Tryz.underlying147 tf22 rfl rfl rfl rfl rfl (by decide) (fun a59 c60 => ?_)
          refine qi3 (inn := iN22) ([x31, x45.1, x54.1] : List (List Int)) ([(a29, c30), (a46, c47), (a55, c56)] : List (Option Addr × Nat)) 0 rfl rfl (qi 2 rfl (qi 1 rfl (qi 0 rfl qu))) ?_
          refine qv ent86 rfl rfl rfl (fun x61 e61 => qbZ F ([x31, x45.1, x54.1] : List (List Int)) a59 (c60, ([(a29, c30), (a46, c47), (a55, c56)] : List (Option Addr × Nat))) x61 e61) (.consF 0 rfl .nil) (fun x61 e61 => ?_)
          rintro ⟨a62, c63⟩
          refine qb rfl rfl rfl ?_
          refine qe ?_
          refine qd ?_
          refine qf ?_
          refine qa ?_
          refine qc rfl rfl rfl ?_
          refine zA ent87 rfl rfl rfl (fun x64 e64 => qcq F x61 a62 c63 x64 e64) .nil (.cons 0 rfl .nil) .nil (fun x64 e64 => ?_)
          intro _
          refine vY (fun h65 => ?_)
          replace h65 := of_decide_eq_true h65
          refine qA (d := 10) (v := .slice a62 x64.length c63) rfl (by rw [h65] <;> rfl) ?_
          refine qA (d := 104) (v := .slice a62 x64.length c63) rfl (by rw [h65] <;> rfl) ?_
          refine qA (d := 105) (v := .slice a62 x64.length c63) rfl (by rw [h65] <;> rfl) ?_
          refine qe ?_
          refine qd ?_
          refine qf ?_
          refine qa ?_
          refine qc rfl rfl rfl ?_
          refine qb rfl rfl rfl ?_
          refine qe ?_
          refine qd ?_
          refine qr ?_
          exact qcw (a62, c63) (.inl rfl) (res1 rfl rfl) rfl (.cons 0 rfl .nil) (.cons 0 rfl .nil)
set_option maxHeartbeats 4000000 in
theorem qgd (F : Nat) (g1 : Nat) (x2 : Int) (x3 : List Int) (a4 : Option Addr) (c5 : Nat) (x6 : Int) (x7 : Int) (x8 : List Int) (a9 : Option Addr) (c10 : Nat) (x11 : Int) (x12 : Int) (x13 : Int) (r : (List Int × Bool × Int × Int)) (hm : vl F x2 x3 x6 x7 x8 x11 x12 x13 = some r) :
    PureM Tryz.prog 37 [.pointer (some ⟨g1, 0, none⟩), .int .i64 x7, .slice a9 x8.length c10, .agg #[.int .i64 x11, .int .i64 x12, .int .i64 x13]] [⟨g1, 69, [.int .i64 x2, .slice a4 x3.length c5, .int .i64 x6]⟩] [] [Sl (eI .u8) 1 (.slice a4 x3.length c5) x3, Sl (eI .i64) 1 (.slice a9 x8.length c10) x8] (Option Addr × Nat) (fun g => .tuple #[.slice g.1 r.1.length g.2, .bool r.2.1]) (fun _ => [⟨g1, 69, [.int .i64 r.2.2.1, .slice a4 x3.length c5, .int .i64 r.2.2.2]⟩]) (fun g => [Ro (eI .i64) 3 1 (.slice g.1 r.1.length g.2) r.1]) := by
 refine qoQ Tryz.func37 rfl Tryz.ntmps37 rfl hm (fun w => qF (l' := [(0, .pointer (some ⟨g1, 0, none⟩)), (1, .int .i64 x7), (2, .slice a9 x8.length c10), (3, .agg #[.int .i64 x11, .int .i64 x12, .int .i64 x13])]) rfl (qf (qa (zp rfl rfl rfl (fun g14 => zL rfl tf22 rfl (fun g15 => zL rfl tf4 rfl (fun g16 => qe (qd (qf (qa (qeJ rfl rfl rfl (qnF rfl rfl ?_))))))))))))
 refine qe (qd (qf (qa (qc rfl rfl rfl (qX rfl rfl rfl (qo rfl rfl qfV rfl (qp (i := 3) rfl rfl tf3 rfl rfl (fun _ => rfl) rfl rfl (qb rfl rfl rfl (qe (qd (qf (qa ?_))))))))))))
 refine qc rfl rfl rfl (qc rfl rfl rfl (qc rfl rfl rfl (qp (i := 2) rfl rfl tf24 rfl rfl (by simp) rfl rfl (kY ent59 rfl rfl rfl (fun x17 e17 => qfY F g1 x2 x3 a4 c5 x6 x7 x8 a9 c10 x11 x12 x13 x17 e17) (.cons 3 rfl .nil) .nil (.consF 0 rfl (.consF 1 rfl .nil)) (fun x18 _ => ?_) (fun x17 e17 => ?_)))))
 exact zI (qdQ ent58 rfl (.cons 2 rfl (.cons 1 rfl .nil)) (lost58 _ _ _ _) (qU Int (eI .i64) 3 1 (zT (none, 0) (resL (rs := [.cell 8 22, .cell 9 4]) rfl (.cell (i := 0) rfl tf22 rfl rfl (fun _ => rfl) rfl (.cell (i := 1) rfl tf4 rfl rfl (fun _ => rfl) rfl ResOk.nil)) rfl) (hB := fun h => by subst h; exact (.cons 2 rfl .nil)) (hR := fun h => by subst h; exact (.cons 0 rfl .nil)))))
 rintro ⟨a19, c20⟩
 refine qI (i := 2) rfl rfl rfl tf22 rfl rfl rfl rfl rfl (qe (qd (qf (qa (qp (i := 2) rfl rfl tf22 rfl rfl (fun _ => rfl) rfl rfl (qv ent13 rfl rfl rfl (fun x21 e21 => qcn F x17.1 a19 c20 x21 e21) (.consR 0 (Ro (eI .i64) 3 1 (.slice a19 x17.1.length c20) x17.1) rfl .nil) (fun x21 e21 => ?_)))))))
 intro _
 refine zu rfl rfl rfl rfl (kY ent60 rfl rfl rfl (fun x22 e22 => jD F ((x21 : Int) == 0) x22 e22) .nil .nil .nil (fun x23 _ => ?_) (fun x22 e22 => ?_))
 exact zI (qdQ ent58 rfl (.cons 2 rfl (.cons 1 rfl .nil)) (lost58 _ _ _ _) (qU Int (eI .i64) 3 1 (zT (none, 0) (resL (rs := [.cell 8 22, .cell 9 4]) rfl (.cell (i := 0) rfl tf22 rfl rfl (fun _ => rfl) rfl (.cell (i := 1) rfl tf4 rfl rfl (fun _ => rfl) rfl ResOk.nil)) rfl) (hB := fun h => by subst h; exact (.cons 2 rfl .nil)) (hR := fun h => by subst h; exact (.cons 0 rfl .nil)))))
 intro _
 refine qe (qd (qf (qa (zX (cells := [.int .i64 0, .slice none 0 0, .bool false]) rfl st42 rfl (by kernel_rfl) rfl (zp rfl rfl rfl (fun g24 => qb rfl rfl rfl (qe (qd (qf (qa (qc rfl rfl rfl (qc rfl rfl rfl ?_))))))))))))
 refine qp (i := 3) rfl rfl tf22 rfl rfl (fun _ => rfl) rfl rfl (qc rfl rfl rfl (qp (i := 4) rfl rfl tf24 rfl rfl (by simp) rfl rfl (yB Int (eI .u8) 5 1 (zA ent15 rfl rfl rfl (fun x25 e25 => qdz F g24 0 ([] : List Int) none 0 false x7 x17.1 a19 c20 x8 a9 c10 x11 x12 x13 x25 e25) (.cons 0 rfl .nil) (.cons 0 rfl .nil) (.consR 0 (Ro (eI .i64) 3 1 (.slice a19 x17.1.length c20) x17.1) rfl (.consF 1 rfl .nil)) (fun x25 e25 => ?_)))))
 rintro ⟨a26, c27⟩
 refine qe (qd (qC (fun ((_, _) : (Unit × Unit)) => [(0, .pointer (some ⟨g1, 0, none⟩)), (8, .pointer (some ⟨g15, 0, none⟩)), (9, .pointer (some ⟨g16, 0, none⟩)), (10, .int .i64 x6), (11, .pointer (some ⟨g24, 0, none⟩))]) (fun ((_, _) : (Unit × Unit)) => [⟨g24, 42, [.int .i64 x25.1, .slice a26 x25.2.1.length c27, .bool x25.2.2]⟩, ⟨g1, 69, [.int .i64 x17.2.1, .slice a4 x3.length c5, .int .i64 x17.2.2]⟩, ⟨g16, 4, [.bool false]⟩, ⟨g15, 22, [.slice a19 x17.1.length c20]⟩]) (fun ((_, _) : (Unit × Unit)) => [Ro (eI .u8) 5 1 (.slice a26 x25.2.1.length c27) x25.2.1, Ro (eI .i64) 3 1 (.slice a19 x17.1.length c20) x17.1]) (fun ((_, _) : (Unit × Unit)) => [Sl (eI .u8) 1 (.slice a4 x3.length c5) x3]) (fun ((_, _) : (Unit × Unit)) => vu F x3 x6 x17 x25) ?_ ?_))
 refine qdv (fun h97 => ?_) (fun h97 => ?_)
 refine qgY mixed [8, 9] [] [⟨g24, 42, [.int .i64 x25.1, .slice a26 x25.2.1.length c27, .bool x25.2.2]⟩, ⟨g1, 69, [.int .i64 x17.2.1, .slice a4 x3.length c5, .int .i64 x17.2.2]⟩, ⟨g16, 4, [.bool false]⟩, ⟨g15, 22, [.slice a19 x17.1.length c20]⟩, ⟨g14, 24, [.int .i64 x11, .int .i64 x12, .int .i64 x13]⟩] [Sl (eI .u8) 1 (.slice a4 x3.length c5) x3, Sl (eI .i64) 1 (.slice a9 x8.length c10) x8] (.cons 0 rfl (.cons 0 rfl (.cons 0 rfl (.cons 0 rfl (.cons 0 rfl .nil))))) (qW 0 rfl (qW 1 rfl qV)) 20 rfl (zr 0 (.pointer (some ⟨g24, 0, none⟩)) rfl rfl rfl (qs rfl) rfl (zr 1 (.pointer (some ⟨g24, 0, none⟩)) rfl rfl rfl (qs rfl) rfl (zr 2 (.pointer (some ⟨g24, 2, none⟩)) rfl rfl rfl (qK rfl qea) rfl (qcC 3 (.bool x25.2.2) rfl rfl rfl (zB (i := 0) rfl tf4 rfl rfl (fun _ => rfl) rfl) rfl (zr 4 (.bool (!x25.2.2)) rfl rfl rfl (qs rfl) rfl (zr 5 (.bool (!x25.2.2)) rfl rfl rfl (qs rfl) rfl (qJ (d := 40) (v := .bool true) rfl (by rw [h97] <;> rfl) (zr 6 (.pointer (some ⟨g24, 0, none⟩)) rfl rfl rfl (qs rfl) rfl (zr 7 (.pointer (some ⟨g24, 0, none⟩)) rfl rfl rfl (qs rfl) rfl (zr 8 (.pointer (some ⟨g24, 0, none⟩)) rfl rfl rfl (qK rfl qf1) rfl (zr 9 (.pointer (some ⟨g24, 0, none⟩)) rfl rfl rfl (qK rfl kW) rfl (qcC 10 (.int .i64 x25.1) rfl rfl rfl (zB (i := 0) rfl tf3 rfl rfl (fun _ => rfl) rfl) rfl ?_))))))))))))
 refine zr 11 (.pointer (some ⟨g1, 0, none⟩)) rfl rfl rfl (qs rfl) rfl (zr 12 (.pointer (some ⟨g1, 0, none⟩)) rfl rfl rfl (qs rfl) rfl (zr 13 (.pointer (some ⟨g1, 2, none⟩)) rfl rfl rfl (qK rfl qfV) rfl (qcC 14 (.int .i64 x17.2.2) rfl rfl rfl (zB (i := 1) rfl tf3 rfl rfl (fun _ => rfl) rfl) rfl (zr 15 (.int .i64 x6) rfl rfl rfl (qs rfl) rfl (zr 16 (.int .i64 (isub .i64 x17.2.2 x6)) rfl rfl rfl (qs rfl) rfl (zr 17 (.bool ((x25.1 : Int) == (isub .i64 x17.2.2 x6))) rfl rfl rfl (qs rfl) rfl (zr 18 (.bool ((x25.1 : Int) == (isub .i64 x17.2.2 x6))) rfl rfl rfl (qs rfl) rfl (q6 19 rfl (by kernel_rfl) rfl (kY ent60 rfl rfl rfl (fun x98 e98 => jD F ((x25.1 : Int) == (isub .i64 x17.2.2 x6)) x98 e98) .nil .nil .nil (fun x99 _ => ?_) (fun x98 e98 => ?_))))))))))
 exact zI (qkc (l' := [(8, .pointer (some ⟨g15, 0, none⟩)), (9, .pointer (some ⟨g16, 0, none⟩))]) (qfE rfl rfl (qfE rfl rfl qmn)) (zI (qdQ ent58 rfl (.cons 3 rfl (.cons 2 rfl .nil)) (lost58 _ _ _ _) (qU Int (eI .i64) 3 1 (zT (none, 0) (resL (rs := [.cell 8 22, .cell 9 4]) rfl (.cell (i := 0) rfl tf22 rfl rfl (fun _ => rfl) rfl (.cell (i := 1) rfl tf4 rfl rfl (fun _ => rfl) rfl ResOk.nil)) rfl) (hB := fun h => by subst h; exact (.cons 3 rfl .nil)) (hR := fun h => by subst h; exact (.cons 0 rfl .nil)))))))
 intro _
 exact qe (qY (.cons 0 rfl (.cons 0 rfl (.cons 0 rfl (.cons 0 rfl (.cons 0 rfl .nil))))) (qW 0 rfl (qW 1 rfl qV)) (zm (by kernel_rfl) (qlD (qj ((), ()) (hB := (.cons 0 rfl (.cons 0 rfl (.cons 0 rfl (.cons 0 rfl .nil))))) (hR := (.cons 0 rfl (.cons 0 rfl .nil))) (hF := (qi 0 rfl qu))) (by intro c h; cases h))))
 refine qgY mixed [8, 9] [] [⟨g24, 42, [.int .i64 x25.1, .slice a26 x25.2.1.length c27, .bool x25.2.2]⟩, ⟨g1, 69, [.int .i64 x17.2.1, .slice a4 x3.length c5, .int .i64 x17.2.2]⟩, ⟨g16, 4, [.bool false]⟩, ⟨g15, 22, [.slice a19 x17.1.length c20]⟩, ⟨g14, 24, [.int .i64 x11, .int .i64 x12, .int .i64 x13]⟩] [Sl (eI .u8) 1 (.slice a4 x3.length c5) x3, Sl (eI .i64) 1 (.slice a9 x8.length c10) x8] (.cons 0 rfl (.cons 0 rfl (.cons 0 rfl (.cons 0 rfl (.cons 0 rfl .nil))))) (qW 0 rfl (qW 1 rfl qV)) 20 rfl (zr 0 (.pointer (some ⟨g24, 0, none⟩)) rfl rfl rfl (qs rfl) rfl (zr 1 (.pointer (some ⟨g24, 0, none⟩)) rfl rfl rfl (qs rfl) rfl (zr 2 (.pointer (some ⟨g24, 2, none⟩)) rfl rfl rfl (qK rfl qea) rfl (qcC 3 (.bool x25.2.2) rfl rfl rfl (zB (i := 0) rfl tf4 rfl rfl (fun _ => rfl) rfl) rfl (zr 4 (.bool (!x25.2.2)) rfl rfl rfl (qs rfl) rfl (zr 5 (.bool (!x25.2.2)) rfl rfl rfl (qs rfl) rfl (qJ (d := 40) (v := .bool false) rfl (by rw [h97] <;> rfl) (vy 6 rfl rfl rfl rfl (vy 7 rfl rfl rfl rfl (vy 8 rfl rfl rfl rfl (vy 9 rfl rfl rfl rfl (vy 10 rfl rfl rfl rfl ?_))))))))))))
 refine vy 11 rfl rfl rfl rfl (vy 12 rfl rfl rfl rfl (vy 13 rfl rfl rfl rfl (vy 14 rfl rfl rfl rfl (vy 15 rfl rfl rfl rfl (vy 16 rfl rfl rfl rfl (vy 17 rfl rfl rfl rfl (zr 18 (.bool false) rfl rfl rfl (qs rfl) rfl (q6 19 rfl (by kernel_rfl) rfl (kY ent60 rfl rfl rfl (fun x100 e100 => jD F false x100 e100) .nil .nil .nil (fun x101 _ => ?_) (fun x100 e100 => ?_))))))))))
 exact zI (qkc (l' := [(8, .pointer (some ⟨g15, 0, none⟩)), (9, .pointer (some ⟨g16, 0, none⟩))]) (qfE rfl rfl (qfE rfl rfl qmn)) (zI (qdQ ent58 rfl (.cons 3 rfl (.cons 2 rfl .nil)) (lost58 _ _ _ _) (qU Int (eI .i64) 3 1 (zT (none, 0) (resL (rs := [.cell 8 22, .cell 9 4]) rfl (.cell (i := 0) rfl tf22 rfl rfl (fun _ => rfl) rfl (.cell (i := 1) rfl tf4 rfl rfl (fun _ => rfl) rfl ResOk.nil)) rfl) (hB := fun h => by subst h; exact (.cons 3 rfl .nil)) (hR := fun h => by subst h; exact (.cons 0 rfl .nil)))))))
 intro _
 exact qe (qY (.cons 0 rfl (.cons 0 rfl (.cons 0 rfl (.cons 0 rfl (.cons 0 rfl .nil))))) (qW 0 rfl (qW 1 rfl qV)) (zm (by kernel_rfl) (qlD (qj ((), ()) (hB := (.cons 0 rfl (.cons 0 rfl (.cons 0 rfl (.cons 0 rfl .nil))))) (hR := (.cons 0 rfl (.cons 0 rfl .nil))) (hF := (qi 0 rfl qu))) (by intro c h; cases h))))
 rintro ⟨_, _⟩
 try dsimp only
 refine qC (fun ((_, _) : (Unit × Unit)) => [(8, .pointer (some ⟨g15, 0, none⟩)), (9, .pointer (some ⟨g16, 0, none⟩))]) (fun ((_, _) : (Unit × Unit)) => [⟨g1, 69, [.int .i64 x17.2.1, .slice a4 x3.length c5, .int .i64 x17.2.2]⟩, ⟨g16, 4, [.bool false]⟩, ⟨g15, 22, [.slice a19 x17.1.length c20]⟩]) (fun ((_, _) : (Unit × Unit)) => [Ro (eI .i64) 3 1 (.slice a19 x17.1.length c20) x17.1]) (fun ((_, _) : (Unit × Unit)) => [Sl (eI .u8) 1 (.slice a4 x3.length c5) x3]) (fun ((_, _) : (Unit × Unit)) => qcp F x17) ?_ ?_
 refine qf (qa (qc rfl rfl rfl (qX rfl rfl rfl (qo rfl rfl qf1 rfl (qo rfl rfl kW rfl (qp (i := 0) rfl rfl tf3 rfl rfl (fun _ => rfl) rfl rfl (qc rfl rfl rfl (qe (qd (qt (qM (fun ((x75, _) : (Int × Unit)) => [(0, .pointer (some ⟨g1, 0, none⟩)), (8, .pointer (some ⟨g15, 0, none⟩)), (9, .pointer (some ⟨g16, 0, none⟩)), (10, .int .i64 x6), (11, .pointer (some ⟨g24, 0, none⟩)), (59, .int .i64 x25.1), (60, .int .i64 x75)]) (fun ((x75, _) : (Int × Unit)) => [⟨g24, 42, [.int .i64 x25.1, .slice a26 x25.2.1.length c27, .bool x25.2.2]⟩, ⟨g1, 69, [.int .i64 x17.2.1, .slice a4 x3.length c5, .int .i64 x17.2.2]⟩, ⟨g16, 4, [.bool false]⟩, ⟨g15, 22, [.slice a19 x17.1.length c20]⟩]) (fun ((x75, _) : (Int × Unit)) => [Ro (eI .u8) 5 1 (.slice a26 x25.2.1.length c27) x25.2.1, Ro (eI .i64) 3 1 (.slice a19 x17.1.length c20) x17.1]) (fun ((x75, _) : (Int × Unit)) => [Sl (eI .u8) 1 (.slice a4 x3.length c5) x3]) (fun k (s : (Int × Unit)) => ke F x3 x6 x17 x25 k s.1) (0, ()) F ?_ (hB := (.cons 0 rfl (.cons 0 rfl (.cons 0 rfl (.cons 0 rfl .nil))))) (hR := (.cons 0 rfl (.cons 0 rfl .nil))) (hF := (qi 0 rfl qu)))))))))))))
 intro k86
 rintro ⟨x75, _⟩
 try dsimp only
 refine qZ (m' := vt F x3 x6 x17 x25 (ke F x3 x6 x17 x25 k86) x75) rfl (qf (qa (qP rfl rfl rfl rfl (qe (qd (qf (qy rfl (fun h96 => ?_) (fun h96 => ?_))))))))
 refine ql (qd (qf (qt (qf (qa (qc rfl rfl rfl (qb rfl rfl rfl (qe (qd (qgY mixed [8, 9] [] [⟨g24, 42, [.int .i64 x25.1, .slice a26 x25.2.1.length c27, .bool x25.2.2]⟩, ⟨g1, 69, [.int .i64 x17.2.1, .slice a4 x3.length c5, .int .i64 x17.2.2]⟩, ⟨g16, 4, [.bool false]⟩, ⟨g15, 22, [.slice a19 x17.1.length c20]⟩] [Sl (eI .u8) 1 (.slice a4 x3.length c5) x3] (.cons 0 rfl (.cons 0 rfl (.cons 0 rfl (.cons 0 rfl .nil)))) (qW 0 rfl qV) 16 rfl (zr 0 (.pointer (some ⟨g24, 0, none⟩)) rfl rfl rfl (qs rfl) rfl (zr 1 (.pointer (some ⟨g24, 0, none⟩)) rfl rfl rfl (qs rfl) rfl ?_))))))))))))
 refine zr 2 (.pointer (some ⟨g24, 0, none⟩)) rfl rfl rfl (qK rfl qf1) rfl (qcC 3 (.agg #[.int .i64 x25.1, .slice a26 x25.2.1.length c27]) rfl rfl rfl (zB (i := 0) rfl tf27 rfl rfl (by simp) rfl) rfl (zr 4 (.int .i64 x75) rfl rfl rfl (qs rfl) rfl (zr 6 (.pointer (some ⟨g1, 0, none⟩)) rfl rfl rfl (qs rfl) rfl (zr 7 (.pointer (some ⟨g1, 0, none⟩)) rfl rfl rfl (qs rfl) rfl (zr 8 (.pointer (some ⟨g1, 0, none⟩)) rfl rfl rfl (qK rfl qlS) rfl (qcC 9 (.agg #[.int .i64 x17.2.1, .slice a4 x3.length c5]) rfl rfl rfl (zB (i := 1) rfl tf27 rfl rfl (by simp) rfl) rfl (zr 10 (.int .i64 x6) rfl rfl rfl (qs rfl) rfl (zr 11 (.int .i64 x75) rfl rfl rfl (qs rfl) rfl (zr 12 (.int .i64 (iadd .i64 x6 x75)) rfl rfl rfl (qs rfl) rfl (q6 5 rfl (by kernel_rfl) rfl (qv ent61 rfl rfl rfl (fun x92 e92 => qep F x25.1 x25.2.1 a26 c27 x75 x92 e92) (.consR 0 (Ro (eI .u8) 5 1 (.slice a26 x25.2.1.length c27) x25.2.1) rfl .nil) (fun x92 e92 => ?_))))))))))))
 intro _
 refine qe (qY (.cons 0 rfl (.cons 0 rfl (.cons 0 rfl (.cons 0 rfl .nil)))) (qW 0 rfl qV) (q6 13 rfl (by kernel_rfl) rfl (qv ent61 rfl rfl rfl (fun x93 e93 => qep F x17.2.1 x3 a4 c5 (iadd .i64 x6 x75) x93 e93) (.consF 0 rfl .nil) (fun x93 e93 => ?_))))
 intro _
 refine qe (qY (.cons 0 rfl (.cons 0 rfl (.cons 0 rfl (.cons 0 rfl .nil)))) (qW 0 rfl qV) (zr 14 (.bool ((x92 : Int) == x93)) rfl rfl rfl (qs rfl) rfl (q6 15 rfl (by kernel_rfl) rfl (kY ent60 rfl rfl rfl (fun x94 e94 => jD F ((x92 : Int) == x93) x94 e94) .nil .nil .nil (fun x95 _ => ?_) (fun x94 e94 => ?_)))))
 exact zI (qkc (l' := [(8, .pointer (some ⟨g15, 0, none⟩)), (9, .pointer (some ⟨g16, 0, none⟩))]) (qfE rfl rfl (qfE rfl rfl qmn)) (qc4 (zI (zI (qc4 (zI (qdQ ent58 rfl (.cons 3 rfl (.cons 2 rfl .nil)) (lost58 _ _ _ _) (qU Int (eI .i64) 3 1 (zT (none, 0) (resL (rs := [.cell 8 22, .cell 9 4]) rfl (.cell (i := 0) rfl tf22 rfl rfl (fun _ => rfl) rfl (.cell (i := 1) rfl tf4 rfl rfl (fun _ => rfl) rfl ResOk.nil)) rfl) (hB := fun h => by subst h; exact (.cons 3 rfl .nil)) (hR := fun h => by subst h; exact (.cons 0 rfl .nil)))))))))))
 intro _
 exact qe (qY (.cons 0 rfl (.cons 0 rfl (.cons 0 rfl (.cons 0 rfl .nil)))) (qW 0 rfl qV) (zm (by kernel_rfl) (qlD (qH (qd (qa (qD rfl rfl rfl rfl (qc rfl rfl rfl (qe (qG (iadd .i64 x75 1, ()) (hB := (.cons 0 rfl (.cons 0 rfl (.cons 0 rfl (.cons 0 rfl .nil))))) (hR := (.cons 0 rfl (.cons 0 rfl .nil))) (hF := (qi 0 rfl qu))))))))) (by intro c h; cases h))))
 exact qS (qx (qx (qT (qj ((), ()) (hB := (.cons 1 rfl (.cons 1 rfl (.cons 1 rfl .nil)))) (hR := (.cons 1 rfl .nil)) (hF := (qi 0 rfl qu))))))
 rintro ⟨_, _⟩
 try dsimp only
 exact qf (qa (qp (i := 2) rfl rfl tf22 rfl rfl (fun _ => rfl) rfl rfl (qI (i := 2) rfl rfl rfl tf22 rfl rfl rfl rfl rfl (qI (i := 1) rfl rfl rfl tf4 rfl rfl rfl rfl rfl (qe (qd (qr (qlC (.inl rfl) ent58 rfl (idle58 _ _) (zT (a19, c20) (resL (rs := [.cell 8 22, .cell 9 4]) rfl (.cell (i := 2) rfl tf22 rfl rfl (fun _ => rfl) rfl (.cell (i := 1) rfl tf4 rfl rfl (fun _ => rfl) rfl ResOk.nil)) rfl) (hB := fun h => by subst h; exact (.cons 0 rfl .nil)) (hR := fun h => by subst h; exact (.cons 0 rfl .nil)))))))))))
theorem qlh (F : Nat) (x1 : Int) (x2 : List Int) (a3 : Option Addr) (c4 : Nat) (x5 : Int) (x6 : Int) (x7 : List Int) (a8 : Option Addr) (c9 : Nat) (x10 : Int) (x11 : Int) (x12 : Int) (r : (List Int × Int × Int)) (hm : qd1 F x1 x2 x5 x6 x7 x10 x11 x12 = some r) :
    Pure Tryz.prog 17 [.agg #[.int .i64 x1, .slice a3 x2.length c4], .int .i64 x5, .int .i64 x6, .slice a8 x7.length c9, .agg #[.int .i64 x10, .int .i64 x11, .int .i64 x12]] [Sl (eI .u8) 1 (.slice a3 x2.length c4) x2, Sl (eI .i64) 1 (.slice a8 x7.length c9) x7] (Option Addr × Nat) (fun g => .tuple #[.slice g.1 r.1.length g.2, .int .i64 r.2.1, .int .i64 r.2.2]) (fun g => [Ro (eI .i64) 3 1 (.slice g.1 r.1.length g.2) r.1]) (fun _ => []) := by
 refine qQ Tryz.func17 rfl Tryz.ntmps17 rfl hm (fun w => qF (l' := [(0, .agg #[.int .i64 x1, .slice a3 x2.length c4]), (1, .int .i64 x5), (2, .int .i64 x6), (3, .slice a8 x7.length c9), (4, .agg #[.int .i64 x10, .int .i64 x11, .int .i64 x12])]) rfl (qf (qa (zp rfl rfl rfl (fun g13 => zp rfl rfl rfl (fun g14 => qb rfl rfl rfl (qb rfl rfl rfl (qb rfl rfl rfl (qe (qd (qf (qa ?_))))))))))))
 refine qp (i := 1) rfl rfl tf27 rfl rfl (by simp) rfl rfl (qc rfl rfl rfl (zX (cells := [.int .i64 x1, .slice a3 x2.length c4, .int .i64 x5]) rfl st69 rfl (by kernel_rfl) rfl (zp rfl rfl rfl (fun g15 => qb rfl rfl rfl (qe (qd (qf (qa (qc rfl rfl rfl (qc rfl rfl rfl (qc rfl rfl rfl (qp (i := 1) rfl rfl tf24 rfl rfl (by simp) rfl rfl ?_))))))))))))
 refine zA ent37 rfl rfl rfl (fun x16 e16 => qgd F g15 x1 x2 a3 c4 x5 x6 x7 a8 c9 x10 x11 x12 x16 e16) (.cons 0 rfl .nil) .nil (.consF 0 rfl (.consF 1 rfl .nil)) (fun x16 e16 => ?_)
 rintro ⟨a17, c18⟩
 refine qc rfl rfl rfl (qq rfl rfl rfl rfl (qq rfl rfl rfl rfl (qb rfl rfl rfl (qb rfl rfl rfl (qe (qd (qf (qf (qa (qc rfl rfl rfl (ko rfl rfl rfl (qe ?_))))))))))))
 refine qd (qy rfl (fun h20 => ?_) (fun h20 => ?_))
 exact qf (qa (qb rfl rfl rfl (qb rfl rfl rfl (qb rfl rfl rfl (qe (qd (qr (qn (qU Int (eI .i64) 3 1 (qm (none, 0) (res3 rfl rfl rfl rfl) (fun h => by subst h; exact (.cons 0 rfl .nil))))))))))))
 refine ql (qd (qf (zP mixed [] [⟨g15, 69, [.int .i64 x16.2.2.1, .slice a3 x2.length c4, .int .i64 x16.2.2.2]⟩, ⟨g14, 24, [.int .i64 x10, .int .i64 x11, .int .i64 x12]⟩, ⟨g13, 27, [.int .i64 x1, .slice a3 x2.length c4]⟩] [Sl (eI .u8) 1 (.slice a3 x2.length c4) x2, Sl (eI .i64) 1 (.slice a8 x7.length c9) x7] (.cons 0 rfl (.cons 0 rfl (.cons 0 rfl .nil))) (qW 0 rfl (qW 1 rfl qV)) 8 rfl (qg 0 (.slice a17 x16.1.length c18) rfl rfl rfl (qs rfl) (qg 1 (.pointer (some ⟨g15, 0, none⟩)) rfl rfl rfl (qs rfl) (qg 2 (.pointer (some ⟨g15, 0, none⟩)) rfl rfl rfl (qs rfl) (qg 3 (.pointer (some ⟨g15, 2, none⟩)) rfl rfl rfl (qK rfl qfV) (zF 4 (.int .i64 x16.2.2.2) rfl rfl rfl (zB (i := 0) rfl tf3 rfl rfl (fun _ => rfl) rfl) (qg 5 (.slice a17 x16.1.length c18) rfl rfl rfl (qs rfl) (qg 6 (.int .i64 x16.2.2.2) rfl rfl rfl (qs rfl) (qg 7 (.int .i64 0) rfl rfl rfl (qs rfl) (zm (by kernel_rfl) ?_))))))))))))
 exact z7 (qd (qr (qm (a17, c18) (res3 rfl rfl rfl rfl) (fun h => by subst h; exact (.cons 0 rfl .nil))))) (by intro c h; cases h)
theorem qfg (F : Nat) (x1 : Int) (x2 : List Int) (a3 : Option Addr) (c4 : Nat) (x5 : Int) (x6 : Int) (x7 : List Int) (a8 : Option Addr) (c9 : Nat) (x10 : Int) (x11 : Int) (x12 : Int) (r : (List Int × Int × Int)) (hm : qb2 F x1 x2 x5 x6 x7 x10 x11 x12 = some r) :
    Pure Tryz.prog 5 [.agg #[.int .i64 x1, .slice a3 x2.length c4], .int .i64 x5, .int .i64 x6, .slice a8 x7.length c9, .agg #[.int .i64 x10, .int .i64 x11, .int .i64 x12]] [Sl (eI .u8) 1 (.slice a3 x2.length c4) x2, Sl (eI .i64) 1 (.slice a8 x7.length c9) x7] (Option Addr × Nat) (fun g => .tuple #[.slice g.1 r.1.length g.2, .int .i64 r.2.1, .int .i64 r.2.2]) (fun g => [Ro (eI .i64) 3 1 (.slice g.1 r.1.length g.2) r.1]) (fun _ => []) := by
 refine qQ Tryz.func5 rfl Tryz.ntmps5 rfl hm (fun w => qF (l' := [(0, .agg #[.int .i64 x1, .slice a3 x2.length c4]), (1, .int .i64 x5), (2, .int .i64 x6), (3, .slice a8 x7.length c9), (4, .agg #[.int .i64 x10, .int .i64 x11, .int .i64 x12])]) rfl (qf (qa (zp rfl rfl rfl (fun g13 => zp rfl rfl rfl (fun g14 => qb rfl rfl rfl (qb rfl rfl rfl (qb rfl rfl rfl (qe (qd (qf (qa ?_))))))))))))
 refine qp (i := 0) rfl rfl tf24 rfl rfl (by simp) rfl rfl (qv ent9 rfl rfl rfl (fun x15 e15 => qdk F x10 x11 x12 x15 e15) .nil (fun x15 e15 => ?_))
 intro _
 refine qb rfl rfl rfl (qe (qd (qC (fun ((x18, _) : (Int × Unit)) => [(1, .int .i64 x5), (2, .int .i64 x6), (3, .slice a8 x7.length c9), (5, .pointer (some ⟨g13, 0, none⟩)), (9, .pointer (some ⟨g14, 0, none⟩)), (13, .int .i64 x18)]) (fun ((x18, _) : (Int × Unit)) => [⟨g14, 24, [.int .i64 x10, .int .i64 x11, .int .i64 x12]⟩, ⟨g13, 27, [.int .i64 x1, .slice a3 x2.length c4]⟩]) (fun ((x18, _) : (Int × Unit)) => []) (fun ((x18, _) : (Int × Unit)) => [Sl (eI .i64) 1 (.slice a8 x7.length c9) x7, Sl (eI .u8) 1 (.slice a3 x2.length c4) x2]) (fun ((x18, _) : (Int × Unit)) => qaM F x1 x2 x5 x6 x7 x10 x11 x12 x18) ?_ ?_)))
 refine qf (qa (qc rfl rfl rfl (zu rfl rfl rfl rfl (qe (qd (qy rfl (fun h30 => ?_) (fun h30 => ?_)))))))
 refine qa (qp (i := 1) rfl rfl tf27 rfl rfl (by simp) rfl rfl (qc rfl rfl rfl (qv ent16 rfl rfl rfl (fun x29 e29 => qit F x1 x2 a3 c4 x5 x29 e29) (.consF 0 rfl .nil) (fun x29 e29 => ?_))))
 intro _
 exact qb rfl rfl rfl (qe (qj (x29, ()) (hB := (.cons 0 rfl (.cons 0 rfl .nil))) (hF := (qi 1 rfl (qi 0 rfl qu)))))
 exact ql (qj (x15, ()) (hB := (.cons 0 rfl (.cons 0 rfl .nil))) (hF := (qi 1 rfl (qi 0 rfl qu))))
 rintro ⟨x18, _⟩
 try dsimp only
 refine qC (fun ((x21, _) : (Int × Unit)) => [(1, .int .i64 x5), (2, .int .i64 x6), (3, .slice a8 x7.length c9), (5, .pointer (some ⟨g13, 0, none⟩)), (9, .pointer (some ⟨g14, 0, none⟩)), (13, .int .i64 x21)]) (fun ((x21, _) : (Int × Unit)) => [⟨g14, 24, [.int .i64 x10, .int .i64 x11, .int .i64 x12]⟩, ⟨g13, 27, [.int .i64 x1, .slice a3 x2.length c4]⟩]) (fun ((x21, _) : (Int × Unit)) => []) (fun ((x21, _) : (Int × Unit)) => [Sl (eI .i64) 1 (.slice a8 x7.length c9) x7, Sl (eI .u8) 1 (.slice a3 x2.length c4) x2]) (fun ((x21, _) : (Int × Unit)) => qaL F x1 x2 x5 x6 x7 x10 x11 x12 x21) ?_ ?_
 refine qf (qa (qc rfl rfl rfl (zu rfl rfl rfl rfl (qe (qd (qy rfl (fun h28 => ?_) (fun h28 => ?_)))))))
 refine qa (qc rfl rfl rfl (qc rfl rfl rfl (qp (i := 0) rfl rfl tf24 rfl rfl (by simp) rfl rfl (qv ent14 rfl rfl rfl (fun x27 e27 => qgI F x6 x7 a8 c9 x10 x11 x12 x27 e27) (.consF 0 rfl .nil) (fun x27 e27 => ?_)))))
 intro _
 exact qb rfl rfl rfl (qe (qj (x27, ()) (hB := (.cons 0 rfl (.cons 0 rfl .nil))) (hF := (qi 0 rfl (qi 1 rfl qu)))))
 exact ql (qj (x18, ()) (hB := (.cons 0 rfl (.cons 0 rfl .nil))) (hF := (qi 0 rfl (qi 1 rfl qu))))
 rintro ⟨x21, _⟩
 try dsimp only
 refine qf (qf (qa (qc rfl rfl rfl (kD rfl rfl rfl rfl (qe (qd (qy rfl (fun h26 => ?_) (fun h26 => ?_))))))))
 exact qf (qa (qc rfl rfl rfl (qb rfl rfl rfl (qb rfl rfl rfl (qb rfl rfl rfl (qe (qd (qr (qn (qU Int (eI .i64) 3 1 (qm (none, 0) (res3 rfl rfl rfl rfl) (fun h => by subst h; exact (.cons 0 rfl .nil)))))))))))))
 refine ql (qd (qf (qa (qp (i := 1) rfl rfl tf27 rfl rfl (by simp) rfl rfl (qc rfl rfl rfl (qc rfl rfl rfl (qc rfl rfl rfl (qp (i := 0) rfl rfl tf24 rfl rfl (by simp) rfl rfl (qv ent17 rfl rfl rfl (fun x23 e23 => qlh F x1 x2 a3 c4 x5 x6 x7 a8 c9 x10 x11 x12 x23 e23) (.consF 1 rfl (.consF 0 rfl .nil)) (fun x23 e23 => ?_))))))))))
 rintro ⟨a24, c25⟩
 exact qq rfl rfl rfl rfl (qq rfl rfl rfl rfl (qq rfl rfl rfl rfl (qb rfl rfl rfl (qb rfl rfl rfl (qb rfl rfl rfl (qe (qd (qr (qm (a24, c25) (res3 rfl rfl rfl rfl) (fun h => by subst h; exact (.cons 0 rfl .nil)))))))))))
theorem v8 (F : Nat) (x1 : Int) (x2 : Int) (x3 : Int) (r : Bool) (hm : kH F x1 x2 x3 = some r) :
    Pure Tryz.prog 18 [.int .i64 x1, .int .i64 x2, .int .i64 x3] [] Unit (fun _ => .bool r) (fun _ => []) (fun _ => []) := by
 refine qQ Tryz.func18 rfl Tryz.ntmps18 rfl hm (fun w => qF (l' := [(0, .int .i64 x1), (1, .int .i64 x2), (2, .int .i64 x3)]) rfl (qf (qa (qb rfl rfl rfl (qe (qd (qf (qa (qc rfl rfl rfl (qc rfl rfl rfl (jl rfl rfl rfl rfl (qc rfl rfl rfl ?_))))))))))))
 refine zH 4 (decide (x2 ≤ x1)) [(14, .bool ((decide (x2 ≤ x1)) && (decide (x1 ≤ x3))))] (fun h4 => ?_) (fun h4 => ?_) ?_
 exact qw (os := _) rfl (zj (k := 10) rfl h4 (qc rfl rfl rfl (qc rfl rfl rfl (qdX rfl rfl rfl rfl (qE (b := true) rfl rfl rfl rfl (qA (d := 14) (v := .bool ((decide (x2 ≤ x1)) && (decide (x1 ≤ x3)))) rfl (by rw [h4]; simp only [Bool.true_and]) (qe (qO (qh rfl q8)))))))))
 exact qw (os := _) rfl (zk (k := 10) rfl h4 (qk rfl rfl rfl (qk rfl rfl rfl (qk rfl rfl rfl (qE (b := false) rfl rfl rfl rfl (qA (d := 14) (v := .bool ((decide (x2 ≤ x1)) && (decide (x1 ≤ x3)))) rfl (by rw [h4]; simp only [Bool.false_and]) (qe (qO (qh rfl q8)))))))))
 exact qw (os := _) rfl (qb rfl rfl rfl (qe (qd (qr (qm () (res1 rfl rfl))))))
theorem qeP (F : Nat) (x1 : Int) (x2 : Int) (x3 : Int) (r : Int) (hm : qa6 F x1 x2 x3 = some r) :
    Pure Tryz.prog 10 [.agg #[.int .i64 x1, .int .i64 x2, .int .i64 x3]] [] Unit (fun _ => .int .i64 r) (fun _ => []) (fun _ => []) := by
 refine qQ Tryz.func10 rfl Tryz.ntmps10 rfl hm (fun w => qF (l' := [(0, .agg #[.int .i64 x1, .int .i64 x2, .int .i64 x3])]) rfl (qf (qa (zp rfl rfl rfl (fun g4 => qb rfl rfl rfl (qe (qd (qf (qf (qa (qo rfl rfl qeK rfl (qp (i := 0) rfl rfl tf3 rfl rfl (fun _ => rfl) rfl rfl ?_))))))))))))
 refine qv ent18 rfl rfl rfl (fun x21 e21 => v8 F x1 0 7 x21 e21) .nil (fun x21 e21 _ => ko rfl rfl rfl (qc rfl rfl rfl (kT 10 (fun ((x27, _) : (Bool × Unit)) => [(1, .pointer (some ⟨g4, 0, none⟩)), (17, .bool x27)]) (fun ((x27, _) : (Bool × Unit)) => [⟨g4, 24, [.int .i64 x1, .int .i64 x2, .int .i64 x3]⟩]) (fun ((x27, _) : (Bool × Unit)) => []) (fun ((x27, _) : (Bool × Unit)) => []) (fun ((x27, _) : (Bool × Unit)) => jZ F x3 x27) ?_ ?_)))
 refine qw (os := _) rfl (jq (fun h22 => ?_) (fun h22 => ?_))
 exact zj (k := 7) rfl h22 (qk rfl rfl rfl (qk rfl rfl rfl (qk rfl rfl rfl (qk rfl rfl rfl (qk rfl rfl rfl (qk rfl rfl rfl (qk rfl rfl rfl (qk rfl rfl rfl (qk rfl rfl rfl (qE (b := true) rfl rfl rfl rfl (qe (qj (true, ()) (hB := (.cons 0 rfl .nil))))))))))))))
 refine zk (k := 7) rfl h22 (qo rfl rfl qbl rfl (qp (i := 0) rfl rfl tf3 rfl rfl (fun _ => rfl) rfl rfl (kD rfl rfl rfl rfl (qc rfl rfl rfl (kT 5 (fun ((x35, _) : (Bool × Unit)) => [(1, .pointer (some ⟨g4, 0, none⟩)), (7, .bool false), (16, .bool x35)]) (fun ((x35, _) : (Bool × Unit)) => [⟨g4, 24, [.int .i64 x1, .int .i64 x2, .int .i64 x3]⟩]) (fun ((x35, _) : (Bool × Unit)) => []) (fun ((x35, _) : (Bool × Unit)) => []) (fun ((x35, _) : (Bool × Unit)) => qbz F x3 x35) ?_ ?_)))))
 refine qw (os := _) rfl (jq (fun h33 => ?_) (fun h33 => ?_))
 refine zj (k := 11) rfl h33 (qo rfl rfl qbl rfl (qp (i := 0) rfl rfl tf3 rfl rfl (fun _ => rfl) rfl rfl (qv ent18 rfl rfl rfl (fun x36 e36 => v8 F x2 2 300 x36 e36) .nil (fun x36 e36 => ?_))))
 intro _
 exact ko rfl rfl rfl (qE (b := true) rfl rfl rfl rfl (qe (qj ((!x36), ()) (hB := (.cons 0 rfl .nil)))))
 exact zk (k := 11) rfl h33 (qk rfl rfl rfl (qk rfl rfl rfl (qk rfl rfl rfl (qk rfl rfl rfl (qE (b := false) rfl rfl rfl rfl (qe (qj (false, ()) (hB := (.cons 0 rfl .nil)))))))))
 rintro ⟨x35, _⟩
 try dsimp only
 exact qw (os := _) rfl (qE (b := false) rfl rfl rfl rfl (qe (qj (x35, ()) (hB := (.cons 0 rfl .nil)))))
 rintro ⟨x27, _⟩
 try dsimp only
 refine qw (os := _) rfl (qc rfl rfl rfl (kT 5 (fun ((x30, _) : (Bool × Unit)) => [(23, .bool x30)]) (fun ((x30, _) : (Bool × Unit)) => []) (fun ((x30, _) : (Bool × Unit)) => []) (fun ((x30, _) : (Bool × Unit)) => []) (fun ((x30, _) : (Bool × Unit)) => qbC F x30) ?_ ?_))
 refine qw (os := _) rfl (jq (fun h28 => ?_) (fun h28 => ?_))
 exact zj (k := 18) rfl h28 (qk rfl rfl rfl (qk rfl rfl rfl (qk rfl rfl rfl (qk rfl rfl rfl (qE (b := true) rfl rfl rfl rfl (qe (qj (true, ()))))))))
 refine zk (k := 18) rfl h28 (qo rfl rfl qfW rfl (qp (i := 0) rfl rfl tf3 rfl rfl (fun _ => rfl) rfl rfl (qv ent18 rfl rfl rfl (fun x32 e32 => v8 F x3 1 16 x32 e32) .nil (fun x32 e32 => ?_))))
 intro _
 exact ko rfl rfl rfl (qE (b := false) rfl rfl rfl rfl (qe (qj ((!x32), ()))))
 rintro ⟨x30, _⟩
 try dsimp only
 refine qw (os := _) rfl (qe (qd (qy rfl (fun h31 => ?_) (fun h31 => ?_))))
 exact qf (qa (qb rfl rfl rfl (qe (qd (qr (qn (qm () (res1 rfl rfl))))))))
 exact ql (qd (qf (qa (qb rfl rfl rfl (qe (qd (qr (qm () (res1 rfl rfl)))))))))
theorem qby (F : Nat) (x1 : List Int) (a2 : Option Addr) (c3 : Nat) (r : Int) (hm : yW F x1 = some r) :
    Pure Tryz.prog 19 [.slice a2 x1.length c3] [Sl (eI .i64) 1 (.slice a2 x1.length c3) x1] Unit (fun _ => .int .i64 r) (fun _ => []) (fun _ => []) := by
  refine qQ Tryz.func19 rfl Tryz.ntmps19 rfl hm (fun w => ?_)
  refine qF (l' := [(0, .slice a2 x1.length c3)]) rfl ?_
  refine qf ?_
  refine qa ?_
  refine qb rfl rfl rfl ?_
  refine qe ?_
  refine qd ?_
  refine qf ?_
  refine qf ?_
  refine qa ?_
  refine qc rfl rfl rfl ?_
  refine qN rfl Tryz.underlying22 rfl rfl ?_
  refine zi rfl rfl rfl rfl ?_
  refine qe ?_
  refine qd ?_
  refine qy rfl (fun h381 => ?_) (fun h381 => ?_)
  · refine qf ?_
    refine qa ?_
    refine qb rfl rfl rfl ?_
    refine qe ?_
    refine qd ?_
    refine qr ?_
    refine qn ?_
    exact qm () (res1 rfl rfl)
  · refine ql ?_
    refine qd ?_
    refine qC (fun ((_, _) : (Unit × Unit)) => []) (fun ((_, _) : (Unit × Unit)) => []) (fun ((_, _) : (Unit × Unit)) => []) (fun ((_, _) : (Unit × Unit)) => []) (fun ((_, _) : (Unit × Unit)) => qdK F) ?_ ?_
    · refine qf ?_
      refine qa ?_
      refine qb rfl rfl rfl ?_
      refine qe ?_
      refine qd ?_
      refine qt ?_
      refine qM (fun ((x255, _) : (Int × Unit)) => [(0, .slice a2 x1.length c3), (3, .int .i64 x255)]) (fun ((x255, _) : (Int × Unit)) => []) (fun ((x255, _) : (Int × Unit)) => []) (fun ((x255, _) : (Int × Unit)) => [Sl (eI .i64) 1 (.slice a2 x1.length c3) x1]) (fun k (s : (Int × Unit)) => kx F x1 k s.1) (0, ()) F ?_ (hF := (qi 0 rfl qu))
      intro k318
      rintro ⟨x255, _⟩
      try dsimp only
      refine qZ (m' := ji F x1 (kx F x1 k318) x255) rfl ?_
      refine qf ?_
      refine qf ?_
      refine qa ?_
      refine qc rfl rfl rfl ?_
      refine qc rfl rfl rfl ?_
      refine qN rfl Tryz.underlying22 rfl rfl ?_
      refine qP rfl rfl rfl rfl ?_
      refine qe ?_
      refine qd ?_
      refine qy rfl (fun h380 => ?_) (fun h380 => ?_)
      · refine ql ?_
        refine qd ?_
        refine qf ?_
        refine qt ?_
        refine qf ?_
        refine qf ?_
        refine qa ?_
        refine qc rfl rfl rfl ?_
        refine qc rfl rfl rfl ?_
        refine q7 (j := 0) (qL .i64) (by decide) rfl Tryz.underlying22 tf3 rfl rfl rfl rfl (fun x355 e355 b356 o357 => ?_)
        refine zl (j := 0) rfl rfl tf3 rfl rfl (fun _ => rfl) rfl rfl ?_
        refine qv ent18 rfl rfl rfl (fun x358 e358 => v8 F x355 0 1048576 x358 e358) .nil (fun x358 e358 => ?_)
        intro _
        refine ko rfl rfl rfl ?_
        refine qe ?_
        refine qd ?_
        refine qy rfl (fun h379 => ?_) (fun h379 => ?_)
        · refine qf ?_
          refine qa ?_
          refine qb rfl rfl rfl ?_
          refine qe ?_
          refine qd ?_
          refine qr ?_
          refine qn ?_
          refine qR ?_
          refine qn ?_
          refine qn ?_
          refine qR ?_
          refine qn ?_
          exact qm () (res1 rfl rfl)
        · refine ql ?_
          refine qd ?_
          refine qC (fun ((x368, _) : (Bool × Unit)) => [(0, .slice a2 x1.length c3), (3, .int .i64 x255), (32, .bool x368)]) (fun ((x368, _) : (Bool × Unit)) => []) (fun ((x368, _) : (Bool × Unit)) => []) (fun ((x368, _) : (Bool × Unit)) => [Sl (eI .i64) 1 (.slice a2 x1.length c3) x1]) (fun ((x368, _) : (Bool × Unit)) => y8 F (kx F x1 k318) x255 x368) ?_ ?_
          · refine qdv (fun h370 => ?_) (fun h370 => ?_)
            · refine vm (j := 1) (qL .i64) (by decide) rfl (fun x371 e371 b372 o373 h374 => ?_)
              replace h374 : a2 = some ⟨b372, o373, none⟩ := h374
              refine vm (j := 2) (qL .i64) (by decide) rfl (fun x375 e375 b376 o377 h378 => ?_)
              replace h378 : a2 = some ⟨b376, o377, none⟩ := h378
              refine zP mixed [] [] [zG b376 (o377 + (isub .i64 x255 1).toNat * 1) ((eI .i64) x375), zG b372 (o373 + x255.toNat * 1) ((eI .i64) x371), zG b356 o357 ((eI .i64) x355), Sl (eI .i64) 1 (.slice a2 x1.length c3) x1] .nil (qW 0 rfl (qW 1 rfl (qW 2 rfl (qW 3 rfl qV)))) 14 rfl ?_
              refine qg 0 (.int .i64 x255) rfl rfl rfl (qs rfl) ?_
              refine qg 1 (.bool (decide (0 < x255))) rfl rfl rfl (qs rfl) ?_
              refine qg 2 (.bool (decide (0 < x255))) rfl rfl rfl (qs rfl) ?_
              refine qJ (d := 21) (v := .bool true) rfl (by rw [h370] <;> rfl) ?_
              refine qg 3 (.slice a2 x1.length c3) rfl rfl rfl (qs rfl) ?_
              refine qg 4 (.int .i64 x255) rfl rfl rfl (qs rfl) ?_
              refine qJ (d := 22) (v := .slice (some ⟨b372, o373, none⟩) x1.length c3) rfl (by rw [h374] <;> rfl) ?_
              refine qg 5 (.pointer (some ⟨b372, (o373 + x255.toNat * 1), none⟩)) rfl rfl rfl (qbj Tryz.underlying22 tf3 rfl rfl (zW e371).1 (vx e371)) ?_
              refine qJ (d := 22) (v := .slice a2 x1.length c3) rfl (by rw [h374] <;> rfl) ?_
              refine z8 6 (.int .i64 x371) [] rfl rfl rfl (yC (j := 1) rfl tf3 rfl rfl (fun _ => rfl) rfl) ?_
              refine qg 7 (.slice a2 x1.length c3) rfl rfl rfl (qs rfl) ?_
              refine qg 8 (.int .i64 x255) rfl rfl rfl (qs rfl) ?_
              refine qg 9 (.int .i64 (isub .i64 x255 1)) rfl rfl rfl (qs rfl) ?_
              refine qJ (d := 26) (v := .slice (some ⟨b376, o377, none⟩) x1.length c3) rfl (by rw [h378] <;> rfl) ?_
              refine qg 10 (.pointer (some ⟨b376, (o377 + (isub .i64 x255 1).toNat * 1), none⟩)) rfl rfl rfl (qbj Tryz.underlying22 tf3 rfl rfl (zW e375).1 (vx e375)) ?_
              refine qJ (d := 26) (v := .slice a2 x1.length c3) rfl (by rw [h378] <;> rfl) ?_
              refine z8 11 (.int .i64 x375) [] rfl rfl rfl (yC (j := 0) rfl tf3 rfl rfl (fun _ => rfl) rfl) ?_
              refine qg 12 (.bool (decide (x371 ≤ x375))) rfl rfl rfl (qs rfl) ?_
              refine qg 13 (.bool (decide (x371 ≤ x375))) rfl rfl rfl (qs rfl) ?_
              refine zm (by kernel_rfl) ?_
              refine z7 ?_ (by intro c h; cases h)
              exact qj ((decide (x371 ≤ x375)), ()) (hF := (qi 3 rfl qu))
            · refine zP mixed [] [] [zG b356 o357 ((eI .i64) x355), Sl (eI .i64) 1 (.slice a2 x1.length c3) x1] .nil (qW 0 rfl (qW 1 rfl qV)) 14 rfl ?_
              refine qg 0 (.int .i64 x255) rfl rfl rfl (qs rfl) ?_
              refine qg 1 (.bool (decide (0 < x255))) rfl rfl rfl (qs rfl) ?_
              refine qg 2 (.bool (decide (0 < x255))) rfl rfl rfl (qs rfl) ?_
              refine qJ (d := 21) (v := .bool false) rfl (by rw [h370] <;> rfl) ?_
              refine qB 3 rfl rfl rfl ?_
              refine qB 4 rfl rfl rfl ?_
              refine qB 5 rfl rfl rfl ?_
              refine qB 6 rfl rfl rfl ?_
              refine qB 7 rfl rfl rfl ?_
              refine qB 8 rfl rfl rfl ?_
              refine qB 9 rfl rfl rfl ?_
              refine qB 10 rfl rfl rfl ?_
              refine qB 11 rfl rfl rfl ?_
              refine qB 12 rfl rfl rfl ?_
              refine qg 13 (.bool false) rfl rfl rfl (qs rfl) ?_
              refine zm (by kernel_rfl) ?_
              refine z7 ?_ (by intro c h; cases h)
              exact qj (false, ()) (hF := (qi 1 rfl qu))
          · rintro ⟨x368, _⟩
            try dsimp only
            refine qy rfl (fun h369 => ?_) (fun h369 => ?_)
            · refine qf ?_
              refine qa ?_
              refine qb rfl rfl rfl ?_
              refine qe ?_
              refine qd ?_
              refine qr ?_
              refine qR ?_
              refine qn ?_
              refine qn ?_
              refine qR ?_
              refine qn ?_
              exact qm () (res1 rfl rfl)
            · refine ql ?_
              refine qH ?_
              refine qd ?_
              refine qa ?_
              refine qc rfl rfl rfl ?_
              refine qD rfl rfl rfl rfl ?_
              refine qb rfl rfl rfl ?_
              refine qe ?_
              exact qG (iadd .i64 x255 1, ()) (hF := (qi 0 rfl qu))
      · refine qS ?_
        refine qx ?_
        refine qx ?_
        refine qT ?_
        exact qj ((), ())
    · rintro ⟨_, _⟩
      try dsimp only
      refine qf ?_
      refine qa ?_
      refine qb rfl rfl rfl ?_
      refine qe ?_
      refine qd ?_
      refine qr ?_
      exact qm () (res1 rfl rfl)
theorem qhd (F : Nat) (x1 : Int) (x2 : List Int) (a3 : Option Addr) (c4 : Nat) (x5 : Int) (x6 : Int) (x7 : Int) (r : Int) (hm : qc8 F x1 x2 x5 x6 x7 = some r) :
    Pure Tryz.prog 20 [.int .i64 x1, .slice a3 x2.length c4, .agg #[.int .i64 x5, .int .i64 x6, .int .i64 x7]] [Sl (eI .i64) 1 (.slice a3 x2.length c4) x2] Unit (fun _ => .int .i64 r) (fun _ => []) (fun _ => []) := by
 refine qQ Tryz.func20 rfl Tryz.ntmps20 rfl hm (fun w => qF (l' := [(0, .int .i64 x1), (1, .slice a3 x2.length c4), (2, .agg #[.int .i64 x5, .int .i64 x6, .int .i64 x7])]) rfl (qf (qa (zp rfl rfl rfl (fun g8 => qb rfl rfl rfl (qe (qd (qf (qf (qa (qc rfl rfl rfl (qv ent18 rfl rfl rfl (fun x11 e11 => v8 F x1 0 1048576 x11 e11) .nil (fun x11 e11 => ?_)))))))))))))
 intro _
 refine ko rfl rfl rfl (qe (qd (qy rfl (fun h16 => ?_) (fun h16 => ?_))))
 exact qf (qa (qb rfl rfl rfl (qe (qd (qr (qn (qm () (res1 rfl rfl))))))))
 refine ql (qd (qf (qf (qa (qo rfl rfl qeK rfl (qp (i := 0) rfl rfl tf3 rfl rfl (fun _ => rfl) rfl rfl (zi rfl rfl rfl rfl (qe (qd (qy rfl (fun h15 => ?_) (fun h15 => ?_)))))))))))
 refine qf (qa (qc rfl rfl rfl (qv ent19 rfl rfl rfl (fun x14 e14 => qby F x2 a3 c4 x14 e14) (.consF 0 rfl .nil) (fun x14 e14 => ?_))))
 intro _
 exact qb rfl rfl rfl (qe (qd (qr (qn (qm () (res1 rfl rfl))))))
 exact ql (qd (qf (qa (qb rfl rfl rfl (qe (qd (qr (qm () (res1 rfl rfl)))))))))
theorem qlZ (F : Nat) (x1 : Int) (r : List Int) (hm : qeN F x1 = some r) :
    Pure Tryz.prog 62 [.int .u64 x1] [] (Option Addr × Nat) (fun g => .slice g.1 r.length g.2) (fun g => [Ro (eI .i64) 3 1 (.slice g.1 r.length g.2) r]) (fun _ => []) := by
 refine qQ Tryz.func62 rfl Tryz.ntmps62 rfl hm (fun w => qF (l' := [(0, .int .u64 x1)]) rfl (qf (qa (qb rfl rfl rfl (qe (qd (qf (qa (qb rfl rfl rfl (qe (qd (qC (fun ((x31, (a29, c30)) : (List Int × (Option Addr × Nat))) => [(3, .slice a29 x31.length c30)]) (fun ((x31, (a29, c30)) : (List Int × (Option Addr × Nat))) => []) (fun ((x31, (a29, c30)) : (List Int × (Option Addr × Nat))) => [Ro (eI .i64) 3 1 (.slice a29 x31.length c30) x31]) (fun ((x31, (a29, c30)) : (List Int × (Option Addr × Nat))) => []) (fun ((x31, _) : (List Int × (Option Addr × Nat))) => qed F x31) ?_ ?_))))))))))))
 refine qt (zS Int (eI .i64) 3 1 (qM (fun (((x40, x43), (a41, c42)) : ((Int × List Int) × (Option Addr × Nat))) => [(0, .int .u64 x40), (3, .slice a41 x43.length c42)]) (fun (((x40, x43), (a41, c42)) : ((Int × List Int) × (Option Addr × Nat))) => []) (fun (((x40, x43), (a41, c42)) : ((Int × List Int) × (Option Addr × Nat))) => [Ro (eI .i64) 3 1 (.slice a41 x43.length c42) x43]) (fun (((x40, x43), (a41, c42)) : ((Int × List Int) × (Option Addr × Nat))) => []) (fun k (s : ((Int × List Int) × (Option Addr × Nat))) => qag F k s.1) ((x1, ([] : List Int)), (none, 0)) F ?_ (hR := (.cons 0 rfl .nil))))
 intro k51
 rintro ⟨⟨x40, x43⟩, ⟨a41, c42⟩⟩
 try dsimp only
 refine qZ (m' := qcZ F (qag F k51) x40 x43) rfl (qf (qf (qa (qc rfl rfl rfl (zi rfl rfl rfl rfl (qe (qd (qy rfl (fun h58 => ?_) (fun h58 => ?_)))))))))
 refine ql (qd (qt (qf (qa (qc rfl rfl rfl (qds rfl rfl rfl rfl rfl (q9 rfl Tryz.underlying72 Tryz.underlying3 rfl rfl (zE (vs := [.int .i64 (iconv .i64 (irem x40 2))]) (ys := ([iconv .i64 (irem x40 2)] : List Int)) (qL .i64) (by decide) rfl Tryz.underlying22 tf3 rfl rfl rfl rfl rfl (by decide) (fun a53 c54 => qc rfl rfl rfl (zy 0 (qL .i64) rfl Tryz.underlying22 tf3 rfl rfl rfl rfl rfl (.inl ⟨1, _, rfl⟩) rfl rfl (fun x55 e55 a56 c57 => qb rfl rfl rfl (qe ?_))))))))))))
 exact qd (qa (qc rfl rfl rfl (qbL rfl rfl rfl rfl rfl (qb rfl rfl rfl (qe (qH (qG ((iquo .u64 x40 2, x55), (a56, c57)) (hR := (.cons 0 rfl .nil)))))))))
 exact qS (qx (qx (qT (qj (x43, (a41, c42)) (hR := (.cons 0 rfl .nil))))))
 rintro ⟨x31, ⟨a29, c30⟩⟩
 try dsimp only
 exact qf (qa (qc rfl rfl rfl (qb rfl rfl rfl (qe (qd (qr (qm (a29, c30) (res1 rfl rfl) (fun h => by subst h; exact (.cons 0 rfl .nil)))))))))
theorem jc (F : Nat) (x1 : Int) (r : List Int) (hm : kQ F x1 = some r) :
    Pure Tryz.prog 38 [.int .u64 x1] [] (Option Addr × Nat) (fun g => .slice g.1 r.length g.2) (fun g => [Ro (eI .i64) 3 1 (.slice g.1 r.length g.2) r]) (fun _ => []) := by
 refine qQ Tryz.func38 rfl Tryz.ntmps38 rfl hm (fun w => qF (l' := [(0, .int .u64 x1)]) rfl (qf (qa (qb rfl rfl rfl (qe (qd (qf (qa (qc rfl rfl rfl (qD rfl rfl rfl rfl (qv ent62 rfl rfl rfl (fun x2 e2 => qlZ F (iadd .u64 x1 1) x2 e2) .nil (fun x2 e2 => ?_))))))))))))
 rintro ⟨a3, c4⟩
 refine qb rfl rfl rfl (qe (qd (qf (qa (qb rfl rfl rfl (qe (qd (qC (fun ((x48, (a46, c47)) : (List Int × (Option Addr × Nat))) => [(3, .slice a3 x2.length c4), (4, .slice a46 x48.length c47)]) (fun ((x48, (a46, c47)) : (List Int × (Option Addr × Nat))) => []) (fun ((x48, (a46, c47)) : (List Int × (Option Addr × Nat))) => [Ro (eI .i64) 3 1 (.slice a3 x2.length c4) x2, Ro (eI .i64) 3 1 (.slice a46 x48.length c47) x48]) (fun ((x48, (a46, c47)) : (List Int × (Option Addr × Nat))) => []) (fun ((x48, _) : (List Int × (Option Addr × Nat))) => qcA F x2 x48) ?_ ?_))))))))
 refine qf (qa (qb rfl rfl rfl (qe (qd (qt (zS Int (eI .i64) 3 1 (qM (fun (((x66, x67), (a64, c65)) : ((List Int × Int) × (Option Addr × Nat))) => [(3, .slice a3 x2.length c4), (4, .slice a64 x66.length c65), (5, .int .i64 x67)]) (fun (((x66, x67), (a64, c65)) : ((List Int × Int) × (Option Addr × Nat))) => []) (fun (((x66, x67), (a64, c65)) : ((List Int × Int) × (Option Addr × Nat))) => [Ro (eI .i64) 3 1 (.slice a3 x2.length c4) x2, Ro (eI .i64) 3 1 (.slice a64 x66.length c65) x66]) (fun (((x66, x67), (a64, c65)) : ((List Int × Int) × (Option Addr × Nat))) => []) (fun k (s : ((List Int × Int) × (Option Addr × Nat))) => vg F x2 k s.1) ((([] : List Int), 1), (none, 0)) F ?_ (hR := (.cons 1 rfl (.cons 0 rfl .nil))))))))))
 intro k80
 rintro ⟨⟨x66, x67⟩, ⟨a64, c65⟩⟩
 try dsimp only
 refine qZ (m' := qaS F x2 (vg F x2 k80) x66 x67) rfl (qf (qf (qa (qc rfl rfl rfl (qc rfl rfl rfl (qN rfl Tryz.underlying22 rfl rfl (qP rfl rfl rfl rfl (qe (qd (qy rfl (fun h92 => ?_) (fun h92 => ?_)))))))))))
 refine ql (qd (qf (qt (qa (qc rfl rfl rfl (zE (vs := [.int .i64 0]) (ys := ([0] : List Int)) (qL .i64) (by decide) rfl Tryz.underlying22 tf3 rfl rfl rfl rfl rfl (by decide) (fun a87 c88 => zy 2 (qL .i64) rfl Tryz.underlying22 tf3 rfl rfl rfl rfl rfl (.inl ⟨0, _, rfl⟩) rfl rfl (fun x89 e89 a90 c91 => qb rfl rfl rfl (qe (qH (qd (qa ?_))))))))))))
 exact qc rfl rfl rfl (qD rfl rfl rfl rfl (qb rfl rfl rfl (qe (qG ((x89, iadd .i64 x67 1), (a90, c91)) (hR := (.cons 2 rfl (.cons 0 rfl .nil)))))))
 exact qS (qx (qx (qT (qj (x66, (a64, c65)) (hR := (.cons 0 rfl (.cons 0 rfl .nil)))))))
 rintro ⟨x48, ⟨a46, c47⟩⟩
 try dsimp only
 exact qf (qa (qc rfl rfl rfl (qc rfl rfl rfl (zy 1 (qL .i64) rfl Tryz.underlying22 tf3 rfl rfl rfl rfl rfl (.inl ⟨0, _, rfl⟩) rfl rfl (fun x49 e49 a50 c51 => qb rfl rfl rfl (qe (qd (qr (qm (a50, c51) (res1 rfl rfl) (fun h => by subst h; exact (.cons 0 rfl .nil)))))))))))
theorem qdy (F : Nat) (x1 : List Int) (a2 : Option Addr) (c3 : Nat) (x4 : Int) (r : Bool) (hm : qaQ F x1 x4 = some r) :
    Pure Tryz.prog 63 [.slice a2 x1.length c3, .int .i64 x4] [Sl (eI .i64) 1 (.slice a2 x1.length c3) x1] Unit (fun _ => .bool r) (fun _ => []) (fun _ => []) := by
 refine qQ Tryz.func63 rfl Tryz.ntmps63 rfl hm (fun w => qF (l' := [(0, .slice a2 x1.length c3), (1, .int .i64 x4)]) rfl (qf (qa (qb rfl rfl rfl (qe (qd (qC (fun ((_, _) : (Unit × Unit)) => []) (fun ((_, _) : (Unit × Unit)) => []) (fun ((_, _) : (Unit × Unit)) => []) (fun ((_, _) : (Unit × Unit)) => []) (fun ((_, _) : (Unit × Unit)) => qeb F) ?_ ?_)))))))
 refine qf (qa (qb rfl rfl rfl (qe (qd (qt (qM (fun ((x47, _) : (Int × Unit)) => [(0, .slice a2 x1.length c3), (1, .int .i64 x4), (5, .int .i64 x47)]) (fun ((x47, _) : (Int × Unit)) => []) (fun ((x47, _) : (Int × Unit)) => []) (fun ((x47, _) : (Int × Unit)) => [Sl (eI .i64) 1 (.slice a2 x1.length c3) x1]) (fun k (s : (Int × Unit)) => qae F x1 x4 k s.1) (0, ()) F ?_ (hF := (qi 0 rfl qu))))))))
 intro k58
 rintro ⟨x47, _⟩
 try dsimp only
 refine qZ (m' := qcX F x1 x4 (qae F x1 x4 k58) x47) rfl (qf (qf (qa (qc rfl rfl rfl (qc rfl rfl rfl (qN rfl Tryz.underlying22 rfl rfl (qP rfl rfl rfl rfl (qe (qd (qy rfl (fun h68 => ?_) (fun h68 => ?_)))))))))))
 refine ql (qd (qf (qt (qf (qa (qc rfl rfl rfl (qc rfl rfl rfl (q7 (j := 0) (qL .i64) (by decide) rfl Tryz.underlying22 tf3 rfl rfl rfl rfl (fun x64 e64 b65 o66 => zl (j := 0) rfl rfl tf3 rfl rfl (fun _ => rfl) rfl rfl (qc rfl rfl rfl (zu rfl rfl rfl rfl (qe ?_))))))))))))
 refine qd (qy rfl (fun h67 => ?_) (fun h67 => ?_))
 exact qf (qa (qb rfl rfl rfl (qe (qd (qr (qR (qn (qn (qR (qn (qm () (res1 rfl rfl))))))))))))
 exact ql (qH (qd (qa (qc rfl rfl rfl (qD rfl rfl rfl rfl (qb rfl rfl rfl (qe (qG (iadd .i64 x47 1, ()) (hF := (qi 1 rfl qu))))))))))
 exact qS (qx (qx (qT (qj ((), ())))))
 rintro ⟨_, _⟩
 try dsimp only
 exact qf (qa (qb rfl rfl rfl (qe (qd (qr (qm () (res1 rfl rfl)))))))
set_option maxHeartbeats 4000000 in
theorem qhk (F : Nat) (x1 : List Int) (a2 : Option Addr) (c3 : Nat) (x4 : List Int) (a5 : Option Addr) (c6 : Nat) (r : (List Int × List Int)) (hm : qbB F x1 x4 = some r) :
    Pure Tryz.prog 39 [.slice a2 x1.length c3, .slice a5 x4.length c6] [Sl (eI .i64) 1 (.slice a2 x1.length c3) x1, Sl (eI .i64) 1 (.slice a5 x4.length c6) x4] ((Option Addr × Nat) × (Option Addr × Nat)) (fun g => .tuple #[.slice g.1.1 r.1.length g.1.2, .slice g.2.1 r.2.length g.2.2]) (fun g => [Ro (eI .i64) 3 1 (.slice g.1.1 r.1.length g.1.2) r.1, Ro (eI .i64) 3 1 (.slice g.2.1 r.2.length g.2.2) r.2]) (fun _ => []) := by
 refine qQ Tryz.func39 rfl Tryz.ntmps39 rfl hm (fun w => qF (l' := [(0, .slice a2 x1.length c3), (1, .slice a5 x4.length c6)]) rfl (qf (qa (qb rfl rfl rfl (qb rfl rfl rfl (qe (qd (qf (qa (qb rfl rfl rfl (qb rfl rfl rfl (qe ?_))))))))))))
 refine qd (qf (qa (qb rfl rfl rfl (qe (qd (qC (fun ((x210, (a208, c209)) : (List Int × (Option Addr × Nat))) => [(0, .slice a2 x1.length c3), (1, .slice a5 x4.length c6), (6, .slice a208 x210.length c209), (7, .slice none 0 0)]) (fun ((x210, (a208, c209)) : (List Int × (Option Addr × Nat))) => []) (fun ((x210, (a208, c209)) : (List Int × (Option Addr × Nat))) => [Ro (eI .i64) 3 1 (.slice a208 x210.length c209) x210]) (fun ((x210, (a208, c209)) : (List Int × (Option Addr × Nat))) => [Sl (eI .i64) 1 (.slice a2 x1.length c3) x1, Sl (eI .i64) 1 (.slice a5 x4.length c6) x4]) (fun ((x210, _) : (List Int × (Option Addr × Nat))) => qbn F x1 x4 x210) ?_ ?_))))))
 refine qf (qa (qb rfl rfl rfl (qe (qd (qt (zS Int (eI .i64) 3 1 (qM (fun (((x511, x512, x513), (a509, c510)) : ((List Int × Int × Int) × (Option Addr × Nat))) => [(0, .slice a2 x1.length c3), (1, .slice a5 x4.length c6), (6, .slice a509 x511.length c510), (7, .slice none 0 0), (8, .int .i64 x512), (9, .int .i64 x513)]) (fun (((x511, x512, x513), (a509, c510)) : ((List Int × Int × Int) × (Option Addr × Nat))) => []) (fun (((x511, x512, x513), (a509, c510)) : ((List Int × Int × Int) × (Option Addr × Nat))) => [Ro (eI .i64) 3 1 (.slice a509 x511.length c510) x511]) (fun (((x511, x512, x513), (a509, c510)) : ((List Int × Int × Int) × (Option Addr × Nat))) => [Sl (eI .i64) 1 (.slice a2 x1.length c3) x1, Sl (eI .i64) 1 (.slice a5 x4.length c6) x4]) (fun k (s : ((List Int × Int × Int) × (Option Addr × Nat))) => kg F x1 x4 k s.1) ((([] : List Int), 0, 0), (none, 0)) F ?_ (hR := (.cons 0 rfl .nil)) (hF := (qi 0 rfl (qi 1 rfl qu))))))))))
 intro k562
 rintro ⟨⟨x511, x512, x513⟩, ⟨a509, c510⟩⟩
 try dsimp only
 refine qZ (m' := je F x1 x4 (kg F x1 x4 k562) x511 x512 x513) rfl (qf (qf (qa (qc rfl rfl rfl (qc rfl rfl rfl (qN rfl Tryz.underlying22 rfl rfl (qP rfl rfl rfl rfl (qe (qd (qy rfl (fun h610 => ?_) (fun h610 => ?_)))))))))))
 refine ql (qd (qC (fun (((x587, x588), (a585, c586)) : ((List Int × Int) × (Option Addr × Nat))) => [(0, .slice a2 x1.length c3), (1, .slice a5 x4.length c6), (6, .slice a585 x587.length c586), (7, .slice none 0 0), (8, .int .i64 x588), (9, .int .i64 x513)]) (fun (((x587, x588), (a585, c586)) : ((List Int × Int) × (Option Addr × Nat))) => []) (fun (((x587, x588), (a585, c586)) : ((List Int × Int) × (Option Addr × Nat))) => [Ro (eI .i64) 3 1 (.slice a585 x587.length c586) x587]) (fun (((x587, x588), (a585, c586)) : ((List Int × Int) × (Option Addr × Nat))) => [Sl (eI .i64) 1 (.slice a2 x1.length c3) x1, Sl (eI .i64) 1 (.slice a5 x4.length c6) x4]) (fun (((x587, x588), _) : ((List Int × Int) × (Option Addr × Nat))) => jh F (kg F x1 x4 k562) x513 x587 x588) ?_ ?_))
 refine qt (qf (qa (qb rfl rfl rfl (qe (qd (qC (fun ((x594, _) : (Bool × Unit)) => [(0, .slice a2 x1.length c3), (1, .slice a5 x4.length c6), (6, .slice a509 x511.length c510), (7, .slice none 0 0), (8, .int .i64 x512), (9, .int .i64 x513), (10, .bool x594)]) (fun ((x594, _) : (Bool × Unit)) => []) (fun ((x594, _) : (Bool × Unit)) => [Ro (eI .i64) 3 1 (.slice a509 x511.length c510) x511]) (fun ((x594, _) : (Bool × Unit)) => [Sl (eI .i64) 1 (.slice a2 x1.length c3) x1, Sl (eI .i64) 1 (.slice a5 x4.length c6) x4]) (fun ((x594, _) : (Bool × Unit)) => yZ F (kg F x1 x4 k562) x1 x4 x511 x512 x513 x594) ?_ ?_))))))
 refine qf (qa (qc rfl rfl rfl (zi rfl rfl rfl rfl (qe (qd (qy rfl (fun h609 => ?_) (fun h609 => ?_)))))))
 refine qa (qc rfl rfl rfl (qc rfl rfl rfl (qc rfl rfl rfl (zd rfl rfl rfl rfl (q7 (j := 0) (qL .i64) (by decide) rfl Tryz.underlying22 tf3 rfl rfl rfl rfl (fun x605 e605 b606 o607 => zl (j := 0) rfl rfl tf3 rfl rfl (fun _ => rfl) rfl rfl (qv ent63 rfl rfl rfl (fun x608 e608 => qdy F x4 a5 c6 x605 x608 e608) (.consF 2 rfl .nil) (fun x608 e608 => ?_))))))))
 intro _
 exact qb rfl rfl rfl (qe (qj (x608, ()) (hR := (.cons 0 rfl .nil)) (hF := (qi 1 rfl (qi 2 rfl qu)))))
 exact ql (qj (true, ()) (hR := (.cons 0 rfl .nil)) (hF := (qi 0 rfl (qi 1 rfl qu))))
 rintro ⟨x594, _⟩
 try dsimp only
 refine qf (qa (qc rfl rfl rfl (qc rfl rfl rfl (qc rfl rfl rfl (q7 (j := 0) (qL .i64) (by decide) rfl Tryz.underlying22 tf3 rfl rfl rfl rfl (fun x595 e595 b596 o597 => zl (j := 0) rfl rfl tf3 rfl rfl (fun _ => rfl) rfl rfl (qv ent63 rfl rfl rfl (fun x598 e598 => qdy F x4 a5 c6 x595 x598 e598) (.consF 2 rfl .nil) (fun x598 e598 => ?_))))))))
 intro _
 refine qc rfl rfl rfl (qm0 rfl Tryz.underlying4 rfl rfl rfl (qe (qd (qy rfl (fun h604 => ?_) (fun h604 => ?_)))))
 refine qf (qa (qc rfl rfl rfl (qc rfl rfl rfl (qc rfl rfl rfl (zd rfl rfl rfl rfl (zE (vs := [.int .i64 (isub .i64 x513 x512)]) (ys := ([isub .i64 x513 x512] : List Int)) (qL .i64) (by decide) rfl Tryz.underlying22 tf3 rfl rfl rfl rfl rfl (by decide) (fun a599 c600 => zy 1 (qL .i64) rfl Tryz.underlying22 tf3 rfl rfl rfl rfl rfl (.inl ⟨0, _, rfl⟩) rfl rfl (fun x601 e601 a602 c603 => qb rfl rfl rfl (qe (qd (qa (qc rfl rfl rfl ?_))))))))))))
 exact qb rfl rfl rfl (qe (qH (qj ((x601, x513), (a602, c603)) (hR := (.cons 0 rfl .nil)) (hF := (qi 1 rfl (qi 2 rfl qu))))))
 exact ql (qH (qj ((x511, x512), (a509, c510)) (hR := (.cons 0 rfl .nil)) (hF := (qi 1 rfl (qi 2 rfl qu)))))
 rintro ⟨⟨x587, x588⟩, ⟨a585, c586⟩⟩
 try dsimp only
 exact qa (qc rfl rfl rfl (qD rfl rfl rfl rfl (qb rfl rfl rfl (qe (qG ((x587, x588, iadd .i64 x513 1), (a585, c586)) (hR := (.cons 0 rfl .nil)) (hF := (qi 0 rfl (qi 1 rfl qu))))))))
 exact qS (qx (qx (qT (qj (x511, (a509, c510)) (hR := (.cons 0 rfl .nil)) (hF := (qi 0 rfl (qi 1 rfl qu)))))))
 rintro ⟨x210, ⟨a208, c209⟩⟩
 try dsimp only
 refine qC (fun ((x311, (a309, c310)) : (List Int × (Option Addr × Nat))) => [(6, .slice a208 x210.length c209), (7, .slice a309 x311.length c310)]) (fun ((x311, (a309, c310)) : (List Int × (Option Addr × Nat))) => []) (fun ((x311, (a309, c310)) : (List Int × (Option Addr × Nat))) => [Ro (eI .i64) 3 1 (.slice a208 x210.length c209) x210, Ro (eI .i64) 3 1 (.slice a309 x311.length c310) x311]) (fun ((x311, (a309, c310)) : (List Int × (Option Addr × Nat))) => []) (fun ((x311, _) : (List Int × (Option Addr × Nat))) => qbm F x210 x311) ?_ ?_
 refine qf (qa (qb rfl rfl rfl (qe (qd (qt (zS Int (eI .i64) 3 1 (qM (fun (((x345, x346), (a343, c344)) : ((List Int × Int) × (Option Addr × Nat))) => [(0, .slice a2 x1.length c3), (1, .slice a5 x4.length c6), (6, .slice a208 x210.length c209), (7, .slice a343 x345.length c344), (11, .int .i64 x346)]) (fun (((x345, x346), (a343, c344)) : ((List Int × Int) × (Option Addr × Nat))) => []) (fun (((x345, x346), (a343, c344)) : ((List Int × Int) × (Option Addr × Nat))) => [Ro (eI .i64) 3 1 (.slice a208 x210.length c209) x210, Ro (eI .i64) 3 1 (.slice a343 x345.length c344) x345]) (fun (((x345, x346), (a343, c344)) : ((List Int × Int) × (Option Addr × Nat))) => [Sl (eI .i64) 1 (.slice a2 x1.length c3) x1, Sl (eI .i64) 1 (.slice a5 x4.length c6) x4]) (fun k (s : ((List Int × Int) × (Option Addr × Nat))) => kN F x1 x4 x210 k s.1) ((([] : List Int), 0), (none, 0)) F ?_ (hR := (.cons 1 rfl (.cons 0 rfl .nil))) (hF := (qi 0 rfl (qi 1 rfl qu))))))))))
 intro k378
 rintro ⟨⟨x345, x346⟩, ⟨a343, c344⟩⟩
 try dsimp only
 refine qZ (m' := jf F x1 x4 x210 (kN F x1 x4 x210 k378) x345 x346) rfl (qf (qf (qa (qc rfl rfl rfl (qc rfl rfl rfl (qN rfl Tryz.underlying22 rfl rfl (qP rfl rfl rfl rfl (qe (qd (qy rfl (fun h409 => ?_) (fun h409 => ?_)))))))))))
 refine ql (qd (qC (fun ((x395, (a393, c394)) : (List Int × (Option Addr × Nat))) => [(0, .slice a2 x1.length c3), (1, .slice a5 x4.length c6), (6, .slice a208 x210.length c209), (7, .slice a393 x395.length c394), (11, .int .i64 x346)]) (fun ((x395, (a393, c394)) : (List Int × (Option Addr × Nat))) => []) (fun ((x395, (a393, c394)) : (List Int × (Option Addr × Nat))) => [Ro (eI .i64) 3 1 (.slice a208 x210.length c209) x210, Ro (eI .i64) 3 1 (.slice a393 x395.length c394) x395]) (fun ((x395, (a393, c394)) : (List Int × (Option Addr × Nat))) => [Sl (eI .i64) 1 (.slice a2 x1.length c3) x1, Sl (eI .i64) 1 (.slice a5 x4.length c6) x4]) (fun ((x395, _) : (List Int × (Option Addr × Nat))) => jg F (kN F x1 x4 x210 k378) x346 x395) ?_ ?_))
 refine qt (qf (qa (qc rfl rfl rfl (qc rfl rfl rfl (qc rfl rfl rfl (q7 (j := 1) (qL .i64) (by decide) rfl Tryz.underlying22 tf3 rfl rfl rfl rfl (fun x396 e396 b397 o398 => zl (j := 0) rfl rfl tf3 rfl rfl (fun _ => rfl) rfl rfl (qv ent63 rfl rfl rfl (fun x399 e399 => qdy F x1 a2 c3 x396 x399 e399) (.consF 1 rfl .nil) (fun x399 e399 => ?_)))))))))
 intro _
 refine ko rfl rfl rfl (qe (qd (qy rfl (fun h408 => ?_) (fun h408 => ?_))))
 exact qa (qc rfl rfl rfl (qc rfl rfl rfl (qc rfl rfl rfl (q7 (j := 2) (qL .i64) (by decide) rfl Tryz.underlying22 tf3 rfl rfl rfl rfl (fun x400 e400 b401 o402 => zl (j := 0) rfl rfl tf3 rfl rfl (fun _ => rfl) rfl rfl (zE (vs := [.int .i64 x400]) (ys := ([x400] : List Int)) (qL .i64) (by decide) rfl Tryz.underlying22 tf3 rfl rfl rfl rfl rfl (by decide) (fun a403 c404 => zy 2 (qL .i64) rfl Tryz.underlying22 tf3 rfl rfl rfl rfl rfl (.inl ⟨0, _, rfl⟩) rfl rfl (fun x405 e405 a406 c407 => qb rfl rfl rfl (qe (qH (qj (x405, (a406, c407)) (hR := (.cons 2 rfl (.cons 0 rfl .nil))) (hF := (qi 2 rfl (qi 3 rfl qu))))))))))))))
 exact ql (qH (qj (x345, (a343, c344)) (hR := (.cons 0 rfl (.cons 0 rfl .nil))) (hF := (qi 1 rfl (qi 2 rfl qu)))))
 rintro ⟨x395, ⟨a393, c394⟩⟩
 try dsimp only
 exact qa (qc rfl rfl rfl (qD rfl rfl rfl rfl (qb rfl rfl rfl (qe (qG ((x395, iadd .i64 x346 1), (a393, c394)) (hR := (.cons 0 rfl (.cons 0 rfl .nil))) (hF := (qi 0 rfl (qi 1 rfl qu))))))))
 exact qS (qx (qx (qT (qj (x345, (a343, c344)) (hR := (.cons 0 rfl (.cons 0 rfl .nil)))))))
 rintro ⟨x311, ⟨a309, c310⟩⟩
 try dsimp only
 exact qf (qa (qc rfl rfl rfl (qc rfl rfl rfl (qb rfl rfl rfl (qb rfl rfl rfl (qe (qd (qr (qm ((a208, c209), (a309, c310)) (res2 rfl rfl rfl) (fun h => by subst h; exact (.cons 0 rfl (.cons 0 rfl .nil))))))))))))
set_option maxHeartbeats 4000000 in
theorem qiH (F : Nat) (x1 : List Int) (a2 : Option Addr) (c3 : Nat) (x4 : Int) (r : (List (Int × Int) × List Int)) (hm : qcL F x1 x4 = some r) :
    Pure Tryz.prog 40 [.slice a2 x1.length c3, .int .i64 x4] [Sl (eI .i64) 1 (.slice a2 x1.length c3) x1] ((Option Addr × Nat) × (Option Addr × Nat)) (fun g => .tuple #[.slice g.1.1 r.1.length g.1.2, .slice g.2.1 r.2.length g.2.2]) (fun g => [Ro eS75 75 2 (.slice g.1.1 r.1.length g.1.2) r.1, Ro (eI .i64) 3 1 (.slice g.2.1 r.2.length g.2.2) r.2]) (fun _ => []) := by
  refine qQ Tryz.func40 rfl Tryz.ntmps40 rfl hm (fun w => ?_)
  refine qF (l' := [(0, .slice a2 x1.length c3), (1, .int .i64 x4)]) rfl ?_
  refine qf ?_
  refine qa ?_
  refine qb rfl rfl rfl ?_
  refine qb rfl rfl rfl ?_
  refine qe ?_
  refine qd ?_
  refine qf ?_
  refine qa ?_
  refine qb rfl rfl rfl ?_
  refine qe ?_
  refine qd ?_
  refine qf ?_
  refine qa ?_
  refine qb rfl rfl rfl ?_
  refine qe ?_
  refine qd ?_
  refine qC (fun (((x600, x603), (a598, c599, a601, c602)) : ((List (Int × Int) × List Int) × (Option Addr × Nat × Option Addr × Nat))) => [(6, .slice a598 x600.length c599), (7, .slice a601 x603.length c602)]) (fun (((x600, x603), (a598, c599, a601, c602)) : ((List (Int × Int) × List Int) × (Option Addr × Nat × Option Addr × Nat))) => []) (fun (((x600, x603), (a598, c599, a601, c602)) : ((List (Int × Int) × List Int) × (Option Addr × Nat × Option Addr × Nat))) => [Ro eS75 75 2 (.slice a598 x600.length c599) x600, Ro (eI .i64) 3 1 (.slice a601 x603.length c602) x603]) (fun (((x600, x603), (a598, c599, a601, c602)) : ((List (Int × Int) × List Int) × (Option Addr × Nat × Option Addr × Nat))) => []) (fun (((x600, x603), _) : ((List (Int × Int) × List Int) × (Option Addr × Nat × Option Addr × Nat))) => qce F x600 x603) ?_ ?_
  · refine qf ?_
    refine qa ?_
    refine qb rfl rfl rfl ?_
    refine qe ?_
    refine qd ?_
    refine qt ?_
    refine zS (Int × Int) eS75 75 2 ?_
    refine zS Int (eI .i64) 3 1 ?_
    refine qM (fun (((x804, x807, x808), (a802, c803, a805, c806)) : ((List (Int × Int) × List Int × Int) × (Option Addr × Nat × Option Addr × Nat))) => [(0, .slice a2 x1.length c3), (1, .int .i64 x4), (6, .slice a802 x804.length c803), (7, .slice a805 x807.length c806), (8, .int .i64 x808)]) (fun (((x804, x807, x808), (a802, c803, a805, c806)) : ((List (Int × Int) × List Int × Int) × (Option Addr × Nat × Option Addr × Nat))) => []) (fun (((x804, x807, x808), (a802, c803, a805, c806)) : ((List (Int × Int) × List Int × Int) × (Option Addr × Nat × Option Addr × Nat))) => [Ro eS75 75 2 (.slice a802 x804.length c803) x804, Ro (eI .i64) 3 1 (.slice a805 x807.length c806) x807]) (fun (((x804, x807, x808), (a802, c803, a805, c806)) : ((List (Int × Int) × List Int × Int) × (Option Addr × Nat × Option Addr × Nat))) => [Sl (eI .i64) 1 (.slice a2 x1.length c3) x1]) (fun k (s : ((List (Int × Int) × List Int × Int) × (Option Addr × Nat × Option Addr × Nat))) => za F x1 x4 k s.1) ((([] : List (Int × Int)), ([] : List Int), 0), (none, 0, none, 0)) F ?_ (hR := (.cons 1 rfl (.cons 0 rfl .nil))) (hF := (qi 0 rfl qu))
    intro k1001
    rintro ⟨⟨x804, x807, x808⟩, ⟨a802, c803, a805, c806⟩⟩
    try dsimp only
    refine qZ (m' := yL F x1 x4 (za F x1 x4 k1001) x804 x807 x808) rfl ?_
    refine qf ?_
    refine qf ?_
    refine qa ?_
    refine qc rfl rfl rfl ?_
    refine qc rfl rfl rfl ?_
    refine qN rfl Tryz.underlying22 rfl rfl ?_
    refine qP rfl rfl rfl rfl ?_
    refine qe ?_
    refine qd ?_
    refine qy rfl (fun h1193 => ?_) (fun h1193 => ?_)
    · refine ql ?_
      refine qd ?_
      refine qC (fun (((x1097, x1100), (a1095, c1096, a1098, c1099)) : ((List (Int × Int) × List Int) × (Option Addr × Nat × Option Addr × Nat))) => [(0, .slice a2 x1.length c3), (1, .int .i64 x4), (6, .slice a1095 x1097.length c1096), (7, .slice a1098 x1100.length c1099), (8, .int .i64 x808)]) (fun (((x1097, x1100), (a1095, c1096, a1098, c1099)) : ((List (Int × Int) × List Int) × (Option Addr × Nat × Option Addr × Nat))) => []) (fun (((x1097, x1100), (a1095, c1096, a1098, c1099)) : ((List (Int × Int) × List Int) × (Option Addr × Nat × Option Addr × Nat))) => [Ro eS75 75 2 (.slice a1095 x1097.length c1096) x1097, Ro (eI .i64) 3 1 (.slice a1098 x1100.length c1099) x1100]) (fun (((x1097, x1100), (a1095, c1096, a1098, c1099)) : ((List (Int × Int) × List Int) × (Option Addr × Nat × Option Addr × Nat))) => [Sl (eI .i64) 1 (.slice a2 x1.length c3) x1]) (fun (((x1097, x1100), _) : ((List (Int × Int) × List Int) × (Option Addr × Nat × Option Addr × Nat))) => v7 F (za F x1 x4 k1001) x808 x1097 x1100) ?_ ?_
      · refine qt ?_
        refine qf ?_
        refine vm (j := 0) (qL .i64) (by decide) rfl (fun x1109 e1109 b1110 o1111 h1112 => ?_)
        replace h1112 : a2 = some ⟨b1110, o1111, none⟩ := h1112
        refine vm (j := 1) (qL .i64) (by decide) rfl (fun x1113 e1113 b1114 o1115 h1116 => ?_)
        replace h1116 : a2 = some ⟨b1114, o1115, none⟩ := h1116
        refine zP mixed [] [] [zG b1114 (o1115 + x808.toNat * 1) ((eI .i64) x1113), zG b1110 (o1111 + x808.toNat * 1) ((eI .i64) x1109), Sl (eI .i64) 1 (.slice a2 x1.length c3) x1] .nil (qW 0 rfl (qW 1 rfl (qW 2 rfl qV))) 10 rfl ?_
        refine qg 0 (.slice a2 x1.length c3) rfl rfl rfl (qs rfl) ?_
        refine qg 1 (.int .i64 x808) rfl rfl rfl (qs rfl) ?_
        refine qJ (d := 17) (v := .slice (some ⟨b1110, o1111, none⟩) x1.length c3) rfl (by rw [h1112] <;> rfl) ?_
        refine qg 2 (.pointer (some ⟨b1110, (o1111 + x808.toNat * 1), none⟩)) rfl rfl rfl (qbj Tryz.underlying22 tf3 rfl rfl (zW e1109).1 (vx e1109)) ?_
        refine qJ (d := 17) (v := .slice a2 x1.length c3) rfl (by rw [h1112] <;> rfl) ?_
        refine z8 3 (.int .i64 x1109) [] rfl rfl rfl (yC (j := 1) rfl tf3 rfl rfl (fun _ => rfl) rfl) ?_
        refine qg 4 (.slice a2 x1.length c3) rfl rfl rfl (qs rfl) ?_
        refine qg 5 (.int .i64 x808) rfl rfl rfl (qs rfl) ?_
        refine qJ (d := 21) (v := .slice (some ⟨b1114, o1115, none⟩) x1.length c3) rfl (by rw [h1116] <;> rfl) ?_
        refine qg 6 (.pointer (some ⟨b1114, (o1115 + x808.toNat * 1), none⟩)) rfl rfl rfl (qbj Tryz.underlying22 tf3 rfl rfl (zW e1113).1 (vx e1113)) ?_
        refine qJ (d := 21) (v := .slice a2 x1.length c3) rfl (by rw [h1116] <;> rfl) ?_
        refine z8 7 (.int .i64 x1113) [] rfl rfl rfl (yC (j := 0) rfl tf3 rfl rfl (fun _ => rfl) rfl) ?_
        refine qg 8 (.int .i64 x1109) rfl rfl rfl (qs rfl) ?_
        refine qg 9 (.int .i64 x1113) rfl rfl rfl (qs rfl) ?_
        refine zm (by kernel_rfl) ?_
        refine z7 ?_ (by intro c h; cases h)
        refine qd ?_
        refine qC (fun ((x1131, _) : (Int × Unit)) => [(0, .slice a2 x1.length c3), (1, .int .i64 x4), (6, .slice a802 x804.length c803), (7, .slice a805 x807.length c806), (8, .int .i64 x808), (9, .int .i64 x1131), (10, .int .i64 x1113)]) (fun ((x1131, _) : (Int × Unit)) => []) (fun ((x1131, _) : (Int × Unit)) => [Ro eS75 75 2 (.slice a802 x804.length c803) x804, Ro (eI .i64) 3 1 (.slice a805 x807.length c806) x807]) (fun ((x1131, _) : (Int × Unit)) => [Sl (eI .i64) 1 (.slice a2 x1.length c3) x1]) (fun ((x1131, _) : (Int × Unit)) => qav F (za F x1 x4 k1001) x1 x4 x804 x807 x808 x1113 x1131) ?_ ?_
        · refine qt ?_
          refine qM (fun ((x1183, _) : (Int × Unit)) => [(0, .slice a2 x1.length c3), (1, .int .i64 x4), (6, .slice a802 x804.length c803), (7, .slice a805 x807.length c806), (8, .int .i64 x808), (9, .int .i64 x1183), (10, .int .i64 x1113)]) (fun ((x1183, _) : (Int × Unit)) => []) (fun ((x1183, _) : (Int × Unit)) => [Ro eS75 75 2 (.slice a802 x804.length c803) x804, Ro (eI .i64) 3 1 (.slice a805 x807.length c806) x807]) (fun ((x1183, _) : (Int × Unit)) => [Sl (eI .i64) 1 (.slice a2 x1.length c3) x1]) (fun k (s : (Int × Unit)) => yc F (za F x1 x4 k1001) x1 x4 x804 x807 x808 x1113 k s.1) (x1109, ()) F ?_ (hR := (.cons 0 rfl (.cons 0 rfl .nil))) (hF := (qi 2 rfl qu))
          intro k1188
          rintro ⟨x1183, _⟩
          try dsimp only
          refine qZ (m' := yS F (za F x1 x4 k1001) x1 x4 x804 x807 x808 x1113 (yc F (za F x1 x4 k1001) x1 x4 x804 x807 x808 x1113 k1188) x1183) rfl ?_
          refine qf ?_
          refine qf ?_
          refine qa ?_
          refine qc rfl rfl rfl ?_
          refine qc rfl rfl rfl ?_
          refine zd rfl rfl rfl rfl ?_
          refine qv ent63 rfl rfl rfl (fun x1191 e1191 => qdy F x1 a2 c3 (isub .i64 x1183 1) x1191 e1191) (.consF 0 rfl .nil) (fun x1191 e1191 => ?_)
          intro _
          refine qe ?_
          refine qd ?_
          refine qy rfl (fun h1192 => ?_) (fun h1192 => ?_)
          · refine ql ?_
            refine qd ?_
            refine qt ?_
            refine qa ?_
            refine qc rfl rfl rfl ?_
            refine zd rfl rfl rfl rfl ?_
            refine qb rfl rfl rfl ?_
            refine qe ?_
            refine qH ?_
            exact qG (isub .i64 x1183 1, ()) (hR := (.cons 0 rfl (.cons 0 rfl .nil))) (hF := (qi 0 rfl qu))
          · refine qS ?_
            refine qx ?_
            refine qx ?_
            refine qT ?_
            exact qj (x1183, ()) (hR := (.cons 0 rfl (.cons 0 rfl .nil))) (hF := (qi 0 rfl qu))
        · rintro ⟨x1131, _⟩
          try dsimp only
          refine qC (fun ((x1146, _) : (Int × Unit)) => [(0, .slice a2 x1.length c3), (1, .int .i64 x4), (6, .slice a802 x804.length c803), (7, .slice a805 x807.length c806), (8, .int .i64 x808), (9, .int .i64 x1131), (10, .int .i64 x1146)]) (fun ((x1146, _) : (Int × Unit)) => []) (fun ((x1146, _) : (Int × Unit)) => [Ro eS75 75 2 (.slice a802 x804.length c803) x804, Ro (eI .i64) 3 1 (.slice a805 x807.length c806) x807]) (fun ((x1146, _) : (Int × Unit)) => [Sl (eI .i64) 1 (.slice a2 x1.length c3) x1]) (fun ((x1146, _) : (Int × Unit)) => qaF F (za F x1 x4 k1001) x1 x4 x804 x807 x808 x1131 x1146) ?_ ?_
          · refine qt ?_
            refine qM (fun ((x1169, _) : (Int × Unit)) => [(0, .slice a2 x1.length c3), (1, .int .i64 x4), (6, .slice a802 x804.length c803), (7, .slice a805 x807.length c806), (8, .int .i64 x808), (9, .int .i64 x1131), (10, .int .i64 x1169)]) (fun ((x1169, _) : (Int × Unit)) => []) (fun ((x1169, _) : (Int × Unit)) => [Ro eS75 75 2 (.slice a802 x804.length c803) x804, Ro (eI .i64) 3 1 (.slice a805 x807.length c806) x807]) (fun ((x1169, _) : (Int × Unit)) => [Sl (eI .i64) 1 (.slice a2 x1.length c3) x1]) (fun k (s : (Int × Unit)) => ye F (za F x1 x4 k1001) x1 x4 x804 x807 x808 x1131 k s.1) (x1113, ()) F ?_ (hR := (.cons 0 rfl (.cons 0 rfl .nil))) (hF := (qi 0 rfl qu))
            intro k1174
            rintro ⟨x1169, _⟩
            try dsimp only
            refine qZ (m' := yQ F (za F x1 x4 k1001) x1 x4 x804 x807 x808 x1131 (ye F (za F x1 x4 k1001) x1 x4 x804 x807 x808 x1131 k1174) x1169) rfl ?_
            refine qf ?_
            refine qf ?_
            refine qa ?_
            refine qc rfl rfl rfl ?_
            refine qc rfl rfl rfl ?_
            refine qD rfl rfl rfl rfl ?_
            refine qv ent63 rfl rfl rfl (fun x1177 e1177 => qdy F x1 a2 c3 (iadd .i64 x1169 1) x1177 e1177) (.consF 0 rfl .nil) (fun x1177 e1177 => ?_)
            intro _
            refine qe ?_
            refine qd ?_
            refine qy rfl (fun h1178 => ?_) (fun h1178 => ?_)
            · refine ql ?_
              refine qd ?_
              refine qt ?_
              refine qa ?_
              refine qc rfl rfl rfl ?_
              refine qD rfl rfl rfl rfl ?_
              refine qb rfl rfl rfl ?_
              refine qe ?_
              refine qH ?_
              exact qG (iadd .i64 x1169 1, ()) (hR := (.cons 0 rfl (.cons 0 rfl .nil))) (hF := (qi 0 rfl qu))
            · refine qS ?_
              refine qx ?_
              refine qx ?_
              refine qT ?_
              exact qj (x1169, ()) (hR := (.cons 0 rfl (.cons 0 rfl .nil))) (hF := (qi 0 rfl qu))
          · rintro ⟨x1146, _⟩
            try dsimp only
            refine qf ?_
            refine qa ?_
            refine qc rfl rfl rfl ?_
            refine qc rfl rfl rfl ?_
            refine zd rfl rfl rfl rfl ?_
            refine qD rfl rfl rfl rfl ?_
            refine qc rfl rfl rfl ?_
            refine qP rfl rfl rfl rfl ?_
            refine qe ?_
            refine qd ?_
            refine qy rfl (fun h1164 => ?_) (fun h1164 => ?_)
            · refine qa ?_
              refine qc rfl rfl rfl ?_
              refine qc rfl rfl rfl ?_
              refine qc rfl rfl rfl ?_
              refine q7 (j := 0) (qL .i64) (by decide) rfl Tryz.underlying22 tf3 rfl rfl rfl rfl (fun x1147 e1147 b1148 o1149 => ?_)
              refine zl (j := 0) rfl rfl tf3 rfl rfl (fun _ => rfl) rfl rfl ?_
              refine zE (vs := [.int .i64 x1147]) (ys := ([x1147] : List Int)) (qL .i64) (by decide) rfl Tryz.underlying22 tf3 rfl rfl rfl rfl rfl (by decide) (fun a1150 c1151 => ?_)
              refine zy 2 (qL .i64) rfl Tryz.underlying22 tf3 rfl rfl rfl rfl rfl (.inl ⟨0, _, rfl⟩) rfl rfl (fun x1152 e1152 a1153 c1154 => ?_)
              refine qb rfl rfl rfl ?_
              refine qe ?_
              refine qH ?_
              exact qj ((x804, x1152), (a802, c803, a1153, c1154)) (hR := (.cons 2 rfl (.cons 0 rfl .nil))) (hF := (qi 1 rfl qu))
            · refine qf ?_
              refine qa ?_
              refine qc rfl rfl rfl ?_
              refine qc rfl rfl rfl ?_
              refine qc rfl rfl rfl ?_
              refine q7 (j := 0) (qL .i64) (by decide) rfl Tryz.underlying22 tf3 rfl rfl rfl rfl (fun x1155 e1155 b1156 o1157 => ?_)
              refine zl (j := 0) rfl rfl tf3 rfl rfl (fun _ => rfl) rfl rfl ?_
              refine zu rfl rfl rfl rfl ?_
              refine qe ?_
              refine qd ?_
              refine qy rfl (fun h1163 => ?_) (fun h1163 => ?_)
              · refine qa ?_
                refine qc rfl rfl rfl ?_
                refine qc rfl rfl rfl ?_
                refine qc rfl rfl rfl ?_
                refine qc rfl rfl rfl ?_
                refine zd rfl rfl rfl rfl ?_
                refine qD rfl rfl rfl rfl ?_
                refine zX (cells := [.int .i64 x1131, .int .i64 (iadd .i64 (isub .i64 x1146 x1131) 1)]) rfl st75 rfl (by kernel_rfl) rfl ?_
                refine zE (vs := [.agg #[.int .i64 x1131, .int .i64 (iadd .i64 (isub .i64 x1146 x1131) 1)]]) (ys := ([(x1131, iadd .i64 (isub .i64 x1146 x1131) 1)] : List (Int × Int))) yl (by decide) rfl Tryz.underlying57 tf75 rfl rfl rfl rfl rfl (by decide) (fun a1158 c1159 => ?_)
                refine zy 1 yl rfl Tryz.underlying57 tf75 rfl rfl rfl rfl rfl (.inl ⟨0, _, rfl⟩) rfl rfl (fun x1160 e1160 a1161 c1162 => ?_)
                refine qb rfl rfl rfl ?_
                refine qe ?_
                refine qH ?_
                exact qj ((x1160, x807), (a1161, c1162, a805, c806)) (hR := (.cons 0 rfl (.cons 1 rfl .nil))) (hF := (qi 1 rfl qu))
              · refine ql ?_
                refine qH ?_
                exact qj ((x804, x807), (a802, c803, a805, c806)) (hR := (.cons 0 rfl (.cons 0 rfl .nil))) (hF := (qi 1 rfl qu))
      · rintro ⟨⟨x1097, x1100⟩, ⟨a1095, c1096, a1098, c1099⟩⟩
        try dsimp only
        refine qa ?_
        refine qc rfl rfl rfl ?_
        refine qD rfl rfl rfl rfl ?_
        refine qb rfl rfl rfl ?_
        refine qe ?_
        exact qG ((x1097, x1100, iadd .i64 x808 1), (a1095, c1096, a1098, c1099)) (hR := (.cons 0 rfl (.cons 0 rfl .nil))) (hF := (qi 0 rfl qu))
    · refine qS ?_
      refine qx ?_
      refine qx ?_
      refine qT ?_
      exact qj ((x804, x807), (a802, c803, a805, c806)) (hR := (.cons 0 rfl (.cons 0 rfl .nil)))
  · rintro ⟨⟨x600, x603⟩, ⟨a598, c599, a601, c602⟩⟩
    try dsimp only
    refine qf ?_
    refine qa ?_
    refine qc rfl rfl rfl ?_
    refine qc rfl rfl rfl ?_
    refine qb rfl rfl rfl ?_
    refine qb rfl rfl rfl ?_
    refine qe ?_
    refine qd ?_
    refine qr ?_
    exact qm ((a598, c599), (a601, c602)) (res2 rfl rfl rfl) (fun h => by subst h; exact (.cons 0 rfl (.cons 0 rfl .nil)))
theorem qhJ (F : Nat) (x1 : Int) (r : Int) (hm : qdN F x1 = some r) :
    Pure Tryz.prog 41 [.int .i64 x1] [] Unit (fun _ => .int .u64 r) (fun _ => []) (fun _ => []) := by
 refine qQ Tryz.func41 rfl Tryz.ntmps41 rfl hm (fun w => qF (l' := [(0, .int .i64 x1)]) rfl (qf (qa (qb rfl rfl rfl (qe (qd (qf (qf (qa (qc rfl rfl rfl (qP rfl rfl rfl rfl (qe ?_))))))))))))
 refine qd (qy rfl (fun h5 => ?_) (fun h5 => ?_))
 refine qf (qa (qc rfl rfl rfl (qD rfl rfl rfl rfl (qmW rfl rfl rfl (q9 rfl Tryz.underlying2 Tryz.underlying72 rfl rfl (qdp rfl rfl rfl rfl (qD rfl rfl rfl rfl (qb rfl rfl rfl (yf (fun x4 e4 => qA (d := 2) (v := .int .u64 x4) rfl (by rw [e4] <;> rfl) (qe (qd ?_))))))))))))
 exact qr (qn (qm () (res1 rfl rfl)))
 exact ql (qd (qf (qa (qc rfl rfl rfl (q9 rfl Tryz.underlying2 Tryz.underlying72 rfl rfl (qdp rfl rfl rfl rfl (qb rfl rfl rfl (qe (qd (qr (qm () (res1 rfl rfl))))))))))))
theorem qj5 (F : Nat) (x1 : Int) (x2 : Int) (r : (Int × Int × Int)) (hm : qeC F x1 x2 = some r) :
    Pure Tryz.prog 88 [.int .u64 x1, .int .i64 x2] [] Unit (fun _ => .tuple #[.int .u64 r.1, .int .u64 r.2.1, .int .u64 r.2.2]) (fun _ => []) (fun _ => []) := by
 refine qQ Tryz.func88 rfl Tryz.ntmps88 rfl hm (fun w => qF (l' := [(0, .int .u64 x1), (1, .int .i64 x2)]) rfl (qf (qa (qb rfl rfl rfl (qb rfl rfl rfl (qb rfl rfl rfl (qe (qd (qf (qa (qb rfl rfl rfl (qb rfl rfl rfl ?_))))))))))))
 refine qe (qd (qC (fun (((x21, x22), _) : ((Int × Int) × Unit)) => [(1, .int .i64 x2), (7, .int .u64 x21), (8, .int .u64 x22)]) (fun (((x21, x22), _) : ((Int × Int) × Unit)) => []) (fun (((x21, x22), _) : ((Int × Int) × Unit)) => []) (fun (((x21, x22), _) : ((Int × Int) × Unit)) => []) (fun (((x21, x22), _) : ((Int × Int) × Unit)) => qdc F x2 x21 x22) ?_ ?_))
 refine qt (qM (fun (((x34, x35), _) : ((Int × Int) × Unit)) => [(0, .int .u64 x1), (1, .int .i64 x2), (7, .int .u64 x34), (8, .int .u64 x35)]) (fun (((x34, x35), _) : ((Int × Int) × Unit)) => []) (fun (((x34, x35), _) : ((Int × Int) × Unit)) => []) (fun (((x34, x35), _) : ((Int × Int) × Unit)) => []) (fun k (s : ((Int × Int) × Unit)) => vB F x1 x2 k s.1) ((0, 1), ()) F ?_)
 intro k41
 rintro ⟨⟨x34, x35⟩, _⟩
 try dsimp only
 refine qZ (m' := qbJ F x1 x2 (vB F x1 x2 k41) x34 x35) rfl (qf (qf (qa (qc rfl rfl rfl (qD rfl rfl rfl rfl (qc rfl rfl rfl (qc rfl rfl rfl (vY (fun h44 => qa5 rfl rfl rfl rfl h44 (jl rfl rfl rfl rfl (qe (qd ?_))))))))))))
 refine qy rfl (fun h46 => ?_) (fun h46 => ?_)
 refine ql (qd (qt (qf (qa (qc rfl rfl rfl (qc rfl rfl rfl (vY (fun h45 => qa5 rfl rfl rfl rfl h45 (qb rfl rfl rfl (qe (qd (qa ?_))))))))))))
 exact qc rfl rfl rfl (qD rfl rfl rfl rfl (qb rfl rfl rfl (qe (qH (qG ((iadd .u64 x34 1, ishl .u64 x35 x2), ()))))))
 exact qS (qx (qx (qT (qj ((x34, x35), ())))))
 rintro ⟨⟨x21, x22⟩, _⟩
 try dsimp only
 refine qf (qeY (fun h26 => zP mixed [] [] [] .nil qV 8 rfl (qg 0 (.int .u64 x21) rfl rfl rfl (qs rfl) (qg 1 (.int .u64 x22) rfl rfl rfl (qs rfl) (qg 2 (.int .u64 x22) rfl rfl rfl (qs rfl) (qg 3 (.int .i64 x2) rfl rfl rfl (qs rfl) (qg 4 (.int .u64 (ishl .u64 x22 x2)) rfl rfl rfl (qf9 rfl rfl h26) (qg 5 (.int .u64 x21) rfl rfl rfl (qs rfl) (qg 6 (.int .u64 x22) rfl rfl rfl (qs rfl) (qg 7 (.int .u64 (ishl .u64 x22 x2)) rfl rfl rfl (qs rfl) (zm (by kernel_rfl) (z7 ?_ (by intro c h; cases h)))))))))))))
 exact qd (qr (qm () (res3 rfl rfl rfl rfl)))
theorem qiB (F : Nat) (x1 : Int) (r : List Int) (hm : qcN F x1 = some r) :
    Pure Tryz.prog 89 [.int .u64 x1] [] (Option Addr × Nat) (fun g => .slice g.1 r.length g.2) (fun g => [Ro (eI .i64) 3 1 (.slice g.1 r.length g.2) r]) (fun _ => []) := by
 refine qQ Tryz.func89 rfl Tryz.ntmps89 rfl hm (fun w => qF (l' := [(0, .int .u64 x1)]) rfl (qf (qa (qb rfl rfl rfl (qe (qd (qf (qa (qb rfl rfl rfl (qe (qd (qC (fun ((x45, (a43, c44)) : (List Int × (Option Addr × Nat))) => [(3, .slice a43 x45.length c44)]) (fun ((x45, (a43, c44)) : (List Int × (Option Addr × Nat))) => []) (fun ((x45, (a43, c44)) : (List Int × (Option Addr × Nat))) => [Ro (eI .i64) 3 1 (.slice a43 x45.length c44) x45]) (fun ((x45, (a43, c44)) : (List Int × (Option Addr × Nat))) => []) (fun ((x45, _) : (List Int × (Option Addr × Nat))) => qcu F x45) ?_ ?_))))))))))))
 refine qf (qa (qb rfl rfl rfl (qe (qd (qt (zS Int (eI .i64) 3 1 (qM (fun (((x65, x66), (a63, c64)) : ((List Int × Int) × (Option Addr × Nat))) => [(0, .int .u64 x1), (3, .slice a63 x65.length c64), (4, .int .u64 x66)]) (fun (((x65, x66), (a63, c64)) : ((List Int × Int) × (Option Addr × Nat))) => []) (fun (((x65, x66), (a63, c64)) : ((List Int × Int) × (Option Addr × Nat))) => [Ro (eI .i64) 3 1 (.slice a63 x65.length c64) x65]) (fun (((x65, x66), (a63, c64)) : ((List Int × Int) × (Option Addr × Nat))) => []) (fun k (s : ((List Int × Int) × (Option Addr × Nat))) => vb F x1 k s.1) ((([] : List Int), 0), (none, 0)) F ?_ (hR := (.cons 0 rfl .nil)))))))))
 intro k79
 rintro ⟨⟨x65, x66⟩, ⟨a63, c64⟩⟩
 try dsimp only
 refine qZ (m' := qa4 F x1 (vb F x1 k79) x65 x66) rfl (qf (qf (qa (qc rfl rfl rfl (qc rfl rfl rfl (qP rfl rfl rfl rfl (qe (qd (qy rfl (fun h91 => ?_) (fun h91 => ?_))))))))))
 refine ql (qd (qf (qt (qa (qc rfl rfl rfl (zE (vs := [.int .i64 0]) (ys := ([0] : List Int)) (qL .i64) (by decide) rfl Tryz.underlying22 tf3 rfl rfl rfl rfl rfl (by decide) (fun a86 c87 => zy 1 (qL .i64) rfl Tryz.underlying22 tf3 rfl rfl rfl rfl rfl (.inl ⟨0, _, rfl⟩) rfl rfl (fun x88 e88 a89 c90 => qb rfl rfl rfl (qe (qH (qd (qa ?_))))))))))))
 exact qc rfl rfl rfl (qD rfl rfl rfl rfl (qb rfl rfl rfl (qe (qG ((x88, iadd .u64 x66 1), (a89, c90)) (hR := (.cons 0 rfl .nil))))))
 exact qS (qx (qx (qT (qj (x65, (a63, c64)) (hR := (.cons 0 rfl .nil))))))
 rintro ⟨x45, ⟨a43, c44⟩⟩
 try dsimp only
 exact qf (qa (qc rfl rfl rfl (zE (vs := [.int .i64 1]) (ys := ([1] : List Int)) (qL .i64) (by decide) rfl Tryz.underlying22 tf3 rfl rfl rfl rfl rfl (by decide) (fun a46 c47 => zy 1 (qL .i64) rfl Tryz.underlying22 tf3 rfl rfl rfl rfl rfl (.inl ⟨0, _, rfl⟩) rfl rfl (fun x48 e48 a49 c50 => qb rfl rfl rfl (qe (qd (qr (qm (a49, c50) (res1 rfl rfl) (fun h => by subst h; exact (.cons 0 rfl .nil)))))))))))
theorem qhg (F : Nat) (x1 : Int) (x2 : Int) (r : List Int) (hm : qc3 F x1 x2 = some r) :
    Pure Tryz.prog 111 [.int .u64 x1, .int .i64 x2] [] (Option Addr × Nat) (fun g => .slice g.1 r.length g.2) (fun g => [Ro (eI .i64) 3 1 (.slice g.1 r.length g.2) r]) (fun _ => []) := by
 refine qQ Tryz.func111 rfl Tryz.ntmps111 rfl hm (fun w => qF (l' := [(0, .int .u64 x1), (1, .int .i64 x2)]) rfl (qf (qa (qb rfl rfl rfl (qe (qd (qf (qa (qc rfl rfl rfl (ql9 (qL .i64) rfl Tryz.underlying22 tf3 rfl rfl rfl rfl rfl rfl rfl (fun x3 e3 a4 c5 => qb rfl rfl rfl (qe ?_))))))))))))
 refine qd (qC (fun ((x52, _) : (List Int × Unit)) => [(5, .slice a4 x52.length c5)]) (fun ((x52, _) : (List Int × Unit)) => []) (fun ((x52, _) : (List Int × Unit)) => [Ro (eI .i64) 3 1 (.slice a4 x52.length c5) x52]) (fun ((x52, _) : (List Int × Unit)) => []) (fun ((x52, _) : (List Int × Unit)) => qdA F x52) ?_ ?_)
 refine qf (qa (qc rfl rfl rfl (zd rfl rfl rfl rfl (qb rfl rfl rfl (qe (qd (qt (qM (fun (((x67, x68, x69), _) : ((Int × List Int × Int) × Unit)) => [(0, .int .u64 x67), (5, .slice a4 x68.length c5), (6, .int .i64 x69)]) (fun (((x67, x68, x69), _) : ((Int × List Int × Int) × Unit)) => []) (fun (((x67, x68, x69), _) : ((Int × List Int × Int) × Unit)) => [Ro (eI .i64) 3 1 (.slice a4 x68.length c5) x68]) (fun (((x67, x68, x69), _) : ((Int × List Int × Int) × Unit)) => []) (fun k (s : ((Int × List Int × Int) × Unit)) => vn F k s.1) ((x1, x3, isub .i64 x2 1), ()) F ?_ (hR := (.cons 0 rfl .nil))))))))))
 intro k84
 rintro ⟨⟨x67, x68, x69⟩, _⟩
 try dsimp only
 refine qZ (m' := jA F (vn F k84) x67 x68 x69) rfl (qf (qf (qa (qc rfl rfl rfl (jl rfl rfl rfl rfl (qe (qd (qy rfl (fun h98 => ?_) (fun h98 => ?_)))))))))
 refine ql (qd (qf (qt (qf (qa (qc rfl rfl rfl (qc rfl rfl rfl (qc rfl rfl rfl (qds rfl rfl rfl rfl rfl (q9 rfl Tryz.underlying72 Tryz.underlying3 rfl rfl (qbV (j := 0) rfl Tryz.underlying22 tf3 rfl rfl rfl rfl (fun x92 e92 g93 h94 => qeE (j := 0) (y' := iconv .i64 (irem x67 2)) (qL .i64) rfl rfl rfl tf3 rfl h94 (zW e92).2.1 rfl (fun x95 e95 h96 => ?_)))))))))))))
 have h97 : x95.length = x68.length := by rw [← e95, List.length_set]
 refine qA (d := 5) (v := .slice a4 x95.length c5) rfl h96 (qA (d := 15) (v := .slice a4 x95.length c5) rfl h96 (qe (qd (qa (qc rfl rfl rfl (qbL rfl rfl rfl rfl rfl (qb rfl rfl rfl (qe (qH (qd (qa (qc rfl rfl rfl ?_))))))))))))
 exact zd rfl rfl rfl rfl (qb rfl rfl rfl (qe (qG ((iquo .u64 x67 2, x95, isub .i64 x69 1), ()) (hR := (.cons 0 rfl .nil)))))
 exact qS (qx (qx (qT (qj (x68, ()) (hR := (.cons 0 rfl .nil))))))
 rintro ⟨x52, _⟩
 try dsimp only
 exact qf (qa (qc rfl rfl rfl (qb rfl rfl rfl (qe (qd (qr (qm (a4, c5) (res1 rfl rfl) (fun h => by subst h; exact (.cons 0 rfl .nil)))))))))
theorem qiT (F : Nat) (x1 : Int) (x2 : Int) (r : List Int) (hm : qcR F x1 x2 = some r) :
    Pure Tryz.prog 90 [.int .u64 x1, .int .u64 x2] [] (Option Addr × Nat) (fun g => .slice g.1 r.length g.2) (fun g => [Ro (eI .i64) 3 1 (.slice g.1 r.length g.2) r]) (fun _ => []) := by
 refine qQ Tryz.func90 rfl Tryz.ntmps90 rfl hm (fun w => qF (l' := [(0, .int .u64 x1), (1, .int .u64 x2)]) rfl (qf (qa (qb rfl rfl rfl (qe (qd (qf (qa (qb rfl rfl rfl (qe (qd (qC (fun ((x15, _) : (Int × Unit)) => [(0, .int .u64 x1), (1, .int .u64 x2), (5, .int .i64 x15)]) (fun ((x15, _) : (Int × Unit)) => []) (fun ((x15, _) : (Int × Unit)) => []) (fun ((x15, _) : (Int × Unit)) => []) (fun ((x15, _) : (Int × Unit)) => qcv F x1 x2 x15) ?_ ?_))))))))))))
 refine qt (qM (fun ((x30, _) : (Int × Unit)) => [(0, .int .u64 x1), (1, .int .u64 x2), (5, .int .i64 x30)]) (fun ((x30, _) : (Int × Unit)) => []) (fun ((x30, _) : (Int × Unit)) => []) (fun ((x30, _) : (Int × Unit)) => []) (fun k (s : (Int × Unit)) => vh F x1 x2 k s.1) (0, ()) F ?_)
 intro k35
 rintro ⟨x30, _⟩
 try dsimp only
 refine qZ (m' := qaY F x1 x2 (vh F x1 x2 k35) x30) rfl (qf (qf (qa (qc rfl rfl rfl (vY (fun h38 => qa5 rfl rfl rfl rfl h38 (qc rfl rfl rfl (qP rfl rfl rfl rfl (qe (qd (qy rfl (fun h39 => ?_) (fun h39 => ?_))))))))))))
 exact ql (qd (qt (qa (qc rfl rfl rfl (qD rfl rfl rfl rfl (qb rfl rfl rfl (qe (qH (qG (iadd .i64 x30 1, ()))))))))))
 exact qS (qx (qx (qT (qj (x30, ())))))
 rintro ⟨x15, _⟩
 try dsimp only
 refine qf (qa (qc rfl rfl rfl (vY (fun h16 => qa5 rfl rfl rfl rfl h16 (qc rfl rfl rfl (zd rfl rfl rfl rfl (qb rfl rfl rfl (qe (qd (qf (qf (qa ?_))))))))))))
 refine qc rfl rfl rfl (qc rfl rfl rfl (qP rfl rfl rfl rfl (qe (qd (qy rfl (fun h27 => ?_) (fun h27 => ?_))))))
 refine qf (qa (qc rfl rfl rfl (qc rfl rfl rfl (zd rfl rfl rfl rfl (qv ent111 rfl rfl rfl (fun x21 e21 => qhg F x1 (isub .i64 x15 1) x21 e21) .nil (fun x21 e21 => ?_))))))
 rintro ⟨a22, c23⟩
 exact qb rfl rfl rfl (qe (qd (qr (qn (qm (a22, c23) (res1 rfl rfl) (fun h => by subst h; exact (.cons 0 rfl .nil)))))))
 refine ql (qd (qf (qa (qc rfl rfl rfl (qc rfl rfl rfl (qD rfl rfl rfl rfl (qc rfl rfl rfl (qv ent111 rfl rfl rfl (fun x24 e24 => qhg F (iadd .u64 x1 (isub .u64 (ishl .u64 1 x15) x2)) x15 x24 e24) .nil (fun x24 e24 => ?_)))))))))
 rintro ⟨a25, c26⟩
 exact qb rfl rfl rfl (qe (qd (qr (qm (a25, c26) (res1 rfl rfl) (fun h => by subst h; exact (.cons 0 rfl .nil))))))
theorem qj3 (F : Nat) (x1 : Int) (x2 : Int) (r : List Int) (hm : qdq F x1 x2 = some r) :
    Pure Tryz.prog 64 [.int .u64 x1, .int .i64 x2] [] (Option Addr × Nat) (fun g => .slice g.1 r.length g.2) (fun g => [Ro (eI .i64) 3 1 (.slice g.1 r.length g.2) r]) (fun _ => []) := by
 refine qQ Tryz.func64 rfl Tryz.ntmps64 rfl hm (fun w => qF (l' := [(0, .int .u64 x1), (1, .int .i64 x2)]) rfl (qf (qa (qb rfl rfl rfl (qe (qd (qf (qa (qc rfl rfl rfl (qc rfl rfl rfl (qv ent88 rfl rfl rfl (fun x3 e3 => qj5 F x1 x2 x3 e3) .nil (fun x3 e3 => ?_))))))))))))
 intro _
 refine qc rfl rfl rfl (qq rfl rfl rfl rfl (qq rfl rfl rfl rfl (qq rfl rfl rfl rfl (qb rfl rfl rfl (qb rfl rfl rfl (qb rfl rfl rfl (qe (qd (qf (qa (qc rfl rfl rfl (qv ent89 rfl rfl rfl (fun x4 e4 => qiB F x3.1 x4 e4) .nil (fun x4 e4 => ?_)))))))))))))
 rintro ⟨a5, c6⟩
 refine qc rfl rfl rfl (qD rfl rfl rfl rfl (qc rfl rfl rfl (zd rfl rfl rfl rfl (qc rfl rfl rfl (qc rfl rfl rfl (zd rfl rfl rfl rfl (qv ent90 rfl rfl rfl (fun x7 e7 => qiT F (isub .u64 (iadd .u64 x1 1) x3.2.1) (isub .u64 x3.2.2 x3.2.1) x7 e7) .nil (fun x7 e7 => ?_))))))))
 rintro ⟨a8, c9⟩
 exact zy 1 (qL .i64) rfl Tryz.underlying22 tf3 rfl rfl rfl rfl rfl (.inl ⟨0, _, rfl⟩) rfl rfl (fun x10 e10 a11 c12 => qb rfl rfl rfl (qe (qd (qr (qm (a11, c12) (res1 rfl rfl) (fun h => by subst h; exact (.cons 0 rfl .nil)))))))
theorem qiI (F : Nat) (x1 : List Int) (a2 : Option Addr) (c3 : Nat) (x4 : Int) (r : List Int) (hm : qef F x1 x4 = some r) :
    Pure Tryz.prog 42 [.slice a2 x1.length c3, .int .i64 x4] [Sl (eI .u64) 1 (.slice a2 x1.length c3) x1] (Option Addr × Nat) (fun g => .slice g.1 r.length g.2) (fun g => [Ro (eI .i64) 3 1 (.slice g.1 r.length g.2) r]) (fun _ => []) := by
 refine qQ Tryz.func42 rfl Tryz.ntmps42 rfl hm (fun w => qF (l' := [(0, .slice a2 x1.length c3), (1, .int .i64 x4)]) rfl (qf (qa (qb rfl rfl rfl (qe (qd (qf (qa (qb rfl rfl rfl (qe (qd (qC (fun ((x72, (a70, c71)) : (List Int × (Option Addr × Nat))) => [(5, .slice a70 x72.length c71)]) (fun ((x72, (a70, c71)) : (List Int × (Option Addr × Nat))) => []) (fun ((x72, (a70, c71)) : (List Int × (Option Addr × Nat))) => [Ro (eI .i64) 3 1 (.slice a70 x72.length c71) x72]) (fun ((x72, (a70, c71)) : (List Int × (Option Addr × Nat))) => []) (fun ((x72, _) : (List Int × (Option Addr × Nat))) => qcB F x72) ?_ ?_))))))))))))
 refine qf (qa (qb rfl rfl rfl (qe (qd (qt (zS Int (eI .i64) 3 1 (qM (fun (((x95, x96), (a93, c94)) : ((List Int × Int) × (Option Addr × Nat))) => [(0, .slice a2 x1.length c3), (1, .int .i64 x4), (5, .slice a93 x95.length c94), (6, .int .i64 x96)]) (fun (((x95, x96), (a93, c94)) : ((List Int × Int) × (Option Addr × Nat))) => []) (fun (((x95, x96), (a93, c94)) : ((List Int × Int) × (Option Addr × Nat))) => [Ro (eI .i64) 3 1 (.slice a93 x95.length c94) x95]) (fun (((x95, x96), (a93, c94)) : ((List Int × Int) × (Option Addr × Nat))) => [Sl (eI .u64) 1 (.slice a2 x1.length c3) x1]) (fun k (s : ((List Int × Int) × (Option Addr × Nat))) => yz F x1 x4 k s.1) ((([] : List Int), 0), (none, 0)) F ?_ (hR := (.cons 0 rfl .nil)) (hF := (qi 0 rfl qu)))))))))
 intro k117
 rintro ⟨⟨x95, x96⟩, ⟨a93, c94⟩⟩
 try dsimp only
 refine qZ (m' := qbd F x1 x4 (yz F x1 x4 k117) x95 x96) rfl (qf (qf (qa (qc rfl rfl rfl (qc rfl rfl rfl (qN rfl Tryz.underlying63 rfl rfl (qP rfl rfl rfl rfl (qe (qd (qy rfl (fun h137 => ?_) (fun h137 => ?_)))))))))))
 refine ql (qd (qf (qt (qa (qc rfl rfl rfl (qc rfl rfl rfl (qc rfl rfl rfl (q7 (j := 0) (qL .u64) (by decide) rfl Tryz.underlying63 tf72 rfl rfl rfl rfl (fun x128 e128 b129 o130 => zl (j := 0) rfl rfl tf72 rfl rfl (fun _ => rfl) rfl rfl (qc rfl rfl rfl (qv ent64 rfl rfl rfl (fun x131 e131 => qj3 F x128 x4 x131 e131) .nil (fun x131 e131 => ?_))))))))))))
 rintro ⟨a132, c133⟩
 exact zy 1 (qL .i64) rfl Tryz.underlying22 tf3 rfl rfl rfl rfl rfl (.inl ⟨0, _, rfl⟩) rfl rfl (fun x134 e134 a135 c136 => qb rfl rfl rfl (qe (qH (qd (qa (qc rfl rfl rfl (qD rfl rfl rfl rfl (qb rfl rfl rfl (qe (qG ((x134, iadd .i64 x96 1), (a135, c136)) (hR := (.cons 0 rfl .nil)) (hF := (qi 1 rfl qu))))))))))))
 exact qS (qx (qx (qT (qj (x95, (a93, c94)) (hR := (.cons 0 rfl .nil))))))
 rintro ⟨x72, ⟨a70, c71⟩⟩
 try dsimp only
 exact qf (qa (qc rfl rfl rfl (qb rfl rfl rfl (qe (qd (qr (qm (a70, c71) (res1 rfl rfl) (fun h => by subst h; exact (.cons 0 rfl .nil)))))))))
theorem qlQ (F : Nat) (x1 : List Int) (a2 : Option Addr) (c3 : Nat) (x4 : Int) (r : List Int) (hm : qeU F x1 x4 = some r) :
    Pure Tryz.prog 43 [.slice a2 x1.length c3, .int .i64 x4] [Sl (eI .i64) 1 (.slice a2 x1.length c3) x1] (Option Addr × Nat) (fun g => .slice g.1 r.length g.2) (fun g => [Ro (eI .u64) 72 1 (.slice g.1 r.length g.2) r]) (fun _ => []) := by
  refine qQ Tryz.func43 rfl Tryz.ntmps43 rfl hm (fun w => ?_)
  refine qF (l' := [(0, .slice a2 x1.length c3), (1, .int .i64 x4)]) rfl ?_
  refine qf ?_
  refine qa ?_
  refine qb rfl rfl rfl ?_
  refine qe ?_
  refine qd ?_
  refine qf ?_
  refine qa ?_
  refine qb rfl rfl rfl ?_
  refine qe ?_
  refine qd ?_
  refine qC (fun ((x165, (a163, c164)) : (List Int × (Option Addr × Nat))) => [(5, .slice a163 x165.length c164)]) (fun ((x165, (a163, c164)) : (List Int × (Option Addr × Nat))) => []) (fun ((x165, (a163, c164)) : (List Int × (Option Addr × Nat))) => [Ro (eI .u64) 72 1 (.slice a163 x165.length c164) x165]) (fun ((x165, (a163, c164)) : (List Int × (Option Addr × Nat))) => []) (fun ((x165, _) : (List Int × (Option Addr × Nat))) => qd5 F x165) ?_ ?_
  · refine qf ?_
    refine qa ?_
    refine qb rfl rfl rfl ?_
    refine qe ?_
    refine qd ?_
    refine qt ?_
    refine zS Int (eI .u64) 72 1 ?_
    refine qM (fun (((x219, x220), (a217, c218)) : ((List Int × Int) × (Option Addr × Nat))) => [(0, .slice a2 x1.length c3), (1, .int .i64 x4), (5, .slice a217 x219.length c218), (6, .int .i64 x220)]) (fun (((x219, x220), (a217, c218)) : ((List Int × Int) × (Option Addr × Nat))) => []) (fun (((x219, x220), (a217, c218)) : ((List Int × Int) × (Option Addr × Nat))) => [Ro (eI .u64) 72 1 (.slice a217 x219.length c218) x219]) (fun (((x219, x220), (a217, c218)) : ((List Int × Int) × (Option Addr × Nat))) => [Sl (eI .i64) 1 (.slice a2 x1.length c3) x1]) (fun k (s : ((List Int × Int) × (Option Addr × Nat))) => jd F x1 x4 k s.1) ((([] : List Int), 0), (none, 0)) F ?_ (hR := (.cons 0 rfl .nil)) (hF := (qi 0 rfl qu))
    intro k272
    rintro ⟨⟨x219, x220⟩, ⟨a217, c218⟩⟩
    try dsimp only
    refine qZ (m' := qcJ F x1 x4 (jd F x1 x4 k272) x219 x220) rfl ?_
    refine qf ?_
    refine qf ?_
    refine qa ?_
    refine qc rfl rfl rfl ?_
    refine qc rfl rfl rfl ?_
    refine qN rfl Tryz.underlying22 rfl rfl ?_
    refine qP rfl rfl rfl rfl ?_
    refine qe ?_
    refine qd ?_
    refine qy rfl (fun h323 => ?_) (fun h323 => ?_)
    · refine ql ?_
      refine qd ?_
      refine qC (fun ((x299, (a297, c298)) : (List Int × (Option Addr × Nat))) => [(0, .slice a2 x1.length c3), (1, .int .i64 x4), (5, .slice a297 x299.length c298), (6, .int .i64 x220)]) (fun ((x299, (a297, c298)) : (List Int × (Option Addr × Nat))) => []) (fun ((x299, (a297, c298)) : (List Int × (Option Addr × Nat))) => [Ro (eI .u64) 72 1 (.slice a297 x299.length c298) x299]) (fun ((x299, (a297, c298)) : (List Int × (Option Addr × Nat))) => [Sl (eI .i64) 1 (.slice a2 x1.length c3) x1]) (fun ((x299, _) : (List Int × (Option Addr × Nat))) => qbo F (jd F x1 x4 k272) x220 x299) ?_ ?_
      · refine qt ?_
        refine qf ?_
        refine qa ?_
        refine qc rfl rfl rfl ?_
        refine zu rfl rfl rfl rfl ?_
        refine qe ?_
        refine qd ?_
        refine qy rfl (fun h322 => ?_) (fun h322 => ?_)
        · refine qa ?_
          refine qc rfl rfl rfl ?_
          refine qc rfl rfl rfl ?_
          refine q7 (j := 0) (qL .i64) (by decide) rfl Tryz.underlying22 tf3 rfl rfl rfl rfl (fun x300 e300 b301 o302 => ?_)
          refine zl (j := 0) rfl rfl tf3 rfl rfl (fun _ => rfl) rfl rfl ?_
          refine qc rfl rfl rfl ?_
          refine zd rfl rfl rfl rfl ?_
          refine qv ent41 rfl rfl rfl (fun x303 e303 => qhJ F (isub .i64 x300 x4) x303 e303) .nil (fun x303 e303 => ?_)
          intro _
          refine zE (vs := [.int .u64 x303]) (ys := ([x303] : List Int)) (qL .u64) (by decide) rfl Tryz.underlying63 tf72 rfl rfl rfl rfl rfl (by decide) (fun a304 c305 => ?_)
          refine zy 1 (qL .u64) rfl Tryz.underlying63 tf72 rfl rfl rfl rfl rfl (.inl ⟨0, _, rfl⟩) rfl rfl (fun x306 e306 a307 c308 => ?_)
          refine qb rfl rfl rfl ?_
          refine qe ?_
          refine qH ?_
          exact qj (x306, (a307, c308)) (hR := (.cons 0 rfl .nil)) (hF := (qi 1 rfl qu))
        · refine vm (j := 0) (qL .i64) (by decide) rfl (fun x309 e309 b310 o311 h312 => ?_)
          replace h312 : a2 = some ⟨b310, o311, none⟩ := h312
          refine vm (j := 1) (qL .i64) (by decide) rfl (fun x313 e313 b314 o315 h316 => ?_)
          replace h316 : a2 = some ⟨b314, o315, none⟩ := h316
          refine zP mixed [] [] [zG b314 (o315 + (isub .i64 x220 1).toNat * 1) ((eI .i64) x313), zG b310 (o311 + x220.toNat * 1) ((eI .i64) x309), Sl (eI .i64) 1 (.slice a2 x1.length c3) x1] .nil (qW 0 rfl (qW 1 rfl (qW 2 rfl qV))) 16 rfl ?_
          refine qg 0 (.slice a217 x219.length c218) rfl rfl rfl (qs rfl) ?_
          refine qg 1 (.slice a2 x1.length c3) rfl rfl rfl (qs rfl) ?_
          refine qg 2 (.int .i64 x220) rfl rfl rfl (qs rfl) ?_
          refine qJ (d := 25) (v := .slice (some ⟨b310, o311, none⟩) x1.length c3) rfl (by rw [h312] <;> rfl) ?_
          refine qg 3 (.pointer (some ⟨b310, (o311 + x220.toNat * 1), none⟩)) rfl rfl rfl (qbj Tryz.underlying22 tf3 rfl rfl (zW e309).1 (vx e309)) ?_
          refine qJ (d := 25) (v := .slice a2 x1.length c3) rfl (by rw [h312] <;> rfl) ?_
          refine z8 4 (.int .i64 x309) [] rfl rfl rfl (yC (j := 1) rfl tf3 rfl rfl (fun _ => rfl) rfl) ?_
          refine qg 5 (.slice a2 x1.length c3) rfl rfl rfl (qs rfl) ?_
          refine qg 6 (.int .i64 x220) rfl rfl rfl (qs rfl) ?_
          refine qg 7 (.int .i64 (isub .i64 x220 1)) rfl rfl rfl (qs rfl) ?_
          refine qJ (d := 29) (v := .slice (some ⟨b314, o315, none⟩) x1.length c3) rfl (by rw [h316] <;> rfl) ?_
          refine qg 8 (.pointer (some ⟨b314, (o315 + (isub .i64 x220 1).toNat * 1), none⟩)) rfl rfl rfl (qbj Tryz.underlying22 tf3 rfl rfl (zW e313).1 (vx e313)) ?_
          refine qJ (d := 29) (v := .slice a2 x1.length c3) rfl (by rw [h316] <;> rfl) ?_
          refine z8 9 (.int .i64 x313) [] rfl rfl rfl (yC (j := 0) rfl tf3 rfl rfl (fun _ => rfl) rfl) ?_
          refine qg 10 (.int .i64 (isub .i64 x309 x313)) rfl rfl rfl (qs rfl) ?_
          refine qg 11 (.int .i64 (isub .i64 (isub .i64 x309 x313) 1)) rfl rfl rfl (qs rfl) ?_
          refine qg 12 (.int .u64 (iconv .u64 (isub .i64 (isub .i64 x309 x313) 1))) rfl rfl rfl (qhs Tryz.underlying3 Tryz.underlying72 rfl) ?_
          refine q6 13 rfl (by kernel_rfl) rfl ?_
          refine zE (vs := [.int .u64 (iconv .u64 (isub .i64 (isub .i64 x309 x313) 1))]) (ys := ([iconv .u64 (isub .i64 (isub .i64 x309 x313) 1)] : List Int)) (qL .u64) (by decide) rfl Tryz.underlying63 tf72 rfl rfl rfl rfl rfl (by decide) (fun a317 c318 => ?_)
          refine qe ?_
          refine qY .nil (qW 0 rfl (qW 1 rfl (qW 2 rfl qV))) ?_
          refine q6 14 rfl (by kernel_rfl) rfl ?_
          refine zy 1 (qL .u64) rfl Tryz.underlying63 tf72 rfl rfl rfl rfl rfl (.inl ⟨0, _, rfl⟩) rfl rfl (fun x319 e319 a320 c321 => ?_)
          refine qe ?_
          refine qY .nil (qW 0 rfl (qW 1 rfl (qW 2 rfl qV))) ?_
          refine qg 15 (.slice a320 x319.length c321) rfl rfl rfl (qs rfl) ?_
          refine zm (by kernel_rfl) ?_
          refine z7 ?_ (by intro c h; cases h)
          refine qH ?_
          exact qj (x319, (a320, c321)) (hR := (.cons 0 rfl .nil)) (hF := (qi 2 rfl qu))
      · rintro ⟨x299, ⟨a297, c298⟩⟩
        try dsimp only
        refine qa ?_
        refine qc rfl rfl rfl ?_
        refine qD rfl rfl rfl rfl ?_
        refine qb rfl rfl rfl ?_
        refine qe ?_
        exact qG ((x299, iadd .i64 x220 1), (a297, c298)) (hR := (.cons 0 rfl .nil)) (hF := (qi 0 rfl qu))
    · refine qS ?_
      refine qx ?_
      refine qx ?_
      refine qT ?_
      exact qj (x219, (a217, c218)) (hR := (.cons 0 rfl .nil))
  · rintro ⟨x165, ⟨a163, c164⟩⟩
    try dsimp only
    refine qf ?_
    refine qa ?_
    refine qc rfl rfl rfl ?_
    refine qb rfl rfl rfl ?_
    refine qe ?_
    refine qd ?_
    refine qr ?_
    exact qm (a163, c164) (res1 rfl rfl) (fun h => by subst h; exact (.cons 0 rfl .nil))
set_option maxHeartbeats 4000000 in
theorem qgz (F : Nat) (x1 : Int) (x2 : List Int) (a3 : Option Addr) (c4 : Nat) (x5 : List Int) (a6 : Option Addr) (c7 : Nat) (x8 : Int) (x9 : Int) (x10 : Int) (r : List Int) (hm : qca F x1 x2 x5 x8 x9 x10 = some r) :
    Pure Tryz.prog 21 [.int .i64 x1, .slice a3 x2.length c4, .slice a6 x5.length c7, .agg #[.int .i64 x8, .int .i64 x9, .int .i64 x10]] [Sl (eI .i64) 1 (.slice a3 x2.length c4) x2, Sl (eI .i64) 1 (.slice a6 x5.length c7) x5] (Option Addr × Nat) (fun g => .slice g.1 r.length g.2) (fun g => [Ro (eI .i64) 3 1 (.slice g.1 r.length g.2) r]) (fun _ => []) := by
  refine qQ Tryz.func21 rfl Tryz.ntmps21 rfl hm (fun w => ?_)
  refine qF (l' := [(0, .int .i64 x1), (1, .slice a3 x2.length c4), (2, .slice a6 x5.length c7), (3, .agg #[.int .i64 x8, .int .i64 x9, .int .i64 x10])]) rfl ?_
  refine qf ?_
  refine qa ?_
  refine zp rfl rfl rfl (fun g11 => ?_)
  refine qb rfl rfl rfl ?_
  refine qe ?_
  refine qd ?_
  refine qf ?_
  refine qa ?_
  refine qc rfl rfl rfl ?_
  refine qN rfl Tryz.underlying22 rfl rfl ?_
  refine q9 rfl Tryz.underlying3 Tryz.underlying72 rfl rfl ?_
  refine qv ent38 rfl rfl rfl (fun x12 e12 => jc F (iconv .u64 (x2.length : Int)) x12 e12) .nil (fun x12 e12 => ?_)
  rintro ⟨a13, c14⟩
  refine qb rfl rfl rfl ?_
  refine qe ?_
  refine qd ?_
  refine qf ?_
  refine qf ?_
  refine qa ?_
  refine qc rfl rfl rfl ?_
  refine qN rfl Tryz.underlying22 rfl rfl ?_
  refine zu rfl rfl rfl rfl ?_
  refine qe ?_
  refine qd ?_
  refine qy rfl (fun h1136 => ?_) (fun h1136 => ?_)
  · refine qf ?_
    refine qa ?_
    refine qc rfl rfl rfl ?_
    refine qb rfl rfl rfl ?_
    refine qe ?_
    refine qd ?_
    refine qr ?_
    refine qn ?_
    exact qm (a13, c14) (res1 rfl rfl) (fun h => by subst h; exact (.cons 0 rfl .nil))
  · refine ql ?_
    refine qd ?_
    refine qf ?_
    refine qa ?_
    refine qc rfl rfl rfl ?_
    refine qb rfl rfl rfl ?_
    refine qe ?_
    refine qd ?_
    refine qC (fun (((x113, x116), (a111, c112, a114, c115)) : ((List Int × List Int) × (Option Addr × Nat × Option Addr × Nat))) => [(0, .int .i64 x1), (7, .pointer (some ⟨g11, 0, none⟩)), (9, .slice a111 x113.length c112), (10, .slice a114 x116.length c115)]) (fun (((x113, x116), (a111, c112, a114, c115)) : ((List Int × List Int) × (Option Addr × Nat × Option Addr × Nat))) => [⟨g11, 24, [.int .i64 x8, .int .i64 x9, .int .i64 x10]⟩]) (fun (((x113, x116), (a111, c112, a114, c115)) : ((List Int × List Int) × (Option Addr × Nat × Option Addr × Nat))) => [Ro (eI .i64) 3 1 (.slice a111 x113.length c112) x113]) (fun (((x113, x116), (a111, c112, a114, c115)) : ((List Int × List Int) × (Option Addr × Nat × Option Addr × Nat))) => [Sl (eI .i64) 1 (.slice a114 x116.length c115) x116]) (fun (((x113, x116), _) : ((List Int × List Int) × (Option Addr × Nat × Option Addr × Nat))) => yX F x1 x9 x10 x113 x116) ?_ ?_
    · refine qf ?_
      refine qa ?_
      refine qo rfl rfl qeK rfl ?_
      refine qp (i := 0) rfl rfl tf3 rfl rfl (fun _ => rfl) rfl rfl ?_
      refine zi rfl rfl rfl rfl ?_
      refine qe ?_
      refine qd ?_
      refine qy rfl (fun h1135 => ?_) (fun h1135 => ?_)
      · refine qf ?_
        refine qa ?_
        refine qb rfl rfl rfl ?_
        refine qe ?_
        refine qd ?_
        refine qf ?_
        refine qa ?_
        refine qc rfl rfl rfl ?_
        refine qc rfl rfl rfl ?_
        refine qv ent39 rfl rfl rfl (fun x1041 e1041 => qhk F x5 a6 c7 x2 a3 c4 x1041 e1041) (.consF 1 rfl (.consF 0 rfl .nil)) (fun x1041 e1041 => ?_)
        rintro ⟨⟨a1042, c1043⟩, ⟨a1044, c1045⟩⟩
        refine qc rfl rfl rfl ?_
        refine qq rfl rfl rfl rfl ?_
        refine qq rfl rfl rfl rfl ?_
        refine qb rfl rfl rfl ?_
        refine qb rfl rfl rfl ?_
        refine qe ?_
        refine qd ?_
        refine qf ?_
        refine qa ?_
        refine qc rfl rfl rfl ?_
        refine qc rfl rfl rfl ?_
        refine qN rfl Tryz.underlying22 rfl rfl ?_
        refine q9 rfl Tryz.underlying3 Tryz.underlying72 rfl rfl ?_
        refine qv ent38 rfl rfl rfl (fun x1046 e1046 => jc F (iconv .u64 (x1041.1.length : Int)) x1046 e1046) .nil (fun x1046 e1046 => ?_)
        rintro ⟨a1047, c1048⟩
        refine zy 3 (qL .i64) rfl Tryz.underlying22 tf3 rfl rfl rfl rfl rfl (.inl ⟨0, _, rfl⟩) rfl rfl (fun x1049 e1049 a1050 c1051 => ?_)
        refine qb rfl rfl rfl ?_
        refine qe ?_
        refine qd ?_
        refine qf ?_
        refine qa ?_
        refine qb rfl rfl rfl ?_
        refine qe ?_
        refine qd ?_
        refine qt ?_
        refine qM (fun (((x1080, x1081), (a1078, c1079)) : ((List Int × Int) × (Option Addr × Nat))) => [(0, .int .i64 x1), (7, .pointer (some ⟨g11, 0, none⟩)), (9, .slice a1078 x1080.length c1079), (10, .slice a1044 x1041.2.length c1045), (11, .slice a1042 x1041.1.length c1043), (12, .int .i64 x1081)]) (fun (((x1080, x1081), (a1078, c1079)) : ((List Int × Int) × (Option Addr × Nat))) => [⟨g11, 24, [.int .i64 x8, .int .i64 x9, .int .i64 x10]⟩]) (fun (((x1080, x1081), (a1078, c1079)) : ((List Int × Int) × (Option Addr × Nat))) => [Ro (eI .i64) 3 1 (.slice a1078 x1080.length c1079) x1080, Ro (eI .i64) 3 1 (.slice a1044 x1041.2.length c1045) x1041.2, Ro (eI .i64) 3 1 (.slice a1042 x1041.1.length c1043) x1041.1]) (fun (((x1080, x1081), (a1078, c1079)) : ((List Int × Int) × (Option Addr × Nat))) => []) (fun k (s : ((List Int × Int) × (Option Addr × Nat))) => kK F x1 x9 x10 x1041 k s.1) ((x1049, 0), (a1050, c1051)) F ?_ (hB := (.cons 0 rfl .nil)) (hR := (.cons 0 rfl (.cons 2 rfl (.cons 1 rfl .nil))))
        intro k1108
        rintro ⟨⟨x1080, x1081⟩, ⟨a1078, c1079⟩⟩
        try dsimp only
        refine qZ (m' := qaT F x1 x9 x10 x1041 (kK F x1 x9 x10 x1041 k1108) x1080 x1081) rfl ?_
        refine qf ?_
        refine qf ?_
        refine qa ?_
        refine qc rfl rfl rfl ?_
        refine qc rfl rfl rfl ?_
        refine qN rfl Tryz.underlying22 rfl rfl ?_
        refine qP rfl rfl rfl rfl ?_
        refine qe ?_
        refine qd ?_
        refine qy rfl (fun h1134 => ?_) (fun h1134 => ?_)
        · refine ql ?_
          refine qd ?_
          refine qf ?_
          refine qt ?_
          refine qf ?_
          refine qa ?_
          refine qc rfl rfl rfl ?_
          refine qc rfl rfl rfl ?_
          refine qbV (j := 2) rfl Tryz.underlying22 tf3 rfl rfl rfl rfl (fun x1122 e1122 g1123 h1124 => ?_)
          refine qjs (j := 2) (y := x1122) (qL .i64) rfl rfl tf3 rfl h1124 (zW e1122).2.2 (fun _ => rfl) rfl rfl ?_
          refine qb rfl rfl rfl ?_
          refine qe ?_
          refine qd ?_
          refine qC (fun ((x1126, _) : (Int × Unit)) => [(0, .int .i64 x1), (7, .pointer (some ⟨g11, 0, none⟩)), (9, .slice a1078 x1080.length c1079), (10, .slice a1044 x1041.2.length c1045), (11, .slice a1042 x1041.1.length c1043), (12, .int .i64 x1081), (13, .int .i64 x1126)]) (fun ((x1126, _) : (Int × Unit)) => [⟨g11, 24, [.int .i64 x8, .int .i64 x9, .int .i64 x10]⟩]) (fun ((x1126, _) : (Int × Unit)) => [Ro (eI .i64) 3 1 (.slice a1078 x1080.length c1079) x1080, Ro (eI .i64) 3 1 (.slice a1044 x1041.2.length c1045) x1041.2, Ro (eI .i64) 3 1 (.slice a1042 x1041.1.length c1043) x1041.1]) (fun ((x1126, _) : (Int × Unit)) => []) (fun ((x1126, _) : (Int × Unit)) => jv F (kK F x1 x9 x10 x1041 k1108) x1080 x1081 x1126) ?_ ?_
          · refine qf ?_
            refine qa ?_
            refine qc rfl rfl rfl ?_
            refine zi rfl rfl rfl rfl ?_
            refine qe ?_
            refine qd ?_
            refine qy rfl (fun h1133 => ?_) (fun h1133 => ?_)
            · refine qa ?_
              refine qc rfl rfl rfl ?_
              refine zd rfl rfl rfl rfl ?_
              refine qb rfl rfl rfl ?_
              refine qe ?_
              exact qj (isub .i64 x1122 1, ()) (hB := (.cons 0 rfl .nil)) (hR := (.cons 0 rfl (.cons 0 rfl (.cons 0 rfl .nil))))
            · refine ql ?_
              exact qj (x1122, ()) (hB := (.cons 0 rfl .nil)) (hR := (.cons 0 rfl (.cons 0 rfl (.cons 0 rfl .nil))))
          · rintro ⟨x1126, _⟩
            try dsimp only
            refine qa ?_
            refine qc rfl rfl rfl ?_
            refine qc rfl rfl rfl ?_
            refine q9 rfl Tryz.underlying3 Tryz.underlying72 rfl rfl ?_
            refine qv ent38 rfl rfl rfl (fun x1127 e1127 => jc F (iconv .u64 x1126) x1127 e1127) .nil (fun x1127 e1127 => ?_)
            rintro ⟨a1128, c1129⟩
            refine zy 1 (qL .i64) rfl Tryz.underlying22 tf3 rfl rfl rfl rfl rfl (.inl ⟨0, _, rfl⟩) rfl rfl (fun x1130 e1130 a1131 c1132 => ?_)
            refine qb rfl rfl rfl ?_
            refine qe ?_
            refine qH ?_
            refine qd ?_
            refine qa ?_
            refine qc rfl rfl rfl ?_
            refine qD rfl rfl rfl rfl ?_
            refine qb rfl rfl rfl ?_
            refine qe ?_
            exact qG ((x1130, iadd .i64 x1081 1), (a1131, c1132)) (hB := (.cons 0 rfl .nil)) (hR := (.cons 0 rfl (.cons 1 rfl (.cons 1 rfl .nil))))
        · refine qS ?_
          refine qx ?_
          refine qx ?_
          refine qT ?_
          refine qeZ 1 rfl ?_
          exact qj ((x1080, x1041.2), (a1078, c1079, a1044, c1045)) (hB := (.cons 0 rfl .nil)) (hR := (.cons 0 rfl .nil)) (hF := (qi 0 rfl qu))
      · refine ql ?_
        exact qj ((x12, x2), (a13, c14, a3, c4)) (hB := (.cons 0 rfl .nil)) (hR := (.cons 0 rfl .nil)) (hF := (qi 0 rfl qu))
    · rintro ⟨⟨x113, x116⟩, ⟨a111, c112, a114, c115⟩⟩
      try dsimp only
      refine qf ?_
      refine qf ?_
      refine qa ?_
      refine qc rfl rfl rfl ?_
      refine qN rfl Tryz.underlying22 rfl rfl ?_
      refine zu rfl rfl rfl rfl ?_
      refine qe ?_
      refine qd ?_
      refine qy rfl (fun h1040 => ?_) (fun h1040 => ?_)
      · refine qf ?_
        refine qa ?_
        refine qc rfl rfl rfl ?_
        refine qb rfl rfl rfl ?_
        refine qe ?_
        refine qd ?_
        refine qr ?_
        refine qn ?_
        exact qm (a111, c112) (res1 rfl rfl) (fun h => by subst h; exact (.cons 0 rfl .nil))
      · refine ql ?_
        refine qd ?_
        refine qC (fun (((x569, x572), (a567, c568, a570, c571)) : ((List Int × List Int) × (Option Addr × Nat × Option Addr × Nat))) => [(0, .int .i64 x1), (7, .pointer (some ⟨g11, 0, none⟩)), (9, .slice a567 x569.length c568), (10, .slice a570 x572.length c571)]) (fun (((x569, x572), (a567, c568, a570, c571)) : ((List Int × List Int) × (Option Addr × Nat × Option Addr × Nat))) => [⟨g11, 24, [.int .i64 x8, .int .i64 x9, .int .i64 x10]⟩]) (fun (((x569, x572), (a567, c568, a570, c571)) : ((List Int × List Int) × (Option Addr × Nat × Option Addr × Nat))) => [Ro (eI .i64) 3 1 (.slice a567 x569.length c568) x569]) (fun (((x569, x572), (a567, c568, a570, c571)) : ((List Int × List Int) × (Option Addr × Nat × Option Addr × Nat))) => [Sl (eI .i64) 1 (.slice a570 x572.length c571) x572]) (fun (((x569, x572), _) : ((List Int × List Int) × (Option Addr × Nat × Option Addr × Nat))) => js F x1 x10 x569 x572) ?_ ?_
        · refine qf ?_
          refine qa ?_
          refine qo rfl rfl qbl rfl ?_
          refine qp (i := 0) rfl rfl tf3 rfl rfl (fun _ => rfl) rfl rfl ?_
          refine zi rfl rfl rfl rfl ?_
          refine qe ?_
          refine qd ?_
          refine qy rfl (fun h1039 => ?_) (fun h1039 => ?_)
          · refine qf ?_
            refine qa ?_
            refine qb rfl rfl rfl ?_
            refine qe ?_
            refine qd ?_
            refine qf ?_
            refine qa ?_
            refine qc rfl rfl rfl ?_
            refine qo rfl rfl qbl rfl ?_
            refine qp (i := 0) rfl rfl tf3 rfl rfl (fun _ => rfl) rfl rfl ?_
            refine qv ent40 rfl rfl rfl (fun x591 e591 => qiH F x116 a114 c115 x9 x591 e591) (.consF 0 rfl .nil) (fun x591 e591 => ?_)
            rintro ⟨⟨a592, c593⟩, ⟨a594, c595⟩⟩
            refine qc rfl rfl rfl ?_
            refine qq rfl rfl rfl rfl ?_
            refine qq rfl rfl rfl rfl ?_
            refine qb rfl rfl rfl ?_
            refine qb rfl rfl rfl ?_
            refine qe ?_
            refine qd ?_
            refine qf ?_
            refine qa ?_
            refine qc rfl rfl rfl ?_
            refine qc rfl rfl rfl ?_
            refine qN rfl Tryz.underlying57 rfl rfl ?_
            refine q9 rfl Tryz.underlying3 Tryz.underlying72 rfl rfl ?_
            refine qv ent38 rfl rfl rfl (fun x596 e596 => jc F (iconv .u64 (x591.1.length : Int)) x596 e596) .nil (fun x596 e596 => ?_)
            rintro ⟨a597, c598⟩
            refine zy 3 (qL .i64) rfl Tryz.underlying22 tf3 rfl rfl rfl rfl rfl (.inl ⟨0, _, rfl⟩) rfl rfl (fun x599 e599 a600 c601 => ?_)
            refine qb rfl rfl rfl ?_
            refine qe ?_
            refine qd ?_
            refine qf ?_
            refine qa ?_
            refine qb rfl rfl rfl ?_
            refine qe ?_
            refine qd ?_
            refine qt ?_
            refine qM (fun (((x748, x749), (a746, c747)) : ((List Int × Int) × (Option Addr × Nat))) => [(0, .int .i64 x1), (7, .pointer (some ⟨g11, 0, none⟩)), (9, .slice a746 x748.length c747), (10, .slice a594 x591.2.length c595), (14, .slice a592 x591.1.length c593), (15, .int .i64 x749)]) (fun (((x748, x749), (a746, c747)) : ((List Int × Int) × (Option Addr × Nat))) => [⟨g11, 24, [.int .i64 x8, .int .i64 x9, .int .i64 x10]⟩]) (fun (((x748, x749), (a746, c747)) : ((List Int × Int) × (Option Addr × Nat))) => [Ro (eI .i64) 3 1 (.slice a746 x748.length c747) x748, Ro (eI .i64) 3 1 (.slice a594 x591.2.length c595) x591.2, Ro eS75 75 2 (.slice a592 x591.1.length c593) x591.1]) (fun (((x748, x749), (a746, c747)) : ((List Int × Int) × (Option Addr × Nat))) => []) (fun k (s : ((List Int × Int) × (Option Addr × Nat))) => kL F x1 x9 x10 x591 k s.1) ((x599, 0), (a600, c601)) F ?_ (hB := (.cons 0 rfl .nil)) (hR := (.cons 0 rfl (.cons 2 rfl (.cons 1 rfl .nil))))
            intro k894
            rintro ⟨⟨x748, x749⟩, ⟨a746, c747⟩⟩
            try dsimp only
            refine qZ (m' := qa7 F x1 x9 x10 x591 (kL F x1 x9 x10 x591 k894) x748 x749) rfl ?_
            refine qf ?_
            refine qf ?_
            refine qa ?_
            refine qc rfl rfl rfl ?_
            refine qc rfl rfl rfl ?_
            refine qN rfl Tryz.underlying57 rfl rfl ?_
            refine qP rfl rfl rfl rfl ?_
            refine qe ?_
            refine qd ?_
            refine qy rfl (fun h1038 => ?_) (fun h1038 => ?_)
            · refine ql ?_
              refine qd ?_
              refine qf ?_
              refine qt ?_
              refine qC (fun ((x998, (a996, c997)) : (List Int × (Option Addr × Nat))) => [(0, .int .i64 x1), (7, .pointer (some ⟨g11, 0, none⟩)), (9, .slice a996 x998.length c997), (10, .slice a594 x591.2.length c595), (14, .slice a592 x591.1.length c593), (15, .int .i64 x749)]) (fun ((x998, (a996, c997)) : (List Int × (Option Addr × Nat))) => [⟨g11, 24, [.int .i64 x8, .int .i64 x9, .int .i64 x10]⟩]) (fun ((x998, (a996, c997)) : (List Int × (Option Addr × Nat))) => [Ro (eI .i64) 3 1 (.slice a996 x998.length c997) x998, Ro (eI .i64) 3 1 (.slice a594 x591.2.length c595) x591.2, Ro eS75 75 2 (.slice a592 x591.1.length c593) x591.1]) (fun ((x998, (a996, c997)) : (List Int × (Option Addr × Nat))) => []) (fun ((x998, _) : (List Int × (Option Addr × Nat))) => jn F (kL F x1 x9 x10 x591 k894) x9 x591 x749 x998) ?_ ?_
              · refine qf ?_
                refine qa ?_
                refine qc rfl rfl rfl ?_
                refine zu rfl rfl rfl rfl ?_
                refine qe ?_
                refine qd ?_
                refine qy rfl (fun h1037 => ?_) (fun h1037 => ?_)
                · refine qa ?_
                  refine qc rfl rfl rfl ?_
                  refine qc rfl rfl rfl ?_
                  refine qbV (j := 2) rfl Tryz.underlying57 tf75 rfl rfl rfl rfl (fun x1009 e1009 g1010 h1011 => ?_)
                  refine qo rfl rfl qdg rfl ?_
                  refine qin (j := 2) (y := x1009) (off := 0) yl rfl rfl tf3 rfl h1011 (zW e1009).2.2 rfl (fun _ => rfl) rfl rfl ?_
                  refine qc rfl rfl rfl ?_
                  refine zd rfl rfl rfl rfl ?_
                  refine qv ent41 rfl rfl rfl (fun x1012 e1012 => qhJ F (isub .i64 x1009.1 x1) x1012 e1012) .nil (fun x1012 e1012 => ?_)
                  intro _
                  refine qv ent38 rfl rfl rfl (fun x1013 e1013 => jc F x1012 x1013 e1013) .nil (fun x1013 e1013 => ?_)
                  rintro ⟨a1014, c1015⟩
                  refine zy 1 (qL .i64) rfl Tryz.underlying22 tf3 rfl rfl rfl rfl rfl (.inl ⟨0, _, rfl⟩) rfl rfl (fun x1016 e1016 a1017 c1018 => ?_)
                  refine qb rfl rfl rfl ?_
                  refine qe ?_
                  exact qj (x1016, (a1017, c1018)) (hB := (.cons 0 rfl .nil)) (hR := (.cons 0 rfl (.cons 1 rfl (.cons 1 rfl .nil))))
                · refine qdB (j := 2) rfl (fun x1019 e1019 g1020 h1021 => ?_)
                  replace h1021 : a592 = some ⟨g1020, 0, none⟩ := h1021
                  have h1022 := qfo (k := x591.1.length) (c := c593) h1021
                  refine qdB (j := 2) rfl (fun x1023 e1023 g1024 h1025 => ?_)
                  replace h1025 : a592 = some ⟨g1024, 0, none⟩ := h1025
                  have h1026 := qfo (k := x591.1.length) (c := c593) h1025
                  refine qdB (j := 2) rfl (fun x1027 e1027 g1028 h1029 => ?_)
                  replace h1029 : a592 = some ⟨g1028, 0, none⟩ := h1029
                  have h1030 := qfo (k := x591.1.length) (c := c593) h1029
                  refine zP mixed [] [⟨g11, 24, [.int .i64 x8, .int .i64 x9, .int .i64 x10]⟩] [zG g1020 (x749.toNat * 2) (eS75 x1019), zG g1024 ((isub .i64 x749 1).toNat * 2) (eS75 x1023), zG g1028 ((isub .i64 x749 1).toNat * 2) (eS75 x1027)] (.cons 0 rfl .nil) (qgc 2 rfl (qbQ yl e1019 h1021) (qgc 2 rfl (qbQ yl e1023 h1025) (qgc 2 rfl (qbQ yl e1027 h1029) qV))) 26 rfl ?_
                  refine qg 0 (.slice a746 x748.length c747) rfl rfl rfl (qs rfl) ?_
                  refine qg 1 (.slice a592 x591.1.length c593) rfl rfl rfl (qs rfl) ?_
                  refine qg 2 (.int .i64 x749) rfl rfl rfl (qs rfl) ?_
                  refine qJ (d := 98) (v := .slice (some ⟨g1020, 0, none⟩) x591.1.length c593) rfl (by rw [h1021] <;> rfl) ?_
                  refine qg 3 (.pointer (some ⟨g1020, x749.toNat * 2, none⟩)) rfl rfl rfl (qe1 Tryz.underlying57 tf75 rfl rfl (zW e1019).1 (vx e1019)) ?_
                  refine qJ (d := 98) (v := .slice a592 x591.1.length c593) rfl (by rw [h1021] <;> rfl) ?_
                  refine qg 4 (.pointer (some ⟨g1020, x749.toNat * 2 + 0, none⟩)) rfl rfl rfl (qK rfl qdg) ?_
                  refine z8 5 (.int .i64 x1019.1) [] rfl rfl rfl (qfF (j := 0) (off := 0) rfl tf3 rfl rfl (fun _ => rfl) rfl) ?_
                  refine qg 6 (.slice a592 x591.1.length c593) rfl rfl rfl (qs rfl) ?_
                  refine qg 7 (.int .i64 x749) rfl rfl rfl (qs rfl) ?_
                  refine qg 8 (.int .i64 (isub .i64 x749 1)) rfl rfl rfl (qs rfl) ?_
                  refine qJ (d := 103) (v := .slice (some ⟨g1024, 0, none⟩) x591.1.length c593) rfl (by rw [h1025] <;> rfl) ?_
                  refine qg 9 (.pointer (some ⟨g1024, (isub .i64 x749 1).toNat * 2, none⟩)) rfl rfl rfl (qe1 Tryz.underlying57 tf75 rfl rfl (zW e1023).1 (vx e1023)) ?_
                  refine qJ (d := 103) (v := .slice a592 x591.1.length c593) rfl (by rw [h1025] <;> rfl) ?_
                  refine qg 10 (.pointer (some ⟨g1024, (isub .i64 x749 1).toNat * 2 + 0, none⟩)) rfl rfl rfl (qK rfl qdg) ?_
                  refine z8 11 (.int .i64 x1023.1) [] rfl rfl rfl (qfF (j := 1) (off := 0) rfl tf3 rfl rfl (fun _ => rfl) rfl) ?_
                  refine qg 12 (.slice a592 x591.1.length c593) rfl rfl rfl (qs rfl) ?_
                  refine qg 13 (.int .i64 x749) rfl rfl rfl (qs rfl) ?_
                  refine qg 14 (.int .i64 (isub .i64 x749 1)) rfl rfl rfl (qs rfl) ?_
                  refine qJ (d := 109) (v := .slice (some ⟨g1028, 0, none⟩) x591.1.length c593) rfl (by rw [h1029] <;> rfl) ?_
                  refine qg 15 (.pointer (some ⟨g1028, (isub .i64 x749 1).toNat * 2, none⟩)) rfl rfl rfl (qe1 Tryz.underlying57 tf75 rfl rfl (zW e1027).1 (vx e1027)) ?_
                  refine qJ (d := 109) (v := .slice a592 x591.1.length c593) rfl (by rw [h1029] <;> rfl) ?_
                  refine qg 16 (.pointer (some ⟨g1028, (isub .i64 x749 1).toNat * 2 + 1, none⟩)) rfl rfl rfl (qK rfl qdG) ?_
                  refine z8 17 (.int .i64 x1027.2) [] rfl rfl rfl (qfF (j := 2) (off := 1) rfl tf3 rfl rfl (fun _ => rfl) rfl) ?_
                  refine qg 18 (.int .i64 (iadd .i64 x1023.1 x1027.2)) rfl rfl rfl (qs rfl) ?_
                  refine qg 19 (.int .i64 (isub .i64 (iadd .i64 x1023.1 x1027.2) 1)) rfl rfl rfl (qs rfl) ?_
                  refine qg 20 (.int .i64 (isub .i64 x1019.1 (isub .i64 (iadd .i64 x1023.1 x1027.2) 1))) rfl rfl rfl (qs rfl) ?_
                  refine qg 21 (.int .i64 (isub .i64 (isub .i64 x1019.1 (isub .i64 (iadd .i64 x1023.1 x1027.2) 1)) 2)) rfl rfl rfl (qs rfl) ?_
                  refine qg 22 (.int .u64 (iconv .u64 (isub .i64 (isub .i64 x1019.1 (isub .i64 (iadd .i64 x1023.1 x1027.2) 1)) 2))) rfl rfl rfl (qhs Tryz.underlying3 Tryz.underlying72 rfl) ?_
                  refine q6 23 rfl (by kernel_rfl) rfl ?_
                  refine qv ent38 rfl rfl rfl (fun x1031 e1031 => jc F (iconv .u64 (isub .i64 (isub .i64 x1019.1 (isub .i64 (iadd .i64 x1023.1 x1027.2) 1)) 2)) x1031 e1031) .nil (fun x1031 e1031 => ?_)
                  rintro ⟨a1032, c1033⟩
                  refine qe ?_
                  refine qY (.cons 0 rfl .nil) (qgc 3 rfl (qbQ yl e1019 h1021) (qgc 3 rfl (qbQ yl e1023 h1025) (qgc 3 rfl (qbQ yl e1027 h1029) qV))) ?_
                  refine q6 24 rfl (by kernel_rfl) rfl ?_
                  refine zy 1 (qL .i64) rfl Tryz.underlying22 tf3 rfl rfl rfl rfl rfl (.inl ⟨0, _, rfl⟩) rfl rfl (fun x1034 e1034 a1035 c1036 => ?_)
                  refine qe ?_
                  refine qY (.cons 0 rfl .nil) (qgc 3 rfl (qbQ yl e1019 h1021) (qgc 3 rfl (qbQ yl e1023 h1025) (qgc 3 rfl (qbQ yl e1027 h1029) qV))) ?_
                  refine qg 25 (.slice a1035 x1034.length c1036) rfl rfl rfl (qs rfl) ?_
                  refine zm (by kernel_rfl) ?_
                  refine z7 ?_ (by intro c h; cases h)
                  exact qj (x1034, (a1035, c1036)) (hB := (.cons 0 rfl .nil)) (hR := (.cons 0 rfl (.cons 1 rfl (.cons 1 rfl .nil))))
              · rintro ⟨x998, ⟨a996, c997⟩⟩
                try dsimp only
                refine qdB (j := 2) rfl (fun x999 e999 g1000 h1001 => ?_)
                replace h1001 : a592 = some ⟨g1000, 0, none⟩ := h1001
                have h1002 := qfo (k := x591.1.length) (c := c593) h1001
                refine zP mixed [] [⟨g11, 24, [.int .i64 x8, .int .i64 x9, .int .i64 x10]⟩] [zG g1000 (x749.toNat * 2) (eS75 x999)] (.cons 0 rfl .nil) (qgc 2 rfl (qbQ yl e999 h1001) qV) 13 rfl ?_
                refine qg 0 (.slice a996 x998.length c997) rfl rfl rfl (qs rfl) ?_
                refine qg 1 (.slice a592 x591.1.length c593) rfl rfl rfl (qs rfl) ?_
                refine qg 2 (.int .i64 x749) rfl rfl rfl (qs rfl) ?_
                refine qJ (d := 123) (v := .slice (some ⟨g1000, 0, none⟩) x591.1.length c593) rfl (by rw [h1001] <;> rfl) ?_
                refine qg 3 (.pointer (some ⟨g1000, x749.toNat * 2, none⟩)) rfl rfl rfl (qe1 Tryz.underlying57 tf75 rfl rfl (zW e999).1 (vx e999)) ?_
                refine qJ (d := 123) (v := .slice a592 x591.1.length c593) rfl (by rw [h1001] <;> rfl) ?_
                refine qg 4 (.pointer (some ⟨g1000, x749.toNat * 2 + 1, none⟩)) rfl rfl rfl (qK rfl qdG) ?_
                refine z8 5 (.int .i64 x999.2) [] rfl rfl rfl (qfF (j := 0) (off := 1) rfl tf3 rfl rfl (fun _ => rfl) rfl) ?_
                refine qg 6 (.pointer (some ⟨g11, 1, none⟩)) rfl rfl rfl (qK rfl qbl) ?_
                refine zF 7 (.int .i64 x9) rfl rfl rfl (zB (i := 0) rfl tf3 rfl rfl (fun _ => rfl) rfl) ?_
                refine qg 8 (.int .i64 (isub .i64 x999.2 x9)) rfl rfl rfl (qs rfl) ?_
                refine qg 9 (.int .u64 (iconv .u64 (isub .i64 x999.2 x9))) rfl rfl rfl (qhs Tryz.underlying3 Tryz.underlying72 rfl) ?_
                refine q6 10 rfl (by kernel_rfl) rfl ?_
                refine qv ent38 rfl rfl rfl (fun x1003 e1003 => jc F (iconv .u64 (isub .i64 x999.2 x9)) x1003 e1003) .nil (fun x1003 e1003 => ?_)
                rintro ⟨a1004, c1005⟩
                refine qe ?_
                refine qY (.cons 0 rfl .nil) (qgc 3 rfl (qbQ yl e999 h1001) qV) ?_
                refine q6 11 rfl (by kernel_rfl) rfl ?_
                refine zy 1 (qL .i64) rfl Tryz.underlying22 tf3 rfl rfl rfl rfl rfl (.inl ⟨0, _, rfl⟩) rfl rfl (fun x1006 e1006 a1007 c1008 => ?_)
                refine qe ?_
                refine qY (.cons 0 rfl .nil) (qgc 3 rfl (qbQ yl e999 h1001) qV) ?_
                refine qg 12 (.slice a1007 x1006.length c1008) rfl rfl rfl (qs rfl) ?_
                refine zm (by kernel_rfl) ?_
                refine z7 ?_ (by intro c h; cases h)
                refine qH ?_
                refine qd ?_
                refine qa ?_
                refine qc rfl rfl rfl ?_
                refine qD rfl rfl rfl rfl ?_
                refine qb rfl rfl rfl ?_
                refine qe ?_
                exact qG ((x1006, iadd .i64 x749 1), (a1007, c1008)) (hB := (.cons 0 rfl .nil)) (hR := (.cons 0 rfl (.cons 1 rfl (.cons 1 rfl .nil))))
            · refine qS ?_
              refine qx ?_
              refine qx ?_
              refine qT ?_
              refine qeZ 1 rfl ?_
              exact qj ((x748, x591.2), (a746, c747, a594, c595)) (hB := (.cons 0 rfl .nil)) (hR := (.cons 0 rfl .nil)) (hF := (qi 0 rfl qu))
          · refine ql ?_
            exact qj ((x113, x116), (a111, c112, a114, c115)) (hB := (.cons 0 rfl .nil)) (hR := (.cons 0 rfl .nil)) (hF := (qi 0 rfl qu))
        · rintro ⟨⟨x569, x572⟩, ⟨a567, c568, a570, c571⟩⟩
          try dsimp only
          refine qf ?_
          refine zP mixed [] [⟨g11, 24, [.int .i64 x8, .int .i64 x9, .int .i64 x10]⟩] [Sl (eI .i64) 1 (.slice a570 x572.length c571) x572] (.cons 0 rfl .nil) (qW 0 rfl qV) 9 rfl ?_
          refine qg 0 (.slice a567 x569.length c568) rfl rfl rfl (qs rfl) ?_
          refine qg 1 (.slice a570 x572.length c571) rfl rfl rfl (qs rfl) ?_
          refine qg 2 (.int .i64 x1) rfl rfl rfl (qs rfl) ?_
          refine qg 4 (.pointer (some ⟨g11, 2, none⟩)) rfl rfl rfl (qK rfl qfW) ?_
          refine zF 5 (.int .i64 x10) rfl rfl rfl (zB (i := 0) rfl tf3 rfl rfl (fun _ => rfl) rfl) ?_
          refine q6 3 rfl (by kernel_rfl) rfl ?_
          refine qv ent43 rfl rfl rfl (fun x582 e582 => qlQ F x572 a570 c571 x1 x582 e582) (.consF 0 rfl .nil) (fun x582 e582 => ?_)
          rintro ⟨a583, c584⟩
          refine qe ?_
          refine qY (.cons 0 rfl .nil) (qW 0 rfl qV) ?_
          refine q6 6 rfl (by kernel_rfl) rfl ?_
          refine qv ent42 rfl rfl rfl (fun x585 e585 => qiI F x582 a583 c584 x10 x585 e585) (.consR 0 (Ro (eI .u64) 72 1 (.slice a583 x582.length c584) x582) rfl .nil) (fun x585 e585 => ?_)
          rintro ⟨a586, c587⟩
          refine qe ?_
          refine qY (.cons 0 rfl .nil) (qW 0 rfl qV) ?_
          refine q6 7 rfl (by kernel_rfl) rfl ?_
          refine zy 2 (qL .i64) rfl Tryz.underlying22 tf3 rfl rfl rfl rfl rfl (.inl ⟨0, _, rfl⟩) rfl rfl (fun x588 e588 a589 c590 => ?_)
          refine qe ?_
          refine qY (.cons 0 rfl .nil) (qW 0 rfl qV) ?_
          refine qg 8 (.slice a589 x588.length c590) rfl rfl rfl (qs rfl) ?_
          refine zm (by kernel_rfl) ?_
          refine z7 ?_ (by intro c h; cases h)
          refine qd ?_
          refine qr ?_
          exact qm (a589, c590) (res1 rfl rfl) (fun h => by subst h; exact (.cons 0 rfl .nil))
theorem qko (F : Nat) (x1 : List Int) (a2 : Option Addr) (c3 : Nat) (r : (Int × List Int)) (hm : qdu F x1 = some r) :
    Pure Tryz.prog 22 [.slice a2 x1.length c3] [Sl (eI .i64) 1 (.slice a2 x1.length c3) x1] (Option Addr × Nat) (fun g => .agg #[.int .i64 r.1, .slice g.1 r.2.length g.2]) (fun g => [Ro (eI .u8) 5 1 (.slice g.1 r.2.length g.2) r.2]) (fun _ => []) := by
  refine qQ Tryz.func22 rfl Tryz.ntmps22 rfl hm (fun w => ?_)
  refine qF (l' := [(0, .slice a2 x1.length c3)]) rfl ?_
  refine qf ?_
  refine qa ?_
  refine zL rfl tf27 rfl (fun g4 => ?_)
  refine qe ?_
  refine qd ?_
  refine qf ?_
  refine qa ?_
  refine qc rfl rfl rfl ?_
  refine qN rfl Tryz.underlying22 rfl rfl ?_
  refine zX (cells := [.int .i64 (x1.length : Int), .slice none 0 0]) rfl st27 rfl (by kernel_rfl) rfl ?_
  refine zL rfl tf27 rfl (fun g5 => ?_)
  refine qI (i := 0) rfl rfl rfl tf27 rfl rfl rfl rfl rfl ?_
  refine qe ?_
  refine qd ?_
  refine qC (fun ((x497, (a495, c496)) : (List Int × (Option Addr × Nat))) => [(2, .pointer (some ⟨g4, 0, none⟩)), (3, .pointer (some ⟨g5, 0, none⟩))]) (fun ((x497, (a495, c496)) : (List Int × (Option Addr × Nat))) => [⟨g5, 27, [.int .i64 (x1.length : Int), .slice a495 x497.length c496]⟩, ⟨g4, 27, [.int .i64 0, .slice none 0 0]⟩]) (fun ((x497, (a495, c496)) : (List Int × (Option Addr × Nat))) => [Ro (eI .u8) 5 1 (.slice a495 x497.length c496) x497]) (fun ((x497, (a495, c496)) : (List Int × (Option Addr × Nat))) => []) (fun ((x497, _) : (List Int × (Option Addr × Nat))) => qeo F x1 x497) ?_ ?_
  · refine qf ?_
    refine qa ?_
    refine qb rfl rfl rfl ?_
    refine qe ?_
    refine qd ?_
    refine qt ?_
    refine zS Int (eI .u8) 5 1 ?_
    refine qM (fun (((x660, x663), (a661, c662)) : ((Int × List Int) × (Option Addr × Nat))) => [(0, .slice a2 x1.length c3), (2, .pointer (some ⟨g4, 0, none⟩)), (3, .pointer (some ⟨g5, 0, none⟩)), (4, .int .i64 x660)]) (fun (((x660, x663), (a661, c662)) : ((Int × List Int) × (Option Addr × Nat))) => [⟨g5, 27, [.int .i64 (x1.length : Int), .slice a661 x663.length c662]⟩, ⟨g4, 27, [.int .i64 0, .slice none 0 0]⟩]) (fun (((x660, x663), (a661, c662)) : ((Int × List Int) × (Option Addr × Nat))) => [Ro (eI .u8) 5 1 (.slice a661 x663.length c662) x663]) (fun (((x660, x663), (a661, c662)) : ((Int × List Int) × (Option Addr × Nat))) => [Sl (eI .i64) 1 (.slice a2 x1.length c3) x1]) (fun k (s : ((Int × List Int) × (Option Addr × Nat))) => zR F x1 k s.1) ((0, ([] : List Int)), (none, 0)) F ?_ (hB := (.cons 0 rfl (.cons 0 rfl .nil))) (hR := (.cons 0 rfl .nil)) (hF := (qi 0 rfl qu))
    intro k825
    rintro ⟨⟨x660, x663⟩, ⟨a661, c662⟩⟩
    try dsimp only
    refine qZ (m' := qbg F x1 (zR F x1 k825) x660 x663) rfl ?_
    refine qf ?_
    refine qf ?_
    refine qa ?_
    refine qc rfl rfl rfl ?_
    refine qc rfl rfl rfl ?_
    refine qN rfl Tryz.underlying22 rfl rfl ?_
    refine qP rfl rfl rfl rfl ?_
    refine qe ?_
    refine qd ?_
    refine qy rfl (fun h986 => ?_) (fun h986 => ?_)
    · refine ql ?_
      refine qd ?_
      refine qC (fun ((x907, (a905, c906)) : (List Int × (Option Addr × Nat))) => [(0, .slice a2 x1.length c3), (2, .pointer (some ⟨g4, 0, none⟩)), (3, .pointer (some ⟨g5, 0, none⟩)), (4, .int .i64 x660)]) (fun ((x907, (a905, c906)) : (List Int × (Option Addr × Nat))) => [⟨g5, 27, [.int .i64 (x1.length : Int), .slice a905 x907.length c906]⟩, ⟨g4, 27, [.int .i64 0, .slice none 0 0]⟩]) (fun ((x907, (a905, c906)) : (List Int × (Option Addr × Nat))) => [Ro (eI .u8) 5 1 (.slice a905 x907.length c906) x907]) (fun ((x907, (a905, c906)) : (List Int × (Option Addr × Nat))) => [Sl (eI .i64) 1 (.slice a2 x1.length c3) x1]) (fun ((x907, _) : (List Int × (Option Addr × Nat))) => qb7 F (zR F x1 k825) x660 x907) ?_ ?_
      · refine qt ?_
        refine qf ?_
        refine qa ?_
        refine qb rfl rfl rfl ?_
        refine qe ?_
        refine qd ?_
        refine qC (fun ((x944, _) : (Int × Unit)) => [(0, .slice a2 x1.length c3), (2, .pointer (some ⟨g4, 0, none⟩)), (3, .pointer (some ⟨g5, 0, none⟩)), (4, .int .i64 x660), (5, .int .i64 x944)]) (fun ((x944, _) : (Int × Unit)) => [⟨g5, 27, [.int .i64 (x1.length : Int), .slice a661 x663.length c662]⟩, ⟨g4, 27, [.int .i64 0, .slice none 0 0]⟩]) (fun ((x944, _) : (Int × Unit)) => [Ro (eI .u8) 5 1 (.slice a661 x663.length c662) x663]) (fun ((x944, _) : (Int × Unit)) => [Sl (eI .i64) 1 (.slice a2 x1.length c3) x1]) (fun ((x944, _) : (Int × Unit)) => qaz F (zR F x1 k825) x660 x663 x944) ?_ ?_
        · refine qf ?_
          refine qa ?_
          refine qb rfl rfl rfl ?_
          refine qe ?_
          refine qd ?_
          refine qt ?_
          refine qM (fun (((x961, x962), _) : ((Int × Int) × Unit)) => [(0, .slice a2 x1.length c3), (2, .pointer (some ⟨g4, 0, none⟩)), (3, .pointer (some ⟨g5, 0, none⟩)), (4, .int .i64 x660), (5, .int .i64 x961), (6, .int .i64 x962)]) (fun (((x961, x962), _) : ((Int × Int) × Unit)) => [⟨g5, 27, [.int .i64 (x1.length : Int), .slice a661 x663.length c662]⟩, ⟨g4, 27, [.int .i64 0, .slice none 0 0]⟩]) (fun (((x961, x962), _) : ((Int × Int) × Unit)) => [Ro (eI .u8) 5 1 (.slice a661 x663.length c662) x663]) (fun (((x961, x962), _) : ((Int × Int) × Unit)) => [Sl (eI .i64) 1 (.slice a2 x1.length c3) x1]) (fun k (s : ((Int × Int) × Unit)) => yd F (zR F x1 k825) x1 x660 x663 k s.1) ((0, 0), ()) F ?_ (hB := (.cons 0 rfl (.cons 0 rfl .nil))) (hR := (.cons 0 rfl .nil)) (hF := (qi 0 rfl qu))
          intro k974
          rintro ⟨⟨x961, x962⟩, _⟩
          try dsimp only
          refine qZ (m' := qau F (zR F x1 k825) x1 x660 x663 (yd F (zR F x1 k825) x1 x660 x663 k974) x961 x962) rfl ?_
          refine qf ?_
          refine qf ?_
          refine qa ?_
          refine qc rfl rfl rfl ?_
          refine qP rfl rfl rfl rfl ?_
          refine qe ?_
          refine qd ?_
          refine qy rfl (fun h985 => ?_) (fun h985 => ?_)
          · refine ql ?_
            refine qd ?_
            refine qC (fun ((x980, _) : (Int × Unit)) => [(0, .slice a2 x1.length c3), (2, .pointer (some ⟨g4, 0, none⟩)), (3, .pointer (some ⟨g5, 0, none⟩)), (4, .int .i64 x660), (5, .int .i64 x980), (6, .int .i64 x962)]) (fun ((x980, _) : (Int × Unit)) => [⟨g5, 27, [.int .i64 (x1.length : Int), .slice a661 x663.length c662]⟩, ⟨g4, 27, [.int .i64 0, .slice none 0 0]⟩]) (fun ((x980, _) : (Int × Unit)) => [Ro (eI .u8) 5 1 (.slice a661 x663.length c662) x663]) (fun ((x980, _) : (Int × Unit)) => [Sl (eI .i64) 1 (.slice a2 x1.length c3) x1]) (fun ((x980, _) : (Int × Unit)) => vU F (yd F (zR F x1 k825) x1 x660 x663 k974) x962 x980) ?_ ?_
            · refine qt ?_
              refine qf ?_
              refine qa ?_
              refine qc rfl rfl rfl ?_
              refine qdp rfl rfl rfl rfl ?_
              refine qb rfl rfl rfl ?_
              refine qe ?_
              refine qd ?_
              refine qf ?_
              refine qa ?_
              refine qc rfl rfl rfl ?_
              refine qc rfl rfl rfl ?_
              refine qD rfl rfl rfl rfl ?_
              refine qc rfl rfl rfl ?_
              refine qN rfl Tryz.underlying22 rfl rfl ?_
              refine qP rfl rfl rfl rfl ?_
              refine qe ?_
              refine qd ?_
              refine qy rfl (fun h984 => ?_) (fun h984 => ?_)
              · refine qa ?_
                refine qc rfl rfl rfl ?_
                refine qc rfl rfl rfl ?_
                refine qc rfl rfl rfl ?_
                refine qc rfl rfl rfl ?_
                refine qD rfl rfl rfl rfl ?_
                refine q7 (j := 0) (qL .i64) (by decide) rfl Tryz.underlying22 tf3 rfl rfl rfl rfl (fun x981 e981 b982 o983 => ?_)
                refine zl (j := 0) rfl rfl tf3 rfl rfl (fun _ => rfl) rfl rfl ?_
                refine qD rfl rfl rfl rfl ?_
                refine qb rfl rfl rfl ?_
                refine qe ?_
                refine qH ?_
                exact qj (iadd .i64 (imul .i64 2 x961) x981, ()) (hB := (.cons 0 rfl (.cons 0 rfl .nil))) (hR := (.cons 0 rfl .nil)) (hF := (qi 1 rfl qu))
              · refine ql ?_
                refine qH ?_
                exact qj (imul .i64 2 x961, ()) (hB := (.cons 0 rfl (.cons 0 rfl .nil))) (hR := (.cons 0 rfl .nil)) (hF := (qi 0 rfl qu))
            · rintro ⟨x980, _⟩
              try dsimp only
              refine qa ?_
              refine qc rfl rfl rfl ?_
              refine qD rfl rfl rfl rfl ?_
              refine qb rfl rfl rfl ?_
              refine qe ?_
              exact qG ((x980, iadd .i64 x962 1), ()) (hB := (.cons 0 rfl (.cons 0 rfl .nil))) (hR := (.cons 0 rfl .nil)) (hF := (qi 0 rfl qu))
          · refine qS ?_
            refine qx ?_
            refine qx ?_
            refine qT ?_
            exact qj (x961, ()) (hB := (.cons 0 rfl (.cons 0 rfl .nil))) (hR := (.cons 0 rfl .nil)) (hF := (qi 0 rfl qu))
        · rintro ⟨x944, _⟩
          try dsimp only
          refine qa ?_
          refine qo rfl rfl qbT rfl ?_
          refine qp (i := 0) rfl rfl tf25 rfl rfl (fun _ => rfl) rfl rfl ?_
          refine qc rfl rfl rfl ?_
          refine q9 rfl Tryz.underlying3 Tryz.underlying5 rfl rfl ?_
          refine zE (vs := [.int .u8 (iconv .u8 x944)]) (ys := ([iconv .u8 x944] : List Int)) (qL .u8) (by decide) rfl Tryz.underlying25 tf5 rfl rfl rfl rfl rfl (by decide) (fun a945 c946 => ?_)
          refine zy 1 (qL .u8) rfl Tryz.underlying25 tf5 rfl rfl rfl rfl rfl (.inl ⟨0, _, rfl⟩) rfl rfl (fun x947 e947 a948 c949 => ?_)
          refine qo rfl rfl qbT rfl ?_
          refine qI (i := 0) rfl rfl rfl tf25 rfl rfl rfl rfl rfl ?_
          refine qe ?_
          refine qH ?_
          exact qj (x947, (a948, c949)) (hB := (.cons 0 rfl (.cons 0 rfl .nil))) (hR := (.cons 0 rfl .nil)) (hF := (qi 0 rfl qu))
      · rintro ⟨x907, ⟨a905, c906⟩⟩
        try dsimp only
        refine qa ?_
        refine qc rfl rfl rfl ?_
        refine qD rfl rfl rfl rfl ?_
        refine qb rfl rfl rfl ?_
        refine qe ?_
        exact qG ((iadd .i64 x660 8, x907), (a905, c906)) (hB := (.cons 0 rfl (.cons 0 rfl .nil))) (hR := (.cons 0 rfl .nil)) (hF := (qi 0 rfl qu))
    · refine qS ?_
      refine qx ?_
      refine qx ?_
      refine qT ?_
      exact qj (x663, (a661, c662)) (hB := (.cons 0 rfl (.cons 0 rfl .nil))) (hR := (.cons 0 rfl .nil))
  · rintro ⟨x497, ⟨a495, c496⟩⟩
    try dsimp only
    refine qf ?_
    refine qa ?_
    refine qp (i := 0) rfl rfl tf27 rfl rfl (by simp) rfl rfl ?_
    refine qI (i := 1) rfl rfl rfl tf27 rfl rfl rfl rfl rfl ?_
    refine qe ?_
    refine qd ?_
    refine qr ?_
    exact qm (a495, c496) (resL (rs := [.cell 2 27]) rfl (.cell (i := 1) rfl tf27 rfl rfl (by simp) rfl ResOk.nil) rfl) (fun h => by subst h; exact (.cons 0 rfl .nil))
end Go.Proofs.YtidnfcdnhdbolaaGreat
