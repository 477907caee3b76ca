/- Each Go function of this seat computes what its model says, part 2. -/
import Derived.Test.YtilaklhajonenaaWalks
namespace Go.Proofs.Ytilaklhajonenaa
open Go SX
set_option maxHeartbeats 4000000 in
theorem C_R_HuffLengths (F : Nat) (x1 : List Int) (a2 : Option Addr) (c3 : Nat) (r : (List Int × Int)) (hm : M_R_HuffLengths F x1 = some r) :
    Pure Try.prog 15 [.slice a2 x1.length c3] [Sl (eI .i64) 1 (.slice a2 x1.length c3) x1] (Option Addr × Nat) (fun g => .tuple #[.slice g.1 r.1.length g.2, .int .i64 r.2]) (fun g => [Ro (eI .i64) 3 1 (.slice g.1 r.1.length g.2) r.1]) (fun _ => []) := by
  refine pure_of Try.func15 rfl Try.ntmps15 rfl hm (fun w => ?_)
  refine sxc_env (l' := [(0, .slice a2 x1.length c3)]) rfl ?_
  refine sxc_seq ?_
  refine sxc_region ?_
  refine sxo_assign rfl rfl rfl ?_
  refine sxo_assign rfl rfl rfl ?_
  refine sxo_nil ?_
  refine sxq_next ?_
  refine sxc_seq ?_
  refine sxc_region ?_
  refine sxo_move rfl rfl rfl ?_
  refine sxo_call ent37 rfl rfl rfl (fun x4 e4 => C_R_HuffErr F x1 a2 c3 x4 e4) (.consF 0 rfl .nil) (fun x4 e4 => ?_)
  intro _
  refine sxo_assign rfl rfl rfl ?_
  refine sxo_nil ?_
  refine sxq_next ?_
  refine sxc_seq ?_
  refine sxc_seq ?_
  refine sxc_region ?_
  refine sxo_move rfl rfl rfl ?_
  refine sxo_neq rfl rfl rfl rfl ?_
  refine sxo_nil ?_
  refine sxq_next ?_
  refine sxc_if rfl (fun h8865 => ?_) (fun h8865 => ?_)
  · refine sxc_seq ?_
    refine sxc_region ?_
    refine sxo_move rfl rfl rfl ?_
    refine sxo_assign rfl rfl rfl ?_
    refine sxo_assign rfl rfl rfl ?_
    refine sxo_nil ?_
    refine sxq_next ?_
    refine sxc_ret ?_
    refine sxq_thenR ?_
    refine sxq_nilrow Int (eI .i64) 3 1 ?_
    exact sxq_doneP (none, 0) (res2 rfl rfl rfl) (fun h => by subst h; exact (.cons 0 rfl .nil))
  · refine sxc_skip ?_
    refine sxq_next ?_
    refine sxc_seq ?_
    refine sxc_region ?_
    refine sxo_move rfl rfl rfl ?_
    refine sxo_len rfl Try.underlying22 rfl rfl ?_
    refine sxo_assign rfl rfl rfl ?_
    refine sxo_nil ?_
    refine sxq_next ?_
    refine sxc_seq ?_
    refine sxc_region ?_
    refine sxo_move rfl rfl rfl ?_
    refine sxo_mk (eI_ok .i64) rfl Try.underlying22 tf3 rfl rfl rfl rfl rfl rfl rfl (fun x6 e6 a7 c8 => ?_)
    refine sxo_assign rfl rfl rfl ?_
    refine sxo_nil ?_
    refine sxq_next ?_
    refine sxc_seq ?_
    refine sxc_region ?_
    refine sxo_slit (vs := []) (ys := ([] : List Int)) (eI_ok .i64) (by decide) rfl Try.underlying22 tf3 rfl rfl rfl rfl rfl (by decide) (fun a9 c10 => ?_)
    refine sxo_move rfl rfl rfl ?_
    refine sxo_app 0 (eI_ok .i64) rfl Try.underlying22 tf3 rfl rfl rfl rfl rfl (.inr ⟨0, rfl⟩) rfl rfl (fun x11 e11 a12 c13 => ?_)
    refine sxo_assign rfl rfl rfl ?_
    refine sxo_nil ?_
    refine sxq_next ?_
    refine sxc_seq ?_
    refine sxc_region ?_
    refine sxo_move rfl rfl rfl ?_
    refine sxo_mk (eI_ok .i64) rfl Try.underlying22 tf3 rfl rfl rfl rfl rfl rfl rfl (fun x14 e14 a15 c16 => ?_)
    refine sxo_assign rfl rfl rfl ?_
    refine sxo_nil ?_
    refine sxq_next ?_
    refine sxc_seq ?_
    refine sxc_region ?_
    refine sxo_assign rfl rfl rfl ?_
    refine sxo_nil ?_
    refine sxq_next ?_
    refine sxc_join (fun (((x93, x94), _) : ((List Int × Int) × Unit)) => [(0, .slice a2 x1.length c3), (5, .int .i64 (x1.length : Int)), (6, .slice a7 x93.length c8), (7, .slice a12 x11.length c13), (8, .slice a15 x14.length c16), (9, .int .i64 x94)]) (fun (((x93, x94), _) : ((List Int × Int) × Unit)) => []) (fun (((x93, x94), _) : ((List Int × Int) × Unit)) => [Ro (eI .i64) 3 1 (.slice a7 x93.length c8) x93, Ro (eI .i64) 3 1 (.slice a12 x11.length c13) x11, Ro (eI .i64) 3 1 (.slice a15 x14.length c16) x14]) (fun (((x93, x94), _) : ((List Int × Int) × Unit)) => [Sl (eI .i64) 1 (.slice a2 x1.length c3) x1]) (fun (((x93, x94), _) : ((List Int × Int) × Unit)) => M_R_HuffLengths_j5 F x1 x11 x14 x93 x94) ?_ ?_
    · refine sxc_seq ?_
      refine sxc_region ?_
      refine sxo_assign rfl rfl rfl ?_
      refine sxo_nil ?_
      refine sxq_next ?_
      refine sxc_block ?_
      refine sxc_loopP (fun (((x8813, x8814, x8815), _) : ((List Int × Int × Int) × Unit)) => [(0, .slice a2 x1.length c3), (5, .int .i64 (x1.length : Int)), (6, .slice a7 x8813.length c8), (7, .slice a12 x11.length c13), (8, .slice a15 x14.length c16), (9, .int .i64 x8814), (10, .int .i64 x8815)]) (fun (((x8813, x8814, x8815), _) : ((List Int × Int × Int) × Unit)) => []) (fun (((x8813, x8814, x8815), _) : ((List Int × Int × Int) × Unit)) => [Ro (eI .i64) 3 1 (.slice a7 x8813.length c8) x8813, Ro (eI .i64) 3 1 (.slice a12 x11.length c13) x11, Ro (eI .i64) 3 1 (.slice a15 x14.length c16) x14]) (fun (((x8813, x8814, x8815), _) : ((List Int × Int × Int) × Unit)) => [Sl (eI .i64) 1 (.slice a2 x1.length c3) x1]) (fun k (s : ((List Int × Int × Int) × Unit)) => M_R_HuffLengths_l641 F x1 x11 x14 k s.1) ((x6, 0, 0), ()) F ?_ (hR := (.cons 2 rfl (.cons 1 rfl (.cons 0 rfl .nil)))) (hF := (fk_cons 0 rfl fk_nil))
      intro k8840
      rintro ⟨⟨x8813, x8814, x8815⟩, _⟩
      try dsimp only
      refine sxc_meq (m' := M_R_HuffLengths_b641 F x1 x11 x14 (M_R_HuffLengths_l641 F x1 x11 x14 k8840) x8813 x8814 x8815) rfl ?_
      refine sxc_seq ?_
      refine sxc_seq ?_
      refine sxc_region ?_
      refine sxo_move rfl rfl rfl ?_
      refine sxo_move rfl rfl rfl ?_
      refine sxo_lss rfl rfl rfl rfl ?_
      refine sxo_nil ?_
      refine sxq_next ?_
      refine sxc_if rfl (fun h8864 => ?_) (fun h8864 => ?_)
      · refine sxc_skip ?_
        refine sxq_next ?_
        refine sxc_join (fun (((x8852, x8853), _) : ((List Int × Int) × Unit)) => [(0, .slice a2 x1.length c3), (5, .int .i64 (x1.length : Int)), (6, .slice a7 x8852.length c8), (7, .slice a12 x11.length c13), (8, .slice a15 x14.length c16), (9, .int .i64 x8853), (10, .int .i64 x8815)]) (fun (((x8852, x8853), _) : ((List Int × Int) × Unit)) => []) (fun (((x8852, x8853), _) : ((List Int × Int) × Unit)) => [Ro (eI .i64) 3 1 (.slice a7 x8852.length c8) x8852, Ro (eI .i64) 3 1 (.slice a12 x11.length c13) x11, Ro (eI .i64) 3 1 (.slice a15 x14.length c16) x14]) (fun (((x8852, x8853), _) : ((List Int × Int) × Unit)) => [Sl (eI .i64) 1 (.slice a2 x1.length c3) x1]) (fun (((x8852, x8853), _) : ((List Int × Int) × Unit)) => M_R_HuffLengths_j642 F (M_R_HuffLengths_l641 F x1 x11 x14 k8840) x8815 x8852 x8853) ?_ ?_
        · refine sxc_block ?_
          refine sxc_seq ?_
          refine sxc_region ?_
          refine sxo_move rfl rfl rfl ?_
          refine sxo_move rfl rfl rfl ?_
          refine sxo_move rfl rfl rfl ?_
          refine sxo_indexR (j := 0) rfl Try.underlying22 tf3 rfl rfl rfl rfl (fun x8854 e8854 g8855 h8856 => ?_)
          refine sxo_storeL (j := 0) (y' := x8815) (eI_ok .i64) rfl rfl rfl tf3 rfl h8856 (idx_get e8854).2.1 rfl (fun x8857 e8857 h8858 => ?_)
          have h8859 : x8857.length = x8813.length := by rw [← e8857, List.length_set]
          refine sxo_again (d := 6) (v := .slice a7 x8857.length c8) rfl h8858 ?_
          refine sxo_again (d := 36) (v := .slice a7 x8857.length c8) rfl h8858 ?_
          refine sxo_nil ?_
          refine sxq_next ?_
          refine sxc_seq ?_
          refine sxc_region ?_
          refine sxo_move rfl rfl rfl ?_
          refine sxo_move rfl rfl rfl ?_
          refine sxo_indexF (j := 0) (eI_ok .i64) (by decide) rfl Try.underlying22 tf3 rfl rfl rfl rfl (fun x8860 e8860 b8861 o8862 => ?_)
          refine sxo_loadF (j := 0) rfl rfl tf3 rfl rfl (fun _ => rfl) rfl rfl ?_
          refine sxo_gtr rfl rfl rfl rfl ?_
          refine sxo_nil ?_
          refine sxq_next ?_
          refine sxc_if rfl (fun h8863 => ?_) (fun h8863 => ?_)
          · refine sxc_region ?_
            refine sxo_move rfl rfl rfl ?_
            refine sxo_add rfl rfl rfl rfl ?_
            refine sxo_assign rfl rfl rfl ?_
            refine sxo_nil ?_
            refine sxq_blkN ?_
            exact sxq_meetP ((x8857, iadd .i64 x8814 1), ()) (hR := (.cons 0 rfl (.cons 0 rfl (.cons 0 rfl .nil)))) (hF := (fk_cons 1 rfl fk_nil))
          · refine sxc_skip ?_
            refine sxq_blkN ?_
            exact sxq_meetP ((x8857, x8814), ()) (hR := (.cons 0 rfl (.cons 0 rfl (.cons 0 rfl .nil)))) (hF := (fk_cons 1 rfl fk_nil))
        · rintro ⟨⟨x8852, x8853⟩, _⟩
          try dsimp only
          refine sxc_region ?_
          refine sxo_move rfl rfl rfl ?_
          refine sxo_add rfl rfl rfl rfl ?_
          refine sxo_assign rfl rfl rfl ?_
          refine sxo_nil ?_
          exact sxq_againP ((x8852, x8853, iadd .i64 x8815 1), ()) (hR := (.cons 0 rfl (.cons 0 rfl (.cons 0 rfl .nil)))) (hF := (fk_cons 0 rfl fk_nil))
      · refine sxc_exit ?_
        refine sxq_thenX ?_
        refine sxq_thenX ?_
        refine sxq_blkX ?_
        exact sxq_meetP ((x8813, x8814), ()) (hR := (.cons 0 rfl (.cons 0 rfl (.cons 0 rfl .nil)))) (hF := (fk_cons 0 rfl fk_nil))
    · rintro ⟨⟨x93, x94⟩, _⟩
      try dsimp only
      refine sxc_join (fun ((x168, _) : (List Int × Unit)) => [(0, .slice a2 x1.length c3), (5, .int .i64 (x1.length : Int)), (6, .slice a7 x93.length c8), (7, .slice a12 x11.length c13), (8, .slice a15 x168.length c16), (9, .int .i64 x94)]) (fun ((x168, _) : (List Int × Unit)) => []) (fun ((x168, _) : (List Int × Unit)) => [Ro (eI .i64) 3 1 (.slice a7 x93.length c8) x93, Ro (eI .i64) 3 1 (.slice a12 x11.length c13) x11, Ro (eI .i64) 3 1 (.slice a15 x168.length c16) x168]) (fun ((x168, _) : (List Int × Unit)) => [Sl (eI .i64) 1 (.slice a2 x1.length c3) x1]) (fun ((x168, _) : (List Int × Unit)) => M_R_HuffLengths_j10 F x1 x11 x93 x94 x168) ?_ ?_
      · refine sxc_seq ?_
        refine sxc_region ?_
        refine sxo_move rfl rfl rfl ?_
        refine sxo_eql rfl rfl rfl rfl ?_
        refine sxo_nil ?_
        refine sxq_next ?_
        refine sxc_if rfl (fun h8788 => ?_) (fun h8788 => ?_)
        · refine sxc_seq ?_
          refine sxc_region ?_
          refine sxo_assign rfl rfl rfl ?_
          refine sxo_nil ?_
          refine sxq_next ?_
          refine sxc_block ?_
          refine sxc_loopP (fun (((x8739, x8740), _) : ((List Int × Int) × Unit)) => [(0, .slice a2 x1.length c3), (5, .int .i64 (x1.length : Int)), (6, .slice a7 x93.length c8), (7, .slice a12 x11.length c13), (8, .slice a15 x8739.length c16), (9, .int .i64 x94), (11, .int .i64 x8740)]) (fun (((x8739, x8740), _) : ((List Int × Int) × Unit)) => []) (fun (((x8739, x8740), _) : ((List Int × Int) × Unit)) => [Ro (eI .i64) 3 1 (.slice a7 x93.length c8) x93, Ro (eI .i64) 3 1 (.slice a12 x11.length c13) x11, Ro (eI .i64) 3 1 (.slice a15 x8739.length c16) x8739]) (fun (((x8739, x8740), _) : ((List Int × Int) × Unit)) => [Sl (eI .i64) 1 (.slice a2 x1.length c3) x1]) (fun k (s : ((List Int × Int) × Unit)) => M_R_HuffLengths_l637 F x1 x11 x93 x94 k s.1) ((x14, 0), ()) F ?_ (hR := (.cons 0 rfl (.cons 0 rfl (.cons 0 rfl .nil)))) (hF := (fk_cons 0 rfl fk_nil))
          intro k8764
          rintro ⟨⟨x8739, x8740⟩, _⟩
          try dsimp only
          refine sxc_meq (m' := M_R_HuffLengths_b637 F x1 x11 x93 x94 (M_R_HuffLengths_l637 F x1 x11 x93 x94 k8764) x8739 x8740) rfl ?_
          refine sxc_seq ?_
          refine sxc_seq ?_
          refine sxc_region ?_
          refine sxo_move rfl rfl rfl ?_
          refine sxo_move rfl rfl rfl ?_
          refine sxo_lss rfl rfl rfl rfl ?_
          refine sxo_nil ?_
          refine sxq_next ?_
          refine sxc_if rfl (fun h8787 => ?_) (fun h8787 => ?_)
          · refine sxc_skip ?_
            refine sxq_next ?_
            refine sxc_join (fun ((x8776, _) : (List Int × Unit)) => [(0, .slice a2 x1.length c3), (5, .int .i64 (x1.length : Int)), (6, .slice a7 x93.length c8), (7, .slice a12 x11.length c13), (8, .slice a15 x8776.length c16), (9, .int .i64 x94), (11, .int .i64 x8740)]) (fun ((x8776, _) : (List Int × Unit)) => []) (fun ((x8776, _) : (List Int × Unit)) => [Ro (eI .i64) 3 1 (.slice a7 x93.length c8) x93, Ro (eI .i64) 3 1 (.slice a12 x11.length c13) x11, Ro (eI .i64) 3 1 (.slice a15 x8776.length c16) x8776]) (fun ((x8776, _) : (List Int × Unit)) => [Sl (eI .i64) 1 (.slice a2 x1.length c3) x1]) (fun ((x8776, _) : (List Int × Unit)) => M_R_HuffLengths_j638 F (M_R_HuffLengths_l637 F x1 x11 x93 x94 k8764) x8740 x8776) ?_ ?_
            · refine sxc_block ?_
              refine sxc_seq ?_
              refine sxc_region ?_
              refine sxo_move rfl rfl rfl ?_
              refine sxo_move rfl rfl rfl ?_
              refine sxo_indexF (j := 0) (eI_ok .i64) (by decide) rfl Try.underlying22 tf3 rfl rfl rfl rfl (fun x8777 e8777 b8778 o8779 => ?_)
              refine sxo_loadF (j := 0) rfl rfl tf3 rfl rfl (fun _ => rfl) rfl rfl ?_
              refine sxo_gtr rfl rfl rfl rfl ?_
              refine sxo_nil ?_
              refine sxq_next ?_
              refine sxc_if rfl (fun h8786 => ?_) (fun h8786 => ?_)
              · refine sxc_region ?_
                refine sxo_move rfl rfl rfl ?_
                refine sxo_move rfl rfl rfl ?_
                refine sxo_indexR (j := 2) rfl Try.underlying22 tf3 rfl rfl rfl rfl (fun x8780 e8780 g8781 h8782 => ?_)
                refine sxo_storeL (j := 2) (y' := 1) (eI_ok .i64) rfl rfl rfl tf3 rfl h8782 (idx_get e8780).2.1 rfl (fun x8783 e8783 h8784 => ?_)
                have h8785 : x8783.length = x8739.length := by rw [← e8783, List.length_set]
                refine sxo_again (d := 8) (v := .slice a15 x8783.length c16) rfl h8784 ?_
                refine sxo_again (d := 59) (v := .slice a15 x8783.length c16) rfl h8784 ?_
                refine sxo_nil ?_
                refine sxq_blkN ?_
                exact sxq_meetP (x8783, ()) (hR := (.cons 1 rfl (.cons 1 rfl (.cons 0 rfl .nil)))) (hF := (fk_cons 1 rfl fk_nil))
              · refine sxc_skip ?_
                refine sxq_blkN ?_
                exact sxq_meetP (x8739, ()) (hR := (.cons 0 rfl (.cons 0 rfl (.cons 0 rfl .nil)))) (hF := (fk_cons 1 rfl fk_nil))
            · rintro ⟨x8776, _⟩
              try dsimp only
              refine sxc_region ?_
              refine sxo_move rfl rfl rfl ?_
              refine sxo_add rfl rfl rfl rfl ?_
              refine sxo_assign rfl rfl rfl ?_
              refine sxo_nil ?_
              exact sxq_againP ((x8776, iadd .i64 x8740 1), ()) (hR := (.cons 0 rfl (.cons 0 rfl (.cons 0 rfl .nil)))) (hF := (fk_cons 0 rfl fk_nil))
          · refine sxc_exit ?_
            refine sxq_thenX ?_
            refine sxq_thenX ?_
            refine sxq_blkX ?_
            exact sxq_meetP (x8739, ()) (hR := (.cons 0 rfl (.cons 0 rfl (.cons 0 rfl .nil)))) (hF := (fk_cons 0 rfl fk_nil))
        · refine sxc_skip ?_
          exact sxq_meetP (x14, ()) (hR := (.cons 0 rfl (.cons 0 rfl (.cons 0 rfl .nil)))) (hF := (fk_cons 0 rfl fk_nil))
      · rintro ⟨x168, _⟩
        try dsimp only
        refine sxc_join (fun ((x4410, _) : (List Int × Unit)) => [(5, .int .i64 (x1.length : Int)), (8, .slice a15 x4410.length c16)]) (fun ((x4410, _) : (List Int × Unit)) => []) (fun ((x4410, _) : (List Int × Unit)) => [Ro (eI .i64) 3 1 (.slice a15 x4410.length c16) x4410]) (fun ((x4410, _) : (List Int × Unit)) => []) (fun ((x4410, _) : (List Int × Unit)) => M_R_HuffLengths_j321 F x1 x4410) ?_ ?_
        · refine sxc_block ?_
          refine sxc_loopP (fun (((x5887, x5888, x5889, x5890), _) : ((List Int × List Int × List Int × Int) × Unit)) => [(0, .slice a2 x1.length c3), (5, .int .i64 (x1.length : Int)), (6, .slice a7 x5887.length c8), (7, .slice a12 x5888.length c13), (8, .slice a15 x5889.length c16), (9, .int .i64 x5890)]) (fun (((x5887, x5888, x5889, x5890), _) : ((List Int × List Int × List Int × Int) × Unit)) => []) (fun (((x5887, x5888, x5889, x5890), _) : ((List Int × List Int × List Int × Int) × Unit)) => [Ro (eI .i64) 3 1 (.slice a7 x5887.length c8) x5887, Ro (eI .i64) 3 1 (.slice a12 x5888.length c13) x5888, Ro (eI .i64) 3 1 (.slice a15 x5889.length c16) x5889]) (fun (((x5887, x5888, x5889, x5890), _) : ((List Int × List Int × List Int × Int) × Unit)) => [Sl (eI .i64) 1 (.slice a2 x1.length c3) x1]) (fun k (s : ((List Int × List Int × List Int × Int) × Unit)) => M_R_HuffLengths_l531 F x1 k s.1) ((x93, x11, x168, x94), ()) F ?_ (hR := (.cons 0 rfl (.cons 0 rfl (.cons 0 rfl .nil)))) (hF := (fk_cons 0 rfl fk_nil))
          intro k7303
          rintro ⟨⟨x5887, x5888, x5889, x5890⟩, _⟩
          try dsimp only
          refine sxc_meq (m' := M_R_HuffLengths_b531 F x1 (M_R_HuffLengths_l531 F x1 k7303) x5887 x5888 x5889 x5890) rfl ?_
          refine sxc_seq ?_
          refine sxc_seq ?_
          refine sxc_region ?_
          refine sxo_move rfl rfl rfl ?_
          refine sxo_gtr rfl rfl rfl rfl ?_
          refine sxo_nil ?_
          refine sxq_next ?_
          refine sxc_if rfl (fun h8715 => ?_) (fun h8715 => ?_)
          · refine sxc_skip ?_
            refine sxq_next ?_
            refine sxc_block ?_
            refine sxc_seq ?_
            refine sxc_region ?_
            refine sxo_assign rfl rfl rfl ?_
            refine sxo_assign rfl rfl rfl ?_
            refine sxo_nil ?_
            refine sxq_next ?_
            refine sxc_join (fun (((x7705, x7706), _) : ((Int × Int) × Unit)) => [(0, .slice a2 x1.length c3), (5, .int .i64 (x1.length : Int)), (6, .slice a7 x5887.length c8), (7, .slice a12 x5888.length c13), (8, .slice a15 x5889.length c16), (9, .int .i64 x5890), (12, .int .i64 x7705), (13, .int .i64 x7706)]) (fun (((x7705, x7706), _) : ((Int × Int) × Unit)) => []) (fun (((x7705, x7706), _) : ((Int × Int) × Unit)) => [Ro (eI .i64) 3 1 (.slice a7 x5887.length c8) x5887, Ro (eI .i64) 3 1 (.slice a12 x5888.length c13) x5888, Ro (eI .i64) 3 1 (.slice a15 x5889.length c16) x5889]) (fun (((x7705, x7706), _) : ((Int × Int) × Unit)) => [Sl (eI .i64) 1 (.slice a2 x1.length c3) x1]) (fun (((x7705, x7706), _) : ((Int × Int) × Unit)) => M_R_HuffLengths_j560 F (M_R_HuffLengths_l531 F x1 k7303) x1 x5887 x5888 x5889 x5890 x7705 x7706) ?_ ?_
            · refine sxc_seq ?_
              refine sxc_region ?_
              refine sxo_assign rfl rfl rfl ?_
              refine sxo_nil ?_
              refine sxq_next ?_
              refine sxc_block ?_
              refine sxc_loopP (fun (((x8447, x8448, x8449), _) : ((Int × Int × Int) × Unit)) => [(0, .slice a2 x1.length c3), (5, .int .i64 (x1.length : Int)), (6, .slice a7 x5887.length c8), (7, .slice a12 x5888.length c13), (8, .slice a15 x5889.length c16), (9, .int .i64 x5890), (12, .int .i64 x8447), (13, .int .i64 x8448), (14, .int .i64 x8449)]) (fun (((x8447, x8448, x8449), _) : ((Int × Int × Int) × Unit)) => []) (fun (((x8447, x8448, x8449), _) : ((Int × Int × Int) × Unit)) => [Ro (eI .i64) 3 1 (.slice a7 x5887.length c8) x5887, Ro (eI .i64) 3 1 (.slice a12 x5888.length c13) x5888, Ro (eI .i64) 3 1 (.slice a15 x5889.length c16) x5889]) (fun (((x8447, x8448, x8449), _) : ((Int × Int × Int) × Unit)) => [Sl (eI .i64) 1 (.slice a2 x1.length c3) x1]) (fun k (s : ((Int × Int × Int) × Unit)) => M_R_HuffLengths_l625 F (M_R_HuffLengths_l531 F x1 k7303) x1 x5887 x5888 x5889 x5890 k s.1) ((-1, -1, 0), ()) F ?_ (hR := (.cons 0 rfl (.cons 0 rfl (.cons 0 rfl .nil)))) (hF := (fk_cons 0 rfl fk_nil))
              intro k8582
              rintro ⟨⟨x8447, x8448, x8449⟩, _⟩
              try dsimp only
              refine sxc_meq (m' := M_R_HuffLengths_b625 F (M_R_HuffLengths_l531 F x1 k7303) x1 x5887 x5888 x5889 x5890 (M_R_HuffLengths_l625 F (M_R_HuffLengths_l531 F x1 k7303) x1 x5887 x5888 x5889 x5890 k8582) x8447 x8448 x8449) rfl ?_
              refine sxc_seq ?_
              refine sxc_seq ?_
              refine sxc_region ?_
              refine sxo_move rfl rfl rfl ?_
              refine sxo_move rfl rfl rfl ?_
              refine sxo_lss rfl rfl rfl rfl ?_
              refine sxo_nil ?_
              refine sxq_next ?_
              refine sxc_if rfl (fun h8714 => ?_) (fun h8714 => ?_)
              · refine sxc_skip ?_
                refine sxq_next ?_
                refine sxc_join (fun (((x8648, x8649), _) : ((Int × Int) × Unit)) => [(0, .slice a2 x1.length c3), (5, .int .i64 (x1.length : Int)), (6, .slice a7 x5887.length c8), (7, .slice a12 x5888.length c13), (8, .slice a15 x5889.length c16), (9, .int .i64 x5890), (12, .int .i64 x8648), (13, .int .i64 x8649), (14, .int .i64 x8449)]) (fun (((x8648, x8649), _) : ((Int × Int) × Unit)) => []) (fun (((x8648, x8649), _) : ((Int × Int) × Unit)) => [Ro (eI .i64) 3 1 (.slice a7 x5887.length c8) x5887, Ro (eI .i64) 3 1 (.slice a12 x5888.length c13) x5888, Ro (eI .i64) 3 1 (.slice a15 x5889.length c16) x5889]) (fun (((x8648, x8649), _) : ((Int × Int) × Unit)) => [Sl (eI .i64) 1 (.slice a2 x1.length c3) x1]) (fun (((x8648, x8649), _) : ((Int × Int) × Unit)) => M_R_HuffLengths_j630 F (M_R_HuffLengths_l625 F (M_R_HuffLengths_l531 F x1 k7303) x1 x5887 x5888 x5889 x5890 k8582) x8449 x8648 x8649) ?_ ?_
                · refine sxc_block ?_
                  refine sxc_seq ?_
                  refine sxc_seq ?_
                  refine sxc_region ?_
                  refine sxo_move rfl rfl rfl ?_
                  refine sxo_move rfl rfl rfl ?_
                  refine sxo_indexF (j := 0) (eI_ok .i64) (by decide) rfl Try.underlying22 tf3 rfl rfl rfl rfl (fun x8662 e8662 b8663 o8664 => ?_)
                  refine sxo_loadF (j := 0) rfl rfl tf3 rfl rfl (fun _ => rfl) rfl rfl ?_
                  refine sxo_eql rfl rfl rfl rfl ?_
                  refine sxo_move rfl rfl rfl ?_
                  refine sxo_join 7 (fun ((x8669, _) : (Bool × Unit)) => [(0, .slice a2 x1.length c3), (5, .int .i64 (x1.length : Int)), (6, .slice a7 x5887.length c8), (7, .slice a12 x5888.length c13), (8, .slice a15 x5889.length c16), (9, .int .i64 x5890), (12, .int .i64 x8447), (13, .int .i64 x8448), (14, .int .i64 x8449), (81, .bool x8669)]) (fun ((x8669, _) : (Bool × Unit)) => []) (fun ((x8669, _) : (Bool × Unit)) => [Ro (eI .i64) 3 1 (.slice a7 x5887.length c8) x5887, Ro (eI .i64) 3 1 (.slice a12 x5888.length c13) x5888, Ro (eI .i64) 3 1 (.slice a15 x5889.length c16) x5889]) (fun ((x8669, _) : (Bool × Unit)) => [Sl (eI .i64) 1 (.slice a2 x1.length c3) x1]) (fun ((x8669, _) : (Bool × Unit)) => M_R_HuffLengths_j632 F (M_R_HuffLengths_l625 F (M_R_HuffLengths_l531 F x1 k7303) x1 x5887 x5888 x5889 x5890 k8582) x5888 x8447 x8448 x8449 x8669) ?_ ?_
                  · refine sxo_take (os := _) rfl ?_
                    refine sxo_if (fun h8665 => ?_) (fun h8665 => ?_)
                    · refine sxo_isT (k := 74) rfl h8665 ?_
                      refine sxo_skip rfl rfl rfl ?_
                      refine sxo_skip rfl rfl rfl ?_
                      refine sxo_skip rfl rfl rfl ?_
                      refine sxo_skip rfl rfl rfl ?_
                      refine sxo_skip rfl rfl rfl ?_
                      refine sxo_skip rfl rfl rfl ?_
                      refine sxo_pick (b := true) rfl rfl rfl rfl ?_
                      refine sxo_nil ?_
                      exact sxq_meetP (true, ()) (hR := (.cons 0 rfl (.cons 0 rfl (.cons 0 rfl .nil)))) (hF := (fk_cons 1 rfl fk_nil))
                    · refine sxo_isF (k := 74) rfl h8665 ?_
                      refine sxo_move rfl rfl rfl ?_
                      refine sxo_move rfl rfl rfl ?_
                      refine sxo_indexR (j := 0) rfl Try.underlying22 tf3 rfl rfl rfl rfl (fun x8711 e8711 g8712 h8713 => ?_)
                      refine sxo_loadR (j := 0) (y := x8711) (eI_ok .i64) rfl rfl tf3 rfl h8713 (idx_get e8711).2.2 (fun _ => rfl) rfl rfl ?_
                      refine sxo_move rfl rfl rfl ?_
                      refine sxo_neq rfl rfl rfl rfl ?_
                      refine sxo_pick (b := false) rfl rfl rfl rfl ?_
                      refine sxo_nil ?_
                      exact sxq_meetP (((x8711 : Int) != x8449), ()) (hR := (.cons 0 rfl (.cons 0 rfl (.cons 0 rfl .nil)))) (hF := (fk_cons 1 rfl fk_nil))
                  · rintro ⟨x8669, _⟩
                    try dsimp only
                    refine sxo_take (os := _) rfl ?_
                    refine sxo_nil ?_
                    refine sxq_next ?_
                    refine sxc_if rfl (fun h8710 => ?_) (fun h8710 => ?_)
                    · refine sxc_exit ?_
                      refine sxq_thenX ?_
                      refine sxq_blkX ?_
                      exact sxq_meetP ((x8447, x8448), ()) (hR := (.cons 0 rfl (.cons 0 rfl (.cons 0 rfl .nil)))) (hF := (fk_cons 0 rfl fk_nil))
                    · refine sxc_skip ?_
                      refine sxq_next ?_
                      refine sxc_join (fun ((x8679, _) : (Bool × Unit)) => [(0, .slice a2 x1.length c3), (5, .int .i64 (x1.length : Int)), (6, .slice a7 x5887.length c8), (7, .slice a12 x5888.length c13), (8, .slice a15 x5889.length c16), (9, .int .i64 x5890), (12, .int .i64 x8447), (13, .int .i64 x8448), (14, .int .i64 x8449), (94, .bool x8679)]) (fun ((x8679, _) : (Bool × Unit)) => []) (fun ((x8679, _) : (Bool × Unit)) => [Ro (eI .i64) 3 1 (.slice a7 x5887.length c8) x5887, Ro (eI .i64) 3 1 (.slice a12 x5888.length c13) x5888, Ro (eI .i64) 3 1 (.slice a15 x5889.length c16) x5889]) (fun ((x8679, _) : (Bool × Unit)) => [Sl (eI .i64) 1 (.slice a2 x1.length c3) x1]) (fun ((x8679, _) : (Bool × Unit)) => M_R_HuffLengths_j633 F (M_R_HuffLengths_l625 F (M_R_HuffLengths_l531 F x1 k7303) x1 x5887 x5888 x5889 x5890 k8582) x5888 x8447 x8448 x8449 x8679) ?_ ?_
                      · refine sxc_split (fun h8701 => ?_) (fun h8701 => ?_)
                        · refine sxb_draw mixed [] [] [Sl (eI .i64) 1 (.slice a2 x1.length c3) x1] .nil (gk_F 0 rfl gk_nil) 13 rfl ?_
                          refine sxb_takeP 0 (.int .i64 x8447) rfl rfl rfl (yv_pv rfl) ?_
                          refine sxb_takeP 1 (.bool (decide (x8447 < 0))) rfl rfl rfl (yv_pv rfl) ?_
                          refine sxb_takeP 2 (.bool (decide (x8447 < 0))) rfl rfl rfl (yv_pv rfl) ?_
                          refine sxb_again (d := 84) (v := .bool true) rfl (by rw [h8701] <;> rfl) ?_
                          refine sxb_skip 3 rfl rfl rfl ?_
                          refine sxb_skip 4 rfl rfl rfl ?_
                          refine sxb_skip 5 rfl rfl rfl ?_
                          refine sxb_skip 6 rfl rfl rfl ?_
                          refine sxb_skip 7 rfl rfl rfl ?_
                          refine sxb_skip 8 rfl rfl rfl ?_
                          refine sxb_skip 9 rfl rfl rfl ?_
                          refine sxb_skip 10 rfl rfl rfl ?_
                          refine sxb_skip 11 rfl rfl rfl ?_
                          refine sxb_takeP 12 (.bool true) rfl rfl rfl (yv_pv rfl) ?_
                          refine sxb_done (by kernel_rfl) ?_
                          refine sxq_np ?_ (by intro c h; cases h)
                          exact sxq_meetP (true, ()) (hR := (.cons 0 rfl (.cons 0 rfl (.cons 0 rfl .nil)))) (hF := (fk_cons 0 rfl fk_nil))
                        · refine sxc_idxO (j := 1) rfl (fun x8702 e8702 g8703 h8704 => ?_)
                          replace h8704 : a12 = some ⟨g8703, 0, none⟩ := h8704
                          have h8705 := own_of (k := x5888.length) (c := c13) h8704
                          refine sxc_idxO (j := 1) rfl (fun x8706 e8706 g8707 h8708 => ?_)
                          replace h8708 : a12 = some ⟨g8707, 0, none⟩ := h8708
                          have h8709 := own_of (k := x5888.length) (c := c13) h8708
                          refine sxb_draw mixed [] [] [Sl (eI .i64) 1 (.slice a2 x1.length c3) x1, CellsAt g8703 (x8449.toNat * 1) ((eI .i64) x8702), CellsAt g8707 (x8447.toNat * 1) ((eI .i64) x8706)] .nil (gk_F 0 rfl (gk_R 1 rfl (at_row (eI_ok .i64) e8702 h8704) (gk_R 1 rfl (at_row (eI_ok .i64) e8706 h8708) gk_nil))) 13 rfl ?_
                          refine sxb_takeP 0 (.int .i64 x8447) rfl rfl rfl (yv_pv rfl) ?_
                          refine sxb_takeP 1 (.bool (decide (x8447 < 0))) rfl rfl rfl (yv_pv rfl) ?_
                          refine sxb_takeP 2 (.bool (decide (x8447 < 0))) rfl rfl rfl (yv_pv rfl) ?_
                          refine sxb_again (d := 84) (v := .bool false) rfl (by rw [h8701] <;> rfl) ?_
                          refine sxb_takeP 3 (.slice a12 x5888.length c13) rfl rfl rfl (yv_pv rfl) ?_
                          refine sxb_takeP 4 (.int .i64 x8449) rfl rfl rfl (yv_pv rfl) ?_
                          refine sxb_again (d := 85) (v := .slice (some ⟨g8703, 0, none⟩) x5888.length c13) rfl (by rw [h8704] <;> rfl) ?_
                          refine sxb_takeP 5 (.pointer (some ⟨g8703, x8449.toNat * 1, none⟩)) rfl rfl rfl (yv_idxO Try.underlying22 tf3 rfl rfl (idx_get e8702).1 (idx_lt e8702)) ?_
                          refine sxb_again (d := 85) (v := .slice a12 x5888.length c13) rfl (by rw [h8704] <;> rfl) ?_
                          refine sxb_take 6 (.int .i64 x8702) [] rfl rfl rfl (yv_loadF (j := 1) rfl tf3 rfl rfl (fun _ => rfl) rfl) ?_
                          refine sxb_takeP 7 (.slice a12 x5888.length c13) rfl rfl rfl (yv_pv rfl) ?_
                          refine sxb_takeP 8 (.int .i64 x8447) rfl rfl rfl (yv_pv rfl) ?_
                          refine sxb_again (d := 89) (v := .slice (some ⟨g8707, 0, none⟩) x5888.length c13) rfl (by rw [h8708] <;> rfl) ?_
                          refine sxb_takeP 9 (.pointer (some ⟨g8707, x8447.toNat * 1, none⟩)) rfl rfl rfl (yv_idxO Try.underlying22 tf3 rfl rfl (idx_get e8706).1 (idx_lt e8706)) ?_
                          refine sxb_again (d := 89) (v := .slice a12 x5888.length c13) rfl (by rw [h8708] <;> rfl) ?_
                          refine sxb_take 10 (.int .i64 x8706) [] rfl rfl rfl (yv_loadF (j := 2) rfl tf3 rfl rfl (fun _ => rfl) rfl) ?_
                          refine sxb_takeP 11 (.bool (decide (x8702 < x8706))) rfl rfl rfl (yv_pv rfl) ?_
                          refine sxb_takeP 12 (.bool (decide (x8702 < x8706))) rfl rfl rfl (yv_pv rfl) ?_
                          refine sxb_done (by kernel_rfl) ?_
                          refine sxq_np ?_ (by intro c h; cases h)
                          exact sxq_meetP ((decide (x8702 < x8706)), ()) (hR := (.cons 0 rfl (.cons 0 rfl (.cons 0 rfl .nil)))) (hF := (fk_cons 0 rfl fk_nil))
                      · rintro ⟨x8679, _⟩
                        try dsimp only
                        refine sxc_if rfl (fun h8700 => ?_) (fun h8700 => ?_)
                        · refine sxc_region ?_
                          refine sxo_move rfl rfl rfl ?_
                          refine sxo_move rfl rfl rfl ?_
                          refine sxo_assign rfl rfl rfl ?_
                          refine sxo_assign rfl rfl rfl ?_
                          refine sxo_nil ?_
                          refine sxq_blkN ?_
                          exact sxq_meetP ((x8449, x8447), ()) (hR := (.cons 0 rfl (.cons 0 rfl (.cons 0 rfl .nil)))) (hF := (fk_cons 0 rfl fk_nil))
                        · refine sxc_join (fun ((x8689, _) : (Bool × Unit)) => [(0, .slice a2 x1.length c3), (5, .int .i64 (x1.length : Int)), (6, .slice a7 x5887.length c8), (7, .slice a12 x5888.length c13), (8, .slice a15 x5889.length c16), (9, .int .i64 x5890), (12, .int .i64 x8447), (13, .int .i64 x8448), (14, .int .i64 x8449), (109, .bool x8689)]) (fun ((x8689, _) : (Bool × Unit)) => []) (fun ((x8689, _) : (Bool × Unit)) => [Ro (eI .i64) 3 1 (.slice a7 x5887.length c8) x5887, Ro (eI .i64) 3 1 (.slice a12 x5888.length c13) x5888, Ro (eI .i64) 3 1 (.slice a15 x5889.length c16) x5889]) (fun ((x8689, _) : (Bool × Unit)) => [Sl (eI .i64) 1 (.slice a2 x1.length c3) x1]) (fun ((x8689, _) : (Bool × Unit)) => M_R_HuffLengths_j634 F (M_R_HuffLengths_l625 F (M_R_HuffLengths_l531 F x1 k7303) x1 x5887 x5888 x5889 x5890 k8582) x8447 x8448 x8449 x8689) ?_ ?_
                          · refine sxc_split (fun h8691 => ?_) (fun h8691 => ?_)
                            · refine sxb_draw mixed [] [] [Sl (eI .i64) 1 (.slice a2 x1.length c3) x1] .nil (gk_F 0 rfl gk_nil) 13 rfl ?_
                              refine sxb_takeP 0 (.int .i64 x8448) rfl rfl rfl (yv_pv rfl) ?_
                              refine sxb_takeP 1 (.bool (decide (x8448 < 0))) rfl rfl rfl (yv_pv rfl) ?_
                              refine sxb_takeP 2 (.bool (decide (x8448 < 0))) rfl rfl rfl (yv_pv rfl) ?_
                              refine sxb_again (d := 99) (v := .bool true) rfl (by rw [h8691] <;> rfl) ?_
                              refine sxb_skip 3 rfl rfl rfl ?_
                              refine sxb_skip 4 rfl rfl rfl ?_
                              refine sxb_skip 5 rfl rfl rfl ?_
                              refine sxb_skip 6 rfl rfl rfl ?_
                              refine sxb_skip 7 rfl rfl rfl ?_
                              refine sxb_skip 8 rfl rfl rfl ?_
                              refine sxb_skip 9 rfl rfl rfl ?_
                              refine sxb_skip 10 rfl rfl rfl ?_
                              refine sxb_skip 11 rfl rfl rfl ?_
                              refine sxb_takeP 12 (.bool true) rfl rfl rfl (yv_pv rfl) ?_
                              refine sxb_done (by kernel_rfl) ?_
                              refine sxq_np ?_ (by intro c h; cases h)
                              exact sxq_meetP (true, ()) (hR := (.cons 0 rfl (.cons 0 rfl (.cons 0 rfl .nil)))) (hF := (fk_cons 0 rfl fk_nil))
                            · refine sxc_idxO (j := 1) rfl (fun x8692 e8692 g8693 h8694 => ?_)
                              replace h8694 : a12 = some ⟨g8693, 0, none⟩ := h8694
                              have h8695 := own_of (k := x5888.length) (c := c13) h8694
                              refine sxc_idxO (j := 1) rfl (fun x8696 e8696 g8697 h8698 => ?_)
                              replace h8698 : a12 = some ⟨g8697, 0, none⟩ := h8698
                              have h8699 := own_of (k := x5888.length) (c := c13) h8698
                              refine sxb_draw mixed [] [] [Sl (eI .i64) 1 (.slice a2 x1.length c3) x1, CellsAt g8693 (x8449.toNat * 1) ((eI .i64) x8692), CellsAt g8697 (x8448.toNat * 1) ((eI .i64) x8696)] .nil (gk_F 0 rfl (gk_R 1 rfl (at_row (eI_ok .i64) e8692 h8694) (gk_R 1 rfl (at_row (eI_ok .i64) e8696 h8698) gk_nil))) 13 rfl ?_
                              refine sxb_takeP 0 (.int .i64 x8448) rfl rfl rfl (yv_pv rfl) ?_
                              refine sxb_takeP 1 (.bool (decide (x8448 < 0))) rfl rfl rfl (yv_pv rfl) ?_
                              refine sxb_takeP 2 (.bool (decide (x8448 < 0))) rfl rfl rfl (yv_pv rfl) ?_
                              refine sxb_again (d := 99) (v := .bool false) rfl (by rw [h8691] <;> rfl) ?_
                              refine sxb_takeP 3 (.slice a12 x5888.length c13) rfl rfl rfl (yv_pv rfl) ?_
                              refine sxb_takeP 4 (.int .i64 x8449) rfl rfl rfl (yv_pv rfl) ?_
                              refine sxb_again (d := 100) (v := .slice (some ⟨g8693, 0, none⟩) x5888.length c13) rfl (by rw [h8694] <;> rfl) ?_
                              refine sxb_takeP 5 (.pointer (some ⟨g8693, x8449.toNat * 1, none⟩)) rfl rfl rfl (yv_idxO Try.underlying22 tf3 rfl rfl (idx_get e8692).1 (idx_lt e8692)) ?_
                              refine sxb_again (d := 100) (v := .slice a12 x5888.length c13) rfl (by rw [h8694] <;> rfl) ?_
                              refine sxb_take 6 (.int .i64 x8692) [] rfl rfl rfl (yv_loadF (j := 1) rfl tf3 rfl rfl (fun _ => rfl) rfl) ?_
                              refine sxb_takeP 7 (.slice a12 x5888.length c13) rfl rfl rfl (yv_pv rfl) ?_
                              refine sxb_takeP 8 (.int .i64 x8448) rfl rfl rfl (yv_pv rfl) ?_
                              refine sxb_again (d := 104) (v := .slice (some ⟨g8697, 0, none⟩) x5888.length c13) rfl (by rw [h8698] <;> rfl) ?_
                              refine sxb_takeP 9 (.pointer (some ⟨g8697, x8448.toNat * 1, none⟩)) rfl rfl rfl (yv_idxO Try.underlying22 tf3 rfl rfl (idx_get e8696).1 (idx_lt e8696)) ?_
                              refine sxb_again (d := 104) (v := .slice a12 x5888.length c13) rfl (by rw [h8698] <;> rfl) ?_
                              refine sxb_take 10 (.int .i64 x8696) [] rfl rfl rfl (yv_loadF (j := 2) rfl tf3 rfl rfl (fun _ => rfl) rfl) ?_
                              refine sxb_takeP 11 (.bool (decide (x8692 < x8696))) rfl rfl rfl (yv_pv rfl) ?_
                              refine sxb_takeP 12 (.bool (decide (x8692 < x8696))) rfl rfl rfl (yv_pv rfl) ?_
                              refine sxb_done (by kernel_rfl) ?_
                              refine sxq_np ?_ (by intro c h; cases h)
                              exact sxq_meetP ((decide (x8692 < x8696)), ()) (hR := (.cons 0 rfl (.cons 0 rfl (.cons 0 rfl .nil)))) (hF := (fk_cons 0 rfl fk_nil))
                          · rintro ⟨x8689, _⟩
                            try dsimp only
                            refine sxc_if rfl (fun h8690 => ?_) (fun h8690 => ?_)
                            · refine sxc_region ?_
                              refine sxo_move rfl rfl rfl ?_
                              refine sxo_assign rfl rfl rfl ?_
                              refine sxo_nil ?_
                              refine sxq_blkN ?_
                              exact sxq_meetP ((x8447, x8449), ()) (hR := (.cons 0 rfl (.cons 0 rfl (.cons 0 rfl .nil)))) (hF := (fk_cons 0 rfl fk_nil))
                            · refine sxc_skip ?_
                              refine sxq_blkN ?_
                              exact sxq_meetP ((x8447, x8448), ()) (hR := (.cons 0 rfl (.cons 0 rfl (.cons 0 rfl .nil)))) (hF := (fk_cons 0 rfl fk_nil))
                · rintro ⟨⟨x8648, x8649⟩, _⟩
                  try dsimp only
                  refine sxc_region ?_
                  refine sxo_move rfl rfl rfl ?_
                  refine sxo_add rfl rfl rfl rfl ?_
                  refine sxo_assign rfl rfl rfl ?_
                  refine sxo_nil ?_
                  exact sxq_againP ((x8648, x8649, iadd .i64 x8449 1), ()) (hR := (.cons 0 rfl (.cons 0 rfl (.cons 0 rfl .nil)))) (hF := (fk_cons 0 rfl fk_nil))
              · refine sxc_exit ?_
                refine sxq_thenX ?_
                refine sxq_thenX ?_
                refine sxq_blkX ?_
                exact sxq_meetP ((x8447, x8448), ()) (hR := (.cons 0 rfl (.cons 0 rfl (.cons 0 rfl .nil)))) (hF := (fk_cons 0 rfl fk_nil))
            · rintro ⟨⟨x7705, x7706⟩, _⟩
              try dsimp only
              refine sxc_join (fun (((x7708, x7709), _) : ((Int × Int) × Unit)) => [(0, .slice a2 x1.length c3), (5, .int .i64 (x1.length : Int)), (6, .slice a7 x5887.length c8), (7, .slice a12 x5888.length c13), (8, .slice a15 x5889.length c16), (9, .int .i64 x5890), (12, .int .i64 x7708), (13, .int .i64 x7709)]) (fun (((x7708, x7709), _) : ((Int × Int) × Unit)) => []) (fun (((x7708, x7709), _) : ((Int × Int) × Unit)) => [Ro (eI .i64) 3 1 (.slice a7 x5887.length c8) x5887, Ro (eI .i64) 3 1 (.slice a12 x5888.length c13) x5888, Ro (eI .i64) 3 1 (.slice a15 x5889.length c16) x5889]) (fun (((x7708, x7709), _) : ((Int × Int) × Unit)) => [Sl (eI .i64) 1 (.slice a2 x1.length c3) x1]) (fun (((x7708, x7709), _) : ((Int × Int) × Unit)) => M_R_HuffLengths_j561 F (M_R_HuffLengths_l531 F x1 k7303) x1 x5887 x5888 x5889 x5890 x7708 x7709) ?_ ?_
              · refine sxc_seq ?_
                refine sxc_region ?_
                refine sxo_move rfl rfl rfl ?_
                refine sxo_move rfl rfl rfl ?_
                refine sxo_lss rfl rfl rfl rfl ?_
                refine sxo_nil ?_
                refine sxq_next ?_
                refine sxc_if rfl (fun h8314 => ?_) (fun h8314 => ?_)
                · refine sxc_region ?_
                  refine sxo_move rfl rfl rfl ?_
                  refine sxo_move rfl rfl rfl ?_
                  refine sxo_assign rfl rfl rfl ?_
                  refine sxo_assign rfl rfl rfl ?_
                  refine sxo_nil ?_
                  exact sxq_meetP ((x7706, x7705), ()) (hR := (.cons 0 rfl (.cons 0 rfl (.cons 0 rfl .nil)))) (hF := (fk_cons 0 rfl fk_nil))
                · refine sxc_skip ?_
                  exact sxq_meetP ((x7705, x7706), ()) (hR := (.cons 0 rfl (.cons 0 rfl (.cons 0 rfl .nil)))) (hF := (fk_cons 0 rfl fk_nil))
              · rintro ⟨⟨x7708, x7709⟩, _⟩
                try dsimp only
                refine sxc_join (fun (((x7996, x7997), _) : ((List Int × List Int) × Unit)) => [(0, .slice a2 x1.length c3), (5, .int .i64 (x1.length : Int)), (6, .slice a7 x7996.length c8), (7, .slice a12 x5888.length c13), (8, .slice a15 x7997.length c16), (9, .int .i64 x5890), (12, .int .i64 x7708), (13, .int .i64 x7709)]) (fun (((x7996, x7997), _) : ((List Int × List Int) × Unit)) => []) (fun (((x7996, x7997), _) : ((List Int × List Int) × Unit)) => [Ro (eI .i64) 3 1 (.slice a7 x7996.length c8) x7996, Ro (eI .i64) 3 1 (.slice a12 x5888.length c13) x5888, Ro (eI .i64) 3 1 (.slice a15 x7997.length c16) x7997]) (fun (((x7996, x7997), _) : ((List Int × List Int) × Unit)) => [Sl (eI .i64) 1 (.slice a2 x1.length c3) x1]) (fun (((x7996, x7997), _) : ((List Int × List Int) × Unit)) => M_R_HuffLengths_j584 F (M_R_HuffLengths_l531 F x1 k7303) x5888 x5890 x7708 x7709 x7996 x7997) ?_ ?_
                · refine sxc_seq ?_
                  refine sxc_region ?_
                  refine sxo_assign rfl rfl rfl ?_
                  refine sxo_nil ?_
                  refine sxq_next ?_
                  refine sxc_block ?_
                  refine sxc_loopP (fun (((x8122, x8123, x8124), _) : ((List Int × List Int × Int) × Unit)) => [(0, .slice a2 x1.length c3), (5, .int .i64 (x1.length : Int)), (6, .slice a7 x8122.length c8), (7, .slice a12 x5888.length c13), (8, .slice a15 x8123.length c16), (9, .int .i64 x5890), (12, .int .i64 x7708), (13, .int .i64 x7709), (15, .int .i64 x8124)]) (fun (((x8122, x8123, x8124), _) : ((List Int × List Int × Int) × Unit)) => []) (fun (((x8122, x8123, x8124), _) : ((List Int × List Int × Int) × Unit)) => [Ro (eI .i64) 3 1 (.slice a7 x8122.length c8) x8122, Ro (eI .i64) 3 1 (.slice a12 x5888.length c13) x5888, Ro (eI .i64) 3 1 (.slice a15 x8123.length c16) x8123]) (fun (((x8122, x8123, x8124), _) : ((List Int × List Int × Int) × Unit)) => [Sl (eI .i64) 1 (.slice a2 x1.length c3) x1]) (fun k (s : ((List Int × List Int × Int) × Unit)) => M_R_HuffLengths_l599 F (M_R_HuffLengths_l531 F x1 k7303) x1 x5888 x5890 x7708 x7709 k s.1) ((x5887, x5889, 0), ()) F ?_ (hR := (.cons 0 rfl (.cons 0 rfl (.cons 0 rfl .nil)))) (hF := (fk_cons 0 rfl fk_nil))
                  intro k8219
                  rintro ⟨⟨x8122, x8123, x8124⟩, _⟩
                  try dsimp only
                  refine sxc_meq (m' := M_R_HuffLengths_b599 F (M_R_HuffLengths_l531 F x1 k7303) x1 x5888 x5890 x7708 x7709 (M_R_HuffLengths_l599 F (M_R_HuffLengths_l531 F x1 k7303) x1 x5888 x5890 x7708 x7709 k8219) x8122 x8123 x8124) rfl ?_
                  refine sxc_seq ?_
                  refine sxc_seq ?_
                  refine sxc_region ?_
                  refine sxo_move rfl rfl rfl ?_
                  refine sxo_move rfl rfl rfl ?_
                  refine sxo_lss rfl rfl rfl rfl ?_
                  refine sxo_nil ?_
                  refine sxq_next ?_
                  refine sxc_if rfl (fun h8313 => ?_) (fun h8313 => ?_)
                  · refine sxc_skip ?_
                    refine sxq_next ?_
                    refine sxc_join (fun (((x8266, x8267), _) : ((List Int × List Int) × Unit)) => [(0, .slice a2 x1.length c3), (5, .int .i64 (x1.length : Int)), (6, .slice a7 x8266.length c8), (7, .slice a12 x5888.length c13), (8, .slice a15 x8267.length c16), (9, .int .i64 x5890), (12, .int .i64 x7708), (13, .int .i64 x7709), (15, .int .i64 x8124)]) (fun (((x8266, x8267), _) : ((List Int × List Int) × Unit)) => []) (fun (((x8266, x8267), _) : ((List Int × List Int) × Unit)) => [Ro (eI .i64) 3 1 (.slice a7 x8266.length c8) x8266, Ro (eI .i64) 3 1 (.slice a12 x5888.length c13) x5888, Ro (eI .i64) 3 1 (.slice a15 x8267.length c16) x8267]) (fun (((x8266, x8267), _) : ((List Int × List Int) × Unit)) => [Sl (eI .i64) 1 (.slice a2 x1.length c3) x1]) (fun (((x8266, x8267), _) : ((List Int × List Int) × Unit)) => M_R_HuffLengths_j603 F (M_R_HuffLengths_l599 F (M_R_HuffLengths_l531 F x1 k7303) x1 x5888 x5890 x7708 x7709 k8219) x8124 x8266 x8267) ?_ ?_
                    · refine sxc_block ?_
                      refine sxc_seq ?_
                      refine sxc_region ?_
                      refine sxo_move rfl rfl rfl ?_
                      refine sxo_move rfl rfl rfl ?_
                      refine sxo_indexF (j := 0) (eI_ok .i64) (by decide) rfl Try.underlying22 tf3 rfl rfl rfl rfl (fun x8268 e8268 b8269 o8270 => ?_)
                      refine sxo_loadF (j := 0) rfl rfl tf3 rfl rfl (fun _ => rfl) rfl rfl ?_
                      refine sxo_gtr rfl rfl rfl rfl ?_
                      refine sxo_move rfl rfl rfl ?_
                      refine sxo_join 15 (fun ((x8284, _) : (Bool × Unit)) => [(0, .slice a2 x1.length c3), (5, .int .i64 (x1.length : Int)), (6, .slice a7 x8122.length c8), (7, .slice a12 x5888.length c13), (8, .slice a15 x8123.length c16), (9, .int .i64 x5890), (12, .int .i64 x7708), (13, .int .i64 x7709), (15, .int .i64 x8124), (141, .bool x8284)]) (fun ((x8284, _) : (Bool × Unit)) => []) (fun ((x8284, _) : (Bool × Unit)) => [Ro (eI .i64) 3 1 (.slice a7 x8122.length c8) x8122, Ro (eI .i64) 3 1 (.slice a12 x5888.length c13) x5888, Ro (eI .i64) 3 1 (.slice a15 x8123.length c16) x8123]) (fun ((x8284, _) : (Bool × Unit)) => [Sl (eI .i64) 1 (.slice a2 x1.length c3) x1]) (fun ((x8284, _) : (Bool × Unit)) => M_R_HuffLengths_j605 F (M_R_HuffLengths_l599 F (M_R_HuffLengths_l531 F x1 k7303) x1 x5888 x5890 x7708 x7709 k8219) x7708 x8122 x8123 x8124 x8284) ?_ ?_
                      · refine sxo_take (os := _) rfl ?_
                        refine sxo_if (fun h8271 => ?_) (fun h8271 => ?_)
                        · refine sxo_isT (k := 126) rfl h8271 ?_
                          refine sxo_move rfl rfl rfl ?_
                          refine sxo_move rfl rfl rfl ?_
                          refine sxo_indexR (j := 0) rfl Try.underlying22 tf3 rfl rfl rfl rfl (fun x8301 e8301 g8302 h8303 => ?_)
                          refine sxo_loadR (j := 0) (y := x8301) (eI_ok .i64) rfl rfl tf3 rfl h8303 (idx_get e8301).2.2 (fun _ => rfl) rfl rfl ?_
                          refine sxo_move rfl rfl rfl ?_
                          refine sxo_eql rfl rfl rfl rfl ?_
                          refine sxo_move rfl rfl rfl ?_
                          refine sxo_join 7 (fun (((x8308, x8309), _) : ((Bool × Bool) × Unit)) => [(0, .slice a2 x1.length c3), (5, .int .i64 (x1.length : Int)), (6, .slice a7 x8122.length c8), (7, .slice a12 x5888.length c13), (8, .slice a15 x8123.length c16), (9, .int .i64 x5890), (12, .int .i64 x7708), (13, .int .i64 x7709), (15, .int .i64 x8124), (126, .bool true), (127, .slice a7 x8122.length c8), (128, .int .i64 x8124), (129, .pointer (some ⟨g8302, x8124.toNat * 1, none⟩)), (130, .int .i64 x8301), (131, .int .i64 x7708), (132, .bool ((x8301 : Int) == x7708)), (133, .bool x8308), (140, .bool x8309)]) (fun (((x8308, x8309), _) : ((Bool × Bool) × Unit)) => []) (fun (((x8308, x8309), _) : ((Bool × Bool) × Unit)) => [Ro (eI .i64) 3 1 (.slice a7 x8122.length c8) x8122, Ro (eI .i64) 3 1 (.slice a12 x5888.length c13) x5888, Ro (eI .i64) 3 1 (.slice a15 x8123.length c16) x8123]) (fun (((x8308, x8309), _) : ((Bool × Bool) × Unit)) => [Sl (eI .i64) 1 (.slice a2 x1.length c3) x1]) (fun (((x8308, x8309), _) : ((Bool × Bool) × Unit)) => M_R_HuffLengths_j606 F (M_R_HuffLengths_l599 F (M_R_HuffLengths_l531 F x1 k7303) x1 x5888 x5890 x7708 x7709 k8219) x7708 x8122 x8123 x8124 x8308 x8309) ?_ ?_
                          · refine sxo_take (os := _) rfl ?_
                            refine sxo_if (fun h8304 => ?_) (fun h8304 => ?_)
                            · refine sxo_isT (k := 133) rfl h8304 ?_
                              refine sxo_skip rfl rfl rfl ?_
                              refine sxo_skip rfl rfl rfl ?_
                              refine sxo_skip rfl rfl rfl ?_
                              refine sxo_skip rfl rfl rfl ?_
                              refine sxo_skip rfl rfl rfl ?_
                              refine sxo_skip rfl rfl rfl ?_
                              refine sxo_pick (b := true) rfl rfl rfl rfl ?_
                              refine sxo_nil ?_
                              exact sxq_meetP ((true, true), ()) (hR := (.cons 0 rfl (.cons 0 rfl (.cons 0 rfl .nil)))) (hF := (fk_cons 1 rfl fk_nil))
                            · refine sxo_isF (k := 133) rfl h8304 ?_
                              refine sxo_move rfl rfl rfl ?_
                              refine sxo_move rfl rfl rfl ?_
                              refine sxo_indexR (j := 0) rfl Try.underlying22 tf3 rfl rfl rfl rfl (fun x8310 e8310 g8311 h8312 => ?_)
                              refine sxo_loadR (j := 0) (y := x8310) (eI_ok .i64) rfl rfl tf3 rfl h8312 (idx_get e8310).2.2 (fun _ => rfl) rfl rfl ?_
                              refine sxo_move rfl rfl rfl ?_
                              refine sxo_eql rfl rfl rfl rfl ?_
                              refine sxo_pick (b := false) rfl rfl rfl rfl ?_
                              refine sxo_nil ?_
                              exact sxq_meetP ((false, ((x8310 : Int) == x7709)), ()) (hR := (.cons 0 rfl (.cons 0 rfl (.cons 0 rfl .nil)))) (hF := (fk_cons 1 rfl fk_nil))
                          · rintro ⟨⟨x8308, x8309⟩, _⟩
                            try dsimp only
                            refine sxo_take (os := _) rfl ?_
                            refine sxo_pick (b := true) rfl rfl rfl rfl ?_
                            refine sxo_nil ?_
                            exact sxq_meetP (x8309, ()) (hR := (.cons 0 rfl (.cons 0 rfl (.cons 0 rfl .nil)))) (hF := (fk_cons 0 rfl fk_nil))
                        · refine sxo_isF (k := 126) rfl h8271 ?_
                          refine sxo_skip rfl rfl rfl ?_
                          refine sxo_skip rfl rfl rfl ?_
                          refine sxo_skip rfl rfl rfl ?_
                          refine sxo_skip rfl rfl rfl ?_
                          refine sxo_skip rfl rfl rfl ?_
                          refine sxo_skip rfl rfl rfl ?_
                          refine sxo_skip rfl rfl rfl ?_
                          refine sxo_skip rfl rfl rfl ?_
                          refine sxo_skip rfl rfl rfl ?_
                          refine sxo_skip rfl rfl rfl ?_
                          refine sxo_skip rfl rfl rfl ?_
                          refine sxo_skip rfl rfl rfl ?_
                          refine sxo_skip rfl rfl rfl ?_
                          refine sxo_skip rfl rfl rfl ?_
                          refine sxo_pick (b := false) rfl rfl rfl rfl ?_
                          refine sxo_nil ?_
                          exact sxq_meetP (false, ()) (hR := (.cons 0 rfl (.cons 0 rfl (.cons 0 rfl .nil)))) (hF := (fk_cons 1 rfl fk_nil))
                      · rintro ⟨x8284, _⟩
                        try dsimp only
                        refine sxo_take (os := _) rfl ?_
                        refine sxo_nil ?_
                        refine sxq_next ?_
                        refine sxc_if rfl (fun h8300 => ?_) (fun h8300 => ?_)
                        · refine sxc_seq ?_
                          refine sxc_region ?_
                          refine sxo_move rfl rfl rfl ?_
                          refine sxo_move rfl rfl rfl ?_
                          refine sxo_move rfl rfl rfl ?_
                          refine sxo_indexR (j := 0) rfl Try.underlying22 tf3 rfl rfl rfl rfl (fun x8285 e8285 g8286 h8287 => ?_)
                          refine sxo_storeL (j := 0) (y' := x7708) (eI_ok .i64) rfl rfl rfl tf3 rfl h8287 (idx_get e8285).2.1 rfl (fun x8288 e8288 h8289 => ?_)
                          have h8290 : x8288.length = x8122.length := by rw [← e8288, List.length_set]
                          refine sxo_again (d := 6) (v := .slice a7 x8288.length c8) rfl h8289 ?_
                          refine sxo_again (d := 142) (v := .slice a7 x8288.length c8) rfl h8289 ?_
                          refine sxo_nil ?_
                          refine sxq_next ?_
                          refine sxc_region ?_
                          refine sxo_move rfl rfl rfl ?_
                          refine sxo_move rfl rfl rfl ?_
                          refine sxo_indexR (j := 2) rfl Try.underlying22 tf3 rfl rfl rfl rfl (fun x8291 e8291 g8292 h8293 => ?_)
                          refine sxo_loadR (j := 2) (y := x8291) (eI_ok .i64) rfl rfl tf3 rfl h8293 (idx_get e8291).2.2 (fun _ => rfl) rfl rfl ?_
                          refine sxo_add rfl rfl rfl rfl ?_
                          refine sxo_indexR (j := 2) rfl Try.underlying22 tf3 rfl rfl rfl rfl (fun x8294 e8294 g8295 h8296 => ?_)
                          refine sxo_storeL (j := 2) (y' := iadd .i64 x8291 1) (eI_ok .i64) rfl rfl rfl tf3 rfl h8296 (idx_get e8294).2.1 rfl (fun x8297 e8297 h8298 => ?_)
                          have h8299 : x8297.length = x8123.length := by rw [← e8297, List.length_set]
                          refine sxo_again (d := 8) (v := .slice a15 x8297.length c16) rfl h8298 ?_
                          refine sxo_again (d := 146) (v := .slice a15 x8297.length c16) rfl h8298 ?_
                          refine sxo_nil ?_
                          refine sxq_blkN ?_
                          exact sxq_meetP ((x8288, x8297), ()) (hR := (.cons 1 rfl (.cons 1 rfl (.cons 0 rfl .nil)))) (hF := (fk_cons 0 rfl fk_nil))
                        · refine sxc_skip ?_
                          refine sxq_blkN ?_
                          exact sxq_meetP ((x8122, x8123), ()) (hR := (.cons 0 rfl (.cons 0 rfl (.cons 0 rfl .nil)))) (hF := (fk_cons 0 rfl fk_nil))
                    · rintro ⟨⟨x8266, x8267⟩, _⟩
                      try dsimp only
                      refine sxc_region ?_
                      refine sxo_move rfl rfl rfl ?_
                      refine sxo_add rfl rfl rfl rfl ?_
                      refine sxo_assign rfl rfl rfl ?_
                      refine sxo_nil ?_
                      exact sxq_againP ((x8266, x8267, iadd .i64 x8124 1), ()) (hR := (.cons 0 rfl (.cons 0 rfl (.cons 0 rfl .nil)))) (hF := (fk_cons 0 rfl fk_nil))
                  · refine sxc_exit ?_
                    refine sxq_thenX ?_
                    refine sxq_thenX ?_
                    refine sxq_blkX ?_
                    exact sxq_meetP ((x8122, x8123), ()) (hR := (.cons 0 rfl (.cons 0 rfl (.cons 0 rfl .nil)))) (hF := (fk_cons 0 rfl fk_nil))
                · rintro ⟨⟨x7996, x7997⟩, _⟩
                  try dsimp only
                  refine sxc_seq ?_
                  refine sxc_idxO (j := 1) rfl (fun x8013 e8013 g8014 h8015 => ?_)
                  replace h8015 : a12 = some ⟨g8014, 0, none⟩ := h8015
                  have h8016 := own_of (k := x5888.length) (c := c13) h8015
                  refine sxc_idxO (j := 1) rfl (fun x8017 e8017 g8018 h8019 => ?_)
                  replace h8019 : a12 = some ⟨g8018, 0, none⟩ := h8019
                  have h8020 := own_of (k := x5888.length) (c := c13) h8019
                  refine sxc_idxO (j := 1) rfl (fun x8021 e8021 g8022 h8023 => ?_)
                  replace h8023 : a12 = some ⟨g8022, 0, none⟩ := h8023
                  have h8024 := own_of (k := x5888.length) (c := c13) h8023
                  refine sxb_draw mixed [10] [] [Sl (eI .i64) 1 (.slice a2 x1.length c3) x1, CellsAt g8014 (x7708.toNat * 1) ((eI .i64) x8013), CellsAt g8018 (x7709.toNat * 1) ((eI .i64) x8017), CellsAt g8022 (x7708.toNat * 1) ((eI .i64) x8021)] .nil (gk_F 0 rfl (gk_R 1 rfl (at_row (eI_ok .i64) e8013 h8015) (gk_R 1 rfl (at_row (eI_ok .i64) e8017 h8019) (gk_R 1 rfl (at_row (eI_ok .i64) e8021 h8023) gk_nil)))) 11 rfl ?_
                  refine sxb_takeP 0 (.slice a12 x5888.length c13) rfl rfl rfl (yv_pv rfl) ?_
                  refine sxb_takeP 1 (.int .i64 x7708) rfl rfl rfl (yv_pv rfl) ?_
                  refine sxb_again (d := 152) (v := .slice (some ⟨g8014, 0, none⟩) x5888.length c13) rfl (by rw [h8015] <;> rfl) ?_
                  refine sxb_takeP 2 (.pointer (some ⟨g8014, x7708.toNat * 1, none⟩)) rfl rfl rfl (yv_idxO Try.underlying22 tf3 rfl rfl (idx_get e8013).1 (idx_lt e8013)) ?_
                  refine sxb_again (d := 152) (v := .slice a12 x5888.length c13) rfl (by rw [h8015] <;> rfl) ?_
                  refine sxb_take 3 (.int .i64 x8013) [[10]] rfl rfl rfl (yv_loadF (j := 1) rfl tf3 rfl rfl (fun _ => rfl) rfl) ?_
                  refine sxb_takeP 4 (.slice a12 x5888.length c13) rfl rfl rfl (yv_pv rfl) ?_
                  refine sxb_takeP 5 (.int .i64 x7709) rfl rfl rfl (yv_pv rfl) ?_
                  refine sxb_again (d := 156) (v := .slice (some ⟨g8018, 0, none⟩) x5888.length c13) rfl (by rw [h8019] <;> rfl) ?_
                  refine sxb_takeP 6 (.pointer (some ⟨g8018, x7709.toNat * 1, none⟩)) rfl rfl rfl (yv_idxO Try.underlying22 tf3 rfl rfl (idx_get e8017).1 (idx_lt e8017)) ?_
                  refine sxb_again (d := 156) (v := .slice a12 x5888.length c13) rfl (by rw [h8019] <;> rfl) ?_
                  refine sxb_take 7 (.int .i64 x8017) [[10]] rfl rfl rfl (yv_loadF (j := 2) rfl tf3 rfl rfl (fun _ => rfl) rfl) ?_
                  refine sxb_takeP 8 (.int .i64 (iadd .i64 x8013 x8017)) rfl rfl rfl (yv_pv rfl) ?_
                  refine sxb_again (d := 152) (v := .slice (some ⟨g8022, 0, none⟩) x5888.length c13) rfl (by rw [h8023] <;> rfl) ?_
                  refine sxb_takeP 9 (.pointer (some ⟨g8022, x7708.toNat * 1, none⟩)) rfl rfl rfl (yv_idxO Try.underlying22 tf3 rfl rfl (idx_get e8021).1 (idx_lt e8021)) ?_
                  refine sxb_again (d := 152) (v := .slice a12 x5888.length c13) rfl (by rw [h8023] <;> rfl) ?_
                  refine sxb_step 10 rfl (by kernel_rfl) rfl ?_
                  refine sxo_storeL (j := 1) (y' := iadd .i64 x8013 x8017) (eI_ok .i64) rfl rfl rfl tf3 rfl (own_of h8023) (idx_get e8021).2.1 rfl (fun x8025 e8025 h8026 => ?_)
                  have h8027 : x8025.length = x5888.length := by rw [← e8025, List.length_set]
                  refine sxo_again (d := 7) (v := .slice a12 x8025.length c13) rfl h8026 ?_
                  refine sxo_again (d := 152) (v := .slice a12 x8025.length c13) rfl h8026 ?_
                  refine sxo_again (d := 156) (v := .slice a12 x8025.length c13) rfl h8026 ?_
                  refine sxo_nil ?_
                  refine sxq_anyW 10 rfl (by kernel_rfl) .nil ?_
                  refine sxb_done (by kernel_rfl) ?_
                  refine sxq_np ?_ (by intro c h; cases h)
                  refine sxq_next ?_
                  refine sxc_region ?_
                  refine sxo_move rfl rfl rfl ?_
                  refine sxo_sub rfl rfl rfl rfl ?_
                  refine sxo_assign rfl rfl rfl ?_
                  refine sxo_nil ?_
                  refine sxq_blkN ?_
                  exact sxq_againP ((x7996, x8025, x7997, isub .i64 x5890 1), ()) (hR := (.cons 1 rfl (.cons 0 rfl (.cons 0 rfl .nil)))) (hF := (fk_cons 0 rfl fk_nil))
          · refine sxc_exit ?_
            refine sxq_thenX ?_
            refine sxq_thenX ?_
            refine sxq_blkX ?_
            exact sxq_meetP (x5889, ()) (hR := (.cons 2 rfl .nil))
        · rintro ⟨x4410, _⟩
          try dsimp only
          refine sxc_join (fun ((_, _) : (Unit × Unit)) => [(8, .slice a15 x4410.length c16)]) (fun ((_, _) : (Unit × Unit)) => []) (fun ((_, _) : (Unit × Unit)) => [Ro (eI .i64) 3 1 (.slice a15 x4410.length c16) x4410]) (fun ((_, _) : (Unit × Unit)) => []) (fun ((_, _) : (Unit × Unit)) => M_R_HuffLengths_j323 F x4410) ?_ ?_
          · refine sxc_seq ?_
            refine sxc_region ?_
            refine sxo_assign rfl rfl rfl ?_
            refine sxo_nil ?_
            refine sxq_next ?_
            refine sxc_block ?_
            refine sxc_loopP (fun ((x4453, _) : (Int × Unit)) => [(5, .int .i64 (x1.length : Int)), (8, .slice a15 x4410.length c16), (16, .int .i64 x4453)]) (fun ((x4453, _) : (Int × Unit)) => []) (fun ((x4453, _) : (Int × Unit)) => [Ro (eI .i64) 3 1 (.slice a15 x4410.length c16) x4410]) (fun ((x4453, _) : (Int × Unit)) => []) (fun k (s : (Int × Unit)) => M_R_HuffLengths_l324 F x1 x4410 k s.1) (0, ()) F ?_ (hR := (.cons 0 rfl .nil))
            intro k4464
            rintro ⟨x4453, _⟩
            try dsimp only
            refine sxc_meq (m' := M_R_HuffLengths_b324 F x1 x4410 (M_R_HuffLengths_l324 F x1 x4410 k4464) x4453) rfl ?_
            refine sxc_seq ?_
            refine sxc_seq ?_
            refine sxc_region ?_
            refine sxo_move rfl rfl rfl ?_
            refine sxo_move rfl rfl rfl ?_
            refine sxo_lss rfl rfl rfl rfl ?_
            refine sxo_nil ?_
            refine sxq_next ?_
            refine sxc_if rfl (fun h4474 => ?_) (fun h4474 => ?_)
            · refine sxc_skip ?_
              refine sxq_next ?_
              refine sxc_seq ?_
              refine sxc_block ?_
              refine sxc_seq ?_
              refine sxc_region ?_
              refine sxo_move rfl rfl rfl ?_
              refine sxo_move rfl rfl rfl ?_
              refine sxo_indexR (j := 0) rfl Try.underlying22 tf3 rfl rfl rfl rfl (fun x4470 e4470 g4471 h4472 => ?_)
              refine sxo_loadR (j := 0) (y := x4470) (eI_ok .i64) rfl rfl tf3 rfl h4472 (idx_get e4470).2.2 (fun _ => rfl) rfl rfl ?_
              refine sxo_gtr rfl rfl rfl rfl ?_
              refine sxo_nil ?_
              refine sxq_next ?_
              refine sxc_if rfl (fun h4473 => ?_) (fun h4473 => ?_)
              · refine sxc_seq ?_
                refine sxc_region ?_
                refine sxo_assign rfl rfl rfl ?_
                refine sxo_assign rfl rfl rfl ?_
                refine sxo_nil ?_
                refine sxq_next ?_
                refine sxc_ret ?_
                refine sxq_blkR ?_
                refine sxq_thenR ?_
                refine sxq_thenR ?_
                refine sxq_blkR ?_
                refine sxq_thenR ?_
                refine sxq_nilrow Int (eI .i64) 3 1 ?_
                exact sxq_doneP (none, 0) (res2 rfl rfl rfl) (fun h => by subst h; exact (.cons 0 rfl .nil))
              · refine sxc_skip ?_
                refine sxq_blkN ?_
                refine sxq_next ?_
                refine sxc_region ?_
                refine sxo_move rfl rfl rfl ?_
                refine sxo_add rfl rfl rfl rfl ?_
                refine sxo_assign rfl rfl rfl ?_
                refine sxo_nil ?_
                exact sxq_againP (iadd .i64 x4453 1, ()) (hR := (.cons 0 rfl .nil))
            · refine sxc_exit ?_
              refine sxq_thenX ?_
              refine sxq_thenX ?_
              refine sxq_blkX ?_
              exact sxq_meetP ((), ()) (hR := (.cons 0 rfl .nil))
          · rintro ⟨_, _⟩
            try dsimp only
            refine sxc_seq ?_
            refine sxc_region ?_
            refine sxo_move rfl rfl rfl ?_
            refine sxo_assign rfl rfl rfl ?_
            refine sxo_assign rfl rfl rfl ?_
            refine sxo_nil ?_
            refine sxq_next ?_
            refine sxc_ret ?_
            exact sxq_doneP (a15, c16) (res2 rfl rfl rfl) (fun h => by subst h; exact (.cons 0 rfl .nil))

theorem C_R_KraftCheck (F : Nat) (x1 : List Int) (a2 : Option Addr) (c3 : Nat) (r : Int) (hm : M_R_KraftCheck F x1 = some r) :
    Pure Try.prog 38 [.slice a2 x1.length c3] [Sl (eI .i64) 1 (.slice a2 x1.length c3) x1] Unit (fun _ => .int .i64 r) (fun _ => []) (fun _ => []) := by
  refine pure_of Try.func38 rfl Try.ntmps38 rfl hm (fun w => ?_)
  refine sxc_env (l' := [(0, .slice a2 x1.length c3)]) rfl ?_
  refine sxc_seq ?_
  refine sxc_region ?_
  refine sxo_assign rfl rfl rfl ?_
  refine sxo_nil ?_
  refine sxq_next ?_
  refine sxc_seq ?_
  refine sxc_seq ?_
  refine sxc_region ?_
  refine sxo_move rfl rfl rfl ?_
  refine sxo_len rfl Try.underlying22 rfl rfl ?_
  refine sxo_gtr rfl rfl rfl rfl ?_
  refine sxo_nil ?_
  refine sxq_next ?_
  refine sxc_if rfl (fun h81 => ?_) (fun h81 => ?_)
  · refine sxc_seq ?_
    refine sxc_region ?_
    refine sxo_assign rfl rfl rfl ?_
    refine sxo_nil ?_
    refine sxq_next ?_
    refine sxc_ret ?_
    refine sxq_thenR ?_
    exact sxq_doneP () (res1 rfl rfl)
  · refine sxc_skip ?_
    refine sxq_next ?_
    refine sxc_join (fun ((_, _) : (Unit × Unit)) => []) (fun ((_, _) : (Unit × Unit)) => []) (fun ((_, _) : (Unit × Unit)) => []) (fun ((_, _) : (Unit × Unit)) => []) (fun ((_, _) : (Unit × Unit)) => M_R_KraftCheck_j2 F) ?_ ?_
    · refine sxc_seq ?_
      refine sxc_region ?_
      refine sxo_assign rfl rfl rfl ?_
      refine sxo_nil ?_
      refine sxq_next ?_
      refine sxc_block ?_
      refine sxc_loopP (fun ((x55, _) : (Int × Unit)) => [(0, .slice a2 x1.length c3), (3, .int .i64 x55)]) (fun ((x55, _) : (Int × Unit)) => []) (fun ((x55, _) : (Int × Unit)) => []) (fun ((x55, _) : (Int × Unit)) => [Sl (eI .i64) 1 (.slice a2 x1.length c3) x1]) (fun k (s : (Int × Unit)) => M_R_KraftCheck_l3 F x1 k s.1) (0, ()) F ?_ (hF := (fk_cons 0 rfl fk_nil))
      intro k68
      rintro ⟨x55, _⟩
      try dsimp only
      refine sxc_meq (m' := M_R_KraftCheck_b3 F x1 (M_R_KraftCheck_l3 F x1 k68) x55) rfl ?_
      refine sxc_seq ?_
      refine sxc_seq ?_
      refine sxc_region ?_
      refine sxo_move rfl rfl rfl ?_
      refine sxo_move rfl rfl rfl ?_
      refine sxo_len rfl Try.underlying22 rfl rfl ?_
      refine sxo_lss rfl rfl rfl rfl ?_
      refine sxo_nil ?_
      refine sxq_next ?_
      refine sxc_if rfl (fun h80 => ?_) (fun h80 => ?_)
      · refine sxc_skip ?_
        refine sxq_next ?_
        refine sxc_seq ?_
        refine sxc_block ?_
        refine sxc_seq ?_
        refine sxc_region ?_
        refine sxo_move rfl rfl rfl ?_
        refine sxo_move rfl rfl rfl ?_
        refine sxo_indexF (j := 0) (eI_ok .i64) (by decide) rfl Try.underlying22 tf3 rfl rfl rfl rfl (fun x75 e75 b76 o77 => ?_)
        refine sxo_loadF (j := 0) rfl rfl tf3 rfl rfl (fun _ => rfl) rfl rfl ?_
        refine sxo_call ent39 rfl rfl rfl (fun x78 e78 => C_R_between F x75 0 24 x78 e78) .nil (fun x78 e78 => ?_)
        intro _
        refine sxo_not rfl rfl rfl ?_
        refine sxo_nil ?_
        refine sxq_next ?_
        refine sxc_if rfl (fun h79 => ?_) (fun h79 => ?_)
        · refine sxc_seq ?_
          refine sxc_region ?_
          refine sxo_assign rfl rfl rfl ?_
          refine sxo_nil ?_
          refine sxq_next ?_
          refine sxc_ret ?_
          refine sxq_blkR ?_
          refine sxq_thenR ?_
          refine sxq_thenR ?_
          refine sxq_blkR ?_
          refine sxq_thenR ?_
          exact sxq_doneP () (res1 rfl rfl)
        · refine sxc_skip ?_
          refine sxq_blkN ?_
          refine sxq_next ?_
          refine sxc_region ?_
          refine sxo_move rfl rfl rfl ?_
          refine sxo_add rfl rfl rfl rfl ?_
          refine sxo_assign rfl rfl rfl ?_
          refine sxo_nil ?_
          exact sxq_againP (iadd .i64 x55 1, ()) (hF := (fk_cons 1 rfl fk_nil))
      · refine sxc_exit ?_
        refine sxq_thenX ?_
        refine sxq_thenX ?_
        refine sxq_blkX ?_
        exact sxq_meetP ((), ())
    · rintro ⟨_, _⟩
      try dsimp only
      refine sxc_seq ?_
      refine sxc_region ?_
      refine sxo_assign rfl rfl rfl ?_
      refine sxo_nil ?_
      refine sxq_next ?_
      refine sxc_ret ?_
      exact sxq_doneP () (res1 rfl rfl)

set_option maxHeartbeats 4000000 in
theorem C_R_HuffCost (F : Nat) (x1 : List Int) (a2 : Option Addr) (c3 : Nat) (x4 : List Int) (a5 : Option Addr) (c6 : Nat) (r : (Int × Int)) (hm : M_R_HuffCost F x1 x4 = some r) :
    Pure Try.prog 16 [.slice a2 x1.length c3, .slice a5 x4.length c6] [Sl (eI .i64) 1 (.slice a2 x1.length c3) x1, Sl (eI .i64) 1 (.slice a5 x4.length c6) x4] Unit (fun _ => .tuple #[.int .i64 r.1, .int .i64 r.2]) (fun _ => []) (fun _ => []) := by
  refine pure_of Try.func16 rfl Try.ntmps16 rfl hm (fun w => ?_)
  refine sxc_env (l' := [(0, .slice a2 x1.length c3), (1, .slice a5 x4.length c6)]) rfl ?_
  refine sxc_seq ?_
  refine sxc_region ?_
  refine sxo_assign rfl rfl rfl ?_
  refine sxo_assign rfl rfl rfl ?_
  refine sxo_nil ?_
  refine sxq_next ?_
  refine sxc_seq ?_
  refine sxc_region ?_
  refine sxo_move rfl rfl rfl ?_
  refine sxo_call ent38 rfl rfl rfl (fun x7 e7 => C_R_KraftCheck F x4 a5 c6 x7 e7) (.consF 1 rfl .nil) (fun x7 e7 => ?_)
  intro _
  refine sxo_assign rfl rfl rfl ?_
  refine sxo_nil ?_
  refine sxq_next ?_
  refine sxc_join (fun ((x10, _) : (Int × Unit)) => [(0, .slice a2 x1.length c3), (1, .slice a5 x4.length c6), (6, .int .i64 x10)]) (fun ((x10, _) : (Int × Unit)) => []) (fun ((x10, _) : (Int × Unit)) => []) (fun ((x10, _) : (Int × Unit)) => [Sl (eI .i64) 1 (.slice a2 x1.length c3) x1, Sl (eI .i64) 1 (.slice a5 x4.length c6) x4]) (fun ((x10, _) : (Int × Unit)) => M_R_HuffCost_j1 F x1 x4 x10) ?_ ?_
  · refine sxc_seq ?_
    refine sxc_region ?_
    refine sxo_move rfl rfl rfl ?_
    refine sxo_eql rfl rfl rfl rfl ?_
    refine sxo_move rfl rfl rfl ?_
    refine sxo_case 6 ((x7 : Int) == 0) [(0, .slice a2 x1.length c3), (1, .slice a5 x4.length c6), (6, .int .i64 x7), (19, .bool (((x7 : Int) == 0) && (((x4.length : Int) : Int) != (x1.length : Int))))] (fun h421 => ?_) (fun h421 => ?_) ?_
    · refine sxo_take (os := _) rfl ?_
      refine sxo_isT (k := 13) rfl h421 ?_
      refine sxo_move rfl rfl rfl ?_
      refine sxo_len rfl Try.underlying22 rfl rfl ?_
      refine sxo_move rfl rfl rfl ?_
      refine sxo_len rfl Try.underlying22 rfl rfl ?_
      refine sxo_neq rfl rfl rfl rfl ?_
      refine sxo_pick (b := true) rfl rfl rfl rfl ?_
      refine sxo_again (d := 19) (v := .bool (((x7 : Int) == 0) && (((x4.length : Int) : Int) != (x1.length : Int)))) rfl (by rw [h421]; simp only [Bool.true_and]) ?_
      refine sxo_nil ?_
      exact sxq_case (lk_cons rfl (lk_cons rfl (lk_cons rfl (lk_cons rfl lk_nil))))
    · refine sxo_take (os := _) rfl ?_
      refine sxo_isF (k := 13) rfl h421 ?_
      refine sxo_skip rfl rfl rfl ?_
      refine sxo_skip rfl rfl rfl ?_
      refine sxo_skip rfl rfl rfl ?_
      refine sxo_skip rfl rfl rfl ?_
      refine sxo_skip rfl rfl rfl ?_
      refine sxo_pick (b := false) rfl rfl rfl rfl ?_
      refine sxo_again (d := 19) (v := .bool (((x7 : Int) == 0) && (((x4.length : Int) : Int) != (x1.length : Int)))) rfl (by rw [h421]; simp only [Bool.false_and]) ?_
      refine sxo_nil ?_
      exact sxq_case (lk_cons rfl (lk_cons rfl (lk_cons rfl (lk_cons rfl lk_nil))))
    refine sxo_take (os := _) rfl ?_
    refine sxo_nil ?_
    refine sxq_next ?_
    refine sxc_if rfl (fun h422 => ?_) (fun h422 => ?_)
    · refine sxc_region ?_
      refine sxo_assign rfl rfl rfl ?_
      refine sxo_nil ?_
      exact sxq_meetP (1, ()) (hF := (fk_cons 0 rfl (fk_cons 1 rfl fk_nil)))
    · refine sxc_skip ?_
      exact sxq_meetP (x7, ()) (hF := (fk_cons 0 rfl (fk_cons 1 rfl fk_nil)))
  · rintro ⟨x10, _⟩
    try dsimp only
    refine sxc_join (fun ((x13, _) : (Int × Unit)) => [(0, .slice a2 x1.length c3), (1, .slice a5 x4.length c6), (6, .int .i64 x13)]) (fun ((x13, _) : (Int × Unit)) => []) (fun ((x13, _) : (Int × Unit)) => []) (fun ((x13, _) : (Int × Unit)) => [Sl (eI .i64) 1 (.slice a2 x1.length c3) x1, Sl (eI .i64) 1 (.slice a5 x4.length c6) x4]) (fun ((x13, _) : (Int × Unit)) => M_R_HuffCost_j2 F x1 x4 x13) ?_ ?_
    · refine sxc_seq ?_
      refine sxc_region ?_
      refine sxo_move rfl rfl rfl ?_
      refine sxo_eql rfl rfl rfl rfl ?_
      refine sxo_nil ?_
      refine sxq_next ?_
      refine sxc_if rfl (fun h420 => ?_) (fun h420 => ?_)
      · refine sxc_region ?_
        refine sxo_move rfl rfl rfl ?_
        refine sxo_call ent37 rfl rfl rfl (fun x419 e419 => C_R_HuffErr F x1 a2 c3 x419 e419) (.consF 0 rfl .nil) (fun x419 e419 => ?_)
        intro _
        refine sxo_assign rfl rfl rfl ?_
        refine sxo_nil ?_
        exact sxq_meetP (x419, ()) (hF := (fk_cons 0 rfl (fk_cons 1 rfl fk_nil)))
      · refine sxc_skip ?_
        exact sxq_meetP (x10, ()) (hF := (fk_cons 0 rfl (fk_cons 1 rfl fk_nil)))
    · rintro ⟨x13, _⟩
      try dsimp only
      refine sxc_seq ?_
      refine sxc_seq ?_
      refine sxc_region ?_
      refine sxo_move rfl rfl rfl ?_
      refine sxo_neq rfl rfl rfl rfl ?_
      refine sxo_nil ?_
      refine sxq_next ?_
      refine sxc_if rfl (fun h418 => ?_) (fun h418 => ?_)
      · refine sxc_seq ?_
        refine sxc_region ?_
        refine sxo_move rfl rfl rfl ?_
        refine sxo_assign rfl rfl rfl ?_
        refine sxo_assign rfl rfl rfl ?_
        refine sxo_nil ?_
        refine sxq_next ?_
        refine sxc_ret ?_
        refine sxq_thenR ?_
        exact sxq_doneP () (res2 rfl rfl rfl)
      · refine sxc_skip ?_
        refine sxq_next ?_
        refine sxc_seq ?_
        refine sxc_region ?_
        refine sxo_assign rfl rfl rfl ?_
        refine sxo_nil ?_
        refine sxq_next ?_
        refine sxc_join (fun ((x216, _) : (Int × Unit)) => [(7, .int .i64 x216)]) (fun ((x216, _) : (Int × Unit)) => []) (fun ((x216, _) : (Int × Unit)) => []) (fun ((x216, _) : (Int × Unit)) => []) (fun ((x216, _) : (Int × Unit)) => M_R_HuffCost_j16 F x216) ?_ ?_
        · refine sxc_seq ?_
          refine sxc_region ?_
          refine sxo_assign rfl rfl rfl ?_
          refine sxo_nil ?_
          refine sxq_next ?_
          refine sxc_block ?_
          refine sxc_loopP (fun (((x283, x284), _) : ((Int × Int) × Unit)) => [(0, .slice a2 x1.length c3), (1, .slice a5 x4.length c6), (7, .int .i64 x283), (8, .int .i64 x284)]) (fun (((x283, x284), _) : ((Int × Int) × Unit)) => []) (fun (((x283, x284), _) : ((Int × Int) × Unit)) => []) (fun (((x283, x284), _) : ((Int × Int) × Unit)) => [Sl (eI .i64) 1 (.slice a2 x1.length c3) x1, Sl (eI .i64) 1 (.slice a5 x4.length c6) x4]) (fun k (s : ((Int × Int) × Unit)) => M_R_HuffCost_l25 F x1 x4 k s.1) ((0, 0), ()) F ?_ (hF := (fk_cons 0 rfl (fk_cons 1 rfl fk_nil)))
          intro k351
          rintro ⟨⟨x283, x284⟩, _⟩
          try dsimp only
          refine sxc_meq (m' := M_R_HuffCost_b25 F x1 x4 (M_R_HuffCost_l25 F x1 x4 k351) x283 x284) rfl ?_
          refine sxc_seq ?_
          refine sxc_seq ?_
          refine sxc_region ?_
          refine sxo_move rfl rfl rfl ?_
          refine sxo_move rfl rfl rfl ?_
          refine sxo_len rfl Try.underlying22 rfl rfl ?_
          refine sxo_lss rfl rfl rfl rfl ?_
          refine sxo_nil ?_
          refine sxq_next ?_
          refine sxc_if rfl (fun h417 => ?_) (fun h417 => ?_)
          · refine sxc_skip ?_
            refine sxq_next ?_
            refine sxc_seq ?_
            refine sxc_block ?_
            refine sxc_seq ?_
            refine sxc_seq ?_
            refine sxc_region ?_
            refine sxo_move rfl rfl rfl ?_
            refine sxo_move rfl rfl rfl ?_
            refine sxo_indexF (j := 0) (eI_ok .i64) (by decide) rfl Try.underlying22 tf3 rfl rfl rfl rfl (fun x397 e397 b398 o399 => ?_)
            refine sxo_loadF (j := 0) rfl rfl tf3 rfl rfl (fun _ => rfl) rfl rfl ?_
            refine sxo_gtr rfl rfl rfl rfl ?_
            refine sxo_move rfl rfl rfl ?_
            refine sxo_join 6 (fun ((x404, _) : (Bool × Unit)) => [(0, .slice a2 x1.length c3), (1, .slice a5 x4.length c6), (7, .int .i64 x283), (8, .int .i64 x284), (44, .bool x404)]) (fun ((x404, _) : (Bool × Unit)) => []) (fun ((x404, _) : (Bool × Unit)) => []) (fun ((x404, _) : (Bool × Unit)) => [Sl (eI .i64) 1 (.slice a2 x1.length c3) x1, Sl (eI .i64) 1 (.slice a5 x4.length c6) x4]) (fun ((x404, _) : (Bool × Unit)) => M_R_HuffCost_j29 F (M_R_HuffCost_l25 F x1 x4 k351) x1 x4 x283 x284 x404) ?_ ?_
            · refine sxo_take (os := _) rfl ?_
              refine sxo_if (fun h400 => ?_) (fun h400 => ?_)
              · refine sxo_isT (k := 38) rfl h400 ?_
                refine sxo_move rfl rfl rfl ?_
                refine sxo_move rfl rfl rfl ?_
                refine sxo_indexF (j := 2) (eI_ok .i64) (by decide) rfl Try.underlying22 tf3 rfl rfl rfl rfl (fun x414 e414 b415 o416 => ?_)
                refine sxo_loadF (j := 0) rfl rfl tf3 rfl rfl (fun _ => rfl) rfl rfl ?_
                refine sxo_eql rfl rfl rfl rfl ?_
                refine sxo_pick (b := true) rfl rfl rfl rfl ?_
                refine sxo_nil ?_
                exact sxq_meetP (((x414 : Int) == 0), ()) (hF := (fk_cons 2 rfl (fk_cons 3 rfl fk_nil)))
              · refine sxo_isF (k := 38) rfl h400 ?_
                refine sxo_skip rfl rfl rfl ?_
                refine sxo_skip rfl rfl rfl ?_
                refine sxo_skip rfl rfl rfl ?_
                refine sxo_skip rfl rfl rfl ?_
                refine sxo_skip rfl rfl rfl ?_
                refine sxo_pick (b := false) rfl rfl rfl rfl ?_
                refine sxo_nil ?_
                exact sxq_meetP (false, ()) (hF := (fk_cons 1 rfl (fk_cons 2 rfl fk_nil)))
            · rintro ⟨x404, _⟩
              try dsimp only
              refine sxo_take (os := _) rfl ?_
              refine sxo_nil ?_
              refine sxq_next ?_
              refine sxc_if rfl (fun h413 => ?_) (fun h413 => ?_)
              · refine sxc_seq ?_
                refine sxc_region ?_
                refine sxo_assign rfl rfl rfl ?_
                refine sxo_assign rfl rfl rfl ?_
                refine sxo_nil ?_
                refine sxq_next ?_
                refine sxc_ret ?_
                refine sxq_thenR ?_
                refine sxq_blkR ?_
                refine sxq_thenR ?_
                refine sxq_thenR ?_
                refine sxq_blkR ?_
                refine sxq_thenR ?_
                exact sxq_doneP () (res2 rfl rfl rfl)
              · refine sxc_skip ?_
                refine sxq_next ?_
                refine sxc_idxF (j := 0) (eI_ok .i64) (by decide) rfl (fun x405 e405 b406 o407 h408 => ?_)
                replace h408 : a2 = some ⟨b406, o407, none⟩ := h408
                refine sxc_idxF (j := 2) (eI_ok .i64) (by decide) rfl (fun x409 e409 b410 o411 h412 => ?_)
                replace h412 : a5 = some ⟨b410, o411, none⟩ := h412
                refine sxb_draw mixed [] [] [CellsAt b410 (o411 + x284.toNat * 1) ((eI .i64) x409), CellsAt b406 (o407 + x284.toNat * 1) ((eI .i64) x405), Sl (eI .i64) 1 (.slice a2 x1.length c3) x1, Sl (eI .i64) 1 (.slice a5 x4.length c6) x4] .nil (gk_F 0 rfl (gk_F 1 rfl (gk_F 2 rfl (gk_F 3 rfl gk_nil)))) 12 rfl ?_
                refine sxb_takeP 0 (.int .i64 x283) rfl rfl rfl (yv_pv rfl) ?_
                refine sxb_takeP 1 (.slice a2 x1.length c3) rfl rfl rfl (yv_pv rfl) ?_
                refine sxb_takeP 2 (.int .i64 x284) rfl rfl rfl (yv_pv rfl) ?_
                refine sxb_again (d := 46) (v := .slice (some ⟨b406, o407, none⟩) x1.length c3) rfl (by rw [h408] <;> rfl) ?_
                refine sxb_takeP 3 (.pointer (some ⟨b406, (o407 + x284.toNat * 1), none⟩)) rfl rfl rfl (yv_idx Try.underlying22 tf3 rfl rfl (idx_get e405).1 (idx_lt e405)) ?_
                refine sxb_again (d := 46) (v := .slice a2 x1.length c3) rfl (by rw [h408] <;> rfl) ?_
                refine sxb_take 4 (.int .i64 x405) [] rfl rfl rfl (yv_loadF (j := 1) rfl tf3 rfl rfl (fun _ => rfl) rfl) ?_
                refine sxb_takeP 5 (.slice a5 x4.length c6) rfl rfl rfl (yv_pv rfl) ?_
                refine sxb_takeP 6 (.int .i64 x284) rfl rfl rfl (yv_pv rfl) ?_
                refine sxb_again (d := 50) (v := .slice (some ⟨b410, o411, none⟩) x4.length c6) rfl (by rw [h412] <;> rfl) ?_
                refine sxb_takeP 7 (.pointer (some ⟨b410, (o411 + x284.toNat * 1), none⟩)) rfl rfl rfl (yv_idx Try.underlying22 tf3 rfl rfl (idx_get e409).1 (idx_lt e409)) ?_
                refine sxb_again (d := 50) (v := .slice a5 x4.length c6) rfl (by rw [h412] <;> rfl) ?_
                refine sxb_take 8 (.int .i64 x409) [] rfl rfl rfl (yv_loadF (j := 0) rfl tf3 rfl rfl (fun _ => rfl) rfl) ?_
                refine sxb_takeP 9 (.int .i64 (imul .i64 x405 x409)) rfl rfl rfl (yv_pv rfl) ?_
                refine sxb_takeP 10 (.int .i64 (iadd .i64 x283 (imul .i64 x405 x409))) rfl rfl rfl (yv_pv rfl) ?_
                refine sxb_takeP 11 (.int .i64 (iadd .i64 x283 (imul .i64 x405 x409))) rfl rfl rfl (yv_pv rfl) ?_
                refine sxb_done (by kernel_rfl) ?_
                refine sxq_np ?_ (by intro c h; cases h)
                refine sxq_blkN ?_
                refine sxq_next ?_
                refine sxc_region ?_
                refine sxo_move rfl rfl rfl ?_
                refine sxo_add rfl rfl rfl rfl ?_
                refine sxo_assign rfl rfl rfl ?_
                refine sxo_nil ?_
                exact sxq_againP ((iadd .i64 x283 (imul .i64 x405 x409), iadd .i64 x284 1), ()) (hF := (fk_cons 2 rfl (fk_cons 3 rfl fk_nil)))
          · refine sxc_exit ?_
            refine sxq_thenX ?_
            refine sxq_thenX ?_
            refine sxq_blkX ?_
            exact sxq_meetP (x283, ())
        · rintro ⟨x216, _⟩
          try dsimp only
          refine sxc_seq ?_
          refine sxc_region ?_
          refine sxo_move rfl rfl rfl ?_
          refine sxo_assign rfl rfl rfl ?_
          refine sxo_assign rfl rfl rfl ?_
          refine sxo_nil ?_
          refine sxq_next ?_
          refine sxc_ret ?_
          exact sxq_doneP () (res2 rfl rfl rfl)

theorem C_R_PackBits (F : Nat) (x1 : List Int) (a2 : Option Addr) (c3 : Nat) (r : (Int × List Int)) (hm : M_R_PackBits F x1 = some r) :
    Pure Try.prog 42 [.slice a2 x1.length c3] [Sl (eI .i64) 1 (.slice a2 x1.length c3) x1] (Option Addr × Nat) (fun g => .agg #[.int .i64 r.1, .slice g.1 r.2.length g.2]) (fun g => [Ro (eI .u8) 5 1 (.slice g.1 r.2.length g.2) r.2]) (fun _ => []) := by
  refine pure_of Try.func42 rfl Try.ntmps42 rfl hm (fun w => ?_)
  refine sxc_env (l' := [(0, .slice a2 x1.length c3)]) rfl ?_
  refine sxc_seq ?_
  refine sxc_region ?_
  refine sxo_alloc rfl tf25 rfl (fun g4 => ?_)
  refine sxo_nil ?_
  refine sxq_next ?_
  refine sxc_seq ?_
  refine sxc_region ?_
  refine sxo_move rfl rfl rfl ?_
  refine sxo_len rfl Try.underlying22 rfl rfl ?_
  refine sxo_build (cells := [.int .i64 (x1.length : Int), .slice none 0 0]) rfl st25 rfl (by kernel_rfl) rfl ?_
  refine sxo_alloc rfl tf25 rfl (fun g5 => ?_)
  refine sxo_storeB (i := 0) rfl rfl rfl tf25 rfl rfl rfl rfl rfl ?_
  refine sxo_nil ?_
  refine sxq_next ?_
  refine sxc_join (fun ((x497, (a495, c496)) : (List Int × (Option Addr × Nat))) => [(2, .pointer (some ⟨g4, 0, none⟩)), (3, .pointer (some ⟨g5, 0, none⟩))]) (fun ((x497, (a495, c496)) : (List Int × (Option Addr × Nat))) => [⟨g5, 25, [.int .i64 (x1.length : Int), .slice a495 x497.length c496]⟩, ⟨g4, 25, [.int .i64 0, .slice none 0 0]⟩]) (fun ((x497, (a495, c496)) : (List Int × (Option Addr × Nat))) => [Ro (eI .u8) 5 1 (.slice a495 x497.length c496) x497]) (fun ((x497, (a495, c496)) : (List Int × (Option Addr × Nat))) => []) (fun ((x497, _) : (List Int × (Option Addr × Nat))) => M_R_PackBits_j59 F x1 x497) ?_ ?_
  · refine sxc_seq ?_
    refine sxc_region ?_
    refine sxo_assign rfl rfl rfl ?_
    refine sxo_nil ?_
    refine sxq_next ?_
    refine sxc_block ?_
    refine sxc_nilrow Int (eI .u8) 5 1 ?_
    refine sxc_loopP (fun (((x660, x663), (a661, c662)) : ((Int × List Int) × (Option Addr × Nat))) => [(0, .slice a2 x1.length c3), (2, .pointer (some ⟨g4, 0, none⟩)), (3, .pointer (some ⟨g5, 0, none⟩)), (4, .int .i64 x660)]) (fun (((x660, x663), (a661, c662)) : ((Int × List Int) × (Option Addr × Nat))) => [⟨g5, 25, [.int .i64 (x1.length : Int), .slice a661 x663.length c662]⟩, ⟨g4, 25, [.int .i64 0, .slice none 0 0]⟩]) (fun (((x660, x663), (a661, c662)) : ((Int × List Int) × (Option Addr × Nat))) => [Ro (eI .u8) 5 1 (.slice a661 x663.length c662) x663]) (fun (((x660, x663), (a661, c662)) : ((Int × List Int) × (Option Addr × Nat))) => [Sl (eI .i64) 1 (.slice a2 x1.length c3) x1]) (fun k (s : ((Int × List Int) × (Option Addr × Nat))) => M_R_PackBits_l98 F x1 k s.1) ((0, ([] : List Int)), (none, 0)) F ?_ (hB := (.cons 0 rfl (.cons 0 rfl .nil))) (hR := (.cons 0 rfl .nil)) (hF := (fk_cons 0 rfl fk_nil))
    intro k825
    rintro ⟨⟨x660, x663⟩, ⟨a661, c662⟩⟩
    try dsimp only
    refine sxc_meq (m' := M_R_PackBits_b98 F x1 (M_R_PackBits_l98 F x1 k825) x660 x663) rfl ?_
    refine sxc_seq ?_
    refine sxc_seq ?_
    refine sxc_region ?_
    refine sxo_move rfl rfl rfl ?_
    refine sxo_move rfl rfl rfl ?_
    refine sxo_len rfl Try.underlying22 rfl rfl ?_
    refine sxo_lss rfl rfl rfl rfl ?_
    refine sxo_nil ?_
    refine sxq_next ?_
    refine sxc_if rfl (fun h986 => ?_) (fun h986 => ?_)
    · refine sxc_skip ?_
      refine sxq_next ?_
      refine sxc_join (fun ((x907, (a905, c906)) : (List Int × (Option Addr × Nat))) => [(0, .slice a2 x1.length c3), (2, .pointer (some ⟨g4, 0, none⟩)), (3, .pointer (some ⟨g5, 0, none⟩)), (4, .int .i64 x660)]) (fun ((x907, (a905, c906)) : (List Int × (Option Addr × Nat))) => [⟨g5, 25, [.int .i64 (x1.length : Int), .slice a905 x907.length c906]⟩, ⟨g4, 25, [.int .i64 0, .slice none 0 0]⟩]) (fun ((x907, (a905, c906)) : (List Int × (Option Addr × Nat))) => [Ro (eI .u8) 5 1 (.slice a905 x907.length c906) x907]) (fun ((x907, (a905, c906)) : (List Int × (Option Addr × Nat))) => [Sl (eI .i64) 1 (.slice a2 x1.length c3) x1]) (fun ((x907, _) : (List Int × (Option Addr × Nat))) => M_R_PackBits_j108 F (M_R_PackBits_l98 F x1 k825) x660 x907) ?_ ?_
      · refine sxc_block ?_
        refine sxc_seq ?_
        refine sxc_region ?_
        refine sxo_assign rfl rfl rfl ?_
        refine sxo_nil ?_
        refine sxq_next ?_
        refine sxc_join (fun ((x944, _) : (Int × Unit)) => [(0, .slice a2 x1.length c3), (2, .pointer (some ⟨g4, 0, none⟩)), (3, .pointer (some ⟨g5, 0, none⟩)), (4, .int .i64 x660), (5, .int .i64 x944)]) (fun ((x944, _) : (Int × Unit)) => [⟨g5, 25, [.int .i64 (x1.length : Int), .slice a661 x663.length c662]⟩, ⟨g4, 25, [.int .i64 0, .slice none 0 0]⟩]) (fun ((x944, _) : (Int × Unit)) => [Ro (eI .u8) 5 1 (.slice a661 x663.length c662) x663]) (fun ((x944, _) : (Int × Unit)) => [Sl (eI .i64) 1 (.slice a2 x1.length c3) x1]) (fun ((x944, _) : (Int × Unit)) => M_R_PackBits_j113 F (M_R_PackBits_l98 F x1 k825) x660 x663 x944) ?_ ?_
        · refine sxc_seq ?_
          refine sxc_region ?_
          refine sxo_assign rfl rfl rfl ?_
          refine sxo_nil ?_
          refine sxq_next ?_
          refine sxc_block ?_
          refine sxc_loopP (fun (((x961, x962), _) : ((Int × Int) × Unit)) => [(0, .slice a2 x1.length c3), (2, .pointer (some ⟨g4, 0, none⟩)), (3, .pointer (some ⟨g5, 0, none⟩)), (4, .int .i64 x660), (5, .int .i64 x961), (6, .int .i64 x962)]) (fun (((x961, x962), _) : ((Int × Int) × Unit)) => [⟨g5, 25, [.int .i64 (x1.length : Int), .slice a661 x663.length c662]⟩, ⟨g4, 25, [.int .i64 0, .slice none 0 0]⟩]) (fun (((x961, x962), _) : ((Int × Int) × Unit)) => [Ro (eI .u8) 5 1 (.slice a661 x663.length c662) x663]) (fun (((x961, x962), _) : ((Int × Int) × Unit)) => [Sl (eI .i64) 1 (.slice a2 x1.length c3) x1]) (fun k (s : ((Int × Int) × Unit)) => M_R_PackBits_l116 F (M_R_PackBits_l98 F x1 k825) x1 x660 x663 k s.1) ((0, 0), ()) F ?_ (hB := (.cons 0 rfl (.cons 0 rfl .nil))) (hR := (.cons 0 rfl .nil)) (hF := (fk_cons 0 rfl fk_nil))
          intro k974
          rintro ⟨⟨x961, x962⟩, _⟩
          try dsimp only
          refine sxc_meq (m' := M_R_PackBits_b116 F (M_R_PackBits_l98 F x1 k825) x1 x660 x663 (M_R_PackBits_l116 F (M_R_PackBits_l98 F x1 k825) x1 x660 x663 k974) x961 x962) rfl ?_
          refine sxc_seq ?_
          refine sxc_seq ?_
          refine sxc_region ?_
          refine sxo_move rfl rfl rfl ?_
          refine sxo_lss rfl rfl rfl rfl ?_
          refine sxo_nil ?_
          refine sxq_next ?_
          refine sxc_if rfl (fun h985 => ?_) (fun h985 => ?_)
          · refine sxc_skip ?_
            refine sxq_next ?_
            refine sxc_join (fun ((x980, _) : (Int × Unit)) => [(0, .slice a2 x1.length c3), (2, .pointer (some ⟨g4, 0, none⟩)), (3, .pointer (some ⟨g5, 0, none⟩)), (4, .int .i64 x660), (5, .int .i64 x980), (6, .int .i64 x962)]) (fun ((x980, _) : (Int × Unit)) => [⟨g5, 25, [.int .i64 (x1.length : Int), .slice a661 x663.length c662]⟩, ⟨g4, 25, [.int .i64 0, .slice none 0 0]⟩]) (fun ((x980, _) : (Int × Unit)) => [Ro (eI .u8) 5 1 (.slice a661 x663.length c662) x663]) (fun ((x980, _) : (Int × Unit)) => [Sl (eI .i64) 1 (.slice a2 x1.length c3) x1]) (fun ((x980, _) : (Int × Unit)) => M_R_PackBits_j117 F (M_R_PackBits_l116 F (M_R_PackBits_l98 F x1 k825) x1 x660 x663 k974) x962 x980) ?_ ?_
            · refine sxc_block ?_
              refine sxc_seq ?_
              refine sxc_region ?_
              refine sxo_move rfl rfl rfl ?_
              refine sxo_mul rfl rfl rfl rfl ?_
              refine sxo_assign rfl rfl rfl ?_
              refine sxo_nil ?_
              refine sxq_next ?_
              refine sxc_seq ?_
              refine sxc_region ?_
              refine sxo_move rfl rfl rfl ?_
              refine sxo_move rfl rfl rfl ?_
              refine sxo_add rfl rfl rfl rfl ?_
              refine sxo_move rfl rfl rfl ?_
              refine sxo_len rfl Try.underlying22 rfl rfl ?_
              refine sxo_lss rfl rfl rfl rfl ?_
              refine sxo_nil ?_
              refine sxq_next ?_
              refine sxc_if rfl (fun h984 => ?_) (fun h984 => ?_)
              · refine sxc_region ?_
                refine sxo_move rfl rfl rfl ?_
                refine sxo_move rfl rfl rfl ?_
                refine sxo_move rfl rfl rfl ?_
                refine sxo_move rfl rfl rfl ?_
                refine sxo_add rfl rfl rfl rfl ?_
                refine sxo_indexF (j := 0) (eI_ok .i64) (by decide) rfl Try.underlying22 tf3 rfl rfl rfl rfl (fun x981 e981 b982 o983 => ?_)
                refine sxo_loadF (j := 0) rfl rfl tf3 rfl rfl (fun _ => rfl) rfl rfl ?_
                refine sxo_add rfl rfl rfl rfl ?_
                refine sxo_assign rfl rfl rfl ?_
                refine sxo_nil ?_
                refine sxq_blkN ?_
                exact sxq_meetP (iadd .i64 (imul .i64 2 x961) x981, ()) (hB := (.cons 0 rfl (.cons 0 rfl .nil))) (hR := (.cons 0 rfl .nil)) (hF := (fk_cons 1 rfl fk_nil))
              · refine sxc_skip ?_
                refine sxq_blkN ?_
                exact sxq_meetP (imul .i64 2 x961, ()) (hB := (.cons 0 rfl (.cons 0 rfl .nil))) (hR := (.cons 0 rfl .nil)) (hF := (fk_cons 0 rfl fk_nil))
            · rintro ⟨x980, _⟩
              try dsimp only
              refine sxc_region ?_
              refine sxo_move rfl rfl rfl ?_
              refine sxo_add rfl rfl rfl rfl ?_
              refine sxo_assign rfl rfl rfl ?_
              refine sxo_nil ?_
              exact sxq_againP ((x980, iadd .i64 x962 1), ()) (hB := (.cons 0 rfl (.cons 0 rfl .nil))) (hR := (.cons 0 rfl .nil)) (hF := (fk_cons 0 rfl fk_nil))
          · refine sxc_exit ?_
            refine sxq_thenX ?_
            refine sxq_thenX ?_
            refine sxq_blkX ?_
            exact sxq_meetP (x961, ()) (hB := (.cons 0 rfl (.cons 0 rfl .nil))) (hR := (.cons 0 rfl .nil)) (hF := (fk_cons 0 rfl fk_nil))
        · rintro ⟨x944, _⟩
          try dsimp only
          refine sxc_region ?_
          refine sxo_fieldAddr rfl rfl ff25_1 rfl ?_
          refine sxo_loadB (i := 0) rfl rfl tf23 rfl rfl (fun _ => rfl) rfl rfl ?_
          refine sxo_move rfl rfl rfl ?_
          refine sxo_conv rfl Try.underlying3 Try.underlying5 rfl rfl ?_
          refine sxo_slit (vs := [.int .u8 (iconv .u8 x944)]) (ys := ([iconv .u8 x944] : List Int)) (eI_ok .u8) (by decide) rfl Try.underlying23 tf5 rfl rfl rfl rfl rfl (by decide) (fun a945 c946 => ?_)
          refine sxo_app 1 (eI_ok .u8) rfl Try.underlying23 tf5 rfl rfl rfl rfl rfl (.inl ⟨0, _, rfl⟩) rfl rfl (fun x947 e947 a948 c949 => ?_)
          refine sxo_fieldAddr rfl rfl ff25_1 rfl ?_
          refine sxo_storeB (i := 0) rfl rfl rfl tf23 rfl rfl rfl rfl rfl ?_
          refine sxo_nil ?_
          refine sxq_blkN ?_
          exact sxq_meetP (x947, (a948, c949)) (hB := (.cons 0 rfl (.cons 0 rfl .nil))) (hR := (.cons 0 rfl .nil)) (hF := (fk_cons 0 rfl fk_nil))
      · rintro ⟨x907, ⟨a905, c906⟩⟩
        try dsimp only
        refine sxc_region ?_
        refine sxo_move rfl rfl rfl ?_
        refine sxo_add rfl rfl rfl rfl ?_
        refine sxo_assign rfl rfl rfl ?_
        refine sxo_nil ?_
        exact sxq_againP ((iadd .i64 x660 8, x907), (a905, c906)) (hB := (.cons 0 rfl (.cons 0 rfl .nil))) (hR := (.cons 0 rfl .nil)) (hF := (fk_cons 0 rfl fk_nil))
    · refine sxc_exit ?_
      refine sxq_thenX ?_
      refine sxq_thenX ?_
      refine sxq_blkX ?_
      exact sxq_meetP (x663, (a661, c662)) (hB := (.cons 0 rfl (.cons 0 rfl .nil))) (hR := (.cons 0 rfl .nil))
  · rintro ⟨x497, ⟨a495, c496⟩⟩
    try dsimp only
    refine sxc_seq ?_
    refine sxc_region ?_
    refine sxo_loadB (i := 0) rfl rfl tf25 rfl rfl (by simp) rfl rfl ?_
    refine sxo_storeB (i := 1) rfl rfl rfl tf25 rfl rfl rfl rfl rfl ?_
    refine sxo_nil ?_
    refine sxq_next ?_
    refine sxc_ret ?_
    exact sxq_doneP (a495, c496) (resL (rs := [.cell 2 25]) rfl (.cell (i := 1) rfl tf25 rfl rfl (by simp) rfl ResOk.nil) rfl) (fun h => by subst h; exact (.cons 0 rfl .nil))

theorem C_R_KraftRoom (F : Nat) (x1 : List Int) (a2 : Option Addr) (c3 : Nat) (r : Int) (hm : M_R_KraftRoom F x1 = some r) :
    Pure Try.prog 65 [.slice a2 x1.length c3] [Sl (eI .i64) 1 (.slice a2 x1.length c3) x1] Unit (fun _ => .int .i64 r) (fun _ => []) (fun _ => []) := by
  refine pure_of Try.func65 rfl Try.ntmps65 rfl hm (fun w => ?_)
  refine sxc_env (l' := [(0, .slice a2 x1.length c3)]) rfl ?_
  refine sxc_seq ?_
  refine sxc_region ?_
  refine sxo_assign rfl rfl rfl ?_
  refine sxo_nil ?_
  refine sxq_next ?_
  refine sxc_seq ?_
  refine sxc_region ?_
  refine sxo_assign rfl rfl rfl ?_
  refine sxo_nil ?_
  refine sxq_next ?_
  refine sxc_join (fun ((x232, _) : (Int × Unit)) => [(3, .int .i64 x232)]) (fun ((x232, _) : (Int × Unit)) => []) (fun ((x232, _) : (Int × Unit)) => []) (fun ((x232, _) : (Int × Unit)) => []) (fun ((x232, _) : (Int × Unit)) => M_R_KraftRoom_j29 F x232) ?_ ?_
  · refine sxc_seq ?_
    refine sxc_region ?_
    refine sxo_assign rfl rfl rfl ?_
    refine sxo_nil ?_
    refine sxq_next ?_
    refine sxc_block ?_
    refine sxc_loopP (fun (((x308, x309), _) : ((Int × Int) × Unit)) => [(0, .slice a2 x1.length c3), (3, .int .i64 x308), (4, .int .i64 x309)]) (fun (((x308, x309), _) : ((Int × Int) × Unit)) => []) (fun (((x308, x309), _) : ((Int × Int) × Unit)) => []) (fun (((x308, x309), _) : ((Int × Int) × Unit)) => [Sl (eI .i64) 1 (.slice a2 x1.length c3) x1]) (fun k (s : ((Int × Int) × Unit)) => M_R_KraftRoom_l48 F x1 k s.1) ((1, 1), ()) F ?_ (hF := (fk_cons 0 rfl fk_nil))
    intro k385
    rintro ⟨⟨x308, x309⟩, _⟩
    try dsimp only
    refine sxc_meq (m' := M_R_KraftRoom_b48 F x1 (M_R_KraftRoom_l48 F x1 k385) x308 x309) rfl ?_
    refine sxc_seq ?_
    refine sxc_seq ?_
    refine sxc_region ?_
    refine sxo_move rfl rfl rfl ?_
    refine sxo_leq rfl rfl rfl rfl ?_
    refine sxo_nil ?_
    refine sxq_next ?_
    refine sxc_if rfl (fun h460 => ?_) (fun h460 => ?_)
    · refine sxc_skip ?_
      refine sxq_next ?_
      refine sxc_join (fun ((x423, _) : (Int × Unit)) => [(0, .slice a2 x1.length c3), (3, .int .i64 x423), (4, .int .i64 x309)]) (fun ((x423, _) : (Int × Unit)) => []) (fun ((x423, _) : (Int × Unit)) => []) (fun ((x423, _) : (Int × Unit)) => [Sl (eI .i64) 1 (.slice a2 x1.length c3) x1]) (fun ((x423, _) : (Int × Unit)) => M_R_KraftRoom_j53 F (M_R_KraftRoom_l48 F x1 k385) x309 x423) ?_ ?_
      · refine sxc_block ?_
        refine sxc_seq ?_
        refine sxc_region ?_
        refine sxo_move rfl rfl rfl ?_
        refine sxo_mul rfl rfl rfl rfl ?_
        refine sxo_assign rfl rfl rfl ?_
        refine sxo_nil ?_
        refine sxq_next ?_
        refine sxc_seq ?_
        refine sxc_region ?_
        refine sxo_assign rfl rfl rfl ?_
        refine sxo_nil ?_
        refine sxq_next ?_
        refine sxc_block ?_
        refine sxc_loopP (fun (((x435, x436), _) : ((Int × Int) × Unit)) => [(0, .slice a2 x1.length c3), (3, .int .i64 x435), (4, .int .i64 x309), (5, .int .i64 x436)]) (fun (((x435, x436), _) : ((Int × Int) × Unit)) => []) (fun (((x435, x436), _) : ((Int × Int) × Unit)) => []) (fun (((x435, x436), _) : ((Int × Int) × Unit)) => [Sl (eI .i64) 1 (.slice a2 x1.length c3) x1]) (fun k (s : ((Int × Int) × Unit)) => M_R_KraftRoom_l56 F (M_R_KraftRoom_l48 F x1 k385) x1 x309 k s.1) ((imul .i64 2 x308, 0), ()) F ?_ (hF := (fk_cons 0 rfl fk_nil))
        intro k448
        rintro ⟨⟨x435, x436⟩, _⟩
        try dsimp only
        refine sxc_meq (m' := M_R_KraftRoom_b56 F (M_R_KraftRoom_l48 F x1 k385) x1 x309 (M_R_KraftRoom_l56 F (M_R_KraftRoom_l48 F x1 k385) x1 x309 k448) x435 x436) rfl ?_
        refine sxc_seq ?_
        refine sxc_seq ?_
        refine sxc_region ?_
        refine sxo_move rfl rfl rfl ?_
        refine sxo_move rfl rfl rfl ?_
        refine sxo_len rfl Try.underlying22 rfl rfl ?_
        refine sxo_lss rfl rfl rfl rfl ?_
        refine sxo_nil ?_
        refine sxq_next ?_
        refine sxc_if rfl (fun h459 => ?_) (fun h459 => ?_)
        · refine sxc_skip ?_
          refine sxq_next ?_
          refine sxc_join (fun ((x454, _) : (Int × Unit)) => [(0, .slice a2 x1.length c3), (3, .int .i64 x454), (4, .int .i64 x309), (5, .int .i64 x436)]) (fun ((x454, _) : (Int × Unit)) => []) (fun ((x454, _) : (Int × Unit)) => []) (fun ((x454, _) : (Int × Unit)) => [Sl (eI .i64) 1 (.slice a2 x1.length c3) x1]) (fun ((x454, _) : (Int × Unit)) => M_R_KraftRoom_j57 F (M_R_KraftRoom_l56 F (M_R_KraftRoom_l48 F x1 k385) x1 x309 k448) x436 x454) ?_ ?_
          · refine sxc_block ?_
            refine sxc_seq ?_
            refine sxc_region ?_
            refine sxo_move rfl rfl rfl ?_
            refine sxo_move rfl rfl rfl ?_
            refine sxo_indexF (j := 0) (eI_ok .i64) (by decide) rfl Try.underlying22 tf3 rfl rfl rfl rfl (fun x455 e455 b456 o457 => ?_)
            refine sxo_loadF (j := 0) rfl rfl tf3 rfl rfl (fun _ => rfl) rfl rfl ?_
            refine sxo_move rfl rfl rfl ?_
            refine sxo_eql rfl rfl rfl rfl ?_
            refine sxo_nil ?_
            refine sxq_next ?_
            refine sxc_if rfl (fun h458 => ?_) (fun h458 => ?_)
            · refine sxc_region ?_
              refine sxo_move rfl rfl rfl ?_
              refine sxo_sub rfl rfl rfl rfl ?_
              refine sxo_assign rfl rfl rfl ?_
              refine sxo_nil ?_
              refine sxq_blkN ?_
              exact sxq_meetP (isub .i64 x435 1, ()) (hF := (fk_cons 1 rfl fk_nil))
            · refine sxc_skip ?_
              refine sxq_blkN ?_
              exact sxq_meetP (x435, ()) (hF := (fk_cons 1 rfl fk_nil))
          · rintro ⟨x454, _⟩
            try dsimp only
            refine sxc_region ?_
            refine sxo_move rfl rfl rfl ?_
            refine sxo_add rfl rfl rfl rfl ?_
            refine sxo_assign rfl rfl rfl ?_
            refine sxo_nil ?_
            exact sxq_againP ((x454, iadd .i64 x436 1), ()) (hF := (fk_cons 0 rfl fk_nil))
        · refine sxc_exit ?_
          refine sxq_thenX ?_
          refine sxq_thenX ?_
          refine sxq_blkX ?_
          refine sxq_blkN ?_
          exact sxq_meetP (x435, ()) (hF := (fk_cons 0 rfl fk_nil))
      · rintro ⟨x423, _⟩
        try dsimp only
        refine sxc_region ?_
        refine sxo_move rfl rfl rfl ?_
        refine sxo_add rfl rfl rfl rfl ?_
        refine sxo_assign rfl rfl rfl ?_
        refine sxo_nil ?_
        exact sxq_againP ((x423, iadd .i64 x309 1), ()) (hF := (fk_cons 0 rfl fk_nil))
    · refine sxc_exit ?_
      refine sxq_thenX ?_
      refine sxq_thenX ?_
      refine sxq_blkX ?_
      exact sxq_meetP (x308, ())
  · rintro ⟨x232, _⟩
    try dsimp only
    refine sxc_seq ?_
    refine sxc_region ?_
    refine sxo_move rfl rfl rfl ?_
    refine sxo_assign rfl rfl rfl ?_
    refine sxo_nil ?_
    refine sxq_next ?_
    refine sxc_ret ?_
    exact sxq_doneP () (res1 rfl rfl)

theorem C_R_NumBits (F : Nat) (x1 : Int) (x2 : Int) (r : List Int) (hm : M_R_NumBits F x1 x2 = some r) :
    Pure Try.prog 66 [.int .u64 x1, .int .i64 x2] [] (Option Addr × Nat) (fun g => .slice g.1 r.length g.2) (fun g => [Ro (eI .i64) 3 1 (.slice g.1 r.length g.2) r]) (fun _ => []) := by
  refine pure_of Try.func66 rfl Try.ntmps66 rfl hm (fun w => ?_)
  refine sxc_env (l' := [(0, .int .u64 x1), (1, .int .i64 x2)]) rfl ?_
  refine sxc_seq ?_
  refine sxc_region ?_
  refine sxo_assign rfl rfl rfl ?_
  refine sxo_nil ?_
  refine sxq_next ?_
  refine sxc_seq ?_
  refine sxc_region ?_
  refine sxo_move rfl rfl rfl ?_
  refine sxo_mk (eI_ok .i64) rfl Try.underlying22 tf3 rfl rfl rfl rfl rfl rfl rfl (fun x3 e3 a4 c5 => ?_)
  refine sxo_assign rfl rfl rfl ?_
  refine sxo_nil ?_
  refine sxq_next ?_
  refine sxc_join (fun ((x52, _) : (List Int × Unit)) => [(5, .slice a4 x52.length c5)]) (fun ((x52, _) : (List Int × Unit)) => []) (fun ((x52, _) : (List Int × Unit)) => [Ro (eI .i64) 3 1 (.slice a4 x52.length c5) x52]) (fun ((x52, _) : (List Int × Unit)) => []) (fun ((x52, _) : (List Int × Unit)) => M_R_NumBits_j2 F x52) ?_ ?_
  · refine sxc_seq ?_
    refine sxc_region ?_
    refine sxo_move rfl rfl rfl ?_
    refine sxo_sub rfl rfl rfl rfl ?_
    refine sxo_assign rfl rfl rfl ?_
    refine sxo_nil ?_
    refine sxq_next ?_
    refine sxc_block ?_
    refine sxc_loopP (fun (((x67, x68, x69), _) : ((Int × List Int × Int) × Unit)) => [(0, .int .u64 x67), (5, .slice a4 x68.length c5), (6, .int .i64 x69)]) (fun (((x67, x68, x69), _) : ((Int × List Int × Int) × Unit)) => []) (fun (((x67, x68, x69), _) : ((Int × List Int × Int) × Unit)) => [Ro (eI .i64) 3 1 (.slice a4 x68.length c5) x68]) (fun (((x67, x68, x69), _) : ((Int × List Int × Int) × Unit)) => []) (fun k (s : ((Int × List Int × Int) × Unit)) => M_R_NumBits_l3 F k s.1) ((x1, x3, isub .i64 x2 1), ()) F ?_ (hR := (.cons 0 rfl .nil))
    intro k84
    rintro ⟨⟨x67, x68, x69⟩, _⟩
    try dsimp only
    refine sxc_meq (m' := M_R_NumBits_b3 F (M_R_NumBits_l3 F k84) x67 x68 x69) rfl ?_
    refine sxc_seq ?_
    refine sxc_seq ?_
    refine sxc_region ?_
    refine sxo_move rfl rfl rfl ?_
    refine sxo_geq rfl rfl rfl rfl ?_
    refine sxo_nil ?_
    refine sxq_next ?_
    refine sxc_if rfl (fun h98 => ?_) (fun h98 => ?_)
    · refine sxc_skip ?_
      refine sxq_next ?_
      refine sxc_seq ?_
      refine sxc_block ?_
      refine sxc_seq ?_
      refine sxc_region ?_
      refine sxo_move rfl rfl rfl ?_
      refine sxo_move rfl rfl rfl ?_
      refine sxo_move rfl rfl rfl ?_
      refine sxo_rem rfl rfl rfl rfl rfl ?_
      refine sxo_conv rfl Try.underlying81 Try.underlying3 rfl rfl ?_
      refine sxo_indexR (j := 0) rfl Try.underlying22 tf3 rfl rfl rfl rfl (fun x92 e92 g93 h94 => ?_)
      refine sxo_storeL (j := 0) (y' := iconv .i64 (irem x67 2)) (eI_ok .i64) rfl rfl rfl tf3 rfl h94 (idx_get e92).2.1 rfl (fun x95 e95 h96 => ?_)
      have h97 : x95.length = x68.length := by rw [← e95, List.length_set]
      refine sxo_again (d := 5) (v := .slice a4 x95.length c5) rfl h96 ?_
      refine sxo_again (d := 15) (v := .slice a4 x95.length c5) rfl h96 ?_
      refine sxo_nil ?_
      refine sxq_next ?_
      refine sxc_region ?_
      refine sxo_move rfl rfl rfl ?_
      refine sxo_quo rfl rfl rfl rfl rfl ?_
      refine sxo_assign rfl rfl rfl ?_
      refine sxo_nil ?_
      refine sxq_blkN ?_
      refine sxq_next ?_
      refine sxc_region ?_
      refine sxo_move rfl rfl rfl ?_
      refine sxo_sub rfl rfl rfl rfl ?_
      refine sxo_assign rfl rfl rfl ?_
      refine sxo_nil ?_
      exact sxq_againP ((iquo .u64 x67 2, x95, isub .i64 x69 1), ()) (hR := (.cons 0 rfl .nil))
    · refine sxc_exit ?_
      refine sxq_thenX ?_
      refine sxq_thenX ?_
      refine sxq_blkX ?_
      exact sxq_meetP (x68, ()) (hR := (.cons 0 rfl .nil))
  · rintro ⟨x52, _⟩
    try dsimp only
    refine sxc_seq ?_
    refine sxc_region ?_
    refine sxo_move rfl rfl rfl ?_
    refine sxo_assign rfl rfl rfl ?_
    refine sxo_nil ?_
    refine sxq_next ?_
    refine sxc_ret ?_
    exact sxq_doneP (a4, c5) (res1 rfl rfl) (fun h => by subst h; exact (.cons 0 rfl .nil))

set_option maxHeartbeats 4000000 in
theorem C_R_KraftCodes (F : Nat) (x1 : List Int) (a2 : Option Addr) (c3 : Nat) (r : (List (Int × List Int) × Int)) (hm : M_R_KraftCodes F x1 = some r) :
    Pure Try.prog 40 [.slice a2 x1.length c3] [Sl (eI .i64) 1 (.slice a2 x1.length c3) x1] (Option Addr × (Nat × List (Option Addr × Nat))) (fun g => .tuple #[.slice g.1 r.1.length g.2.1, .int .i64 r.2]) (fun g => [RoN eN25 rN25 25 2 (.slice g.1 r.1.length g.2.1) r.1 g.2.2 []]) (fun _ => []) := by
  refine pure_of Try.func40 rfl Try.ntmps40 rfl hm (fun w => ?_)
  refine sxc_env (l' := [(0, .slice a2 x1.length c3)]) rfl ?_
  refine sxc_seq ?_
  refine sxc_region ?_
  refine sxo_assign rfl rfl rfl ?_
  refine sxo_assign rfl rfl rfl ?_
  refine sxo_nil ?_
  refine sxq_next ?_
  refine sxc_seq ?_
  refine sxc_region ?_
  refine sxo_move rfl rfl rfl ?_
  refine sxo_call ent38 rfl rfl rfl (fun x4 e4 => C_R_KraftCheck F x1 a2 c3 x4 e4) (.consF 0 rfl .nil) (fun x4 e4 => ?_)
  intro _
  refine sxo_assign rfl rfl rfl ?_
  refine sxo_nil ?_
  refine sxq_next ?_
  refine sxc_join (fun ((x10, _) : (Int × Unit)) => [(0, .slice a2 x1.length c3), (4, .int .i64 x10)]) (fun ((x10, _) : (Int × Unit)) => []) (fun ((x10, _) : (Int × Unit)) => []) (fun ((x10, _) : (Int × Unit)) => [Sl (eI .i64) 1 (.slice a2 x1.length c3) x1]) (fun ((x10, _) : (Int × Unit)) => M_R_KraftCodes_j2 F x1 x10) ?_ ?_
  · refine sxc_seq ?_
    refine sxc_region ?_
    refine sxo_move rfl rfl rfl ?_
    refine sxo_eql rfl rfl rfl rfl ?_
    refine sxo_move rfl rfl rfl ?_
    refine sxo_join 4 (fun ((x1668, _) : (Bool × Unit)) => [(0, .slice a2 x1.length c3), (4, .int .i64 x4), (17, .bool x1668)]) (fun ((x1668, _) : (Bool × Unit)) => []) (fun ((x1668, _) : (Bool × Unit)) => []) (fun ((x1668, _) : (Bool × Unit)) => [Sl (eI .i64) 1 (.slice a2 x1.length c3) x1]) (fun ((x1668, _) : (Bool × Unit)) => M_R_KraftCodes_j60 F x1 x4 x1668) ?_ ?_
    · refine sxo_take (os := _) rfl ?_
      refine sxo_if (fun h1666 => ?_) (fun h1666 => ?_)
      · refine sxo_isT (k := 13) rfl h1666 ?_
        refine sxo_move rfl rfl rfl ?_
        refine sxo_call ent65 rfl rfl rfl (fun x1670 e1670 => C_R_KraftRoom F x1 a2 c3 x1670 e1670) (.consF 0 rfl .nil) (fun x1670 e1670 => ?_)
        intro _
        refine sxo_lss rfl rfl rfl rfl ?_
        refine sxo_pick (b := true) rfl rfl rfl rfl ?_
        refine sxo_nil ?_
        exact sxq_meetP ((decide (x1670 < 0)), ()) (hF := (fk_cons 0 rfl fk_nil))
      · refine sxo_isF (k := 13) rfl h1666 ?_
        refine sxo_skip rfl rfl rfl ?_
        refine sxo_skip rfl rfl rfl ?_
        refine sxo_skip rfl rfl rfl ?_
        refine sxo_pick (b := false) rfl rfl rfl rfl ?_
        refine sxo_nil ?_
        exact sxq_meetP (false, ()) (hF := (fk_cons 0 rfl fk_nil))
    · rintro ⟨x1668, _⟩
      try dsimp only
      refine sxo_take (os := _) rfl ?_
      refine sxo_nil ?_
      refine sxq_next ?_
      refine sxc_if rfl (fun h1669 => ?_) (fun h1669 => ?_)
      · refine sxc_region ?_
        refine sxo_assign rfl rfl rfl ?_
        refine sxo_nil ?_
        exact sxq_meetP (8, ()) (hF := (fk_cons 0 rfl fk_nil))
      · refine sxc_skip ?_
        exact sxq_meetP (x4, ()) (hF := (fk_cons 0 rfl fk_nil))
  · rintro ⟨x10, _⟩
    try dsimp only
    refine sxc_seq ?_
    refine sxc_seq ?_
    refine sxc_region ?_
    refine sxo_move rfl rfl rfl ?_
    refine sxo_neq rfl rfl rfl rfl ?_
    refine sxo_nil ?_
    refine sxq_next ?_
    refine sxc_if rfl (fun h1665 => ?_) (fun h1665 => ?_)
    · refine sxc_seq ?_
      refine sxc_region ?_
      refine sxo_move rfl rfl rfl ?_
      refine sxo_assign rfl rfl rfl ?_
      refine sxo_assign rfl rfl rfl ?_
      refine sxo_nil ?_
      refine sxq_next ?_
      refine sxc_ret ?_
      refine sxq_thenR ?_
      refine sxq_nilN (Int × List Int) (Option Addr × Nat) eN25 rN25 25 2 ?_
      exact sxq_doneP (none, (0, ([] : List (Option Addr × Nat)))) (res2 rfl rfl rfl) (fun h => by subst h; exact (.cons 0 rfl .nil))
    · refine sxc_skip ?_
      refine sxq_next ?_
      refine sxc_seq ?_
      refine sxc_region ?_
      refine sxo_move rfl rfl rfl ?_
      refine sxo_len rfl Try.underlying22 rfl rfl ?_
      refine sxo_mkN (rin := rN25) (y := ((0 : Int), ([] : List Int))) (q := ((none, 0) : Option Addr × Nat)) eN25_ok (by decide) rN25_nil rfl Try.underlying55 tf25 rfl rfl rfl rfl rfl rfl (fun x12 e12 a13 c14 => ?_)
      refine sxo_assign rfl rfl rfl ?_
      refine sxo_nil ?_
      refine sxq_next ?_
      refine sxc_seq ?_
      refine sxc_region ?_
      refine sxo_assign rfl rfl rfl ?_
      refine sxo_nil ?_
      refine sxq_next ?_
      refine sxc_join (fun ((x840, g839) : (List (Int × List Int) × List (Option Addr × Nat))) => [(5, .slice a13 x840.length c14)]) (fun ((x840, g839) : (List (Int × List Int) × List (Option Addr × Nat))) => []) (fun ((x840, g839) : (List (Int × List Int) × List (Option Addr × Nat))) => [RoN eN25 rN25 25 2 (.slice a13 x840.length c14) x840 g839 []]) (fun ((x840, g839) : (List (Int × List Int) × List (Option Addr × Nat))) => []) (fun ((x840, _) : (List (Int × List Int) × List (Option Addr × Nat))) => M_R_KraftCodes_j31 F x840) ?_ ?_
      · refine sxc_seq ?_
        refine sxc_region ?_
        refine sxo_assign rfl rfl rfl ?_
        refine sxo_nil ?_
        refine sxq_next ?_
        refine sxc_block ?_
        refine sxc_loopP (fun (((x1115, x1116, x1117), g1114) : ((List (Int × List Int) × Int × Int) × List (Option Addr × Nat))) => [(0, .slice a2 x1.length c3), (5, .slice a13 x1115.length c14), (6, .int .u64 x1116), (7, .int .i64 x1117)]) (fun (((x1115, x1116, x1117), g1114) : ((List (Int × List Int) × Int × Int) × List (Option Addr × Nat))) => []) (fun (((x1115, x1116, x1117), g1114) : ((List (Int × List Int) × Int × Int) × List (Option Addr × Nat))) => [RoN eN25 rN25 25 2 (.slice a13 x1115.length c14) x1115 g1114 []]) (fun (((x1115, x1116, x1117), g1114) : ((List (Int × List Int) × Int × Int) × List (Option Addr × Nat))) => [Sl (eI .i64) 1 (.slice a2 x1.length c3) x1]) (fun k (s : ((List (Int × List Int) × Int × Int) × List (Option Addr × Nat))) => M_R_KraftCodes_l50 F x1 k s.1) ((x12, 0, 1), (List.replicate x12.length ((none, 0) : Option Addr × Nat))) F ?_ (hR := (.cons 0 rfl .nil)) (hF := (fk_cons 0 rfl fk_nil))
        intro k1391
        rintro ⟨⟨x1115, x1116, x1117⟩, g1114⟩
        try dsimp only
        refine sxc_meq (m' := M_R_KraftCodes_b50 F x1 (M_R_KraftCodes_l50 F x1 k1391) x1115 x1116 x1117) rfl ?_
        refine sxc_seq ?_
        refine sxc_seq ?_
        refine sxc_region ?_
        refine sxo_move rfl rfl rfl ?_
        refine sxo_leq rfl rfl rfl rfl ?_
        refine sxo_nil ?_
        refine sxq_next ?_
        refine sxc_if rfl (fun h1664 => ?_) (fun h1664 => ?_)
        · refine sxc_skip ?_
          refine sxq_next ?_
          refine sxc_join (fun (((x1528, x1529), g1527) : ((List (Int × List Int) × Int) × List (Option Addr × Nat))) => [(0, .slice a2 x1.length c3), (5, .slice a13 x1528.length c14), (6, .int .u64 x1529), (7, .int .i64 x1117)]) (fun (((x1528, x1529), g1527) : ((List (Int × List Int) × Int) × List (Option Addr × Nat))) => []) (fun (((x1528, x1529), g1527) : ((List (Int × List Int) × Int) × List (Option Addr × Nat))) => [RoN eN25 rN25 25 2 (.slice a13 x1528.length c14) x1528 g1527 []]) (fun (((x1528, x1529), g1527) : ((List (Int × List Int) × Int) × List (Option Addr × Nat))) => [Sl (eI .i64) 1 (.slice a2 x1.length c3) x1]) (fun (((x1528, x1529), _) : ((List (Int × List Int) × Int) × List (Option Addr × Nat))) => M_R_KraftCodes_j55 F (M_R_KraftCodes_l50 F x1 k1391) x1117 x1528 x1529) ?_ ?_
          · refine sxc_block ?_
            refine sxc_seq ?_
            refine sxc_region ?_
            refine sxo_move rfl rfl rfl ?_
            refine sxo_mul rfl rfl rfl rfl ?_
            refine sxo_assign rfl rfl rfl ?_
            refine sxo_nil ?_
            refine sxq_next ?_
            refine sxc_seq ?_
            refine sxc_region ?_
            refine sxo_assign rfl rfl rfl ?_
            refine sxo_nil ?_
            refine sxq_next ?_
            refine sxc_block ?_
            refine sxc_loopP (fun (((x1574, x1575, x1576), g1573) : ((List (Int × List Int) × Int × Int) × List (Option Addr × Nat))) => [(0, .slice a2 x1.length c3), (5, .slice a13 x1574.length c14), (6, .int .u64 x1575), (7, .int .i64 x1117), (8, .int .i64 x1576)]) (fun (((x1574, x1575, x1576), g1573) : ((List (Int × List Int) × Int × Int) × List (Option Addr × Nat))) => []) (fun (((x1574, x1575, x1576), g1573) : ((List (Int × List Int) × Int × Int) × List (Option Addr × Nat))) => [RoN eN25 rN25 25 2 (.slice a13 x1574.length c14) x1574 g1573 []]) (fun (((x1574, x1575, x1576), g1573) : ((List (Int × List Int) × Int × Int) × List (Option Addr × Nat))) => [Sl (eI .i64) 1 (.slice a2 x1.length c3) x1]) (fun k (s : ((List (Int × List Int) × Int × Int) × List (Option Addr × Nat))) => M_R_KraftCodes_l58 F (M_R_KraftCodes_l50 F x1 k1391) x1 x1117 k s.1) ((x1115, imul .u64 2 x1116, 0), g1114) F ?_ (hR := (.cons 0 rfl .nil)) (hF := (fk_cons 0 rfl fk_nil))
            intro k1620
            rintro ⟨⟨x1574, x1575, x1576⟩, g1573⟩
            try dsimp only
            refine sxc_meq (m' := M_R_KraftCodes_b58 F (M_R_KraftCodes_l50 F x1 k1391) x1 x1117 (M_R_KraftCodes_l58 F (M_R_KraftCodes_l50 F x1 k1391) x1 x1117 k1620) x1574 x1575 x1576) rfl ?_
            refine sxc_seq ?_
            refine sxc_seq ?_
            refine sxc_region ?_
            refine sxo_move rfl rfl rfl ?_
            refine sxo_move rfl rfl rfl ?_
            refine sxo_len rfl Try.underlying22 rfl rfl ?_
            refine sxo_lss rfl rfl rfl rfl ?_
            refine sxo_nil ?_
            refine sxq_next ?_
            refine sxc_if rfl (fun h1663 => ?_) (fun h1663 => ?_)
            · refine sxc_skip ?_
              refine sxq_next ?_
              refine sxc_join (fun (((x1642, x1643), g1641) : ((List (Int × List Int) × Int) × List (Option Addr × Nat))) => [(0, .slice a2 x1.length c3), (5, .slice a13 x1642.length c14), (6, .int .u64 x1643), (7, .int .i64 x1117), (8, .int .i64 x1576)]) (fun (((x1642, x1643), g1641) : ((List (Int × List Int) × Int) × List (Option Addr × Nat))) => []) (fun (((x1642, x1643), g1641) : ((List (Int × List Int) × Int) × List (Option Addr × Nat))) => [RoN eN25 rN25 25 2 (.slice a13 x1642.length c14) x1642 g1641 []]) (fun (((x1642, x1643), g1641) : ((List (Int × List Int) × Int) × List (Option Addr × Nat))) => [Sl (eI .i64) 1 (.slice a2 x1.length c3) x1]) (fun (((x1642, x1643), _) : ((List (Int × List Int) × Int) × List (Option Addr × Nat))) => M_R_KraftCodes_j59 F (M_R_KraftCodes_l58 F (M_R_KraftCodes_l50 F x1 k1391) x1 x1117 k1620) x1576 x1642 x1643) ?_ ?_
              · refine sxc_block ?_
                refine sxc_seq ?_
                refine sxc_region ?_
                refine sxo_move rfl rfl rfl ?_
                refine sxo_move rfl rfl rfl ?_
                refine sxo_indexF (j := 0) (eI_ok .i64) (by decide) rfl Try.underlying22 tf3 rfl rfl rfl rfl (fun x1644 e1644 b1645 o1646 => ?_)
                refine sxo_loadF (j := 0) rfl rfl tf3 rfl rfl (fun _ => rfl) rfl rfl ?_
                refine sxo_move rfl rfl rfl ?_
                refine sxo_eql rfl rfl rfl rfl ?_
                refine sxo_nil ?_
                refine sxq_next ?_
                refine sxc_if rfl (fun h1662 => ?_) (fun h1662 => ?_)
                · refine sxc_seq ?_
                  refine sxc_region ?_
                  refine sxo_move rfl rfl rfl ?_
                  refine sxo_move rfl rfl rfl ?_
                  refine sxo_move rfl rfl rfl ?_
                  refine sxo_move rfl rfl rfl ?_
                  refine sxo_call ent66 rfl rfl rfl (fun x1647 e1647 => C_R_NumBits F x1575 x1117 x1647 e1647) .nil (fun x1647 e1647 => ?_)
                  rintro ⟨a1648, c1649⟩
                  refine sxo_call ent42 rfl rfl rfl (fun x1650 e1650 => C_R_PackBits F x1647 a1648 c1649 x1650 e1650) (.consR 0 (Ro (eI .i64) 3 1 (.slice a1648 x1647.length c1649) x1647) rfl .nil) (fun x1650 e1650 => ?_)
                  rintro ⟨a1651, c1652⟩
                  refine sxo_idxP (j := 2) rfl Try.underlying55 tf25 rfl rfl rfl rfl (fun x1653 e1653 g1654 h1655 g1656 h1657 => ?_)
                  refine sxo_openN (i := 2) rfl h1655 (List.not_mem_nil) ?_
                  refine sxo_storeC (j := 1) (kh := 0) (y' := (x1650.1, x1650.2)) (q' := (a1651, c1652)) eN25_ok rfl rfl rfl tf25 rfl h1657 rfl (idx_get e1653).2.1 rfl (.cons 1 rfl .nil) (fun x1658 e1658 h1659 g1661 => ?_)
                  have h1660 : x1658.length = x1574.length := by rw [← e1658, List.length_set]
                  refine sxo_again (d := 5) (v := .slice a13 x1658.length c14) rfl (by rw [h1659] <;> rfl) ?_
                  refine sxo_again (d := 42) (v := .slice a13 x1658.length c14) rfl (by rw [h1659] <;> rfl) ?_
                  refine sxo_nil ?_
                  refine sxq_next ?_
                  refine sxc_region ?_
                  refine sxo_move rfl rfl rfl ?_
                  refine sxo_add rfl rfl rfl rfl ?_
                  refine sxo_assign rfl rfl rfl ?_
                  refine sxo_nil ?_
                  refine sxq_blkN ?_
                  exact sxq_meetP ((x1658, iadd .u64 x1575 1), g1661) (hR := (.cons 0 rfl .nil)) (hF := (fk_cons 1 rfl fk_nil))
                · refine sxc_skip ?_
                  refine sxq_blkN ?_
                  exact sxq_meetP ((x1574, x1575), g1573) (hR := (.cons 0 rfl .nil)) (hF := (fk_cons 1 rfl fk_nil))
              · rintro ⟨⟨x1642, x1643⟩, g1641⟩
                try dsimp only
                refine sxc_region ?_
                refine sxo_move rfl rfl rfl ?_
                refine sxo_add rfl rfl rfl rfl ?_
                refine sxo_assign rfl rfl rfl ?_
                refine sxo_nil ?_
                exact sxq_againP ((x1642, x1643, iadd .i64 x1576 1), g1641) (hR := (.cons 0 rfl .nil)) (hF := (fk_cons 0 rfl fk_nil))
            · refine sxc_exit ?_
              refine sxq_thenX ?_
              refine sxq_thenX ?_
              refine sxq_blkX ?_
              refine sxq_blkN ?_
              exact sxq_meetP ((x1574, x1575), g1573) (hR := (.cons 0 rfl .nil)) (hF := (fk_cons 0 rfl fk_nil))
          · rintro ⟨⟨x1528, x1529⟩, g1527⟩
            try dsimp only
            refine sxc_region ?_
            refine sxo_move rfl rfl rfl ?_
            refine sxo_add rfl rfl rfl rfl ?_
            refine sxo_assign rfl rfl rfl ?_
            refine sxo_nil ?_
            exact sxq_againP ((x1528, x1529, iadd .i64 x1117 1), g1527) (hR := (.cons 0 rfl .nil)) (hF := (fk_cons 0 rfl fk_nil))
        · refine sxc_exit ?_
          refine sxq_thenX ?_
          refine sxq_thenX ?_
          refine sxq_blkX ?_
          exact sxq_meetP (x1115, g1114) (hR := (.cons 0 rfl .nil))
      · rintro ⟨x840, g839⟩
        try dsimp only
        refine sxc_seq ?_
        refine sxc_region ?_
        refine sxo_move rfl rfl rfl ?_
        refine sxo_assign rfl rfl rfl ?_
        refine sxo_assign rfl rfl rfl ?_
        refine sxo_nil ?_
        refine sxq_next ?_
        refine sxc_ret ?_
        exact sxq_doneP (a13, (c14, g839)) (res2 rfl rfl rfl) (fun h => by subst h; exact (.cons 0 rfl .nil))

theorem C_R_BitList (F : Nat) (x1 : Int) (x2 : List Int) (a3 : Option Addr) (c4 : Nat) (r : List Int) (hm : M_R_BitList F x1 x2 = some r) :
    Pure Try.prog 41 [.agg #[.int .i64 x1, .slice a3 x2.length c4]] [Sl (eI .u8) 1 (.slice a3 x2.length c4) x2] (Option Addr × Nat) (fun g => .slice g.1 r.length g.2) (fun g => [Ro (eI .i64) 3 1 (.slice g.1 r.length g.2) r]) (fun _ => []) := by
  refine pure_of Try.func41 rfl Try.ntmps41 rfl hm (fun w => ?_)
  refine sxc_env (l' := [(0, .agg #[.int .i64 x1, .slice a3 x2.length c4])]) rfl ?_
  refine sxc_seq ?_
  refine sxc_region ?_
  refine sxo_box rfl rfl rfl (fun g5 => ?_)
  refine sxo_assign rfl rfl rfl ?_
  refine sxo_nil ?_
  refine sxq_next ?_
  refine sxc_seq ?_
  refine sxc_region ?_
  refine sxo_assign rfl rfl rfl ?_
  refine sxo_nil ?_
  refine sxq_next ?_
  refine sxc_join (fun ((x190, (a188, c189)) : (List Int × (Option Addr × Nat))) => [(3, .slice a188 x190.length c189)]) (fun ((x190, (a188, c189)) : (List Int × (Option Addr × Nat))) => []) (fun ((x190, (a188, c189)) : (List Int × (Option Addr × Nat))) => [Ro (eI .i64) 3 1 (.slice a188 x190.length c189) x190]) (fun ((x190, (a188, c189)) : (List Int × (Option Addr × Nat))) => []) (fun ((x190, _) : (List Int × (Option Addr × Nat))) => M_R_BitList_j23 F x190) ?_ ?_
  · refine sxc_seq ?_
    refine sxc_region ?_
    refine sxo_assign rfl rfl rfl ?_
    refine sxo_nil ?_
    refine sxq_next ?_
    refine sxc_block ?_
    refine sxc_nilrow Int (eI .i64) 3 1 ?_
    refine sxc_loopP (fun (((x252, x253), (a250, c251)) : ((List Int × Int) × (Option Addr × Nat))) => [(1, .pointer (some ⟨g5, 0, none⟩)), (3, .slice a250 x252.length c251), (4, .int .i64 x253)]) (fun (((x252, x253), (a250, c251)) : ((List Int × Int) × (Option Addr × Nat))) => [⟨g5, 25, [.int .i64 x1, .slice a3 x2.length c4]⟩]) (fun (((x252, x253), (a250, c251)) : ((List Int × Int) × (Option Addr × Nat))) => [Ro (eI .i64) 3 1 (.slice a250 x252.length c251) x252]) (fun (((x252, x253), (a250, c251)) : ((List Int × Int) × (Option Addr × Nat))) => [Sl (eI .u8) 1 (.slice a3 x2.length c4) x2]) (fun k (s : ((List Int × Int) × (Option Addr × Nat))) => M_R_BitList_l38 F x1 x2 k s.1) ((([] : List Int), 0), (none, 0)) F ?_ (hB := (.cons 0 rfl .nil)) (hR := (.cons 0 rfl .nil)) (hF := (fk_cons 0 rfl fk_nil))
    intro k313
    rintro ⟨⟨x252, x253⟩, ⟨a250, c251⟩⟩
    try dsimp only
    refine sxc_meq (m' := M_R_BitList_b38 F x1 x2 (M_R_BitList_l38 F x1 x2 k313) x252 x253) rfl ?_
    refine sxc_seq ?_
    refine sxc_seq ?_
    refine sxc_region ?_
    refine sxo_move rfl rfl rfl ?_
    refine sxo_fieldAddr rfl rfl ff25_0 rfl ?_
    refine sxo_loadB (i := 0) rfl rfl tf3 rfl rfl (fun _ => rfl) rfl rfl ?_
    refine sxo_lss rfl rfl rfl rfl ?_
    refine sxo_nil ?_
    refine sxq_next ?_
    refine sxc_if rfl (fun h372 => ?_) (fun h372 => ?_)
    · refine sxc_skip ?_
      refine sxq_next ?_
      refine sxc_join (fun ((x344, (a342, c343)) : (List Int × (Option Addr × Nat))) => [(1, .pointer (some ⟨g5, 0, none⟩)), (3, .slice a342 x344.length c343), (4, .int .i64 x253)]) (fun ((x344, (a342, c343)) : (List Int × (Option Addr × Nat))) => [⟨g5, 25, [.int .i64 x1, .slice a3 x2.length c4]⟩]) (fun ((x344, (a342, c343)) : (List Int × (Option Addr × Nat))) => [Ro (eI .i64) 3 1 (.slice a342 x344.length c343) x344]) (fun ((x344, (a342, c343)) : (List Int × (Option Addr × Nat))) => [Sl (eI .u8) 1 (.slice a3 x2.length c4) x2]) (fun ((x344, _) : (List Int × (Option Addr × Nat))) => M_R_BitList_j42 F (M_R_BitList_l38 F x1 x2 k313) x253 x344) ?_ ?_
      · refine sxc_block ?_
        refine sxc_seq ?_
        refine sxc_region ?_
        refine sxo_fieldAddr rfl rfl ff25_1 rfl ?_
        refine sxo_loadB (i := 0) rfl rfl tf23 rfl rfl (fun _ => rfl) rfl rfl ?_
        refine sxo_move rfl rfl rfl ?_
        refine sxo_quo rfl rfl rfl rfl rfl ?_
        refine sxo_indexF (j := 0) (eI_ok .u8) (by decide) rfl Try.underlying23 tf5 rfl rfl rfl rfl (fun x345 e345 b346 o347 => ?_)
        refine sxo_loadF (j := 0) rfl rfl tf5 rfl rfl (fun _ => rfl) rfl rfl ?_
        refine sxo_conv rfl Try.underlying5 Try.underlying3 rfl rfl ?_
        refine sxo_assign rfl rfl rfl ?_
        refine sxo_nil ?_
        refine sxq_next ?_
        refine sxc_join (fun ((x357, _) : (Int × Unit)) => [(1, .pointer (some ⟨g5, 0, none⟩)), (3, .slice a250 x252.length c251), (4, .int .i64 x253), (5, .int .i64 x357)]) (fun ((x357, _) : (Int × Unit)) => [⟨g5, 25, [.int .i64 x1, .slice a3 x2.length c4]⟩]) (fun ((x357, _) : (Int × Unit)) => [Ro (eI .i64) 3 1 (.slice a250 x252.length c251) x252]) (fun ((x357, _) : (Int × Unit)) => [Sl (eI .u8) 1 (.slice a3 x2.length c4) x2]) (fun ((x357, _) : (Int × Unit)) => M_R_BitList_j44 F (M_R_BitList_l38 F x1 x2 k313) x252 x253 x357) ?_ ?_
        · refine sxc_seq ?_
          refine sxc_region ?_
          refine sxo_assign rfl rfl rfl ?_
          refine sxo_nil ?_
          refine sxq_next ?_
          refine sxc_block ?_
          refine sxc_loopP (fun (((x365, x366), _) : ((Int × Int) × Unit)) => [(1, .pointer (some ⟨g5, 0, none⟩)), (3, .slice a250 x252.length c251), (4, .int .i64 x253), (5, .int .i64 x365), (6, .int .i64 x366)]) (fun (((x365, x366), _) : ((Int × Int) × Unit)) => [⟨g5, 25, [.int .i64 x1, .slice a3 x2.length c4]⟩]) (fun (((x365, x366), _) : ((Int × Int) × Unit)) => [Ro (eI .i64) 3 1 (.slice a250 x252.length c251) x252]) (fun (((x365, x366), _) : ((Int × Int) × Unit)) => [Sl (eI .u8) 1 (.slice a3 x2.length c4) x2]) (fun k (s : ((Int × Int) × Unit)) => M_R_BitList_l45 F (M_R_BitList_l38 F x1 x2 k313) x252 x253 k s.1) ((iconv .i64 x345, 0), ()) F ?_ (hB := (.cons 0 rfl .nil)) (hR := (.cons 0 rfl .nil)) (hF := (fk_cons 1 rfl fk_nil))
          intro k369
          rintro ⟨⟨x365, x366⟩, _⟩
          try dsimp only
          refine sxc_meq (m' := M_R_BitList_b45 F (M_R_BitList_l38 F x1 x2 k313) x252 x253 (M_R_BitList_l45 F (M_R_BitList_l38 F x1 x2 k313) x252 x253 k369) x365 x366) rfl ?_
          refine sxc_seq ?_
          refine sxc_seq ?_
          refine sxc_region ?_
          refine sxo_move rfl rfl rfl ?_
          refine sxo_move rfl rfl rfl ?_
          refine sxo_rem rfl rfl rfl rfl rfl ?_
          refine sxo_sub rfl rfl rfl rfl ?_
          refine sxo_lss rfl rfl rfl rfl ?_
          refine sxo_nil ?_
          refine sxq_next ?_
          refine sxc_if rfl (fun h371 => ?_) (fun h371 => ?_)
          · refine sxc_skip ?_
            refine sxq_next ?_
            refine sxc_seq ?_
            refine sxc_block ?_
            refine sxc_region ?_
            refine sxo_move rfl rfl rfl ?_
            refine sxo_quo rfl rfl rfl rfl rfl ?_
            refine sxo_assign rfl rfl rfl ?_
            refine sxo_nil ?_
            refine sxq_blkN ?_
            refine sxq_next ?_
            refine sxc_region ?_
            refine sxo_move rfl rfl rfl ?_
            refine sxo_add rfl rfl rfl rfl ?_
            refine sxo_assign rfl rfl rfl ?_
            refine sxo_nil ?_
            exact sxq_againP ((iquo .i64 x365 2, iadd .i64 x366 1), ()) (hB := (.cons 0 rfl .nil)) (hR := (.cons 0 rfl .nil)) (hF := (fk_cons 0 rfl fk_nil))
          · refine sxc_exit ?_
            refine sxq_thenX ?_
            refine sxq_thenX ?_
            refine sxq_blkX ?_
            exact sxq_meetP (x365, ()) (hB := (.cons 0 rfl .nil)) (hR := (.cons 0 rfl .nil)) (hF := (fk_cons 0 rfl fk_nil))
        · rintro ⟨x357, _⟩
          try dsimp only
          refine sxc_region ?_
          refine sxo_move rfl rfl rfl ?_
          refine sxo_move rfl rfl rfl ?_
          refine sxo_rem rfl rfl rfl rfl rfl ?_
          refine sxo_slit (vs := [.int .i64 (irem x357 2)]) (ys := ([irem x357 2] : List Int)) (eI_ok .i64) (by decide) rfl Try.underlying22 tf3 rfl rfl rfl rfl rfl (by decide) (fun a358 c359 => ?_)
          refine sxo_app 1 (eI_ok .i64) rfl Try.underlying22 tf3 rfl rfl rfl rfl rfl (.inl ⟨0, _, rfl⟩) rfl rfl (fun x360 e360 a361 c362 => ?_)
          refine sxo_assign rfl rfl rfl ?_
          refine sxo_nil ?_
          refine sxq_blkN ?_
          exact sxq_meetP (x360, (a361, c362)) (hB := (.cons 0 rfl .nil)) (hR := (.cons 0 rfl .nil)) (hF := (fk_cons 0 rfl fk_nil))
      · rintro ⟨x344, ⟨a342, c343⟩⟩
        try dsimp only
        refine sxc_region ?_
        refine sxo_move rfl rfl rfl ?_
        refine sxo_add rfl rfl rfl rfl ?_
        refine sxo_assign rfl rfl rfl ?_
        refine sxo_nil ?_
        exact sxq_againP ((x344, iadd .i64 x253 1), (a342, c343)) (hB := (.cons 0 rfl .nil)) (hR := (.cons 0 rfl .nil)) (hF := (fk_cons 0 rfl fk_nil))
    · refine sxc_exit ?_
      refine sxq_thenX ?_
      refine sxq_thenX ?_
      refine sxq_blkX ?_
      exact sxq_meetP (x252, (a250, c251)) (hR := (.cons 0 rfl .nil))
  · rintro ⟨x190, ⟨a188, c189⟩⟩
    try dsimp only
    refine sxc_seq ?_
    refine sxc_region ?_
    refine sxo_move rfl rfl rfl ?_
    refine sxo_assign rfl rfl rfl ?_
    refine sxo_nil ?_
    refine sxq_next ?_
    refine sxc_ret ?_
    exact sxq_doneP (a188, c189) (res1 rfl rfl) (fun h => by subst h; exact (.cons 0 rfl .nil))

set_option maxHeartbeats 4000000 in
theorem C_R_HuffPack (F : Nat) (x1 : List Int) (a2 : Option Addr) (c3 : Nat) (x4 : Int) (r : (List Int × Int × List Int × Int)) (hm : M_R_HuffPack F x1 x4 = some r) :
    Pure Try.prog 17 [.slice a2 x1.length c3, .int .i64 x4] [Sl (eI .i64) 1 (.slice a2 x1.length c3) x1] ((Option Addr × Nat) × (Option Addr × Nat)) (fun g => .tuple #[.slice g.1.1 r.1.length g.1.2, .agg #[.int .i64 r.2.1, .slice g.2.1 r.2.2.1.length g.2.2], .int .i64 r.2.2.2]) (fun g => [Ro (eI .i64) 3 1 (.slice g.1.1 r.1.length g.1.2) r.1, Ro (eI .u8) 5 1 (.slice g.2.1 r.2.2.1.length g.2.2) r.2.2.1]) (fun _ => []) := by
  refine pure_of Try.func17 rfl Try.ntmps17 rfl hm (fun w => ?_)
  refine sxc_env (l' := [(0, .slice a2 x1.length c3), (1, .int .i64 x4)]) rfl ?_
  refine sxc_seq ?_
  refine sxc_region ?_
  refine sxo_assign rfl rfl rfl ?_
  refine sxo_alloc rfl tf25 rfl (fun g5 => ?_)
  refine sxo_assign rfl rfl rfl ?_
  refine sxo_nil ?_
  refine sxq_next ?_
  refine sxc_seq ?_
  refine sxc_seq ?_
  refine sxc_region ?_
  refine sxo_move rfl rfl rfl ?_
  refine sxo_call ent39 rfl rfl rfl (fun x8 e8 => C_R_between F x4 0 64 x8 e8) .nil (fun x8 e8 => ?_)
  intro _
  refine sxo_not rfl rfl rfl ?_
  refine sxo_nil ?_
  refine sxq_next ?_
  refine sxc_if rfl (fun h504 => ?_) (fun h504 => ?_)
  · refine sxc_seq ?_
    refine sxc_region ?_
    refine sxo_build (cells := [.int .i64 0, .slice none 0 0]) rfl st25 rfl (by kernel_rfl) rfl ?_
    refine sxo_assign rfl rfl rfl ?_
    refine sxo_storeB (i := 0) rfl rfl rfl tf25 rfl rfl rfl rfl rfl ?_
    refine sxo_assign rfl rfl rfl ?_
    refine sxo_nil ?_
    refine sxq_next ?_
    refine sxc_ret ?_
    refine sxq_thenR ?_
    refine sxq_nilrow Int (eI .i64) 3 1 ?_
    refine sxq_nilrow Int (eI .u8) 5 1 ?_
    exact sxq_doneP ((none, 0), (none, 0)) (resL (rs := [.tmp 4, .cell 5 25, .tmp 6]) rfl (.tmp rfl (.cell (i := 0) rfl tf25 rfl rfl (by simp) rfl (.tmp rfl ResOk.nil))) rfl) (fun h => by subst h; exact (.cons 1 rfl (.cons 0 rfl .nil)))
  · refine sxc_skip ?_
    refine sxq_next ?_
    refine sxc_seq ?_
    refine sxc_region ?_
    refine sxo_move rfl rfl rfl ?_
    refine sxo_mk (eI_ok .i64) rfl Try.underlying22 tf3 rfl rfl rfl rfl rfl rfl rfl (fun x9 e9 a10 c11 => ?_)
    refine sxo_assign rfl rfl rfl ?_
    refine sxo_nil ?_
    refine sxq_next ?_
    refine sxc_join (fun ((x153, _) : (List Int × Unit)) => [(0, .slice a2 x1.length c3), (5, .pointer (some ⟨g5, 0, none⟩)), (7, .slice a10 x153.length c11)]) (fun ((x153, _) : (List Int × Unit)) => [⟨g5, 25, [.int .i64 0, .slice none 0 0]⟩]) (fun ((x153, _) : (List Int × Unit)) => [Ro (eI .i64) 3 1 (.slice a10 x153.length c11) x153]) (fun ((x153, _) : (List Int × Unit)) => [Sl (eI .i64) 1 (.slice a2 x1.length c3) x1]) (fun ((x153, _) : (List Int × Unit)) => M_R_HuffPack_j2 F x1 x153) ?_ ?_
    · refine sxc_seq ?_
      refine sxc_region ?_
      refine sxo_assign rfl rfl rfl ?_
      refine sxo_nil ?_
      refine sxq_next ?_
      refine sxc_block ?_
      refine sxc_loopP (fun (((x409, x410), _) : ((List Int × Int) × Unit)) => [(0, .slice a2 x1.length c3), (1, .int .i64 x4), (5, .pointer (some ⟨g5, 0, none⟩)), (7, .slice a10 x409.length c11), (8, .int .i64 x410)]) (fun (((x409, x410), _) : ((List Int × Int) × Unit)) => [⟨g5, 25, [.int .i64 0, .slice none 0 0]⟩]) (fun (((x409, x410), _) : ((List Int × Int) × Unit)) => [Ro (eI .i64) 3 1 (.slice a10 x409.length c11) x409]) (fun (((x409, x410), _) : ((List Int × Int) × Unit)) => [Sl (eI .i64) 1 (.slice a2 x1.length c3) x1]) (fun k (s : ((List Int × Int) × Unit)) => M_R_HuffPack_l6 F x1 x4 k s.1) ((x9, 0), ()) F ?_ (hB := (.cons 0 rfl .nil)) (hR := (.cons 0 rfl .nil)) (hF := (fk_cons 0 rfl fk_nil))
      intro k457
      rintro ⟨⟨x409, x410⟩, _⟩
      try dsimp only
      refine sxc_meq (m' := M_R_HuffPack_b6 F x1 x4 (M_R_HuffPack_l6 F x1 x4 k457) x409 x410) rfl ?_
      refine sxc_seq ?_
      refine sxc_seq ?_
      refine sxc_region ?_
      refine sxo_move rfl rfl rfl ?_
      refine sxo_move rfl rfl rfl ?_
      refine sxo_len rfl Try.underlying22 rfl rfl ?_
      refine sxo_lss rfl rfl rfl rfl ?_
      refine sxo_nil ?_
      refine sxq_next ?_
      refine sxc_if rfl (fun h503 => ?_) (fun h503 => ?_)
      · refine sxc_skip ?_
        refine sxq_next ?_
        refine sxc_seq ?_
        refine sxc_block ?_
        refine sxc_seq ?_
        refine sxc_seq ?_
        refine sxc_region ?_
        refine sxo_move rfl rfl rfl ?_
        refine sxo_move rfl rfl rfl ?_
        refine sxo_indexF (j := 0) (eI_ok .i64) (by decide) rfl Try.underlying22 tf3 rfl rfl rfl rfl (fun x486 e486 b487 o488 => ?_)
        refine sxo_loadF (j := 0) rfl rfl tf3 rfl rfl (fun _ => rfl) rfl rfl ?_
        refine sxo_move rfl rfl rfl ?_
        refine sxo_sub rfl rfl rfl rfl ?_
        refine sxo_call ent39 rfl rfl rfl (fun x489 e489 => C_R_between F x486 0 (isub .i64 x4 1) x489 e489) .nil (fun x489 e489 => ?_)
        intro _
        refine sxo_not rfl rfl rfl ?_
        refine sxo_nil ?_
        refine sxq_next ?_
        refine sxc_if rfl (fun h502 => ?_) (fun h502 => ?_)
        · refine sxc_seq ?_
          refine sxc_region ?_
          refine sxo_build (cells := [.int .i64 0, .slice none 0 0]) rfl st25 rfl (by kernel_rfl) rfl ?_
          refine sxo_assign rfl rfl rfl ?_
          refine sxo_storeB (i := 0) rfl rfl rfl tf25 rfl rfl rfl rfl rfl ?_
          refine sxo_assign rfl rfl rfl ?_
          refine sxo_nil ?_
          refine sxq_next ?_
          refine sxc_ret ?_
          refine sxq_thenR ?_
          refine sxq_blkR ?_
          refine sxq_thenR ?_
          refine sxq_thenR ?_
          refine sxq_blkR ?_
          refine sxq_thenR ?_
          refine sxq_nilrow Int (eI .i64) 3 1 ?_
          refine sxq_nilrow Int (eI .u8) 5 1 ?_
          exact sxq_doneP ((none, 0), (none, 0)) (resL (rs := [.tmp 4, .cell 5 25, .tmp 6]) rfl (.tmp rfl (.cell (i := 0) rfl tf25 rfl rfl (by simp) rfl (.tmp rfl ResOk.nil))) rfl) (fun h => by subst h; exact (.cons 1 rfl (.cons 0 rfl .nil)))
        · refine sxc_skip ?_
          refine sxq_next ?_
          refine sxc_region ?_
          refine sxo_move rfl rfl rfl ?_
          refine sxo_move rfl rfl rfl ?_
          refine sxo_move rfl rfl rfl ?_
          refine sxo_indexF (j := 1) (eI_ok .i64) (by decide) rfl Try.underlying22 tf3 rfl rfl rfl rfl (fun x490 e490 b491 o492 => ?_)
          refine sxo_loadF (j := 0) rfl rfl tf3 rfl rfl (fun _ => rfl) rfl rfl ?_
          refine sxo_indexR (j := 0) rfl Try.underlying22 tf3 rfl rfl rfl rfl (fun x493 e493 g494 h495 => ?_)
          refine sxo_loadR (j := 0) (y := x493) (eI_ok .i64) rfl rfl tf3 rfl h495 (idx_get e493).2.2 (fun _ => rfl) rfl rfl ?_
          refine sxo_add rfl rfl rfl rfl ?_
          refine sxo_indexR (j := 0) rfl Try.underlying22 tf3 rfl rfl rfl rfl (fun x496 e496 g497 h498 => ?_)
          refine sxo_storeL (j := 0) (y' := iadd .i64 x493 1) (eI_ok .i64) rfl rfl rfl tf3 rfl h498 (idx_get e496).2.1 rfl (fun x499 e499 h500 => ?_)
          have h501 : x499.length = x409.length := by rw [← e499, List.length_set]
          refine sxo_again (d := 7) (v := .slice a10 x499.length c11) rfl h500 ?_
          refine sxo_again (d := 38) (v := .slice a10 x499.length c11) rfl h500 ?_
          refine sxo_nil ?_
          refine sxq_blkN ?_
          refine sxq_next ?_
          refine sxc_region ?_
          refine sxo_move rfl rfl rfl ?_
          refine sxo_add rfl rfl rfl rfl ?_
          refine sxo_assign rfl rfl rfl ?_
          refine sxo_nil ?_
          exact sxq_againP ((x499, iadd .i64 x410 1), ()) (hB := (.cons 0 rfl .nil)) (hR := (.cons 0 rfl .nil)) (hF := (fk_cons 2 rfl fk_nil))
      · refine sxc_exit ?_
        refine sxq_thenX ?_
        refine sxq_thenX ?_
        refine sxq_blkX ?_
        exact sxq_meetP (x409, ()) (hB := (.cons 0 rfl .nil)) (hR := (.cons 0 rfl .nil)) (hF := (fk_cons 0 rfl fk_nil))
    · rintro ⟨x153, _⟩
      try dsimp only
      refine sxc_seq ?_
      refine sxc_seq ?_
      refine sxc_region ?_
      refine sxo_move rfl rfl rfl ?_
      refine sxo_len rfl Try.underlying22 rfl rfl ?_
      refine sxo_gtr rfl rfl rfl rfl ?_
      refine sxo_nil ?_
      refine sxq_next ?_
      refine sxc_if rfl (fun h362 => ?_) (fun h362 => ?_)
      · refine sxc_seq ?_
        refine sxc_region ?_
        refine sxo_build (cells := [.int .i64 0, .slice none 0 0]) rfl st25 rfl (by kernel_rfl) rfl ?_
        refine sxo_assign rfl rfl rfl ?_
        refine sxo_storeB (i := 0) rfl rfl rfl tf25 rfl rfl rfl rfl rfl ?_
        refine sxo_assign rfl rfl rfl ?_
        refine sxo_nil ?_
        refine sxq_next ?_
        refine sxc_ret ?_
        refine sxq_thenR ?_
        refine sxq_nilrow Int (eI .i64) 3 1 ?_
        refine sxq_nilrow Int (eI .u8) 5 1 ?_
        exact sxq_doneP ((none, 0), (none, 0)) (resL (rs := [.tmp 4, .cell 5 25, .tmp 6]) rfl (.tmp rfl (.cell (i := 0) rfl tf25 rfl rfl (by simp) rfl (.tmp rfl ResOk.nil))) rfl) (fun h => by subst h; exact (.cons 1 rfl (.cons 0 rfl .nil)))
      · refine sxc_skip ?_
        refine sxq_next ?_
        refine sxc_seq ?_
        refine sxc_region ?_
        refine sxo_move rfl rfl rfl ?_
        refine sxo_call ent15 rfl rfl rfl (fun x155 e155 => C_R_HuffLengths F x153 a10 c11 x155 e155) (.consR 0 (Ro (eI .i64) 3 1 (.slice a10 x153.length c11) x153) rfl .nil) (fun x155 e155 => ?_)
        rintro ⟨a156, c157⟩
        refine sxo_move rfl rfl rfl ?_
        refine sxo_extract rfl rfl rfl rfl ?_
        refine sxo_extract rfl rfl rfl rfl ?_
        refine sxo_assign rfl rfl rfl ?_
        refine sxo_assign rfl rfl rfl ?_
        refine sxo_nil ?_
        refine sxq_next ?_
        refine sxc_seq ?_
        refine sxc_seq ?_
        refine sxc_region ?_
        refine sxo_move rfl rfl rfl ?_
        refine sxo_neq rfl rfl rfl rfl ?_
        refine sxo_nil ?_
        refine sxq_next ?_
        refine sxc_if rfl (fun h361 => ?_) (fun h361 => ?_)
        · refine sxc_seq ?_
          refine sxc_region ?_
          refine sxo_build (cells := [.int .i64 0, .slice none 0 0]) rfl st25 rfl (by kernel_rfl) rfl ?_
          refine sxo_move rfl rfl rfl ?_
          refine sxo_assign rfl rfl rfl ?_
          refine sxo_storeB (i := 0) rfl rfl rfl tf25 rfl rfl rfl rfl rfl ?_
          refine sxo_assign rfl rfl rfl ?_
          refine sxo_nil ?_
          refine sxq_next ?_
          refine sxc_ret ?_
          refine sxq_thenR ?_
          refine sxq_nilrow Int (eI .i64) 3 1 ?_
          refine sxq_nilrow Int (eI .u8) 5 1 ?_
          exact sxq_doneP ((none, 0), (none, 0)) (resL (rs := [.tmp 4, .cell 5 25, .tmp 6]) rfl (.tmp rfl (.cell (i := 0) rfl tf25 rfl rfl (by simp) rfl (.tmp rfl ResOk.nil))) rfl) (fun h => by subst h; exact (.cons 1 rfl (.cons 0 rfl .nil)))
        · refine sxc_skip ?_
          refine sxq_next ?_
          refine sxc_seq ?_
          refine sxc_region ?_
          refine sxo_move rfl rfl rfl ?_
          refine sxo_move rfl rfl rfl ?_
          refine sxo_call ent16 rfl rfl rfl (fun x159 e159 => C_R_HuffCost F x153 a10 c11 x155.1 a156 c157 x159 e159) (.consR 1 (Ro (eI .i64) 3 1 (.slice a10 x153.length c11) x153) rfl (.consR 0 (Ro (eI .i64) 3 1 (.slice a156 x155.1.length c157) x155.1) rfl .nil)) (fun x159 e159 => ?_)
          intro _
          refine sxo_move rfl rfl rfl ?_
          refine sxo_extract rfl rfl rfl rfl ?_
          refine sxo_extract rfl rfl rfl rfl ?_
          refine sxo_assign rfl rfl rfl ?_
          refine sxo_assign rfl rfl rfl ?_
          refine sxo_nil ?_
          refine sxq_next ?_
          refine sxc_seq ?_
          refine sxc_seq ?_
          refine sxc_region ?_
          refine sxo_move rfl rfl rfl ?_
          refine sxo_gtr rfl rfl rfl rfl ?_
          refine sxo_nil ?_
          refine sxq_next ?_
          refine sxc_if rfl (fun h360 => ?_) (fun h360 => ?_)
          · refine sxc_seq ?_
            refine sxc_region ?_
            refine sxo_build (cells := [.int .i64 0, .slice none 0 0]) rfl st25 rfl (by kernel_rfl) rfl ?_
            refine sxo_assign rfl rfl rfl ?_
            refine sxo_storeB (i := 0) rfl rfl rfl tf25 rfl rfl rfl rfl rfl ?_
            refine sxo_assign rfl rfl rfl ?_
            refine sxo_nil ?_
            refine sxq_next ?_
            refine sxc_ret ?_
            refine sxq_thenR ?_
            refine sxq_nilrow Int (eI .i64) 3 1 ?_
            refine sxq_nilrow Int (eI .u8) 5 1 ?_
            exact sxq_doneP ((none, 0), (none, 0)) (resL (rs := [.tmp 4, .cell 5 25, .tmp 6]) rfl (.tmp rfl (.cell (i := 0) rfl tf25 rfl rfl (by simp) rfl (.tmp rfl ResOk.nil))) rfl) (fun h => by subst h; exact (.cons 1 rfl (.cons 0 rfl .nil)))
          · refine sxc_skip ?_
            refine sxq_next ?_
            refine sxc_seq ?_
            refine sxc_region ?_
            refine sxo_move rfl rfl rfl ?_
            refine sxo_call ent40 rfl rfl rfl (fun x161 e161 => C_R_KraftCodes F x155.1 a156 c157 x161 e161) (.consR 0 (Ro (eI .i64) 3 1 (.slice a156 x155.1.length c157) x155.1) rfl .nil) (fun x161 e161 => ?_)
            rintro ⟨a162, c163⟩
            refine sxo_move rfl rfl rfl ?_
            refine sxo_extract rfl rfl rfl rfl ?_
            refine sxo_extract rfl rfl rfl rfl ?_
            refine sxo_assign rfl rfl rfl ?_
            refine sxo_assign rfl rfl rfl ?_
            refine sxo_nil ?_
            refine sxq_next ?_
            refine sxc_seq ?_
            refine sxc_region ?_
            refine sxo_assign rfl rfl rfl ?_
            refine sxo_nil ?_
            refine sxq_next ?_
            refine sxc_join (fun ((x261, (a259, c260)) : (List Int × (Option Addr × Nat))) => [(5, .pointer (some ⟨g5, 0, none⟩)), (9, .slice a156 x155.1.length c157), (15, .slice a259 x261.length c260)]) (fun ((x261, (a259, c260)) : (List Int × (Option Addr × Nat))) => [⟨g5, 25, [.int .i64 0, .slice none 0 0]⟩]) (fun ((x261, (a259, c260)) : (List Int × (Option Addr × Nat))) => [Ro (eI .i64) 3 1 (.slice a156 x155.1.length c157) x155.1, Ro (eI .i64) 3 1 (.slice a259 x261.length c260) x261]) (fun ((x261, (a259, c260)) : (List Int × (Option Addr × Nat))) => []) (fun ((x261, _) : (List Int × (Option Addr × Nat))) => M_R_HuffPack_j4 F x155 x261) ?_ ?_
            · refine sxc_seq ?_
              refine sxc_region ?_
              refine sxo_assign rfl rfl rfl ?_
              refine sxo_nil ?_
              refine sxq_next ?_
              refine sxc_block ?_
              refine sxc_nilrow Int (eI .i64) 3 1 ?_
              refine sxc_loopP (fun (((x297, x298), (a295, c296)) : ((List Int × Int) × (Option Addr × Nat))) => [(0, .slice a2 x1.length c3), (5, .pointer (some ⟨g5, 0, none⟩)), (9, .slice a156 x155.1.length c157), (13, .slice a162 x161.1.length c163.1), (15, .slice a295 x297.length c296), (16, .int .i64 x298)]) (fun (((x297, x298), (a295, c296)) : ((List Int × Int) × (Option Addr × Nat))) => [⟨g5, 25, [.int .i64 0, .slice none 0 0]⟩]) (fun (((x297, x298), (a295, c296)) : ((List Int × Int) × (Option Addr × Nat))) => [Ro (eI .i64) 3 1 (.slice a156 x155.1.length c157) x155.1, RoN eN25 rN25 25 2 (.slice a162 x161.1.length c163.1) x161.1 c163.2 [], Ro (eI .i64) 3 1 (.slice a295 x297.length c296) x297]) (fun (((x297, x298), (a295, c296)) : ((List Int × Int) × (Option Addr × Nat))) => [Sl (eI .i64) 1 (.slice a2 x1.length c3) x1]) (fun k (s : ((List Int × Int) × (Option Addr × Nat))) => M_R_HuffPack_l5 F x1 x155 x161 k s.1) ((([] : List Int), 0), (none, 0)) F ?_ (hB := (.cons 0 rfl .nil)) (hR := (.cons 2 rfl (.cons 1 rfl (.cons 0 rfl .nil)))) (hF := (fk_cons 0 rfl fk_nil))
              intro k329
              rintro ⟨⟨x297, x298⟩, ⟨a295, c296⟩⟩
              try dsimp only
              refine sxc_meq (m' := M_R_HuffPack_b5 F x1 x155 x161 (M_R_HuffPack_l5 F x1 x155 x161 k329) x297 x298) rfl ?_
              refine sxc_seq ?_
              refine sxc_seq ?_
              refine sxc_region ?_
              refine sxo_move rfl rfl rfl ?_
              refine sxo_move rfl rfl rfl ?_
              refine sxo_len rfl Try.underlying22 rfl rfl ?_
              refine sxo_lss rfl rfl rfl rfl ?_
              refine sxo_nil ?_
              refine sxq_next ?_
              refine sxc_if rfl (fun h359 => ?_) (fun h359 => ?_)
              · refine sxc_skip ?_
                refine sxq_next ?_
                refine sxc_seq ?_
                refine sxc_block ?_
                refine sxc_region ?_
                refine sxo_move rfl rfl rfl ?_
                refine sxo_move rfl rfl rfl ?_
                refine sxo_move rfl rfl rfl ?_
                refine sxo_move rfl rfl rfl ?_
                refine sxo_indexF (j := 0) (eI_ok .i64) (by decide) rfl Try.underlying22 tf3 rfl rfl rfl rfl (fun x345 e345 b346 o347 => ?_)
                refine sxo_loadF (j := 0) rfl rfl tf3 rfl rfl (fun _ => rfl) rfl rfl ?_
                refine sxo_idxP (j := 1) rfl Try.underlying55 tf25 rfl rfl rfl rfl (fun x348 e348 g349 h350 g351 h352 => ?_)
                refine sxo_openN (i := 1) rfl h350 (List.not_mem_nil) ?_
                refine sxo_loadN0 (j := 1) (p := (x348, g349)) eN25_ok rfl rfl tf25 rfl h352 h350 rfl (by simp) rfl rfl ?_
                refine sxo_call ent41 rfl rfl rfl (fun x353 e353 => C_R_BitList F x348.1 x348.2 g349.1 g349.2 x353 e353) (.consR 0 (Ro (eI .u8) 5 1 (.slice g349.1 x348.2.length g349.2) x348.2) rfl .nil) (fun x353 e353 => ?_)
                rintro ⟨a354, c355⟩
                refine sxo_app 4 (eI_ok .i64) rfl Try.underlying22 tf3 rfl rfl rfl rfl rfl (.inl ⟨0, _, rfl⟩) rfl rfl (fun x356 e356 a357 c358 => ?_)
                refine sxo_assign rfl rfl rfl ?_
                refine sxo_nil ?_
                refine sxq_blkN ?_
                refine sxq_next ?_
                refine sxc_closeN (rin := rN25) (p := (x348, g349)) (i := 2) (k := 0) (.cons 2 rfl .nil) rfl rfl h350 ?_
                refine sxc_region ?_
                refine sxo_move rfl rfl rfl ?_
                refine sxo_add rfl rfl rfl rfl ?_
                refine sxo_assign rfl rfl rfl ?_
                refine sxo_nil ?_
                exact sxq_againP ((x356, iadd .i64 x298 1), (a357, c358)) (hB := (.cons 0 rfl .nil)) (hR := (.cons 3 rfl (.cons 0 rfl (.cons 0 rfl .nil)))) (hF := (fk_cons 1 rfl fk_nil))
              · refine sxc_exit ?_
                refine sxq_thenX ?_
                refine sxq_thenX ?_
                refine sxq_blkX ?_
                exact sxq_meetP (x297, (a295, c296)) (hB := (.cons 0 rfl .nil)) (hR := (.cons 0 rfl (.cons 1 rfl .nil)))
            · rintro ⟨x261, ⟨a259, c260⟩⟩
              try dsimp only
              refine sxc_seq ?_
              refine sxc_region ?_
              refine sxo_move rfl rfl rfl ?_
              refine sxo_move rfl rfl rfl ?_
              refine sxo_call ent42 rfl rfl rfl (fun x262 e262 => C_R_PackBits F x261 a259 c260 x262 e262) (.consR 1 (Ro (eI .i64) 3 1 (.slice a259 x261.length c260) x261) rfl .nil) (fun x262 e262 => ?_)
              rintro ⟨a263, c264⟩
              refine sxo_assign rfl rfl rfl ?_
              refine sxo_storeB (i := 0) rfl rfl rfl tf25 rfl rfl rfl rfl rfl ?_
              refine sxo_assign rfl rfl rfl ?_
              refine sxo_nil ?_
              refine sxq_next ?_
              refine sxc_ret ?_
              exact sxq_doneP ((a156, c157), (a263, c264)) (resL (rs := [.tmp 4, .cell 5 25, .tmp 6]) rfl (.tmp rfl (.cell (i := 0) rfl tf25 rfl rfl (by simp) rfl (.tmp rfl ResOk.nil))) rfl) (fun h => by subst h; exact (.cons 1 rfl (.cons 0 rfl .nil)))

theorem C_R_BitsCheck (F : Nat) (x1 : Int) (x2 : List Int) (a3 : Option Addr) (c4 : Nat) (r : Int) (hm : M_R_BitsCheck F x1 x2 = some r) :
    Pure Try.prog 43 [.agg #[.int .i64 x1, .slice a3 x2.length c4]] [Sl (eI .u8) 1 (.slice a3 x2.length c4) x2] Unit (fun _ => .int .i64 r) (fun _ => []) (fun _ => []) := by
  refine pure_of Try.func43 rfl Try.ntmps43 rfl hm (fun w => ?_)
  refine sxc_env (l' := [(0, .agg #[.int .i64 x1, .slice a3 x2.length c4])]) rfl ?_
  refine sxc_seq ?_
  refine sxc_region ?_
  refine sxo_box rfl rfl rfl (fun g5 => ?_)
  refine sxo_assign rfl rfl rfl ?_
  refine sxo_nil ?_
  refine sxq_next ?_
  refine sxc_seq ?_
  refine sxc_seq ?_
  refine sxc_region ?_
  refine sxo_fieldAddr rfl rfl ff25_0 rfl ?_
  refine sxo_loadB (i := 0) rfl rfl tf3 rfl rfl (fun _ => rfl) rfl rfl ?_
  refine sxo_call ent39 rfl rfl rfl (fun x8 e8 => C_R_between F x1 0 8192 x8 e8) .nil (fun x8 e8 => ?_)
  intro _
  refine sxo_not rfl rfl rfl ?_
  refine sxo_nil ?_
  refine sxq_next ?_
  refine sxc_if rfl (fun h81 => ?_) (fun h81 => ?_)
  · refine sxc_seq ?_
    refine sxc_region ?_
    refine sxo_assign rfl rfl rfl ?_
    refine sxo_nil ?_
    refine sxq_next ?_
    refine sxc_ret ?_
    refine sxq_thenR ?_
    exact sxq_doneP () (res1 rfl rfl)
  · refine sxc_skip ?_
    refine sxq_next ?_
    refine sxc_seq ?_
    refine sxc_region ?_
    refine sxo_fieldAddr rfl rfl ff25_0 rfl ?_
    refine sxo_loadB (i := 0) rfl rfl tf3 rfl rfl (fun _ => rfl) rfl rfl ?_
    refine sxo_quo rfl rfl rfl rfl rfl ?_
    refine sxo_assign rfl rfl rfl ?_
    refine sxo_nil ?_
    refine sxq_next ?_
    refine sxc_join (fun ((x10, _) : (Int × Unit)) => [(1, .pointer (some ⟨g5, 0, none⟩)), (3, .int .i64 x10)]) (fun ((x10, _) : (Int × Unit)) => [⟨g5, 25, [.int .i64 x1, .slice a3 x2.length c4]⟩]) (fun ((x10, _) : (Int × Unit)) => []) (fun ((x10, _) : (Int × Unit)) => [Sl (eI .u8) 1 (.slice a3 x2.length c4) x2]) (fun ((x10, _) : (Int × Unit)) => M_R_BitsCheck_j1 F x1 x2 x10) ?_ ?_
    · refine sxc_seq ?_
      refine sxc_region ?_
      refine sxo_fieldAddr rfl rfl ff25_0 rfl ?_
      refine sxo_loadB (i := 0) rfl rfl tf3 rfl rfl (fun _ => rfl) rfl rfl ?_
      refine sxo_rem rfl rfl rfl rfl rfl ?_
      refine sxo_gtr rfl rfl rfl rfl ?_
      refine sxo_nil ?_
      refine sxq_next ?_
      refine sxc_if rfl (fun h80 => ?_) (fun h80 => ?_)
      · refine sxc_region ?_
        refine sxo_move rfl rfl rfl ?_
        refine sxo_add rfl rfl rfl rfl ?_
        refine sxo_assign rfl rfl rfl ?_
        refine sxo_nil ?_
        exact sxq_meetP (iadd .i64 (iquo .i64 x1 8) 1, ()) (hB := (.cons 0 rfl .nil)) (hF := (fk_cons 0 rfl fk_nil))
      · refine sxc_skip ?_
        exact sxq_meetP (iquo .i64 x1 8, ()) (hB := (.cons 0 rfl .nil)) (hF := (fk_cons 0 rfl fk_nil))
    · rintro ⟨x10, _⟩
      try dsimp only
      refine sxc_seq ?_
      refine sxc_seq ?_
      refine sxc_region ?_
      refine sxo_fieldAddr rfl rfl ff25_1 rfl ?_
      refine sxo_loadB (i := 0) rfl rfl tf23 rfl rfl (fun _ => rfl) rfl rfl ?_
      refine sxo_len rfl Try.underlying23 rfl rfl ?_
      refine sxo_move rfl rfl rfl ?_
      refine sxo_neq rfl rfl rfl rfl ?_
      refine sxo_nil ?_
      refine sxq_next ?_
      refine sxc_if rfl (fun h79 => ?_) (fun h79 => ?_)
      · refine sxc_seq ?_
        refine sxc_region ?_
        refine sxo_assign rfl rfl rfl ?_
        refine sxo_nil ?_
        refine sxq_next ?_
        refine sxc_ret ?_
        refine sxq_thenR ?_
        exact sxq_doneP () (res1 rfl rfl)
      · refine sxc_skip ?_
        refine sxq_next ?_
        refine sxc_seq ?_
        refine sxc_region ?_
        refine sxo_move rfl rfl rfl ?_
        refine sxo_mul rfl rfl rfl rfl ?_
        refine sxo_fieldAddr rfl rfl ff25_1 rfl ?_
        refine sxo_loadB (i := 0) rfl rfl tf23 rfl rfl (fun _ => rfl) rfl rfl ?_
        refine sxo_build (cells := [.int .i64 (imul .i64 8 x10), .slice a3 x2.length c4]) rfl st25 rfl (by kernel_rfl) rfl ?_
        refine sxo_call ent41 rfl rfl rfl (fun x12 e12 => C_R_BitList F (imul .i64 8 x10) x2 a3 c4 x12 e12) (.consF 0 rfl .nil) (fun x12 e12 => ?_)
        rintro ⟨a13, c14⟩
        refine sxo_assign rfl rfl rfl ?_
        refine sxo_nil ?_
        refine sxq_next ?_
        refine sxc_join (fun ((_, _) : (Unit × Unit)) => []) (fun ((_, _) : (Unit × Unit)) => []) (fun ((_, _) : (Unit × Unit)) => []) (fun ((_, _) : (Unit × Unit)) => []) (fun ((_, _) : (Unit × Unit)) => M_R_BitsCheck_j3 F) ?_ ?_
        · refine sxc_seq ?_
          refine sxc_region ?_
          refine sxo_fieldAddr rfl rfl ff25_0 rfl ?_
          refine sxo_loadB (i := 0) rfl rfl tf3 rfl rfl (fun _ => rfl) rfl rfl ?_
          refine sxo_assign rfl rfl rfl ?_
          refine sxo_nil ?_
          refine sxq_next ?_
          refine sxc_block ?_
          refine sxc_loopP (fun ((x57, _) : (Int × Unit)) => [(4, .slice a13 x12.length c14), (5, .int .i64 x57)]) (fun ((x57, _) : (Int × Unit)) => []) (fun ((x57, _) : (Int × Unit)) => [Ro (eI .i64) 3 1 (.slice a13 x12.length c14) x12]) (fun ((x57, _) : (Int × Unit)) => []) (fun k (s : (Int × Unit)) => M_R_BitsCheck_l4 F x12 k s.1) (x1, ()) F ?_ (hR := (.cons 0 rfl .nil))
          intro k68
          rintro ⟨x57, _⟩
          try dsimp only
          refine sxc_meq (m' := M_R_BitsCheck_b4 F x12 (M_R_BitsCheck_l4 F x12 k68) x57) rfl ?_
          refine sxc_seq ?_
          refine sxc_seq ?_
          refine sxc_region ?_
          refine sxo_move rfl rfl rfl ?_
          refine sxo_move rfl rfl rfl ?_
          refine sxo_len rfl Try.underlying22 rfl rfl ?_
          refine sxo_lss rfl rfl rfl rfl ?_
          refine sxo_nil ?_
          refine sxq_next ?_
          refine sxc_if rfl (fun h78 => ?_) (fun h78 => ?_)
          · refine sxc_skip ?_
            refine sxq_next ?_
            refine sxc_seq ?_
            refine sxc_block ?_
            refine sxc_seq ?_
            refine sxc_region ?_
            refine sxo_move rfl rfl rfl ?_
            refine sxo_move rfl rfl rfl ?_
            refine sxo_indexR (j := 0) rfl Try.underlying22 tf3 rfl rfl rfl rfl (fun x74 e74 g75 h76 => ?_)
            refine sxo_loadR (j := 0) (y := x74) (eI_ok .i64) rfl rfl tf3 rfl h76 (idx_get e74).2.2 (fun _ => rfl) rfl rfl ?_
            refine sxo_neq rfl rfl rfl rfl ?_
            refine sxo_nil ?_
            refine sxq_next ?_
            refine sxc_if rfl (fun h77 => ?_) (fun h77 => ?_)
            · refine sxc_seq ?_
              refine sxc_region ?_
              refine sxo_assign rfl rfl rfl ?_
              refine sxo_nil ?_
              refine sxq_next ?_
              refine sxc_ret ?_
              refine sxq_blkR ?_
              refine sxq_thenR ?_
              refine sxq_thenR ?_
              refine sxq_blkR ?_
              refine sxq_thenR ?_
              exact sxq_doneP () (res1 rfl rfl)
            · refine sxc_skip ?_
              refine sxq_blkN ?_
              refine sxq_next ?_
              refine sxc_region ?_
              refine sxo_move rfl rfl rfl ?_
              refine sxo_add rfl rfl rfl rfl ?_
              refine sxo_assign rfl rfl rfl ?_
              refine sxo_nil ?_
              exact sxq_againP (iadd .i64 x57 1, ()) (hR := (.cons 0 rfl .nil))
          · refine sxc_exit ?_
            refine sxq_thenX ?_
            refine sxq_thenX ?_
            refine sxq_blkX ?_
            exact sxq_meetP ((), ())
        · rintro ⟨_, _⟩
          try dsimp only
          refine sxc_seq ?_
          refine sxc_region ?_
          refine sxo_assign rfl rfl rfl ?_
          refine sxo_nil ?_
          refine sxq_next ?_
          refine sxc_ret ?_
          exact sxq_doneP () (res1 rfl rfl)

theorem C_R_ReadErr (F : Nat) (x1 : Int) (x2 : List Int) (a3 : Option Addr) (c4 : Nat) (x5 : Int) (r : Int) (hm : M_R_ReadErr F x1 x2 x5 = some r) :
    Pure Try.prog 67 [.agg #[.int .i64 x1, .slice a3 x2.length c4], .int .i64 x5] [Sl (eI .u8) 1 (.slice a3 x2.length c4) x2] Unit (fun _ => .int .i64 r) (fun _ => []) (fun _ => []) := by
  refine pure_of Try.func67 rfl Try.ntmps67 rfl hm (fun w => ?_)
  refine sxc_env (l' := [(0, .agg #[.int .i64 x1, .slice a3 x2.length c4]), (1, .int .i64 x5)]) rfl ?_
  refine sxc_seq ?_
  refine sxc_region ?_
  refine sxo_box rfl rfl rfl (fun g6 => ?_)
  refine sxo_assign rfl rfl rfl ?_
  refine sxo_nil ?_
  refine sxq_next ?_
  refine sxc_seq ?_
  refine sxc_region ?_
  refine sxo_loadB (i := 0) rfl rfl tf25 rfl rfl (by simp) rfl rfl ?_
  refine sxo_call ent43 rfl rfl rfl (fun x7 e7 => C_R_BitsCheck F x1 x2 a3 c4 x7 e7) (.consF 0 rfl .nil) (fun x7 e7 => ?_)
  intro _
  refine sxo_assign rfl rfl rfl ?_
  refine sxo_nil ?_
  refine sxq_next ?_
  refine sxc_join (fun ((x13, _) : (Int × Unit)) => [(5, .int .i64 x13)]) (fun ((x13, _) : (Int × Unit)) => []) (fun ((x13, _) : (Int × Unit)) => []) (fun ((x13, _) : (Int × Unit)) => []) (fun ((x13, _) : (Int × Unit)) => M_R_ReadErr_j2 F x13) ?_ ?_
  · refine sxc_seq ?_
    refine sxc_region ?_
    refine sxo_move rfl rfl rfl ?_
    refine sxo_eql rfl rfl rfl rfl ?_
    refine sxo_move rfl rfl rfl ?_
    refine sxo_join 6 (fun ((x16, _) : (Bool × Unit)) => [(5, .int .i64 x7), (16, .bool x16)]) (fun ((x16, _) : (Bool × Unit)) => []) (fun ((x16, _) : (Bool × Unit)) => []) (fun ((x16, _) : (Bool × Unit)) => []) (fun ((x16, _) : (Bool × Unit)) => M_R_ReadErr_j3 F x7 x16) ?_ ?_
    · refine sxo_take (os := _) rfl ?_
      refine sxo_if (fun h14 => ?_) (fun h14 => ?_)
      · refine sxo_isT (k := 10) rfl h14 ?_
        refine sxo_move rfl rfl rfl ?_
        refine sxo_fieldAddr rfl rfl ff25_0 rfl ?_
        refine sxo_loadB (i := 0) rfl rfl tf3 rfl rfl (fun _ => rfl) rfl rfl ?_
        refine sxo_call ent39 rfl rfl rfl (fun x18 e18 => C_R_between F x5 0 x1 x18 e18) .nil (fun x18 e18 => ?_)
        intro _
        refine sxo_not rfl rfl rfl ?_
        refine sxo_pick (b := true) rfl rfl rfl rfl ?_
        refine sxo_nil ?_
        exact sxq_meetP ((!x18), ())
      · refine sxo_isF (k := 10) rfl h14 ?_
        refine sxo_skip rfl rfl rfl ?_
        refine sxo_skip rfl rfl rfl ?_
        refine sxo_skip rfl rfl rfl ?_
        refine sxo_skip rfl rfl rfl ?_
        refine sxo_skip rfl rfl rfl ?_
        refine sxo_pick (b := false) rfl rfl rfl rfl ?_
        refine sxo_nil ?_
        exact sxq_meetP (false, ())
    · rintro ⟨x16, _⟩
      try dsimp only
      refine sxo_take (os := _) rfl ?_
      refine sxo_nil ?_
      refine sxq_next ?_
      refine sxc_if rfl (fun h17 => ?_) (fun h17 => ?_)
      · refine sxc_region ?_
        refine sxo_assign rfl rfl rfl ?_
        refine sxo_nil ?_
        exact sxq_meetP (3, ())
      · refine sxc_skip ?_
        exact sxq_meetP (x7, ())
  · rintro ⟨x13, _⟩
    try dsimp only
    refine sxc_seq ?_
    refine sxc_region ?_
    refine sxo_move rfl rfl rfl ?_
    refine sxo_assign rfl rfl rfl ?_
    refine sxo_nil ?_
    refine sxq_next ?_
    refine sxc_ret ?_
    exact sxq_doneP () (res1 rfl rfl)

theorem C_R_SameInts (F : Nat) (x1 : List Int) (a2 : Option Addr) (c3 : Nat) (x4 : List Int) (a5 : Option Addr) (c6 : Nat) (r : Bool) (hm : M_R_SameInts F x1 x4 = some r) :
    Pure Try.prog 20 [.slice a2 x1.length c3, .slice a5 x4.length c6] [Sl (eI .i64) 1 (.slice a2 x1.length c3) x1, Sl (eI .i64) 1 (.slice a5 x4.length c6) x4] Unit (fun _ => .bool r) (fun _ => []) (fun _ => []) := by
  refine pure_of Try.func20 rfl Try.ntmps20 rfl hm (fun w => ?_)
  refine sxc_env (l' := [(0, .slice a2 x1.length c3), (1, .slice a5 x4.length c6)]) rfl ?_
  refine sxc_seq ?_
  refine sxc_region ?_
  refine sxo_assign rfl rfl rfl ?_
  refine sxo_nil ?_
  refine sxq_next ?_
  refine sxc_seq ?_
  refine sxc_seq ?_
  refine sxc_region ?_
  refine sxo_move rfl rfl rfl ?_
  refine sxo_len rfl Try.underlying22 rfl rfl ?_
  refine sxo_move rfl rfl rfl ?_
  refine sxo_len rfl Try.underlying22 rfl rfl ?_
  refine sxo_neq rfl rfl rfl rfl ?_
  refine sxo_nil ?_
  refine sxq_next ?_
  refine sxc_if rfl (fun h228 => ?_) (fun h228 => ?_)
  · refine sxc_seq ?_
    refine sxc_region ?_
    refine sxo_assign rfl rfl rfl ?_
    refine sxo_nil ?_
    refine sxq_next ?_
    refine sxc_ret ?_
    refine sxq_thenR ?_
    exact sxq_doneP () (res1 rfl rfl)
  · refine sxc_skip ?_
    refine sxq_next ?_
    refine sxc_join (fun ((_, _) : (Unit × Unit)) => []) (fun ((_, _) : (Unit × Unit)) => []) (fun ((_, _) : (Unit × Unit)) => []) (fun ((_, _) : (Unit × Unit)) => []) (fun ((_, _) : (Unit × Unit)) => M_R_SameInts_j2 F) ?_ ?_
    · refine sxc_seq ?_
      refine sxc_region ?_
      refine sxo_assign rfl rfl rfl ?_
      refine sxo_nil ?_
      refine sxq_next ?_
      refine sxc_block ?_
      refine sxc_loopP (fun ((x154, _) : (Int × Unit)) => [(0, .slice a2 x1.length c3), (1, .slice a5 x4.length c6), (5, .int .i64 x154)]) (fun ((x154, _) : (Int × Unit)) => []) (fun ((x154, _) : (Int × Unit)) => []) (fun ((x154, _) : (Int × Unit)) => [Sl (eI .i64) 1 (.slice a2 x1.length c3) x1, Sl (eI .i64) 1 (.slice a5 x4.length c6) x4]) (fun k (s : (Int × Unit)) => M_R_SameInts_l3 F x1 x4 k s.1) (0, ()) F ?_ (hF := (fk_cons 0 rfl (fk_cons 1 rfl fk_nil)))
      intro k191
      rintro ⟨x154, _⟩
      try dsimp only
      refine sxc_meq (m' := M_R_SameInts_b3 F x1 x4 (M_R_SameInts_l3 F x1 x4 k191) x154) rfl ?_
      refine sxc_seq ?_
      refine sxc_seq ?_
      refine sxc_region ?_
      refine sxo_move rfl rfl rfl ?_
      refine sxo_move rfl rfl rfl ?_
      refine sxo_len rfl Try.underlying22 rfl rfl ?_
      refine sxo_lss rfl rfl rfl rfl ?_
      refine sxo_nil ?_
      refine sxq_next ?_
      refine sxc_if rfl (fun h227 => ?_) (fun h227 => ?_)
      · refine sxc_skip ?_
        refine sxq_next ?_
        refine sxc_seq ?_
        refine sxc_block ?_
        refine sxc_seq ?_
        refine sxc_idxF (j := 0) (eI_ok .i64) (by decide) rfl (fun x218 e218 b219 o220 h221 => ?_)
        replace h221 : a2 = some ⟨b219, o220, none⟩ := h221
        refine sxc_idxF (j := 2) (eI_ok .i64) (by decide) rfl (fun x222 e222 b223 o224 h225 => ?_)
        replace h225 : a5 = some ⟨b223, o224, none⟩ := h225
        refine sxb_draw mixed [] [] [CellsAt b223 (o224 + x154.toNat * 1) ((eI .i64) x222), CellsAt b219 (o220 + x154.toNat * 1) ((eI .i64) x218), Sl (eI .i64) 1 (.slice a2 x1.length c3) x1, Sl (eI .i64) 1 (.slice a5 x4.length c6) x4] .nil (gk_F 0 rfl (gk_F 1 rfl (gk_F 2 rfl (gk_F 3 rfl gk_nil)))) 9 rfl ?_
        refine sxb_takeP 0 (.slice a2 x1.length c3) rfl rfl rfl (yv_pv rfl) ?_
        refine sxb_takeP 1 (.int .i64 x154) rfl rfl rfl (yv_pv rfl) ?_
        refine sxb_again (d := 17) (v := .slice (some ⟨b219, o220, none⟩) x1.length c3) rfl (by rw [h221] <;> rfl) ?_
        refine sxb_takeP 2 (.pointer (some ⟨b219, (o220 + x154.toNat * 1), none⟩)) rfl rfl rfl (yv_idx Try.underlying22 tf3 rfl rfl (idx_get e218).1 (idx_lt e218)) ?_
        refine sxb_again (d := 17) (v := .slice a2 x1.length c3) rfl (by rw [h221] <;> rfl) ?_
        refine sxb_take 3 (.int .i64 x218) [] rfl rfl rfl (yv_loadF (j := 1) rfl tf3 rfl rfl (fun _ => rfl) rfl) ?_
        refine sxb_takeP 4 (.slice a5 x4.length c6) rfl rfl rfl (yv_pv rfl) ?_
        refine sxb_takeP 5 (.int .i64 x154) rfl rfl rfl (yv_pv rfl) ?_
        refine sxb_again (d := 21) (v := .slice (some ⟨b223, o224, none⟩) x4.length c6) rfl (by rw [h225] <;> rfl) ?_
        refine sxb_takeP 6 (.pointer (some ⟨b223, (o224 + x154.toNat * 1), none⟩)) rfl rfl rfl (yv_idx Try.underlying22 tf3 rfl rfl (idx_get e222).1 (idx_lt e222)) ?_
        refine sxb_again (d := 21) (v := .slice a5 x4.length c6) rfl (by rw [h225] <;> rfl) ?_
        refine sxb_take 7 (.int .i64 x222) [] rfl rfl rfl (yv_loadF (j := 0) rfl tf3 rfl rfl (fun _ => rfl) rfl) ?_
        refine sxb_takeP 8 (.bool ((x218 : Int) != x222)) rfl rfl rfl (yv_pv rfl) ?_
        refine sxb_done (by kernel_rfl) ?_
        refine sxq_np ?_ (by intro c h; cases h)
        refine sxq_next ?_
        refine sxc_if rfl (fun h226 => ?_) (fun h226 => ?_)
        · refine sxc_seq ?_
          refine sxc_region ?_
          refine sxo_assign rfl rfl rfl ?_
          refine sxo_nil ?_
          refine sxq_next ?_
          refine sxc_ret ?_
          refine sxq_blkR ?_
          refine sxq_thenR ?_
          refine sxq_thenR ?_
          refine sxq_blkR ?_
          refine sxq_thenR ?_
          exact sxq_doneP () (res1 rfl rfl)
        · refine sxc_skip ?_
          refine sxq_blkN ?_
          refine sxq_next ?_
          refine sxc_region ?_
          refine sxo_move rfl rfl rfl ?_
          refine sxo_add rfl rfl rfl rfl ?_
          refine sxo_assign rfl rfl rfl ?_
          refine sxo_nil ?_
          exact sxq_againP (iadd .i64 x154 1, ()) (hF := (fk_cons 2 rfl (fk_cons 3 rfl fk_nil)))
      · refine sxc_exit ?_
        refine sxq_thenX ?_
        refine sxq_thenX ?_
        refine sxq_blkX ?_
        exact sxq_meetP ((), ())
    · rintro ⟨_, _⟩
      try dsimp only
      refine sxc_seq ?_
      refine sxc_region ?_
      refine sxo_assign rfl rfl rfl ?_
      refine sxo_nil ?_
      refine sxq_next ?_
      refine sxc_ret ?_
      exact sxq_doneP () (res1 rfl rfl)

theorem C_R_Starts (F : Nat) (x1 : List Int) (a2 : Option Addr) (c3 : Nat) (x4 : List Int) (a5 : Option Addr) (c6 : Nat) (r : Bool) (hm : M_R_Starts F x1 x4 = some r) :
    Pure Try.prog 68 [.slice a2 x1.length c3, .slice a5 x4.length c6] [Sl (eI .i64) 1 (.slice a2 x1.length c3) x1, Sl (eI .i64) 1 (.slice a5 x4.length c6) x4] Unit (fun _ => .bool r) (fun _ => []) (fun _ => []) := by
  refine pure_of Try.func68 rfl Try.ntmps68 rfl hm (fun w => ?_)
  refine sxc_env (l' := [(0, .slice a2 x1.length c3), (1, .slice a5 x4.length c6)]) rfl ?_
  refine sxc_seq ?_
  refine sxc_region ?_
  refine sxo_assign rfl rfl rfl ?_
  refine sxo_nil ?_
  refine sxq_next ?_
  refine sxc_seq ?_
  refine sxc_region ?_
  refine sxo_move rfl rfl rfl ?_
  refine sxo_len rfl Try.underlying22 rfl rfl ?_
  refine sxo_move rfl rfl rfl ?_
  refine sxo_len rfl Try.underlying22 rfl rfl ?_
  refine sxo_geq rfl rfl rfl rfl ?_
  refine sxo_move rfl rfl rfl ?_
  refine sxo_join 7 (fun ((x12, _) : (Bool × Unit)) => [(17, .bool x12)]) (fun ((x12, _) : (Bool × Unit)) => []) (fun ((x12, _) : (Bool × Unit)) => []) (fun ((x12, _) : (Bool × Unit)) => []) (fun ((x12, _) : (Bool × Unit)) => M_R_Starts_j1 F x12) ?_ ?_
  · refine sxo_take (os := _) rfl ?_
    refine sxo_if (fun h7 => ?_) (fun h7 => ?_)
    · refine sxo_isT (k := 10) rfl h7 ?_
      refine sxo_move rfl rfl rfl ?_
      refine sxo_move rfl rfl rfl ?_
      refine sxo_len rfl Try.underlying22 rfl rfl ?_
      refine sxo_cut (j := 0) (eI_ok .i64) rfl Try.underlying22 tf3 rfl rfl rfl rfl rfl (fun x13 e13 a14 c15 => ?_)
      refine sxo_move rfl rfl rfl ?_
      refine sxo_call ent20 rfl rfl rfl (fun x16 e16 => C_R_SameInts F x13 a14 c15 x4 a5 c6 x16 e16) (.consF 0 rfl (.consF 2 rfl .nil)) (fun x16 e16 => ?_)
      intro _
      refine sxo_pick (b := true) rfl rfl rfl rfl ?_
      refine sxo_nil ?_
      exact sxq_meetP (x16, ())
    · refine sxo_isF (k := 10) rfl h7 ?_
      refine sxo_skip rfl rfl rfl ?_
      refine sxo_skip rfl rfl rfl ?_
      refine sxo_skip rfl rfl rfl ?_
      refine sxo_skip rfl rfl rfl ?_
      refine sxo_skip rfl rfl rfl ?_
      refine sxo_skip rfl rfl rfl ?_
      refine sxo_pick (b := false) rfl rfl rfl rfl ?_
      refine sxo_nil ?_
      exact sxq_meetP (false, ())
  · rintro ⟨x12, _⟩
    try dsimp only
    refine sxo_take (os := _) rfl ?_
    refine sxo_assign rfl rfl rfl ?_
    refine sxo_nil ?_
    refine sxq_next ?_
    refine sxc_ret ?_
    exact sxq_doneP () (res1 rfl rfl)

set_option maxHeartbeats 4000000 in
theorem C_R_KraftSign (F : Nat) (x1 : List Int) (a2 : Option Addr) (c3 : Nat) (x4 : Int) (x5 : List Int) (a6 : Option Addr) (c7 : Nat) (x8 : Int) (r : (Int × Int × Int)) (hm : M_R_KraftSign F x1 x4 x5 x8 = some r) :
    Pure Try.prog 44 [.slice a2 x1.length c3, .agg #[.int .i64 x4, .slice a6 x5.length c7], .int .i64 x8] [Sl (eI .i64) 1 (.slice a2 x1.length c3) x1, Sl (eI .u8) 1 (.slice a6 x5.length c7) x5] Unit (fun _ => .tuple #[.int .i64 r.1, .int .i64 r.2.1, .int .i64 r.2.2]) (fun _ => []) (fun _ => []) := by
  refine pure_of Try.func44 rfl Try.ntmps44 rfl hm (fun w => ?_)
  refine sxc_env (l' := [(0, .slice a2 x1.length c3), (1, .agg #[.int .i64 x4, .slice a6 x5.length c7]), (2, .int .i64 x8)]) rfl ?_
  refine sxc_seq ?_
  refine sxc_region ?_
  refine sxo_box rfl rfl rfl (fun g9 => ?_)
  refine sxo_assign rfl rfl rfl ?_
  refine sxo_assign rfl rfl rfl ?_
  refine sxo_assign rfl rfl rfl ?_
  refine sxo_nil ?_
  refine sxq_next ?_
  refine sxc_seq ?_
  refine sxc_region ?_
  refine sxo_move rfl rfl rfl ?_
  refine sxo_call ent40 rfl rfl rfl (fun x10 e10 => C_R_KraftCodes F x1 a2 c3 x10 e10) (.consF 0 rfl .nil) (fun x10 e10 => ?_)
  rintro ⟨a11, c12⟩
  refine sxo_move rfl rfl rfl ?_
  refine sxo_extract rfl rfl rfl rfl ?_
  refine sxo_extract rfl rfl rfl rfl ?_
  refine sxo_assign rfl rfl rfl ?_
  refine sxo_assign rfl rfl rfl ?_
  refine sxo_nil ?_
  refine sxq_next ?_
  refine sxc_join (fun ((x15, _) : (Int × Unit)) => [(2, .int .i64 x8), (4, .pointer (some ⟨g9, 0, none⟩)), (9, .slice a11 x10.1.length c12.1), (10, .int .i64 x15)]) (fun ((x15, _) : (Int × Unit)) => [⟨g9, 25, [.int .i64 x4, .slice a6 x5.length c7]⟩]) (fun ((x15, _) : (Int × Unit)) => [RoN eN25 rN25 25 2 (.slice a11 x10.1.length c12.1) x10.1 c12.2 []]) (fun ((x15, _) : (Int × Unit)) => [Sl (eI .u8) 1 (.slice a6 x5.length c7) x5]) (fun ((x15, _) : (Int × Unit)) => M_R_KraftSign_j1 F x4 x5 x8 x10 x15) ?_ ?_
  · refine sxc_seq ?_
    refine sxc_region ?_
    refine sxo_move rfl rfl rfl ?_
    refine sxo_eql rfl rfl rfl rfl ?_
    refine sxo_nil ?_
    refine sxq_next ?_
    refine sxc_if rfl (fun h378 => ?_) (fun h378 => ?_)
    · refine sxc_region ?_
      refine sxo_loadB (i := 0) rfl rfl tf25 rfl rfl (by simp) rfl rfl ?_
      refine sxo_move rfl rfl rfl ?_
      refine sxo_call ent67 rfl rfl rfl (fun x377 e377 => C_R_ReadErr F x4 x5 a6 c7 x8 x377 e377) (.consF 1 rfl .nil) (fun x377 e377 => ?_)
      intro _
      refine sxo_assign rfl rfl rfl ?_
      refine sxo_nil ?_
      exact sxq_meetP (x377, ()) (hB := (.cons 0 rfl .nil)) (hR := (.cons 0 rfl .nil)) (hF := (fk_cons 1 rfl fk_nil))
    · refine sxc_skip ?_
      exact sxq_meetP (x10.2, ()) (hB := (.cons 0 rfl .nil)) (hR := (.cons 0 rfl .nil)) (hF := (fk_cons 1 rfl fk_nil))
  · rintro ⟨x15, _⟩
    try dsimp only
    refine sxc_seq ?_
    refine sxc_seq ?_
    refine sxc_region ?_
    refine sxo_move rfl rfl rfl ?_
    refine sxo_neq rfl rfl rfl rfl ?_
    refine sxo_nil ?_
    refine sxq_next ?_
    refine sxc_if rfl (fun h376 => ?_) (fun h376 => ?_)
    · refine sxc_seq ?_
      refine sxc_region ?_
      refine sxo_move rfl rfl rfl ?_
      refine sxo_assign rfl rfl rfl ?_
      refine sxo_assign rfl rfl rfl ?_
      refine sxo_assign rfl rfl rfl ?_
      refine sxo_nil ?_
      refine sxq_next ?_
      refine sxc_ret ?_
      refine sxq_thenR ?_
      exact sxq_doneP () (res3 rfl rfl rfl rfl)
    · refine sxc_skip ?_
      refine sxq_next ?_
      refine sxc_seq ?_
      refine sxc_region ?_
      refine sxo_loadB (i := 0) rfl rfl tf25 rfl rfl (by simp) rfl rfl ?_
      refine sxo_call ent41 rfl rfl rfl (fun x17 e17 => C_R_BitList F x4 x5 a6 c7 x17 e17) (.consF 0 rfl .nil) (fun x17 e17 => ?_)
      rintro ⟨a18, c19⟩
      refine sxo_move rfl rfl rfl ?_
      refine sxo_freeze 0 rfl ?_
      refine sxo_cut (j := 0) (eI_ok .i64) rfl Try.underlying22 tf3 rfl rfl rfl rfl rfl (fun x20 e20 a21 c22 => ?_)
      refine sxo_assign rfl rfl rfl ?_
      refine sxo_nil ?_
      refine sxq_next ?_
      refine sxc_seq ?_
      refine sxc_region ?_
      refine sxo_assign rfl rfl rfl ?_
      refine sxo_nil ?_
      refine sxq_next ?_
      refine sxc_join (fun ((x198, _) : (Bool × Unit)) => [(12, .bool x198)]) (fun ((x198, _) : (Bool × Unit)) => []) (fun ((x198, _) : (Bool × Unit)) => []) (fun ((x198, _) : (Bool × Unit)) => []) (fun ((x198, _) : (Bool × Unit)) => M_R_KraftSign_j29 F x198) ?_ ?_
      · refine sxc_seq ?_
        refine sxc_region ?_
        refine sxo_assign rfl rfl rfl ?_
        refine sxo_nil ?_
        refine sxq_next ?_
        refine sxc_block ?_
        refine sxc_loopP (fun (((x249, x250), _) : ((Bool × Int) × Unit)) => [(2, .int .i64 x8), (9, .slice a11 x10.1.length c12.1), (11, .slice a21 x20.length c22), (12, .bool x249), (13, .int .i64 x250)]) (fun (((x249, x250), _) : ((Bool × Int) × Unit)) => []) (fun (((x249, x250), _) : ((Bool × Int) × Unit)) => [RoN eN25 rN25 25 2 (.slice a11 x10.1.length c12.1) x10.1 c12.2 []]) (fun (((x249, x250), _) : ((Bool × Int) × Unit)) => [Sl (eI .i64) 1 (.slice a21 x20.length c22) x20]) (fun k (s : ((Bool × Int) × Unit)) => M_R_KraftSign_l46 F x8 x10 x20 k s.1) ((false, 0), ()) F ?_ (hR := (.cons 0 rfl .nil)) (hF := (fk_cons 0 rfl fk_nil))
        intro k313
        rintro ⟨⟨x249, x250⟩, _⟩
        try dsimp only
        refine sxc_meq (m' := M_R_KraftSign_b46 F x8 x10 x20 (M_R_KraftSign_l46 F x8 x10 x20 k313) x249 x250) rfl ?_
        refine sxc_seq ?_
        refine sxc_seq ?_
        refine sxc_region ?_
        refine sxo_move rfl rfl rfl ?_
        refine sxo_move rfl rfl rfl ?_
        refine sxo_len rfl Try.underlying55 rfl rfl ?_
        refine sxo_lss rfl rfl rfl rfl ?_
        refine sxo_nil ?_
        refine sxq_next ?_
        refine sxc_if rfl (fun h375 => ?_) (fun h375 => ?_)
        · refine sxc_skip ?_
          refine sxq_next ?_
          refine sxc_seq ?_
          refine sxc_block ?_
          refine sxc_seq ?_
          refine sxc_region ?_
          refine sxo_move rfl rfl rfl ?_
          refine sxo_move rfl rfl rfl ?_
          refine sxo_idxP (j := 0) rfl Try.underlying55 tf25 rfl rfl rfl rfl (fun x345 e345 g346 h347 g348 h349 => ?_)
          refine sxo_openN (i := 0) rfl h347 (List.not_mem_nil) ?_
          refine sxo_loadN0 (j := 1) (p := (x345, g346)) eN25_ok rfl rfl tf25 rfl h349 h347 rfl (by simp) rfl rfl ?_
          refine sxo_call ent41 rfl rfl rfl (fun x350 e350 => C_R_BitList F x345.1 x345.2 g346.1 g346.2 x350 e350) (.consR 0 (Ro (eI .u8) 5 1 (.slice g346.1 x345.2.length g346.2) x345.2) rfl .nil) (fun x350 e350 => ?_)
          rintro ⟨a351, c352⟩
          refine sxo_assign rfl rfl rfl ?_
          refine sxo_nil ?_
          refine sxq_next ?_
          refine sxc_seq ?_
          refine sxc_seq ?_
          refine sxc_closeN (rin := rN25) (p := (x345, g346)) (i := 1) (k := 0) (.cons 1 rfl .nil) rfl rfl h347 ?_
          refine sxc_region ?_
          refine sxo_move rfl rfl rfl ?_
          refine sxo_len rfl Try.underlying22 rfl rfl ?_
          refine sxo_gtr rfl rfl rfl rfl ?_
          refine sxo_move rfl rfl rfl ?_
          refine sxo_join 4 (fun ((x360, _) : (Bool × Unit)) => [(2, .int .i64 x8), (9, .slice a11 x10.1.length c12.1), (11, .slice a21 x20.length c22), (12, .bool x249), (13, .int .i64 x250), (14, .slice a351 x350.length c352), (50, .bool x360)]) (fun ((x360, _) : (Bool × Unit)) => []) (fun ((x360, _) : (Bool × Unit)) => [RoN eN25 rN25 25 2 (.slice a11 x10.1.length c12.1) x10.1 c12.2 [], Ro (eI .i64) 3 1 (.slice a351 x350.length c352) x350]) (fun ((x360, _) : (Bool × Unit)) => [Sl (eI .i64) 1 (.slice a21 x20.length c22) x20]) (fun ((x360, _) : (Bool × Unit)) => M_R_KraftSign_j53 F (M_R_KraftSign_l46 F x8 x10 x20 k313) x8 x20 x249 x250 x350 x360) ?_ ?_
          · refine sxo_take (os := _) rfl ?_
            refine sxo_if (fun h358 => ?_) (fun h358 => ?_)
            · refine sxo_isT (k := 46) rfl h358 ?_
              refine sxo_move rfl rfl rfl ?_
              refine sxo_move rfl rfl rfl ?_
              refine sxo_call ent68 rfl rfl rfl (fun x374 e374 => C_R_Starts F x20 a21 c22 x350 a351 c352 x374 e374) (.consF 0 rfl (.consR 1 (Ro (eI .i64) 3 1 (.slice a351 x350.length c352) x350) rfl .nil)) (fun x374 e374 => ?_)
              intro _
              refine sxo_pick (b := true) rfl rfl rfl rfl ?_
              refine sxo_nil ?_
              exact sxq_meetP (x374, ()) (hR := (.cons 0 rfl (.cons 0 rfl .nil))) (hF := (fk_cons 0 rfl fk_nil))
            · refine sxo_isF (k := 46) rfl h358 ?_
              refine sxo_skip rfl rfl rfl ?_
              refine sxo_skip rfl rfl rfl ?_
              refine sxo_skip rfl rfl rfl ?_
              refine sxo_pick (b := false) rfl rfl rfl rfl ?_
              refine sxo_nil ?_
              exact sxq_meetP (false, ()) (hR := (.cons 0 rfl (.cons 0 rfl .nil))) (hF := (fk_cons 0 rfl fk_nil))
          · rintro ⟨x360, _⟩
            try dsimp only
            refine sxo_take (os := _) rfl ?_
            refine sxo_nil ?_
            refine sxq_next ?_
            refine sxc_if rfl (fun h373 => ?_) (fun h373 => ?_)
            · refine sxc_seq ?_
              refine sxc_region ?_
              refine sxo_move rfl rfl rfl ?_
              refine sxo_move rfl rfl rfl ?_
              refine sxo_move rfl rfl rfl ?_
              refine sxo_len rfl Try.underlying22 rfl rfl ?_
              refine sxo_add rfl rfl rfl rfl ?_
              refine sxo_assign rfl rfl rfl ?_
              refine sxo_assign rfl rfl rfl ?_
              refine sxo_assign rfl rfl rfl ?_
              refine sxo_nil ?_
              refine sxq_next ?_
              refine sxc_ret ?_
              refine sxq_thenR ?_
              refine sxq_blkR ?_
              refine sxq_thenR ?_
              refine sxq_thenR ?_
              refine sxq_blkR ?_
              refine sxq_thenR ?_
              exact sxq_doneP () (res3 rfl rfl rfl rfl)
            · refine sxc_skip ?_
              refine sxq_next ?_
              refine sxc_region ?_
              refine sxo_move rfl rfl rfl ?_
              refine sxo_move rfl rfl rfl ?_
              refine sxo_join 11 (fun ((x367, _) : (Bool × Unit)) => [(2, .int .i64 x8), (9, .slice a11 x10.1.length c12.1), (11, .slice a21 x20.length c22), (13, .int .i64 x250), (68, .bool x367)]) (fun ((x367, _) : (Bool × Unit)) => []) (fun ((x367, _) : (Bool × Unit)) => [RoN eN25 rN25 25 2 (.slice a11 x10.1.length c12.1) x10.1 c12.2 []]) (fun ((x367, _) : (Bool × Unit)) => [Sl (eI .i64) 1 (.slice a21 x20.length c22) x20]) (fun ((x367, _) : (Bool × Unit)) => M_R_KraftSign_j55 F (M_R_KraftSign_l46 F x8 x10 x20 k313) x250 x367) ?_ ?_
              · refine sxo_take (os := _) rfl ?_
                refine sxo_if (fun h361 => ?_) (fun h361 => ?_)
                · refine sxo_isT (k := 57) rfl h361 ?_
                  refine sxo_skip rfl rfl rfl ?_
                  refine sxo_skip rfl rfl rfl ?_
                  refine sxo_skip rfl rfl rfl ?_
                  refine sxo_skip rfl rfl rfl ?_
                  refine sxo_skip rfl rfl rfl ?_
                  refine sxo_skip rfl rfl rfl ?_
                  refine sxo_skip rfl rfl rfl ?_
                  refine sxo_skip rfl rfl rfl ?_
                  refine sxo_skip rfl rfl rfl ?_
                  refine sxo_skip rfl rfl rfl ?_
                  refine sxo_pick (b := true) rfl rfl rfl rfl ?_
                  refine sxo_nil ?_
                  exact sxq_meetP (true, ()) (hR := (.cons 0 rfl .nil)) (hF := (fk_cons 0 rfl fk_nil))
                · refine sxo_isF (k := 57) rfl h361 ?_
                  refine sxo_move rfl rfl rfl ?_
                  refine sxo_len rfl Try.underlying22 rfl rfl ?_
                  refine sxo_move rfl rfl rfl ?_
                  refine sxo_len rfl Try.underlying22 rfl rfl ?_
                  refine sxo_gtr rfl rfl rfl rfl ?_
                  refine sxo_move rfl rfl rfl ?_
                  refine sxo_join 4 (fun (((x370, x371), _) : ((Bool × Bool) × Unit)) => [(2, .int .i64 x8), (9, .slice a11 x10.1.length c12.1), (11, .slice a21 x20.length c22), (13, .int .i64 x250), (57, .bool false), (58, .slice a351 x350.length c352), (59, .int .i64 (x350.length : Int)), (60, .slice a21 x20.length c22), (61, .int .i64 (x20.length : Int)), (62, .bool (decide ((x20.length : Int) < (x350.length : Int)))), (63, .bool x370), (67, .bool x371)]) (fun (((x370, x371), _) : ((Bool × Bool) × Unit)) => []) (fun (((x370, x371), _) : ((Bool × Bool) × Unit)) => [RoN eN25 rN25 25 2 (.slice a11 x10.1.length c12.1) x10.1 c12.2 [], Ro (eI .i64) 3 1 (.slice a351 x350.length c352) x350]) (fun (((x370, x371), _) : ((Bool × Bool) × Unit)) => [Sl (eI .i64) 1 (.slice a21 x20.length c22) x20]) (fun (((x370, x371), _) : ((Bool × Bool) × Unit)) => M_R_KraftSign_j56 F (M_R_KraftSign_l46 F x8 x10 x20 k313) x250 x370 x371) ?_ ?_
                  · refine sxo_take (os := _) rfl ?_
                    refine sxo_if (fun h368 => ?_) (fun h368 => ?_)
                    · refine sxo_isT (k := 63) rfl h368 ?_
                      refine sxo_move rfl rfl rfl ?_
                      refine sxo_move rfl rfl rfl ?_
                      refine sxo_call ent68 rfl rfl rfl (fun x372 e372 => C_R_Starts F x350 a351 c352 x20 a21 c22 x372 e372) (.consR 1 (Ro (eI .i64) 3 1 (.slice a351 x350.length c352) x350) rfl (.consF 0 rfl .nil)) (fun x372 e372 => ?_)
                      intro _
                      refine sxo_pick (b := true) rfl rfl rfl rfl ?_
                      refine sxo_nil ?_
                      exact sxq_meetP ((true, x372), ()) (hR := (.cons 0 rfl (.cons 0 rfl .nil))) (hF := (fk_cons 0 rfl fk_nil))
                    · refine sxo_isF (k := 63) rfl h368 ?_
                      refine sxo_skip rfl rfl rfl ?_
                      refine sxo_skip rfl rfl rfl ?_
                      refine sxo_skip rfl rfl rfl ?_
                      refine sxo_pick (b := false) rfl rfl rfl rfl ?_
                      refine sxo_nil ?_
                      exact sxq_meetP ((false, false), ()) (hR := (.cons 0 rfl (.cons 0 rfl .nil))) (hF := (fk_cons 0 rfl fk_nil))
                  · rintro ⟨⟨x370, x371⟩, _⟩
                    try dsimp only
                    refine sxo_take (os := _) rfl ?_
                    refine sxo_pick (b := false) rfl rfl rfl rfl ?_
                    refine sxo_nil ?_
                    exact sxq_meetP (x371, ()) (hR := (.cons 0 rfl .nil)) (hF := (fk_cons 0 rfl fk_nil))
              · rintro ⟨x367, _⟩
                try dsimp only
                refine sxo_take (os := _) rfl ?_
                refine sxo_assign rfl rfl rfl ?_
                refine sxo_nil ?_
                refine sxq_blkN ?_
                refine sxq_next ?_
                refine sxc_region ?_
                refine sxo_move rfl rfl rfl ?_
                refine sxo_add rfl rfl rfl rfl ?_
                refine sxo_assign rfl rfl rfl ?_
                refine sxo_nil ?_
                exact sxq_againP ((x367, iadd .i64 x250 1), ()) (hR := (.cons 0 rfl .nil)) (hF := (fk_cons 0 rfl fk_nil))
        · refine sxc_exit ?_
          refine sxq_thenX ?_
          refine sxq_thenX ?_
          refine sxq_blkX ?_
          exact sxq_meetP (x249, ())
      · rintro ⟨x198, _⟩
        try dsimp only
        refine sxc_seq ?_
        refine sxc_seq ?_
        refine sxc_region ?_
        refine sxo_move rfl rfl rfl ?_
        refine sxo_nil ?_
        refine sxq_next ?_
        refine sxc_if rfl (fun h200 => ?_) (fun h200 => ?_)
        · refine sxc_seq ?_
          refine sxc_region ?_
          refine sxo_assign rfl rfl rfl ?_
          refine sxo_assign rfl rfl rfl ?_
          refine sxo_assign rfl rfl rfl ?_
          refine sxo_nil ?_
          refine sxq_next ?_
          refine sxc_ret ?_
          refine sxq_thenR ?_
          exact sxq_doneP () (res3 rfl rfl rfl rfl)
        · refine sxc_skip ?_
          refine sxq_next ?_
          refine sxc_seq ?_
          refine sxc_region ?_
          refine sxo_assign rfl rfl rfl ?_
          refine sxo_assign rfl rfl rfl ?_
          refine sxo_assign rfl rfl rfl ?_
          refine sxo_nil ?_
          refine sxq_next ?_
          refine sxc_ret ?_
          exact sxq_doneP () (res3 rfl rfl rfl rfl)

set_option maxHeartbeats 4000000 in
theorem C_R_HuffUnpack (F : Nat) (x1 : List Int) (a2 : Option Addr) (c3 : Nat) (x4 : Int) (x5 : List Int) (a6 : Option Addr) (c7 : Nat) (x8 : Int) (r : (List Int × Int)) (hm : M_R_HuffUnpack F x1 x4 x5 x8 = some r) :
    Pure Try.prog 18 [.slice a2 x1.length c3, .agg #[.int .i64 x4, .slice a6 x5.length c7], .int .i64 x8] [Sl (eI .i64) 1 (.slice a2 x1.length c3) x1, Sl (eI .u8) 1 (.slice a6 x5.length c7) x5] (Option Addr × Nat) (fun g => .tuple #[.slice g.1 r.1.length g.2, .int .i64 r.2]) (fun g => [Ro (eI .i64) 3 1 (.slice g.1 r.1.length g.2) r.1]) (fun _ => []) := by
  refine pure_of Try.func18 rfl Try.ntmps18 rfl hm (fun w => ?_)
  refine sxc_env (l' := [(0, .slice a2 x1.length c3), (1, .agg #[.int .i64 x4, .slice a6 x5.length c7]), (2, .int .i64 x8)]) rfl ?_
  refine sxc_seq ?_
  refine sxc_region ?_
  refine sxo_box rfl rfl rfl (fun g9 => ?_)
  refine sxo_assign rfl rfl rfl ?_
  refine sxo_assign rfl rfl rfl ?_
  refine sxo_nil ?_
  refine sxq_next ?_
  refine sxc_seq ?_
  refine sxc_region ?_
  refine sxo_move rfl rfl rfl ?_
  refine sxo_call ent40 rfl rfl rfl (fun x10 e10 => C_R_KraftCodes F x1 a2 c3 x10 e10) (.consF 0 rfl .nil) (fun x10 e10 => ?_)
  rintro ⟨a11, c12⟩
  refine sxo_move rfl rfl rfl ?_
  refine sxo_extract rfl rfl rfl rfl ?_
  refine sxo_extract rfl rfl rfl rfl ?_
  refine sxo_assign rfl rfl rfl ?_
  refine sxo_assign rfl rfl rfl ?_
  refine sxo_nil ?_
  refine sxq_next ?_
  refine sxc_join (fun ((x15, _) : (Int × Unit)) => [(0, .slice a2 x1.length c3), (2, .int .i64 x8), (4, .pointer (some ⟨g9, 0, none⟩)), (9, .int .i64 x15)]) (fun ((x15, _) : (Int × Unit)) => [⟨g9, 25, [.int .i64 x4, .slice a6 x5.length c7]⟩]) (fun ((x15, _) : (Int × Unit)) => []) (fun ((x15, _) : (Int × Unit)) => [Sl (eI .i64) 1 (.slice a2 x1.length c3) x1, Sl (eI .u8) 1 (.slice a6 x5.length c7) x5]) (fun ((x15, _) : (Int × Unit)) => M_R_HuffUnpack_j1 F x1 x4 x5 x8 x15) ?_ ?_
  · refine sxc_seq ?_
    refine sxc_region ?_
    refine sxo_move rfl rfl rfl ?_
    refine sxo_eql rfl rfl rfl rfl ?_
    refine sxo_nil ?_
    refine sxq_next ?_
    refine sxc_if rfl (fun h106 => ?_) (fun h106 => ?_)
    · refine sxc_region ?_
      refine sxo_loadB (i := 0) rfl rfl tf25 rfl rfl (by simp) rfl rfl ?_
      refine sxo_call ent43 rfl rfl rfl (fun x105 e105 => C_R_BitsCheck F x4 x5 a6 c7 x105 e105) (.consF 1 rfl .nil) (fun x105 e105 => ?_)
      intro _
      refine sxo_assign rfl rfl rfl ?_
      refine sxo_nil ?_
      exact sxq_meetP (x105, ()) (hB := (.cons 0 rfl .nil)) (hF := (fk_cons 0 rfl (fk_cons 1 rfl fk_nil)))
    · refine sxc_skip ?_
      exact sxq_meetP (x10.2, ()) (hB := (.cons 0 rfl .nil)) (hF := (fk_cons 0 rfl (fk_cons 1 rfl fk_nil)))
  · rintro ⟨x15, _⟩
    try dsimp only
    refine sxc_join (fun ((x21, _) : (Int × Unit)) => [(0, .slice a2 x1.length c3), (2, .int .i64 x8), (4, .pointer (some ⟨g9, 0, none⟩)), (9, .int .i64 x21)]) (fun ((x21, _) : (Int × Unit)) => [⟨g9, 25, [.int .i64 x4, .slice a6 x5.length c7]⟩]) (fun ((x21, _) : (Int × Unit)) => []) (fun ((x21, _) : (Int × Unit)) => [Sl (eI .i64) 1 (.slice a2 x1.length c3) x1, Sl (eI .u8) 1 (.slice a6 x5.length c7) x5]) (fun ((x21, _) : (Int × Unit)) => M_R_HuffUnpack_j3 F x1 x4 x5 x8 x21) ?_ ?_
    · refine sxc_seq ?_
      refine sxc_region ?_
      refine sxo_move rfl rfl rfl ?_
      refine sxo_eql rfl rfl rfl rfl ?_
      refine sxo_move rfl rfl rfl ?_
      refine sxo_join 4 (fun ((x102, _) : (Bool × Unit)) => [(0, .slice a2 x1.length c3), (2, .int .i64 x8), (4, .pointer (some ⟨g9, 0, none⟩)), (9, .int .i64 x15), (30, .bool x102)]) (fun ((x102, _) : (Bool × Unit)) => [⟨g9, 25, [.int .i64 x4, .slice a6 x5.length c7]⟩]) (fun ((x102, _) : (Bool × Unit)) => []) (fun ((x102, _) : (Bool × Unit)) => [Sl (eI .i64) 1 (.slice a2 x1.length c3) x1, Sl (eI .u8) 1 (.slice a6 x5.length c7) x5]) (fun ((x102, _) : (Bool × Unit)) => M_R_HuffUnpack_j7 F x1 x4 x5 x8 x15 x102) ?_ ?_
      · refine sxo_take (os := _) rfl ?_
        refine sxo_if (fun h100 => ?_) (fun h100 => ?_)
        · refine sxo_isT (k := 26) rfl h100 ?_
          refine sxo_move rfl rfl rfl ?_
          refine sxo_call ent39 rfl rfl rfl (fun x104 e104 => C_R_between F x8 0 1000 x104 e104) .nil (fun x104 e104 => ?_)
          intro _
          refine sxo_not rfl rfl rfl ?_
          refine sxo_pick (b := true) rfl rfl rfl rfl ?_
          refine sxo_nil ?_
          exact sxq_meetP ((!x104), ()) (hB := (.cons 0 rfl .nil)) (hF := (fk_cons 0 rfl (fk_cons 1 rfl fk_nil)))
        · refine sxo_isF (k := 26) rfl h100 ?_
          refine sxo_skip rfl rfl rfl ?_
          refine sxo_skip rfl rfl rfl ?_
          refine sxo_skip rfl rfl rfl ?_
          refine sxo_pick (b := false) rfl rfl rfl rfl ?_
          refine sxo_nil ?_
          exact sxq_meetP (false, ()) (hB := (.cons 0 rfl .nil)) (hF := (fk_cons 0 rfl (fk_cons 1 rfl fk_nil)))
      · rintro ⟨x102, _⟩
        try dsimp only
        refine sxo_take (os := _) rfl ?_
        refine sxo_nil ?_
        refine sxq_next ?_
        refine sxc_if rfl (fun h103 => ?_) (fun h103 => ?_)
        · refine sxc_region ?_
          refine sxo_assign rfl rfl rfl ?_
          refine sxo_nil ?_
          exact sxq_meetP (3, ()) (hB := (.cons 0 rfl .nil)) (hF := (fk_cons 0 rfl (fk_cons 1 rfl fk_nil)))
        · refine sxc_skip ?_
          exact sxq_meetP (x15, ()) (hB := (.cons 0 rfl .nil)) (hF := (fk_cons 0 rfl (fk_cons 1 rfl fk_nil)))
    · rintro ⟨x21, _⟩
      try dsimp only
      refine sxc_seq ?_
      refine sxc_seq ?_
      refine sxc_region ?_
      refine sxo_move rfl rfl rfl ?_
      refine sxo_neq rfl rfl rfl rfl ?_
      refine sxo_nil ?_
      refine sxq_next ?_
      refine sxc_if rfl (fun h99 => ?_) (fun h99 => ?_)
      · refine sxc_seq ?_
        refine sxc_region ?_
        refine sxo_move rfl rfl rfl ?_
        refine sxo_assign rfl rfl rfl ?_
        refine sxo_assign rfl rfl rfl ?_
        refine sxo_nil ?_
        refine sxq_next ?_
        refine sxc_ret ?_
        refine sxq_thenR ?_
        refine sxq_nilrow Int (eI .i64) 3 1 ?_
        exact sxq_doneP (none, 0) (res2 rfl rfl rfl) (fun h => by subst h; exact (.cons 0 rfl .nil))
      · refine sxc_skip ?_
        refine sxq_next ?_
        refine sxc_seq ?_
        refine sxc_region ?_
        refine sxo_assign rfl rfl rfl ?_
        refine sxo_nil ?_
        refine sxq_next ?_
        refine sxc_seq ?_
        refine sxc_region ?_
        refine sxo_assign rfl rfl rfl ?_
        refine sxo_nil ?_
        refine sxq_next ?_
        refine sxc_join (fun (((x60, x61), (a58, c59)) : ((List Int × Int) × (Option Addr × Nat))) => [(4, .pointer (some ⟨g9, 0, none⟩)), (10, .slice a58 x60.length c59), (11, .int .i64 x61)]) (fun (((x60, x61), (a58, c59)) : ((List Int × Int) × (Option Addr × Nat))) => [⟨g9, 25, [.int .i64 x4, .slice a6 x5.length c7]⟩]) (fun (((x60, x61), (a58, c59)) : ((List Int × Int) × (Option Addr × Nat))) => [Ro (eI .i64) 3 1 (.slice a58 x60.length c59) x60]) (fun (((x60, x61), (a58, c59)) : ((List Int × Int) × (Option Addr × Nat))) => [Sl (eI .u8) 1 (.slice a6 x5.length c7) x5]) (fun (((x60, x61), _) : ((List Int × Int) × (Option Addr × Nat))) => M_R_HuffUnpack_j5 F x4 x60 x61) ?_ ?_
        · refine sxc_block ?_
          refine sxc_nilrow Int (eI .i64) 3 1 ?_
          refine sxc_loopP (fun (((x76, x77), (a74, c75)) : ((List Int × Int) × (Option Addr × Nat))) => [(0, .slice a2 x1.length c3), (2, .int .i64 x8), (4, .pointer (some ⟨g9, 0, none⟩)), (10, .slice a74 x76.length c75), (11, .int .i64 x77)]) (fun (((x76, x77), (a74, c75)) : ((List Int × Int) × (Option Addr × Nat))) => [⟨g9, 25, [.int .i64 x4, .slice a6 x5.length c7]⟩]) (fun (((x76, x77), (a74, c75)) : ((List Int × Int) × (Option Addr × Nat))) => [Ro (eI .i64) 3 1 (.slice a74 x76.length c75) x76]) (fun (((x76, x77), (a74, c75)) : ((List Int × Int) × (Option Addr × Nat))) => [Sl (eI .i64) 1 (.slice a2 x1.length c3) x1, Sl (eI .u8) 1 (.slice a6 x5.length c7) x5]) (fun k (s : ((List Int × Int) × (Option Addr × Nat))) => M_R_HuffUnpack_l6 F x1 x4 x5 x8 k s.1) ((([] : List Int), 0), (none, 0)) F ?_ (hB := (.cons 0 rfl .nil)) (hR := (.cons 0 rfl .nil)) (hF := (fk_cons 0 rfl (fk_cons 1 rfl fk_nil)))
          intro k88
          rintro ⟨⟨x76, x77⟩, ⟨a74, c75⟩⟩
          try dsimp only
          refine sxc_meq (m' := M_R_HuffUnpack_b6 F x1 x4 x5 x8 (M_R_HuffUnpack_l6 F x1 x4 x5 x8 k88) x76 x77) rfl ?_
          refine sxc_seq ?_
          refine sxc_seq ?_
          refine sxc_region ?_
          refine sxo_move rfl rfl rfl ?_
          refine sxo_len rfl Try.underlying22 rfl rfl ?_
          refine sxo_move rfl rfl rfl ?_
          refine sxo_lss rfl rfl rfl rfl ?_
          refine sxo_nil ?_
          refine sxq_next ?_
          refine sxc_if rfl (fun h98 => ?_) (fun h98 => ?_)
          · refine sxc_skip ?_
            refine sxq_next ?_
            refine sxc_block ?_
            refine sxc_seq ?_
            refine sxc_region ?_
            refine sxo_move rfl rfl rfl ?_
            refine sxo_loadB (i := 0) rfl rfl tf25 rfl rfl (by simp) rfl rfl ?_
            refine sxo_move rfl rfl rfl ?_
            refine sxo_call ent44 rfl rfl rfl (fun x90 e90 => C_R_KraftSign F x1 a2 c3 x4 x5 a6 c7 x77 x90 e90) (.consF 0 rfl (.consF 1 rfl .nil)) (fun x90 e90 => ?_)
            intro _
            refine sxo_move rfl rfl rfl ?_
            refine sxo_extract rfl rfl rfl rfl ?_
            refine sxo_extract rfl rfl rfl rfl ?_
            refine sxo_extract rfl rfl rfl rfl ?_
            refine sxo_assign rfl rfl rfl ?_
            refine sxo_assign rfl rfl rfl ?_
            refine sxo_assign rfl rfl rfl ?_
            refine sxo_nil ?_
            refine sxq_next ?_
            refine sxc_seq ?_
            refine sxc_seq ?_
            refine sxc_region ?_
            refine sxo_move rfl rfl rfl ?_
            refine sxo_neq rfl rfl rfl rfl ?_
            refine sxo_nil ?_
            refine sxq_next ?_
            refine sxc_if rfl (fun h97 => ?_) (fun h97 => ?_)
            · refine sxc_seq ?_
              refine sxc_region ?_
              refine sxo_move rfl rfl rfl ?_
              refine sxo_assign rfl rfl rfl ?_
              refine sxo_assign rfl rfl rfl ?_
              refine sxo_nil ?_
              refine sxq_next ?_
              refine sxc_ret ?_
              refine sxq_thenR ?_
              refine sxq_blkR ?_
              refine sxq_thenR ?_
              refine sxq_blkR ?_
              refine sxq_thenR ?_
              refine sxq_nilrow Int (eI .i64) 3 1 ?_
              exact sxq_doneP (none, 0) (res2 rfl rfl rfl) (fun h => by subst h; exact (.cons 0 rfl .nil))
            · refine sxc_skip ?_
              refine sxq_next ?_
              refine sxc_seq ?_
              refine sxc_region ?_
              refine sxo_move rfl rfl rfl ?_
              refine sxo_move rfl rfl rfl ?_
              refine sxo_slit (vs := [.int .i64 x90.1]) (ys := ([x90.1] : List Int)) (eI_ok .i64) (by decide) rfl Try.underlying22 tf3 rfl rfl rfl rfl rfl (by decide) (fun a92 c93 => ?_)
              refine sxo_app 1 (eI_ok .i64) rfl Try.underlying22 tf3 rfl rfl rfl rfl rfl (.inl ⟨0, _, rfl⟩) rfl rfl (fun x94 e94 a95 c96 => ?_)
              refine sxo_assign rfl rfl rfl ?_
              refine sxo_nil ?_
              refine sxq_next ?_
              refine sxc_region ?_
              refine sxo_move rfl rfl rfl ?_
              refine sxo_assign rfl rfl rfl ?_
              refine sxo_nil ?_
              refine sxq_blkN ?_
              exact sxq_againP ((x94, x90.2.1), (a95, c96)) (hB := (.cons 0 rfl .nil)) (hR := (.cons 0 rfl .nil)) (hF := (fk_cons 0 rfl (fk_cons 1 rfl fk_nil)))
          · refine sxc_exit ?_
            refine sxq_thenX ?_
            refine sxq_thenX ?_
            refine sxq_blkX ?_
            exact sxq_meetP ((x76, x77), (a74, c75)) (hB := (.cons 0 rfl .nil)) (hR := (.cons 0 rfl .nil)) (hF := (fk_cons 1 rfl fk_nil))
        · rintro ⟨⟨x60, x61⟩, ⟨a58, c59⟩⟩
          try dsimp only
          refine sxc_seq ?_
          refine sxc_seq ?_
          refine sxc_region ?_
          refine sxo_move rfl rfl rfl ?_
          refine sxo_fieldAddr rfl rfl ff25_0 rfl ?_
          refine sxo_loadB (i := 0) rfl rfl tf3 rfl rfl (fun _ => rfl) rfl rfl ?_
          refine sxo_lss rfl rfl rfl rfl ?_
          refine sxo_nil ?_
          refine sxq_next ?_
          refine sxc_if rfl (fun h63 => ?_) (fun h63 => ?_)
          · refine sxc_seq ?_
            refine sxc_region ?_
            refine sxo_assign rfl rfl rfl ?_
            refine sxo_assign rfl rfl rfl ?_
            refine sxo_nil ?_
            refine sxq_next ?_
            refine sxc_ret ?_
            refine sxq_thenR ?_
            refine sxq_nilrow Int (eI .i64) 3 1 ?_
            exact sxq_doneP (none, 0) (res2 rfl rfl rfl) (fun h => by subst h; exact (.cons 0 rfl .nil))
          · refine sxc_skip ?_
            refine sxq_next ?_
            refine sxc_seq ?_
            refine sxc_region ?_
            refine sxo_move rfl rfl rfl ?_
            refine sxo_assign rfl rfl rfl ?_
            refine sxo_assign rfl rfl rfl ?_
            refine sxo_nil ?_
            refine sxq_next ?_
            refine sxc_ret ?_
            exact sxq_doneP (a58, c59) (res2 rfl rfl rfl) (fun h => by subst h; exact (.cons 0 rfl .nil))

set_option maxHeartbeats 4000000 in
theorem C_L_huffBegun (F : Nat)  (r : Bool) (hm : M_L_huffBegun F  = some r) :
    Pure Try.prog 19 [] [] Unit (fun _ => .bool r) (fun _ => []) (fun _ => []) := by
  refine pure_of Try.func19 rfl Try.ntmps19 rfl hm (fun w => ?_)
  refine sxc_env (l' := []) rfl ?_
  refine sxc_seq ?_
  refine sxc_region ?_
  refine sxo_assign rfl rfl rfl ?_
  refine sxo_nil ?_
  refine sxq_next ?_
  refine sxc_seq ?_
  refine sxc_region ?_
  refine sxo_slit (vs := [.int .i64 5, .int .i64 0, .int .i64 1, .int .i64 2, .int .i64 1]) (ys := ([5, 0, 1, 2, 1] : List Int)) (eI_ok .i64) (by decide) rfl Try.underlying22 tf3 rfl rfl rfl rfl rfl (by decide) (fun a1 c2 => ?_)
  refine sxo_call ent11 rfl rfl rfl (fun x3 e3 => C_huff_Lengths F ([5, 0, 1, 2, 1] : List Int) a1 c2 x3 e3) (.consR 0 (Ro (eI .i64) 3 1 (.slice a1 ([5, 0, 1, 2, 1] : List Int).length c2) ([5, 0, 1, 2, 1] : List Int)) rfl .nil) (fun x3 e3 => ?_)
  rintro ⟨a4, c5⟩
  refine sxo_move rfl rfl rfl ?_
  refine sxo_extract rfl rfl rfl rfl ?_
  refine sxo_extract rfl rfl rfl rfl ?_
  refine sxo_assign rfl rfl rfl ?_
  refine sxo_assign rfl rfl rfl ?_
  refine sxo_nil ?_
  refine sxq_next ?_
  refine sxc_seq ?_
  refine sxc_region ?_
  refine sxo_slit (vs := [.int .i64 5, .int .i64 0, .int .i64 1, .int .i64 2, .int .i64 1]) (ys := ([5, 0, 1, 2, 1] : List Int)) (eI_ok .i64) (by decide) rfl Try.underlying22 tf3 rfl rfl rfl rfl rfl (by decide) (fun a6 c7 => ?_)
  refine sxo_move rfl rfl rfl ?_
  refine sxo_call ent12 rfl rfl rfl (fun x8 e8 => C_huff_Cost F ([5, 0, 1, 2, 1] : List Int) a6 c7 x3.1 a4 c5 x8 e8) (.consR 0 (Ro (eI .i64) 3 1 (.slice a6 ([5, 0, 1, 2, 1] : List Int).length c7) ([5, 0, 1, 2, 1] : List Int)) rfl (.consR 1 (Ro (eI .i64) 3 1 (.slice a4 x3.1.length c5) x3.1) rfl .nil)) (fun x8 e8 => ?_)
  intro _
  refine sxo_move rfl rfl rfl ?_
  refine sxo_extract rfl rfl rfl rfl ?_
  refine sxo_extract rfl rfl rfl rfl ?_
  refine sxo_assign rfl rfl rfl ?_
  refine sxo_assign rfl rfl rfl ?_
  refine sxo_nil ?_
  refine sxq_next ?_
  refine sxc_seq ?_
  refine sxc_region ?_
  refine sxo_slit (vs := [.int .i64 0, .int .i64 2, .int .i64 0]) (ys := ([0, 2, 0] : List Int)) (eI_ok .i64) (by decide) rfl Try.underlying22 tf3 rfl rfl rfl rfl rfl (by decide) (fun a9 c10 => ?_)
  refine sxo_call ent13 rfl rfl rfl (fun x11 e11 => C_huff_Pack F ([0, 2, 0] : List Int) a9 c10 3 x11 e11) (.consR 0 (Ro (eI .i64) 3 1 (.slice a9 ([0, 2, 0] : List Int).length c10) ([0, 2, 0] : List Int)) rfl .nil) (fun x11 e11 => ?_)
  rintro ⟨⟨a12, c13⟩, ⟨a14, c15⟩⟩
  refine sxo_move rfl rfl rfl ?_
  refine sxo_extract rfl rfl rfl rfl ?_
  refine sxo_extract rfl rfl rfl rfl ?_
  refine sxo_extract rfl rfl rfl rfl ?_
  refine sxo_alloc rfl tf25 rfl (fun g16 => ?_)
  refine sxo_assign rfl rfl rfl ?_
  refine sxo_storeB (i := 0) rfl rfl rfl tf25 rfl rfl rfl rfl rfl ?_
  refine sxo_assign rfl rfl rfl ?_
  refine sxo_nil ?_
  refine sxq_next ?_
  refine sxc_seq ?_
  refine sxc_region ?_
  refine sxo_move rfl rfl rfl ?_
  refine sxo_loadB (i := 0) rfl rfl tf25 rfl rfl (by simp) rfl rfl ?_
  refine sxo_call ent14 rfl rfl rfl (fun x17 e17 => C_huff_Unpack F x11.1 a12 c13 x11.2.1 x11.2.2.1 a14 c15 3 x17 e17) (.consR 0 (Ro (eI .i64) 3 1 (.slice a12 x11.1.length c13) x11.1) rfl (.consR 1 (Ro (eI .u8) 5 1 (.slice a14 x11.2.2.1.length c15) x11.2.2.1) rfl .nil)) (fun x17 e17 => ?_)
  rintro ⟨a18, c19⟩
  refine sxo_move rfl rfl rfl ?_
  refine sxo_extract rfl rfl rfl rfl ?_
  refine sxo_extract rfl rfl rfl rfl ?_
  refine sxo_assign rfl rfl rfl ?_
  refine sxo_assign rfl rfl rfl ?_
  refine sxo_nil ?_
  refine sxq_next ?_
  refine sxc_seq ?_
  refine sxc_region ?_
  refine sxo_move rfl rfl rfl ?_
  refine sxo_loadB (i := 0) rfl rfl tf25 rfl rfl (by simp) rfl rfl ?_
  refine sxo_call ent14 rfl rfl rfl (fun x20 e20 => C_huff_Unpack F x11.1 a12 c13 x11.2.1 x11.2.2.1 a14 c15 2 x20 e20) (.consR 1 (Ro (eI .i64) 3 1 (.slice a12 x11.1.length c13) x11.1) rfl (.consR 2 (Ro (eI .u8) 5 1 (.slice a14 x11.2.2.1.length c15) x11.2.2.1) rfl .nil)) (fun x20 e20 => ?_)
  rintro ⟨a21, c22⟩
  refine sxo_move rfl rfl rfl ?_
  refine sxo_extract rfl rfl rfl rfl ?_
  refine sxo_extract rfl rfl rfl rfl ?_
  refine sxo_assign rfl rfl rfl ?_
  refine sxo_assign rfl rfl rfl ?_
  refine sxo_nil ?_
  refine sxq_next ?_
  refine sxc_seq ?_
  refine sxc_region ?_
  refine sxo_slit (vs := [.int .i64 0, .int .i64 7]) (ys := ([0, 7] : List Int)) (eI_ok .i64) (by decide) rfl Try.underlying22 tf3 rfl rfl rfl rfl rfl (by decide) (fun a23 c24 => ?_)
  refine sxo_call ent11 rfl rfl rfl (fun x25 e25 => C_huff_Lengths F ([0, 7] : List Int) a23 c24 x25 e25) (.consR 0 (Ro (eI .i64) 3 1 (.slice a23 ([0, 7] : List Int).length c24) ([0, 7] : List Int)) rfl .nil) (fun x25 e25 => ?_)
  rintro ⟨a26, c27⟩
  refine sxo_move rfl rfl rfl ?_
  refine sxo_extract rfl rfl rfl rfl ?_
  refine sxo_extract rfl rfl rfl rfl ?_
  refine sxo_assign rfl rfl rfl ?_
  refine sxo_assign rfl rfl rfl ?_
  refine sxo_nil ?_
  refine sxq_next ?_
  refine sxc_seq ?_
  refine sxc_region ?_
  refine sxo_move rfl rfl rfl ?_
  refine sxo_slit (vs := [.int .i64 1, .int .i64 0, .int .i64 3, .int .i64 2, .int .i64 3]) (ys := ([1, 0, 3, 2, 3] : List Int)) (eI_ok .i64) (by decide) rfl Try.underlying22 tf3 rfl rfl rfl rfl rfl (by decide) (fun a28 c29 => ?_)
  refine sxo_call ent20 rfl rfl rfl (fun x30 e30 => C_R_SameInts F x3.1 a4 c5 ([1, 0, 3, 2, 3] : List Int) a28 c29 x30 e30) (.consR 9 (Ro (eI .i64) 3 1 (.slice a4 x3.1.length c5) x3.1) rfl (.consR 0 (Ro (eI .i64) 3 1 (.slice a28 ([1, 0, 3, 2, 3] : List Int).length c29) ([1, 0, 3, 2, 3] : List Int)) rfl .nil)) (fun x30 e30 => ?_)
  intro _
  refine sxo_move rfl rfl rfl ?_
  refine sxo_case 3 x30 [(3, .int .i64 x8.1), (4, .int .i64 x8.2), (6, .pointer (some ⟨g16, 0, none⟩)), (5, .slice a12 x11.1.length c13), (7, .int .i64 x11.2.2.2), (8, .slice a18 x17.1.length c19), (9, .int .i64 x17.2), (11, .int .i64 x20.2), (12, .slice a26 x25.1.length c27), (13, .int .i64 x25.2), (54, .bool (x30 && ((x3.2 : Int) == 0)))] (fun h31 => ?_) (fun h31 => ?_) ?_
  · refine sxo_take (os := _) rfl ?_
    refine sxo_isT (k := 51) rfl h31 ?_
    refine sxo_move rfl rfl rfl ?_
    refine sxo_eql rfl rfl rfl rfl ?_
    refine sxo_pick (b := true) rfl rfl rfl rfl ?_
    refine sxo_again (d := 54) (v := .bool (x30 && ((x3.2 : Int) == 0))) rfl (by rw [h31]; simp only [Bool.true_and]) ?_
    refine sxo_nil ?_
    exact sxq_case (lk_cons rfl (lk_cons rfl (lk_cons rfl (lk_cons rfl (lk_cons rfl (lk_cons rfl (lk_cons rfl (lk_cons rfl (lk_cons rfl (lk_cons rfl (lk_cons rfl lk_nil)))))))))))
  · refine sxo_take (os := _) rfl ?_
    refine sxo_isF (k := 51) rfl h31 ?_
    refine sxo_skip rfl rfl rfl ?_
    refine sxo_skip rfl rfl rfl ?_
    refine sxo_pick (b := false) rfl rfl rfl rfl ?_
    refine sxo_again (d := 54) (v := .bool (x30 && ((x3.2 : Int) == 0))) rfl (by rw [h31]; simp only [Bool.false_and]) ?_
    refine sxo_nil ?_
    exact sxq_case (lk_cons rfl (lk_cons rfl (lk_cons rfl (lk_cons rfl (lk_cons rfl (lk_cons rfl (lk_cons rfl (lk_cons rfl (lk_cons rfl (lk_cons rfl (lk_cons rfl lk_nil)))))))))))
  refine sxo_take (os := _) rfl ?_
  refine sxo_move rfl rfl rfl ?_
  refine sxo_case 3 (x30 && ((x3.2 : Int) == 0)) [(4, .int .i64 x8.2), (6, .pointer (some ⟨g16, 0, none⟩)), (5, .slice a12 x11.1.length c13), (7, .int .i64 x11.2.2.2), (8, .slice a18 x17.1.length c19), (9, .int .i64 x17.2), (11, .int .i64 x20.2), (12, .slice a26 x25.1.length c27), (13, .int .i64 x25.2), (58, .bool ((x30 && ((x3.2 : Int) == 0)) && ((x8.1 : Int) == 15)))] (fun h32 => ?_) (fun h32 => ?_) ?_
  · refine sxo_take (os := _) rfl ?_
    refine sxo_isT (k := 55) rfl h32 ?_
    refine sxo_move rfl rfl rfl ?_
    refine sxo_eql rfl rfl rfl rfl ?_
    refine sxo_pick (b := true) rfl rfl rfl rfl ?_
    refine sxo_again (d := 58) (v := .bool ((x30 && ((x3.2 : Int) == 0)) && ((x8.1 : Int) == 15))) rfl (by rw [h32]; simp only [Bool.true_and]) ?_
    refine sxo_nil ?_
    exact sxq_case (lk_cons rfl (lk_cons rfl (lk_cons rfl (lk_cons rfl (lk_cons rfl (lk_cons rfl (lk_cons rfl (lk_cons rfl (lk_cons rfl (lk_cons rfl lk_nil))))))))))
  · refine sxo_take (os := _) rfl ?_
    refine sxo_isF (k := 55) rfl h32 ?_
    refine sxo_skip rfl rfl rfl ?_
    refine sxo_skip rfl rfl rfl ?_
    refine sxo_pick (b := false) rfl rfl rfl rfl ?_
    refine sxo_again (d := 58) (v := .bool ((x30 && ((x3.2 : Int) == 0)) && ((x8.1 : Int) == 15))) rfl (by rw [h32]; simp only [Bool.false_and]) ?_
    refine sxo_nil ?_
    exact sxq_case (lk_cons rfl (lk_cons rfl (lk_cons rfl (lk_cons rfl (lk_cons rfl (lk_cons rfl (lk_cons rfl (lk_cons rfl (lk_cons rfl (lk_cons rfl lk_nil))))))))))
  refine sxo_take (os := _) rfl ?_
  refine sxo_move rfl rfl rfl ?_
  refine sxo_case 3 ((x30 && ((x3.2 : Int) == 0)) && ((x8.1 : Int) == 15)) [(6, .pointer (some ⟨g16, 0, none⟩)), (5, .slice a12 x11.1.length c13), (7, .int .i64 x11.2.2.2), (8, .slice a18 x17.1.length c19), (9, .int .i64 x17.2), (11, .int .i64 x20.2), (12, .slice a26 x25.1.length c27), (13, .int .i64 x25.2), (62, .bool (((x30 && ((x3.2 : Int) == 0)) && ((x8.1 : Int) == 15)) && ((x8.2 : Int) == 0)))] (fun h33 => ?_) (fun h33 => ?_) ?_
  · refine sxo_take (os := _) rfl ?_
    refine sxo_isT (k := 59) rfl h33 ?_
    refine sxo_move rfl rfl rfl ?_
    refine sxo_eql rfl rfl rfl rfl ?_
    refine sxo_pick (b := true) rfl rfl rfl rfl ?_
    refine sxo_again (d := 62) (v := .bool (((x30 && ((x3.2 : Int) == 0)) && ((x8.1 : Int) == 15)) && ((x8.2 : Int) == 0))) rfl (by rw [h33]; simp only [Bool.true_and]) ?_
    refine sxo_nil ?_
    exact sxq_case (lk_cons rfl (lk_cons rfl (lk_cons rfl (lk_cons rfl (lk_cons rfl (lk_cons rfl (lk_cons rfl (lk_cons rfl (lk_cons rfl lk_nil)))))))))
  · refine sxo_take (os := _) rfl ?_
    refine sxo_isF (k := 59) rfl h33 ?_
    refine sxo_skip rfl rfl rfl ?_
    refine sxo_skip rfl rfl rfl ?_
    refine sxo_pick (b := false) rfl rfl rfl rfl ?_
    refine sxo_again (d := 62) (v := .bool (((x30 && ((x3.2 : Int) == 0)) && ((x8.1 : Int) == 15)) && ((x8.2 : Int) == 0))) rfl (by rw [h33]; simp only [Bool.false_and]) ?_
    refine sxo_nil ?_
    exact sxq_case (lk_cons rfl (lk_cons rfl (lk_cons rfl (lk_cons rfl (lk_cons rfl (lk_cons rfl (lk_cons rfl (lk_cons rfl (lk_cons rfl lk_nil)))))))))
  refine sxo_take (os := _) rfl ?_
  refine sxo_move rfl rfl rfl ?_
  refine sxo_join 4 (fun ((x38, _) : (Bool × Unit)) => [(6, .pointer (some ⟨g16, 0, none⟩)), (7, .int .i64 x11.2.2.2), (8, .slice a18 x17.1.length c19), (9, .int .i64 x17.2), (11, .int .i64 x20.2), (12, .slice a26 x25.1.length c27), (13, .int .i64 x25.2), (67, .bool x38)]) (fun ((x38, _) : (Bool × Unit)) => [⟨g16, 25, [.int .i64 x11.2.1, .slice a14 x11.2.2.1.length c15]⟩]) (fun ((x38, _) : (Bool × Unit)) => [Ro (eI .i64) 3 1 (.slice a18 x17.1.length c19) x17.1, Ro (eI .i64) 3 1 (.slice a26 x25.1.length c27) x25.1, Ro (eI .u8) 5 1 (.slice a14 x11.2.2.1.length c15) x11.2.2.1]) (fun ((x38, _) : (Bool × Unit)) => []) (fun ((x38, _) : (Bool × Unit)) => M_L_huffBegun_j1 F x11 x17 x20 x25 x38) ?_ ?_
  · refine sxo_take (os := _) rfl ?_
    refine sxo_if (fun h34 => ?_) (fun h34 => ?_)
    · refine sxo_isT (k := 63) rfl h34 ?_
      refine sxo_move rfl rfl rfl ?_
      refine sxo_slit (vs := [.int .i64 1, .int .i64 0, .int .i64 1]) (ys := ([1, 0, 1] : List Int)) (eI_ok .i64) (by decide) rfl Try.underlying22 tf3 rfl rfl rfl rfl rfl (by decide) (fun a60 c61 => ?_)
      refine sxo_call ent20 rfl rfl rfl (fun x62 e62 => C_R_SameInts F x11.1 a12 c13 ([1, 0, 1] : List Int) a60 c61 x62 e62) (.consR 6 (Ro (eI .i64) 3 1 (.slice a12 x11.1.length c13) x11.1) rfl (.consR 0 (Ro (eI .i64) 3 1 (.slice a60 ([1, 0, 1] : List Int).length c61) ([1, 0, 1] : List Int)) rfl .nil)) (fun x62 e62 => ?_)
      intro _
      refine sxo_pick (b := true) rfl rfl rfl rfl ?_
      refine sxo_nil ?_
      exact sxq_meetP (x62, ()) (hB := (.cons 0 rfl .nil)) (hR := (.cons 5 rfl (.cons 2 rfl (.cons 5 rfl .nil))))
    · refine sxo_isF (k := 63) rfl h34 ?_
      refine sxo_skip rfl rfl rfl ?_
      refine sxo_skip rfl rfl rfl ?_
      refine sxo_skip rfl rfl rfl ?_
      refine sxo_pick (b := false) rfl rfl rfl rfl ?_
      refine sxo_nil ?_
      exact sxq_meetP (false, ()) (hB := (.cons 0 rfl .nil)) (hR := (.cons 4 rfl (.cons 1 rfl (.cons 4 rfl .nil))))
  · rintro ⟨x38, _⟩
    try dsimp only
    refine sxo_take (os := _) rfl ?_
    refine sxo_move rfl rfl rfl ?_
    refine sxo_case 4 x38 [(7, .int .i64 x11.2.2.2), (8, .slice a18 x17.1.length c19), (9, .int .i64 x17.2), (11, .int .i64 x20.2), (12, .slice a26 x25.1.length c27), (13, .int .i64 x25.2), (72, .bool (x38 && ((x11.2.1 : Int) == 3)))] (fun h39 => ?_) (fun h39 => ?_) ?_
    · refine sxo_take (os := _) rfl ?_
      refine sxo_isT (k := 68) rfl h39 ?_
      refine sxo_fieldAddr rfl rfl ff25_0 rfl ?_
      refine sxo_loadB (i := 0) rfl rfl tf3 rfl rfl (fun _ => rfl) rfl rfl ?_
      refine sxo_eql rfl rfl rfl rfl ?_
      refine sxo_pick (b := true) rfl rfl rfl rfl ?_
      refine sxo_again (d := 72) (v := .bool (x38 && ((x11.2.1 : Int) == 3))) rfl (by rw [h39]; simp only [Bool.true_and]) ?_
      refine sxo_nil ?_
      exact sxq_case (lk_cons rfl (lk_cons rfl (lk_cons rfl (lk_cons rfl (lk_cons rfl (lk_cons rfl (lk_cons rfl lk_nil)))))))
    · refine sxo_take (os := _) rfl ?_
      refine sxo_isF (k := 68) rfl h39 ?_
      refine sxo_skip rfl rfl rfl ?_
      refine sxo_skip rfl rfl rfl ?_
      refine sxo_skip rfl rfl rfl ?_
      refine sxo_pick (b := false) rfl rfl rfl rfl ?_
      refine sxo_again (d := 72) (v := .bool (x38 && ((x11.2.1 : Int) == 3))) rfl (by rw [h39]; simp only [Bool.false_and]) ?_
      refine sxo_nil ?_
      exact sxq_case (lk_cons rfl (lk_cons rfl (lk_cons rfl (lk_cons rfl (lk_cons rfl (lk_cons rfl (lk_cons rfl lk_nil)))))))
    refine sxo_take (os := _) rfl ?_
    refine sxo_move rfl rfl rfl ?_
    refine sxo_case 3 (x38 && ((x11.2.1 : Int) == 3)) [(8, .slice a18 x17.1.length c19), (9, .int .i64 x17.2), (11, .int .i64 x20.2), (12, .slice a26 x25.1.length c27), (13, .int .i64 x25.2), (76, .bool ((x38 && ((x11.2.1 : Int) == 3)) && ((x11.2.2.2 : Int) == 0)))] (fun h40 => ?_) (fun h40 => ?_) ?_
    · refine sxo_take (os := _) rfl ?_
      refine sxo_isT (k := 73) rfl h40 ?_
      refine sxo_move rfl rfl rfl ?_
      refine sxo_eql rfl rfl rfl rfl ?_
      refine sxo_pick (b := true) rfl rfl rfl rfl ?_
      refine sxo_again (d := 76) (v := .bool ((x38 && ((x11.2.1 : Int) == 3)) && ((x11.2.2.2 : Int) == 0))) rfl (by rw [h40]; simp only [Bool.true_and]) ?_
      refine sxo_nil ?_
      exact sxq_case (lk_cons rfl (lk_cons rfl (lk_cons rfl (lk_cons rfl (lk_cons rfl (lk_cons rfl lk_nil))))))
    · refine sxo_take (os := _) rfl ?_
      refine sxo_isF (k := 73) rfl h40 ?_
      refine sxo_skip rfl rfl rfl ?_
      refine sxo_skip rfl rfl rfl ?_
      refine sxo_pick (b := false) rfl rfl rfl rfl ?_
      refine sxo_again (d := 76) (v := .bool ((x38 && ((x11.2.1 : Int) == 3)) && ((x11.2.2.2 : Int) == 0))) rfl (by rw [h40]; simp only [Bool.false_and]) ?_
      refine sxo_nil ?_
      exact sxq_case (lk_cons rfl (lk_cons rfl (lk_cons rfl (lk_cons rfl (lk_cons rfl (lk_cons rfl lk_nil))))))
    refine sxo_take (os := _) rfl ?_
    refine sxo_move rfl rfl rfl ?_
    refine sxo_join 4 (fun ((x45, _) : (Bool × Unit)) => [(9, .int .i64 x17.2), (11, .int .i64 x20.2), (12, .slice a26 x25.1.length c27), (13, .int .i64 x25.2), (81, .bool x45)]) (fun ((x45, _) : (Bool × Unit)) => []) (fun ((x45, _) : (Bool × Unit)) => [Ro (eI .i64) 3 1 (.slice a26 x25.1.length c27) x25.1]) (fun ((x45, _) : (Bool × Unit)) => []) (fun ((x45, _) : (Bool × Unit)) => M_L_huffBegun_j2 F x17 x20 x25 x45) ?_ ?_
    · refine sxo_take (os := _) rfl ?_
      refine sxo_if (fun h41 => ?_) (fun h41 => ?_)
      · refine sxo_isT (k := 77) rfl h41 ?_
        refine sxo_move rfl rfl rfl ?_
        refine sxo_slit (vs := [.int .i64 0, .int .i64 2, .int .i64 0]) (ys := ([0, 2, 0] : List Int)) (eI_ok .i64) (by decide) rfl Try.underlying22 tf3 rfl rfl rfl rfl rfl (by decide) (fun a57 c58 => ?_)
        refine sxo_call ent20 rfl rfl rfl (fun x59 e59 => C_R_SameInts F x17.1 a18 c19 ([0, 2, 0] : List Int) a57 c58 x59 e59) (.consR 1 (Ro (eI .i64) 3 1 (.slice a18 x17.1.length c19) x17.1) rfl (.consR 0 (Ro (eI .i64) 3 1 (.slice a57 ([0, 2, 0] : List Int).length c58) ([0, 2, 0] : List Int)) rfl .nil)) (fun x59 e59 => ?_)
        intro _
        refine sxo_pick (b := true) rfl rfl rfl rfl ?_
        refine sxo_nil ?_
        exact sxq_meetP (x59, ()) (hR := (.cons 2 rfl .nil))
      · refine sxo_isF (k := 77) rfl h41 ?_
        refine sxo_skip rfl rfl rfl ?_
        refine sxo_skip rfl rfl rfl ?_
        refine sxo_skip rfl rfl rfl ?_
        refine sxo_pick (b := false) rfl rfl rfl rfl ?_
        refine sxo_nil ?_
        exact sxq_meetP (false, ()) (hR := (.cons 1 rfl .nil))
    · rintro ⟨x45, _⟩
      try dsimp only
      refine sxo_take (os := _) rfl ?_
      refine sxo_move rfl rfl rfl ?_
      refine sxo_case 3 x45 [(11, .int .i64 x20.2), (12, .slice a26 x25.1.length c27), (13, .int .i64 x25.2), (85, .bool (x45 && ((x17.2 : Int) == 0)))] (fun h46 => ?_) (fun h46 => ?_) ?_
      · refine sxo_take (os := _) rfl ?_
        refine sxo_isT (k := 82) rfl h46 ?_
        refine sxo_move rfl rfl rfl ?_
        refine sxo_eql rfl rfl rfl rfl ?_
        refine sxo_pick (b := true) rfl rfl rfl rfl ?_
        refine sxo_again (d := 85) (v := .bool (x45 && ((x17.2 : Int) == 0))) rfl (by rw [h46]; simp only [Bool.true_and]) ?_
        refine sxo_nil ?_
        exact sxq_case (lk_cons rfl (lk_cons rfl (lk_cons rfl (lk_cons rfl lk_nil))))
      · refine sxo_take (os := _) rfl ?_
        refine sxo_isF (k := 82) rfl h46 ?_
        refine sxo_skip rfl rfl rfl ?_
        refine sxo_skip rfl rfl rfl ?_
        refine sxo_pick (b := false) rfl rfl rfl rfl ?_
        refine sxo_again (d := 85) (v := .bool (x45 && ((x17.2 : Int) == 0))) rfl (by rw [h46]; simp only [Bool.false_and]) ?_
        refine sxo_nil ?_
        exact sxq_case (lk_cons rfl (lk_cons rfl (lk_cons rfl (lk_cons rfl lk_nil))))
      refine sxo_take (os := _) rfl ?_
      refine sxo_move rfl rfl rfl ?_
      refine sxo_case 3 (x45 && ((x17.2 : Int) == 0)) [(12, .slice a26 x25.1.length c27), (13, .int .i64 x25.2), (89, .bool ((x45 && ((x17.2 : Int) == 0)) && ((x20.2 : Int) == 1)))] (fun h47 => ?_) (fun h47 => ?_) ?_
      · refine sxo_take (os := _) rfl ?_
        refine sxo_isT (k := 86) rfl h47 ?_
        refine sxo_move rfl rfl rfl ?_
        refine sxo_eql rfl rfl rfl rfl ?_
        refine sxo_pick (b := true) rfl rfl rfl rfl ?_
        refine sxo_again (d := 89) (v := .bool ((x45 && ((x17.2 : Int) == 0)) && ((x20.2 : Int) == 1))) rfl (by rw [h47]; simp only [Bool.true_and]) ?_
        refine sxo_nil ?_
        exact sxq_case (lk_cons rfl (lk_cons rfl (lk_cons rfl lk_nil)))
      · refine sxo_take (os := _) rfl ?_
        refine sxo_isF (k := 86) rfl h47 ?_
        refine sxo_skip rfl rfl rfl ?_
        refine sxo_skip rfl rfl rfl ?_
        refine sxo_pick (b := false) rfl rfl rfl rfl ?_
        refine sxo_again (d := 89) (v := .bool ((x45 && ((x17.2 : Int) == 0)) && ((x20.2 : Int) == 1))) rfl (by rw [h47]; simp only [Bool.false_and]) ?_
        refine sxo_nil ?_
        exact sxq_case (lk_cons rfl (lk_cons rfl (lk_cons rfl lk_nil)))
      refine sxo_take (os := _) rfl ?_
      refine sxo_move rfl rfl rfl ?_
      refine sxo_join 4 (fun ((x52, _) : (Bool × Unit)) => [(13, .int .i64 x25.2), (94, .bool x52)]) (fun ((x52, _) : (Bool × Unit)) => []) (fun ((x52, _) : (Bool × Unit)) => []) (fun ((x52, _) : (Bool × Unit)) => []) (fun ((x52, _) : (Bool × Unit)) => M_L_huffBegun_j3 F x25 x52) ?_ ?_
      · refine sxo_take (os := _) rfl ?_
        refine sxo_if (fun h48 => ?_) (fun h48 => ?_)
        · refine sxo_isT (k := 90) rfl h48 ?_
          refine sxo_move rfl rfl rfl ?_
          refine sxo_slit (vs := [.int .i64 0, .int .i64 1]) (ys := ([0, 1] : List Int)) (eI_ok .i64) (by decide) rfl Try.underlying22 tf3 rfl rfl rfl rfl rfl (by decide) (fun a54 c55 => ?_)
          refine sxo_call ent20 rfl rfl rfl (fun x56 e56 => C_R_SameInts F x25.1 a26 c27 ([0, 1] : List Int) a54 c55 x56 e56) (.consR 1 (Ro (eI .i64) 3 1 (.slice a26 x25.1.length c27) x25.1) rfl (.consR 0 (Ro (eI .i64) 3 1 (.slice a54 ([0, 1] : List Int).length c55) ([0, 1] : List Int)) rfl .nil)) (fun x56 e56 => ?_)
          intro _
          refine sxo_pick (b := true) rfl rfl rfl rfl ?_
          refine sxo_nil ?_
          exact sxq_meetP (x56, ())
        · refine sxo_isF (k := 90) rfl h48 ?_
          refine sxo_skip rfl rfl rfl ?_
          refine sxo_skip rfl rfl rfl ?_
          refine sxo_skip rfl rfl rfl ?_
          refine sxo_pick (b := false) rfl rfl rfl rfl ?_
          refine sxo_nil ?_
          exact sxq_meetP (false, ())
      · rintro ⟨x52, _⟩
        try dsimp only
        refine sxo_take (os := _) rfl ?_
        refine sxo_move rfl rfl rfl ?_
        refine sxo_case 3 x52 [(98, .bool (x52 && ((x25.2 : Int) == 0)))] (fun h53 => ?_) (fun h53 => ?_) ?_
        · refine sxo_take (os := _) rfl ?_
          refine sxo_isT (k := 95) rfl h53 ?_
          refine sxo_move rfl rfl rfl ?_
          refine sxo_eql rfl rfl rfl rfl ?_
          refine sxo_pick (b := true) rfl rfl rfl rfl ?_
          refine sxo_again (d := 98) (v := .bool (x52 && ((x25.2 : Int) == 0))) rfl (by rw [h53]; simp only [Bool.true_and]) ?_
          refine sxo_nil ?_
          exact sxq_case (lk_cons rfl lk_nil)
        · refine sxo_take (os := _) rfl ?_
          refine sxo_isF (k := 95) rfl h53 ?_
          refine sxo_skip rfl rfl rfl ?_
          refine sxo_skip rfl rfl rfl ?_
          refine sxo_pick (b := false) rfl rfl rfl rfl ?_
          refine sxo_again (d := 98) (v := .bool (x52 && ((x25.2 : Int) == 0))) rfl (by rw [h53]; simp only [Bool.false_and]) ?_
          refine sxo_nil ?_
          exact sxq_case (lk_cons rfl lk_nil)
        refine sxo_take (os := _) rfl ?_
        refine sxo_assign rfl rfl rfl ?_
        refine sxo_nil ?_
        refine sxq_next ?_
        refine sxc_ret ?_
        exact sxq_doneP () (res1 rfl rfl)

theorem C_R_SameBytes (F : Nat) (x1 : List Int) (a2 : Option Addr) (c3 : Nat) (x4 : List Int) (a5 : Option Addr) (c6 : Nat) (r : Bool) (hm : M_R_SameBytes F x1 x4 = some r) :
    Pure Try.prog 45 [.slice a2 x1.length c3, .slice a5 x4.length c6] [Sl (eI .u8) 1 (.slice a2 x1.length c3) x1, Sl (eI .u8) 1 (.slice a5 x4.length c6) x4] Unit (fun _ => .bool r) (fun _ => []) (fun _ => []) := by
  refine pure_of Try.func45 rfl Try.ntmps45 rfl hm (fun w => ?_)
  refine sxc_env (l' := [(0, .slice a2 x1.length c3), (1, .slice a5 x4.length c6)]) rfl ?_
  refine sxc_seq ?_
  refine sxc_region ?_
  refine sxo_assign rfl rfl rfl ?_
  refine sxo_nil ?_
  refine sxq_next ?_
  refine sxc_seq ?_
  refine sxc_seq ?_
  refine sxc_region ?_
  refine sxo_move rfl rfl rfl ?_
  refine sxo_len rfl Try.underlying23 rfl rfl ?_
  refine sxo_move rfl rfl rfl ?_
  refine sxo_len rfl Try.underlying23 rfl rfl ?_
  refine sxo_neq rfl rfl rfl rfl ?_
  refine sxo_nil ?_
  refine sxq_next ?_
  refine sxc_if rfl (fun h228 => ?_) (fun h228 => ?_)
  · refine sxc_seq ?_
    refine sxc_region ?_
    refine sxo_assign rfl rfl rfl ?_
    refine sxo_nil ?_
    refine sxq_next ?_
    refine sxc_ret ?_
    refine sxq_thenR ?_
    exact sxq_doneP () (res1 rfl rfl)
  · refine sxc_skip ?_
    refine sxq_next ?_
    refine sxc_join (fun ((_, _) : (Unit × Unit)) => []) (fun ((_, _) : (Unit × Unit)) => []) (fun ((_, _) : (Unit × Unit)) => []) (fun ((_, _) : (Unit × Unit)) => []) (fun ((_, _) : (Unit × Unit)) => M_R_SameBytes_j2 F) ?_ ?_
    · refine sxc_seq ?_
      refine sxc_region ?_
      refine sxo_assign rfl rfl rfl ?_
      refine sxo_nil ?_
      refine sxq_next ?_
      refine sxc_block ?_
      refine sxc_loopP (fun ((x154, _) : (Int × Unit)) => [(0, .slice a2 x1.length c3), (1, .slice a5 x4.length c6), (5, .int .i64 x154)]) (fun ((x154, _) : (Int × Unit)) => []) (fun ((x154, _) : (Int × Unit)) => []) (fun ((x154, _) : (Int × Unit)) => [Sl (eI .u8) 1 (.slice a2 x1.length c3) x1, Sl (eI .u8) 1 (.slice a5 x4.length c6) x4]) (fun k (s : (Int × Unit)) => M_R_SameBytes_l3 F x1 x4 k s.1) (0, ()) F ?_ (hF := (fk_cons 0 rfl (fk_cons 1 rfl fk_nil)))
      intro k191
      rintro ⟨x154, _⟩
      try dsimp only
      refine sxc_meq (m' := M_R_SameBytes_b3 F x1 x4 (M_R_SameBytes_l3 F x1 x4 k191) x154) rfl ?_
      refine sxc_seq ?_
      refine sxc_seq ?_
      refine sxc_region ?_
      refine sxo_move rfl rfl rfl ?_
      refine sxo_move rfl rfl rfl ?_
      refine sxo_len rfl Try.underlying23 rfl rfl ?_
      refine sxo_lss rfl rfl rfl rfl ?_
      refine sxo_nil ?_
      refine sxq_next ?_
      refine sxc_if rfl (fun h227 => ?_) (fun h227 => ?_)
      · refine sxc_skip ?_
        refine sxq_next ?_
        refine sxc_seq ?_
        refine sxc_block ?_
        refine sxc_seq ?_
        refine sxc_idxF (j := 0) (eI_ok .u8) (by decide) rfl (fun x218 e218 b219 o220 h221 => ?_)
        replace h221 : a2 = some ⟨b219, o220, none⟩ := h221
        refine sxc_idxF (j := 2) (eI_ok .u8) (by decide) rfl (fun x222 e222 b223 o224 h225 => ?_)
        replace h225 : a5 = some ⟨b223, o224, none⟩ := h225
        refine sxb_draw mixed [] [] [CellsAt b223 (o224 + x154.toNat * 1) ((eI .u8) x222), CellsAt b219 (o220 + x154.toNat * 1) ((eI .u8) x218), Sl (eI .u8) 1 (.slice a2 x1.length c3) x1, Sl (eI .u8) 1 (.slice a5 x4.length c6) x4] .nil (gk_F 0 rfl (gk_F 1 rfl (gk_F 2 rfl (gk_F 3 rfl gk_nil)))) 9 rfl ?_
        refine sxb_takeP 0 (.slice a2 x1.length c3) rfl rfl rfl (yv_pv rfl) ?_
        refine sxb_takeP 1 (.int .i64 x154) rfl rfl rfl (yv_pv rfl) ?_
        refine sxb_again (d := 17) (v := .slice (some ⟨b219, o220, none⟩) x1.length c3) rfl (by rw [h221] <;> rfl) ?_
        refine sxb_takeP 2 (.pointer (some ⟨b219, (o220 + x154.toNat * 1), none⟩)) rfl rfl rfl (yv_idx Try.underlying23 tf5 rfl rfl (idx_get e218).1 (idx_lt e218)) ?_
        refine sxb_again (d := 17) (v := .slice a2 x1.length c3) rfl (by rw [h221] <;> rfl) ?_
        refine sxb_take 3 (.int .u8 x218) [] rfl rfl rfl (yv_loadF (j := 1) rfl tf5 rfl rfl (fun _ => rfl) rfl) ?_
        refine sxb_takeP 4 (.slice a5 x4.length c6) rfl rfl rfl (yv_pv rfl) ?_
        refine sxb_takeP 5 (.int .i64 x154) rfl rfl rfl (yv_pv rfl) ?_
        refine sxb_again (d := 21) (v := .slice (some ⟨b223, o224, none⟩) x4.length c6) rfl (by rw [h225] <;> rfl) ?_
        refine sxb_takeP 6 (.pointer (some ⟨b223, (o224 + x154.toNat * 1), none⟩)) rfl rfl rfl (yv_idx Try.underlying23 tf5 rfl rfl (idx_get e222).1 (idx_lt e222)) ?_
        refine sxb_again (d := 21) (v := .slice a5 x4.length c6) rfl (by rw [h225] <;> rfl) ?_
        refine sxb_take 7 (.int .u8 x222) [] rfl rfl rfl (yv_loadF (j := 0) rfl tf5 rfl rfl (fun _ => rfl) rfl) ?_
        refine sxb_takeP 8 (.bool ((x218 : Int) != x222)) rfl rfl rfl (yv_pv rfl) ?_
        refine sxb_done (by kernel_rfl) ?_
        refine sxq_np ?_ (by intro c h; cases h)
        refine sxq_next ?_
        refine sxc_if rfl (fun h226 => ?_) (fun h226 => ?_)
        · refine sxc_seq ?_
          refine sxc_region ?_
          refine sxo_assign rfl rfl rfl ?_
          refine sxo_nil ?_
          refine sxq_next ?_
          refine sxc_ret ?_
          refine sxq_blkR ?_
          refine sxq_thenR ?_
          refine sxq_thenR ?_
          refine sxq_blkR ?_
          refine sxq_thenR ?_
          exact sxq_doneP () (res1 rfl rfl)
        · refine sxc_skip ?_
          refine sxq_blkN ?_
          refine sxq_next ?_
          refine sxc_region ?_
          refine sxo_move rfl rfl rfl ?_
          refine sxo_add rfl rfl rfl rfl ?_
          refine sxo_assign rfl rfl rfl ?_
          refine sxo_nil ?_
          exact sxq_againP (iadd .i64 x154 1, ()) (hF := (fk_cons 2 rfl (fk_cons 3 rfl fk_nil)))
      · refine sxc_exit ?_
        refine sxq_thenX ?_
        refine sxq_thenX ?_
        refine sxq_blkX ?_
        exact sxq_meetP ((), ())
    · rintro ⟨_, _⟩
      try dsimp only
      refine sxc_seq ?_
      refine sxc_region ?_
      refine sxo_assign rfl rfl rfl ?_
      refine sxo_nil ?_
      refine sxq_next ?_
      refine sxc_ret ?_
      exact sxq_doneP () (res1 rfl rfl)

theorem C_R_SameBits (F : Nat) (x1 : Int) (x2 : List Int) (a3 : Option Addr) (c4 : Nat) (x5 : Int) (x6 : List Int) (a7 : Option Addr) (c8 : Nat) (r : Bool) (hm : M_R_SameBits F x1 x2 x5 x6 = some r) :
    Pure Try.prog 21 [.agg #[.int .i64 x1, .slice a3 x2.length c4], .agg #[.int .i64 x5, .slice a7 x6.length c8]] [Sl (eI .u8) 1 (.slice a3 x2.length c4) x2, Sl (eI .u8) 1 (.slice a7 x6.length c8) x6] Unit (fun _ => .bool r) (fun _ => []) (fun _ => []) := by
  refine pure_of Try.func21 rfl Try.ntmps21 rfl hm (fun w => ?_)
  refine sxc_env (l' := [(0, .agg #[.int .i64 x1, .slice a3 x2.length c4]), (1, .agg #[.int .i64 x5, .slice a7 x6.length c8])]) rfl ?_
  refine sxc_seq ?_
  refine sxc_region ?_
  refine sxo_box rfl rfl rfl (fun g9 => ?_)
  refine sxo_box rfl rfl rfl (fun g10 => ?_)
  refine sxo_assign rfl rfl rfl ?_
  refine sxo_nil ?_
  refine sxq_next ?_
  refine sxc_seq ?_
  refine sxc_region ?_
  refine sxo_fieldAddr rfl rfl ff25_0 rfl ?_
  refine sxo_loadB (i := 1) rfl rfl tf3 rfl rfl (fun _ => rfl) rfl rfl ?_
  refine sxo_fieldAddr rfl rfl ff25_0 rfl ?_
  refine sxo_loadB (i := 0) rfl rfl tf3 rfl rfl (fun _ => rfl) rfl rfl ?_
  refine sxo_eql rfl rfl rfl rfl ?_
  refine sxo_move rfl rfl rfl ?_
  refine sxo_join 6 (fun ((x13, _) : (Bool × Unit)) => [(16, .bool x13)]) (fun ((x13, _) : (Bool × Unit)) => []) (fun ((x13, _) : (Bool × Unit)) => []) (fun ((x13, _) : (Bool × Unit)) => []) (fun ((x13, _) : (Bool × Unit)) => M_R_SameBits_j1 F x13) ?_ ?_
  · refine sxo_take (os := _) rfl ?_
    refine sxo_if (fun h11 => ?_) (fun h11 => ?_)
    · refine sxo_isT (k := 10) rfl h11 ?_
      refine sxo_fieldAddr rfl rfl ff25_1 rfl ?_
      refine sxo_loadB (i := 1) rfl rfl tf23 rfl rfl (fun _ => rfl) rfl rfl ?_
      refine sxo_fieldAddr rfl rfl ff25_1 rfl ?_
      refine sxo_loadB (i := 0) rfl rfl tf23 rfl rfl (fun _ => rfl) rfl rfl ?_
      refine sxo_call ent45 rfl rfl rfl (fun x14 e14 => C_R_SameBytes F x2 a3 c4 x6 a7 c8 x14 e14) (.consF 0 rfl (.consF 1 rfl .nil)) (fun x14 e14 => ?_)
      intro _
      refine sxo_pick (b := true) rfl rfl rfl rfl ?_
      refine sxo_nil ?_
      exact sxq_meetP (x14, ())
    · refine sxo_isF (k := 10) rfl h11 ?_
      refine sxo_skip rfl rfl rfl ?_
      refine sxo_skip rfl rfl rfl ?_
      refine sxo_skip rfl rfl rfl ?_
      refine sxo_skip rfl rfl rfl ?_
      refine sxo_skip rfl rfl rfl ?_
      refine sxo_pick (b := false) rfl rfl rfl rfl ?_
      refine sxo_nil ?_
      exact sxq_meetP (false, ())
  · rintro ⟨x13, _⟩
    try dsimp only
    refine sxo_take (os := _) rfl ?_
    refine sxo_assign rfl rfl rfl ?_
    refine sxo_nil ?_
    refine sxq_next ?_
    refine sxc_ret ?_
    exact sxq_doneP () (res1 rfl rfl)

set_option maxHeartbeats 4000000 in
theorem C_L_HuffTells (F : Nat) (x1 : List Int) (a2 : Option Addr) (c3 : Nat) (x4 : List Int) (a5 : Option Addr) (c6 : Nat) (x7 : List Int) (a8 : Option Addr) (c9 : Nat) (x10 : Int) (x11 : Int) (x12 : List Int) (a13 : Option Addr) (c14 : Nat) (x15 : Int) (r : Bool) (hm : M_L_HuffTells F x1 x4 x7 x10 x11 x12 x15 = some r) :
    Pure Try.prog 3 [.slice a2 x1.length c3, .slice a5 x4.length c6, .slice a8 x7.length c9, .int .i64 x10, .agg #[.int .i64 x11, .slice a13 x12.length c14], .int .i64 x15] [Sl (eI .i64) 1 (.slice a2 x1.length c3) x1, Sl (eI .i64) 1 (.slice a5 x4.length c6) x4, Sl (eI .i64) 1 (.slice a8 x7.length c9) x7, Sl (eI .u8) 1 (.slice a13 x12.length c14) x12] Unit (fun _ => .bool r) (fun _ => []) (fun _ => []) := by
  refine pure_of Try.func3 rfl Try.ntmps3 rfl hm (fun w => ?_)
  refine sxc_env (l' := [(0, .slice a2 x1.length c3), (1, .slice a5 x4.length c6), (2, .slice a8 x7.length c9), (3, .int .i64 x10), (4, .agg #[.int .i64 x11, .slice a13 x12.length c14]), (5, .int .i64 x15)]) rfl ?_
  refine sxc_seq ?_
  refine sxc_region ?_
  refine sxo_box rfl rfl rfl (fun g16 => ?_)
  refine sxo_assign rfl rfl rfl ?_
  refine sxo_nil ?_
  refine sxq_next ?_
  refine sxc_seq ?_
  refine sxc_region ?_
  refine sxo_move rfl rfl rfl ?_
  refine sxo_call ent11 rfl rfl rfl (fun x17 e17 => C_huff_Lengths F x1 a2 c3 x17 e17) (.consF 0 rfl .nil) (fun x17 e17 => ?_)
  rintro ⟨a18, c19⟩
  refine sxo_move rfl rfl rfl ?_
  refine sxo_extract rfl rfl rfl rfl ?_
  refine sxo_extract rfl rfl rfl rfl ?_
  refine sxo_assign rfl rfl rfl ?_
  refine sxo_assign rfl rfl rfl ?_
  refine sxo_nil ?_
  refine sxq_next ?_
  refine sxc_seq ?_
  refine sxc_region ?_
  refine sxo_move rfl rfl rfl ?_
  refine sxo_move rfl rfl rfl ?_
  refine sxo_call ent12 rfl rfl rfl (fun x20 e20 => C_huff_Cost F x1 a2 c3 x4 a5 c6 x20 e20) (.consF 0 rfl (.consF 1 rfl .nil)) (fun x20 e20 => ?_)
  intro _
  refine sxo_move rfl rfl rfl ?_
  refine sxo_extract rfl rfl rfl rfl ?_
  refine sxo_extract rfl rfl rfl rfl ?_
  refine sxo_assign rfl rfl rfl ?_
  refine sxo_assign rfl rfl rfl ?_
  refine sxo_nil ?_
  refine sxq_next ?_
  refine sxc_seq ?_
  refine sxc_region ?_
  refine sxo_move rfl rfl rfl ?_
  refine sxo_move rfl rfl rfl ?_
  refine sxo_call ent13 rfl rfl rfl (fun x21 e21 => C_huff_Pack F x7 a8 c9 x10 x21 e21) (.consF 2 rfl .nil) (fun x21 e21 => ?_)
  rintro ⟨⟨a22, c23⟩, ⟨a24, c25⟩⟩
  refine sxo_move rfl rfl rfl ?_
  refine sxo_extract rfl rfl rfl rfl ?_
  refine sxo_extract rfl rfl rfl rfl ?_
  refine sxo_extract rfl rfl rfl rfl ?_
  refine sxo_alloc rfl tf25 rfl (fun g26 => ?_)
  refine sxo_assign rfl rfl rfl ?_
  refine sxo_storeB (i := 0) rfl rfl rfl tf25 rfl rfl rfl rfl rfl ?_
  refine sxo_assign rfl rfl rfl ?_
  refine sxo_nil ?_
  refine sxq_next ?_
  refine sxc_seq ?_
  refine sxc_region ?_
  refine sxo_move rfl rfl rfl ?_
  refine sxo_loadB (i := 1) rfl rfl tf25 rfl rfl (by simp) rfl rfl ?_
  refine sxo_move rfl rfl rfl ?_
  refine sxo_call ent14 rfl rfl rfl (fun x27 e27 => C_huff_Unpack F x4 a5 c6 x11 x12 a13 c14 x15 x27 e27) (.consF 1 rfl (.consF 3 rfl .nil)) (fun x27 e27 => ?_)
  rintro ⟨a28, c29⟩
  refine sxo_move rfl rfl rfl ?_
  refine sxo_extract rfl rfl rfl rfl ?_
  refine sxo_extract rfl rfl rfl rfl ?_
  refine sxo_assign rfl rfl rfl ?_
  refine sxo_assign rfl rfl rfl ?_
  refine sxo_nil ?_
  refine sxq_next ?_
  refine sxc_seq ?_
  refine sxc_region ?_
  refine sxo_move rfl rfl rfl ?_
  refine sxo_call ent15 rfl rfl rfl (fun x30 e30 => C_R_HuffLengths F x1 a2 c3 x30 e30) (.consF 0 rfl .nil) (fun x30 e30 => ?_)
  rintro ⟨a31, c32⟩
  refine sxo_move rfl rfl rfl ?_
  refine sxo_extract rfl rfl rfl rfl ?_
  refine sxo_extract rfl rfl rfl rfl ?_
  refine sxo_assign rfl rfl rfl ?_
  refine sxo_assign rfl rfl rfl ?_
  refine sxo_nil ?_
  refine sxq_next ?_
  refine sxc_seq ?_
  refine sxc_region ?_
  refine sxo_move rfl rfl rfl ?_
  refine sxo_move rfl rfl rfl ?_
  refine sxo_call ent16 rfl rfl rfl (fun x33 e33 => C_R_HuffCost F x1 a2 c3 x4 a5 c6 x33 e33) (.consF 0 rfl (.consF 1 rfl .nil)) (fun x33 e33 => ?_)
  intro _
  refine sxo_move rfl rfl rfl ?_
  refine sxo_extract rfl rfl rfl rfl ?_
  refine sxo_extract rfl rfl rfl rfl ?_
  refine sxo_assign rfl rfl rfl ?_
  refine sxo_assign rfl rfl rfl ?_
  refine sxo_nil ?_
  refine sxq_next ?_
  refine sxc_seq ?_
  refine sxc_region ?_
  refine sxo_move rfl rfl rfl ?_
  refine sxo_move rfl rfl rfl ?_
  refine sxo_call ent17 rfl rfl rfl (fun x34 e34 => C_R_HuffPack F x7 a8 c9 x10 x34 e34) (.consF 2 rfl .nil) (fun x34 e34 => ?_)
  rintro ⟨⟨a35, c36⟩, ⟨a37, c38⟩⟩
  refine sxo_move rfl rfl rfl ?_
  refine sxo_extract rfl rfl rfl rfl ?_
  refine sxo_extract rfl rfl rfl rfl ?_
  refine sxo_extract rfl rfl rfl rfl ?_
  refine sxo_alloc rfl tf25 rfl (fun g39 => ?_)
  refine sxo_assign rfl rfl rfl ?_
  refine sxo_storeB (i := 0) rfl rfl rfl tf25 rfl rfl rfl rfl rfl ?_
  refine sxo_assign rfl rfl rfl ?_
  refine sxo_nil ?_
  refine sxq_next ?_
  refine sxc_seq ?_
  refine sxc_region ?_
  refine sxo_move rfl rfl rfl ?_
  refine sxo_loadB (i := 2) rfl rfl tf25 rfl rfl (by simp) rfl rfl ?_
  refine sxo_move rfl rfl rfl ?_
  refine sxo_call ent18 rfl rfl rfl (fun x40 e40 => C_R_HuffUnpack F x4 a5 c6 x11 x12 a13 c14 x15 x40 e40) (.consF 1 rfl (.consF 3 rfl .nil)) (fun x40 e40 => ?_)
  rintro ⟨a41, c42⟩
  refine sxo_move rfl rfl rfl ?_
  refine sxo_extract rfl rfl rfl rfl ?_
  refine sxo_extract rfl rfl rfl rfl ?_
  refine sxo_assign rfl rfl rfl ?_
  refine sxo_assign rfl rfl rfl ?_
  refine sxo_nil ?_
  refine sxq_next ?_
  refine sxc_seq ?_
  refine sxc_region ?_
  refine sxo_call ent19 rfl rfl rfl (fun x43 e43 => C_L_huffBegun F  x43 e43) .nil (fun x43 e43 => ?_)
  intro _
  refine sxo_move rfl rfl rfl ?_
  refine sxo_join 4 (fun ((x46, _) : (Bool × Unit)) => [(14, .int .i64 x17.2), (15, .int .i64 x20.1), (16, .int .i64 x20.2), (17, .slice a22 x21.1.length c23), (18, .pointer (some ⟨g26, 0, none⟩)), (19, .int .i64 x21.2.2.2), (20, .slice a28 x27.1.length c29), (21, .int .i64 x27.2), (23, .int .i64 x30.2), (24, .int .i64 x33.1), (25, .int .i64 x33.2), (26, .slice a35 x34.1.length c36), (27, .pointer (some ⟨g39, 0, none⟩)), (28, .int .i64 x34.2.2.2), (29, .slice a41 x40.1.length c42), (30, .int .i64 x40.2), (86, .bool x46)]) (fun ((x46, _) : (Bool × Unit)) => [⟨g39, 25, [.int .i64 x34.2.1, .slice a37 x34.2.2.1.length c38]⟩, ⟨g26, 25, [.int .i64 x21.2.1, .slice a24 x21.2.2.1.length c25]⟩]) (fun ((x46, _) : (Bool × Unit)) => [Ro (eI .i64) 3 1 (.slice a22 x21.1.length c23) x21.1, Ro (eI .i64) 3 1 (.slice a28 x27.1.length c29) x27.1, Ro (eI .i64) 3 1 (.slice a35 x34.1.length c36) x34.1, Ro (eI .i64) 3 1 (.slice a41 x40.1.length c42) x40.1, Ro (eI .u8) 5 1 (.slice a37 x34.2.2.1.length c38) x34.2.2.1, Ro (eI .u8) 5 1 (.slice a24 x21.2.2.1.length c25) x21.2.2.1]) (fun ((x46, _) : (Bool × Unit)) => []) (fun ((x46, _) : (Bool × Unit)) => M_L_HuffTells_j1 F x17 x20 x21 x27 x30 x33 x34 x40 x46) ?_ ?_
  · refine sxo_take (os := _) rfl ?_
    refine sxo_if (fun h44 => ?_) (fun h44 => ?_)
    · refine sxo_isT (k := 82) rfl h44 ?_
      refine sxo_move rfl rfl rfl ?_
      refine sxo_move rfl rfl rfl ?_
      refine sxo_call ent20 rfl rfl rfl (fun x64 e64 => C_R_SameInts F x17.1 a18 c19 x30.1 a31 c32 x64 e64) (.consR 7 (Ro (eI .i64) 3 1 (.slice a18 x17.1.length c19) x17.1) rfl (.consR 3 (Ro (eI .i64) 3 1 (.slice a31 x30.1.length c32) x30.1) rfl .nil)) (fun x64 e64 => ?_)
      intro _
      refine sxo_pick (b := true) rfl rfl rfl rfl ?_
      refine sxo_nil ?_
      exact sxq_meetP (x64, ()) (hB := (.cons 0 rfl (.cons 0 rfl .nil))) (hR := (.cons 5 rfl (.cons 4 rfl (.cons 1 rfl (.cons 0 rfl (.cons 0 rfl (.cons 1 rfl .nil)))))))
    · refine sxo_isF (k := 82) rfl h44 ?_
      refine sxo_skip rfl rfl rfl ?_
      refine sxo_skip rfl rfl rfl ?_
      refine sxo_skip rfl rfl rfl ?_
      refine sxo_pick (b := false) rfl rfl rfl rfl ?_
      refine sxo_nil ?_
      exact sxq_meetP (false, ()) (hB := (.cons 0 rfl (.cons 0 rfl .nil))) (hR := (.cons 5 rfl (.cons 4 rfl (.cons 1 rfl (.cons 0 rfl (.cons 0 rfl (.cons 1 rfl .nil)))))))
  · rintro ⟨x46, _⟩
    try dsimp only
    refine sxo_take (os := _) rfl ?_
    refine sxo_move rfl rfl rfl ?_
    refine sxo_case 4 x46 [(15, .int .i64 x20.1), (16, .int .i64 x20.2), (17, .slice a22 x21.1.length c23), (18, .pointer (some ⟨g26, 0, none⟩)), (19, .int .i64 x21.2.2.2), (20, .slice a28 x27.1.length c29), (21, .int .i64 x27.2), (24, .int .i64 x33.1), (25, .int .i64 x33.2), (26, .slice a35 x34.1.length c36), (27, .pointer (some ⟨g39, 0, none⟩)), (28, .int .i64 x34.2.2.2), (29, .slice a41 x40.1.length c42), (30, .int .i64 x40.2), (91, .bool (x46 && ((x17.2 : Int) == x30.2)))] (fun h47 => ?_) (fun h47 => ?_) ?_
    · refine sxo_take (os := _) rfl ?_
      refine sxo_isT (k := 87) rfl h47 ?_
      refine sxo_move rfl rfl rfl ?_
      refine sxo_move rfl rfl rfl ?_
      refine sxo_eql rfl rfl rfl rfl ?_
      refine sxo_pick (b := true) rfl rfl rfl rfl ?_
      refine sxo_again (d := 91) (v := .bool (x46 && ((x17.2 : Int) == x30.2))) rfl (by rw [h47]; simp only [Bool.true_and]) ?_
      refine sxo_nil ?_
      exact sxq_case (lk_cons rfl (lk_cons rfl (lk_cons rfl (lk_cons rfl (lk_cons rfl (lk_cons rfl (lk_cons rfl (lk_cons rfl (lk_cons rfl (lk_cons rfl (lk_cons rfl (lk_cons rfl (lk_cons rfl (lk_cons rfl (lk_cons rfl lk_nil)))))))))))))))
    · refine sxo_take (os := _) rfl ?_
      refine sxo_isF (k := 87) rfl h47 ?_
      refine sxo_skip rfl rfl rfl ?_
      refine sxo_skip rfl rfl rfl ?_
      refine sxo_skip rfl rfl rfl ?_
      refine sxo_pick (b := false) rfl rfl rfl rfl ?_
      refine sxo_again (d := 91) (v := .bool (x46 && ((x17.2 : Int) == x30.2))) rfl (by rw [h47]; simp only [Bool.false_and]) ?_
      refine sxo_nil ?_
      exact sxq_case (lk_cons rfl (lk_cons rfl (lk_cons rfl (lk_cons rfl (lk_cons rfl (lk_cons rfl (lk_cons rfl (lk_cons rfl (lk_cons rfl (lk_cons rfl (lk_cons rfl (lk_cons rfl (lk_cons rfl (lk_cons rfl (lk_cons rfl lk_nil)))))))))))))))
    refine sxo_take (os := _) rfl ?_
    refine sxo_move rfl rfl rfl ?_
    refine sxo_case 4 (x46 && ((x17.2 : Int) == x30.2)) [(16, .int .i64 x20.2), (17, .slice a22 x21.1.length c23), (18, .pointer (some ⟨g26, 0, none⟩)), (19, .int .i64 x21.2.2.2), (20, .slice a28 x27.1.length c29), (21, .int .i64 x27.2), (25, .int .i64 x33.2), (26, .slice a35 x34.1.length c36), (27, .pointer (some ⟨g39, 0, none⟩)), (28, .int .i64 x34.2.2.2), (29, .slice a41 x40.1.length c42), (30, .int .i64 x40.2), (96, .bool ((x46 && ((x17.2 : Int) == x30.2)) && ((x20.1 : Int) == x33.1)))] (fun h48 => ?_) (fun h48 => ?_) ?_
    · refine sxo_take (os := _) rfl ?_
      refine sxo_isT (k := 92) rfl h48 ?_
      refine sxo_move rfl rfl rfl ?_
      refine sxo_move rfl rfl rfl ?_
      refine sxo_eql rfl rfl rfl rfl ?_
      refine sxo_pick (b := true) rfl rfl rfl rfl ?_
      refine sxo_again (d := 96) (v := .bool ((x46 && ((x17.2 : Int) == x30.2)) && ((x20.1 : Int) == x33.1))) rfl (by rw [h48]; simp only [Bool.true_and]) ?_
      refine sxo_nil ?_
      exact sxq_case (lk_cons rfl (lk_cons rfl (lk_cons rfl (lk_cons rfl (lk_cons rfl (lk_cons rfl (lk_cons rfl (lk_cons rfl (lk_cons rfl (lk_cons rfl (lk_cons rfl (lk_cons rfl (lk_cons rfl lk_nil)))))))))))))
    · refine sxo_take (os := _) rfl ?_
      refine sxo_isF (k := 92) rfl h48 ?_
      refine sxo_skip rfl rfl rfl ?_
      refine sxo_skip rfl rfl rfl ?_
      refine sxo_skip rfl rfl rfl ?_
      refine sxo_pick (b := false) rfl rfl rfl rfl ?_
      refine sxo_again (d := 96) (v := .bool ((x46 && ((x17.2 : Int) == x30.2)) && ((x20.1 : Int) == x33.1))) rfl (by rw [h48]; simp only [Bool.false_and]) ?_
      refine sxo_nil ?_
      exact sxq_case (lk_cons rfl (lk_cons rfl (lk_cons rfl (lk_cons rfl (lk_cons rfl (lk_cons rfl (lk_cons rfl (lk_cons rfl (lk_cons rfl (lk_cons rfl (lk_cons rfl (lk_cons rfl (lk_cons rfl lk_nil)))))))))))))
    refine sxo_take (os := _) rfl ?_
    refine sxo_move rfl rfl rfl ?_
    refine sxo_case 4 ((x46 && ((x17.2 : Int) == x30.2)) && ((x20.1 : Int) == x33.1)) [(17, .slice a22 x21.1.length c23), (18, .pointer (some ⟨g26, 0, none⟩)), (19, .int .i64 x21.2.2.2), (20, .slice a28 x27.1.length c29), (21, .int .i64 x27.2), (26, .slice a35 x34.1.length c36), (27, .pointer (some ⟨g39, 0, none⟩)), (28, .int .i64 x34.2.2.2), (29, .slice a41 x40.1.length c42), (30, .int .i64 x40.2), (101, .bool (((x46 && ((x17.2 : Int) == x30.2)) && ((x20.1 : Int) == x33.1)) && ((x20.2 : Int) == x33.2)))] (fun h49 => ?_) (fun h49 => ?_) ?_
    · refine sxo_take (os := _) rfl ?_
      refine sxo_isT (k := 97) rfl h49 ?_
      refine sxo_move rfl rfl rfl ?_
      refine sxo_move rfl rfl rfl ?_
      refine sxo_eql rfl rfl rfl rfl ?_
      refine sxo_pick (b := true) rfl rfl rfl rfl ?_
      refine sxo_again (d := 101) (v := .bool (((x46 && ((x17.2 : Int) == x30.2)) && ((x20.1 : Int) == x33.1)) && ((x20.2 : Int) == x33.2))) rfl (by rw [h49]; simp only [Bool.true_and]) ?_
      refine sxo_nil ?_
      exact sxq_case (lk_cons rfl (lk_cons rfl (lk_cons rfl (lk_cons rfl (lk_cons rfl (lk_cons rfl (lk_cons rfl (lk_cons rfl (lk_cons rfl (lk_cons rfl (lk_cons rfl lk_nil)))))))))))
    · refine sxo_take (os := _) rfl ?_
      refine sxo_isF (k := 97) rfl h49 ?_
      refine sxo_skip rfl rfl rfl ?_
      refine sxo_skip rfl rfl rfl ?_
      refine sxo_skip rfl rfl rfl ?_
      refine sxo_pick (b := false) rfl rfl rfl rfl ?_
      refine sxo_again (d := 101) (v := .bool (((x46 && ((x17.2 : Int) == x30.2)) && ((x20.1 : Int) == x33.1)) && ((x20.2 : Int) == x33.2))) rfl (by rw [h49]; simp only [Bool.false_and]) ?_
      refine sxo_nil ?_
      exact sxq_case (lk_cons rfl (lk_cons rfl (lk_cons rfl (lk_cons rfl (lk_cons rfl (lk_cons rfl (lk_cons rfl (lk_cons rfl (lk_cons rfl (lk_cons rfl (lk_cons rfl lk_nil)))))))))))
    refine sxo_take (os := _) rfl ?_
    refine sxo_move rfl rfl rfl ?_
    refine sxo_join 4 (fun ((x52, _) : (Bool × Unit)) => [(18, .pointer (some ⟨g26, 0, none⟩)), (19, .int .i64 x21.2.2.2), (20, .slice a28 x27.1.length c29), (21, .int .i64 x27.2), (27, .pointer (some ⟨g39, 0, none⟩)), (28, .int .i64 x34.2.2.2), (29, .slice a41 x40.1.length c42), (30, .int .i64 x40.2), (106, .bool x52)]) (fun ((x52, _) : (Bool × Unit)) => [⟨g39, 25, [.int .i64 x34.2.1, .slice a37 x34.2.2.1.length c38]⟩, ⟨g26, 25, [.int .i64 x21.2.1, .slice a24 x21.2.2.1.length c25]⟩]) (fun ((x52, _) : (Bool × Unit)) => [Ro (eI .i64) 3 1 (.slice a28 x27.1.length c29) x27.1, Ro (eI .i64) 3 1 (.slice a41 x40.1.length c42) x40.1, Ro (eI .u8) 5 1 (.slice a37 x34.2.2.1.length c38) x34.2.2.1, Ro (eI .u8) 5 1 (.slice a24 x21.2.2.1.length c25) x21.2.2.1]) (fun ((x52, _) : (Bool × Unit)) => []) (fun ((x52, _) : (Bool × Unit)) => M_L_HuffTells_j2 F x21 x27 x34 x40 x52) ?_ ?_
    · refine sxo_take (os := _) rfl ?_
      refine sxo_if (fun h50 => ?_) (fun h50 => ?_)
      · refine sxo_isT (k := 102) rfl h50 ?_
        refine sxo_move rfl rfl rfl ?_
        refine sxo_move rfl rfl rfl ?_
        refine sxo_call ent20 rfl rfl rfl (fun x63 e63 => C_R_SameInts F x21.1 a22 c23 x34.1 a35 c36 x63 e63) (.consR 0 (Ro (eI .i64) 3 1 (.slice a22 x21.1.length c23) x21.1) rfl (.consR 2 (Ro (eI .i64) 3 1 (.slice a35 x34.1.length c36) x34.1) rfl .nil)) (fun x63 e63 => ?_)
        intro _
        refine sxo_pick (b := true) rfl rfl rfl rfl ?_
        refine sxo_nil ?_
        exact sxq_meetP (x63, ()) (hB := (.cons 0 rfl (.cons 0 rfl .nil))) (hR := (.cons 1 rfl (.cons 2 rfl (.cons 2 rfl (.cons 2 rfl .nil)))))
      · refine sxo_isF (k := 102) rfl h50 ?_
        refine sxo_skip rfl rfl rfl ?_
        refine sxo_skip rfl rfl rfl ?_
        refine sxo_skip rfl rfl rfl ?_
        refine sxo_pick (b := false) rfl rfl rfl rfl ?_
        refine sxo_nil ?_
        exact sxq_meetP (false, ()) (hB := (.cons 0 rfl (.cons 0 rfl .nil))) (hR := (.cons 1 rfl (.cons 2 rfl (.cons 2 rfl (.cons 2 rfl .nil)))))
    · rintro ⟨x52, _⟩
      try dsimp only
      refine sxo_take (os := _) rfl ?_
      refine sxo_move rfl rfl rfl ?_
      refine sxo_join 4 (fun ((x55, _) : (Bool × Unit)) => [(19, .int .i64 x21.2.2.2), (20, .slice a28 x27.1.length c29), (21, .int .i64 x27.2), (28, .int .i64 x34.2.2.2), (29, .slice a41 x40.1.length c42), (30, .int .i64 x40.2), (111, .bool x55)]) (fun ((x55, _) : (Bool × Unit)) => []) (fun ((x55, _) : (Bool × Unit)) => [Ro (eI .i64) 3 1 (.slice a28 x27.1.length c29) x27.1, Ro (eI .i64) 3 1 (.slice a41 x40.1.length c42) x40.1]) (fun ((x55, _) : (Bool × Unit)) => []) (fun ((x55, _) : (Bool × Unit)) => M_L_HuffTells_j3 F x21 x27 x34 x40 x55) ?_ ?_
      · refine sxo_take (os := _) rfl ?_
        refine sxo_if (fun h53 => ?_) (fun h53 => ?_)
        · refine sxo_isT (k := 107) rfl h53 ?_
          refine sxo_loadB (i := 1) rfl rfl tf25 rfl rfl (by simp) rfl rfl ?_
          refine sxo_loadB (i := 0) rfl rfl tf25 rfl rfl (by simp) rfl rfl ?_
          refine sxo_call ent21 rfl rfl rfl (fun x62 e62 => C_R_SameBits F x21.2.1 x21.2.2.1 a24 c25 x34.2.1 x34.2.2.1 a37 c38 x62 e62) (.consR 3 (Ro (eI .u8) 5 1 (.slice a24 x21.2.2.1.length c25) x21.2.2.1) rfl (.consR 2 (Ro (eI .u8) 5 1 (.slice a37 x34.2.2.1.length c38) x34.2.2.1) rfl .nil)) (fun x62 e62 => ?_)
          intro _
          refine sxo_pick (b := true) rfl rfl rfl rfl ?_
          refine sxo_nil ?_
          exact sxq_meetP (x62, ()) (hR := (.cons 0 rfl (.cons 0 rfl .nil)))
        · refine sxo_isF (k := 107) rfl h53 ?_
          refine sxo_skip rfl rfl rfl ?_
          refine sxo_skip rfl rfl rfl ?_
          refine sxo_skip rfl rfl rfl ?_
          refine sxo_pick (b := false) rfl rfl rfl rfl ?_
          refine sxo_nil ?_
          exact sxq_meetP (false, ()) (hR := (.cons 0 rfl (.cons 0 rfl .nil)))
      · rintro ⟨x55, _⟩
        try dsimp only
        refine sxo_take (os := _) rfl ?_
        refine sxo_move rfl rfl rfl ?_
        refine sxo_case 4 x55 [(20, .slice a28 x27.1.length c29), (21, .int .i64 x27.2), (29, .slice a41 x40.1.length c42), (30, .int .i64 x40.2), (116, .bool (x55 && ((x21.2.2.2 : Int) == x34.2.2.2)))] (fun h56 => ?_) (fun h56 => ?_) ?_
        · refine sxo_take (os := _) rfl ?_
          refine sxo_isT (k := 112) rfl h56 ?_
          refine sxo_move rfl rfl rfl ?_
          refine sxo_move rfl rfl rfl ?_
          refine sxo_eql rfl rfl rfl rfl ?_
          refine sxo_pick (b := true) rfl rfl rfl rfl ?_
          refine sxo_again (d := 116) (v := .bool (x55 && ((x21.2.2.2 : Int) == x34.2.2.2))) rfl (by rw [h56]; simp only [Bool.true_and]) ?_
          refine sxo_nil ?_
          exact sxq_case (lk_cons rfl (lk_cons rfl (lk_cons rfl (lk_cons rfl (lk_cons rfl lk_nil)))))
        · refine sxo_take (os := _) rfl ?_
          refine sxo_isF (k := 112) rfl h56 ?_
          refine sxo_skip rfl rfl rfl ?_
          refine sxo_skip rfl rfl rfl ?_
          refine sxo_skip rfl rfl rfl ?_
          refine sxo_pick (b := false) rfl rfl rfl rfl ?_
          refine sxo_again (d := 116) (v := .bool (x55 && ((x21.2.2.2 : Int) == x34.2.2.2))) rfl (by rw [h56]; simp only [Bool.false_and]) ?_
          refine sxo_nil ?_
          exact sxq_case (lk_cons rfl (lk_cons rfl (lk_cons rfl (lk_cons rfl (lk_cons rfl lk_nil)))))
        refine sxo_take (os := _) rfl ?_
        refine sxo_move rfl rfl rfl ?_
        refine sxo_join 4 (fun ((x59, _) : (Bool × Unit)) => [(21, .int .i64 x27.2), (30, .int .i64 x40.2), (121, .bool x59)]) (fun ((x59, _) : (Bool × Unit)) => []) (fun ((x59, _) : (Bool × Unit)) => []) (fun ((x59, _) : (Bool × Unit)) => []) (fun ((x59, _) : (Bool × Unit)) => M_L_HuffTells_j4 F x27 x40 x59) ?_ ?_
        · refine sxo_take (os := _) rfl ?_
          refine sxo_if (fun h57 => ?_) (fun h57 => ?_)
          · refine sxo_isT (k := 117) rfl h57 ?_
            refine sxo_move rfl rfl rfl ?_
            refine sxo_move rfl rfl rfl ?_
            refine sxo_call ent20 rfl rfl rfl (fun x61 e61 => C_R_SameInts F x27.1 a28 c29 x40.1 a41 c42 x61 e61) (.consR 0 (Ro (eI .i64) 3 1 (.slice a28 x27.1.length c29) x27.1) rfl (.consR 1 (Ro (eI .i64) 3 1 (.slice a41 x40.1.length c42) x40.1) rfl .nil)) (fun x61 e61 => ?_)
            intro _
            refine sxo_pick (b := true) rfl rfl rfl rfl ?_
            refine sxo_nil ?_
            exact sxq_meetP (x61, ())
          · refine sxo_isF (k := 117) rfl h57 ?_
            refine sxo_skip rfl rfl rfl ?_
            refine sxo_skip rfl rfl rfl ?_
            refine sxo_skip rfl rfl rfl ?_
            refine sxo_pick (b := false) rfl rfl rfl rfl ?_
            refine sxo_nil ?_
            exact sxq_meetP (false, ())
        · rintro ⟨x59, _⟩
          try dsimp only
          refine sxo_take (os := _) rfl ?_
          refine sxo_move rfl rfl rfl ?_
          refine sxo_case 4 x59 [(126, .bool (x59 && ((x27.2 : Int) == x40.2)))] (fun h60 => ?_) (fun h60 => ?_) ?_
          · refine sxo_take (os := _) rfl ?_
            refine sxo_isT (k := 122) rfl h60 ?_
            refine sxo_move rfl rfl rfl ?_
            refine sxo_move rfl rfl rfl ?_
            refine sxo_eql rfl rfl rfl rfl ?_
            refine sxo_pick (b := true) rfl rfl rfl rfl ?_
            refine sxo_again (d := 126) (v := .bool (x59 && ((x27.2 : Int) == x40.2))) rfl (by rw [h60]; simp only [Bool.true_and]) ?_
            refine sxo_nil ?_
            exact sxq_case (lk_cons rfl lk_nil)
          · refine sxo_take (os := _) rfl ?_
            refine sxo_isF (k := 122) rfl h60 ?_
            refine sxo_skip rfl rfl rfl ?_
            refine sxo_skip rfl rfl rfl ?_
            refine sxo_skip rfl rfl rfl ?_
            refine sxo_pick (b := false) rfl rfl rfl rfl ?_
            refine sxo_again (d := 126) (v := .bool (x59 && ((x27.2 : Int) == x40.2))) rfl (by rw [h60]; simp only [Bool.false_and]) ?_
            refine sxo_nil ?_
            exact sxq_case (lk_cons rfl lk_nil)
          refine sxo_take (os := _) rfl ?_
          refine sxo_assign rfl rfl rfl ?_
          refine sxo_nil ?_
          refine sxq_next ?_
          refine sxc_ret ?_
          exact sxq_doneP () (res1 rfl rfl)
end Go.Proofs.Ytilaklhajonenaa
