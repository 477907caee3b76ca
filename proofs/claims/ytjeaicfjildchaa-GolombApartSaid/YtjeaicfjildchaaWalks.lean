/- Each Go function of this seat computes what its model says. -/
import Derived.Test.YtjeaicfjildchaaRows
import Derived.Test.YtjeaicfjildchaaModels
namespace Go.Proofs.Ytjeaicfjildchaa
open Go SX
theorem tf3 : TyF Try.prog 3 false (.int .i64 0) 1 8 := .of (by kernel_rfl) (by kernel_rfl)
theorem tf4 : TyF Try.prog 4 false (.bool false) 1 1 := .of (by kernel_rfl) (by kernel_rfl)
theorem tf5 : TyF Try.prog 5 false (.int .u8 0) 1 1 := .of (by kernel_rfl) (by kernel_rfl)
theorem tf22 : TyF Try.prog 22 false (.int .u64 0) 1 8 := .of (by kernel_rfl) (by kernel_rfl)
theorem tf23 : TyF Try.prog 23 false (.slice none 0 0) 1 24 := .of (by kernel_rfl) (by kernel_rfl)
theorem tf25 : TyF Try.prog 25 true (.agg #[.int .i64 0, .slice none 0 0]) 2 32 := .of (by kernel_rfl) (by kernel_rfl)
theorem tf88 : TyF Try.prog 88 false (.pointer none) 1 8 := .of (by kernel_rfl) (by kernel_rfl)
theorem ff25_0 : FdF Try.prog 25 0 0 := .of (by kernel_rfl)
theorem ff25_1 : FdF Try.prog 25 1 1 := .of (by kernel_rfl)
theorem ff90_0 : FdF Try.prog 90 0 0 := .of (by kernel_rfl)
theorem st25 : StF Try.prog 25 [(0, 1), (1, 1)] (.agg #[.int .i64 0, .slice none 0 0]) := .of (by kernel_rfl) (by kernel_rfl)
theorem st90 : StF Try.prog 90 [(0, 2)] (.agg #[.int .i64 0, .slice none 0 0]) := .of (by kernel_rfl) (by kernel_rfl)
theorem mixed : Try.prog.follows .mixedOrders = true := by kernel_rfl
theorem ent15 : Enters Try.prog 15 := enters_of Try.func15 rfl rfl
theorem ent16 : Enters Try.prog 16 := enters_of Try.func16 rfl rfl
theorem ent17 : Enters Try.prog 17 := enters_of Try.func17 rfl rfl
theorem ent18 : Enters Try.prog 18 := enters_of Try.func18 rfl rfl
theorem ent19 : Enters Try.prog 19 := enters_of Try.func19 rfl rfl
theorem ent20 : Enters Try.prog 20 := enters_of Try.func20 rfl rfl
theorem ent21 : Enters Try.prog 21 := enters_of Try.func21 rfl rfl
theorem ent22 : Enters Try.prog 22 := enters_of Try.func22 rfl rfl
theorem ent23 : Enters Try.prog 23 := enters_of Try.func23 rfl rfl
theorem ent24 : Enters Try.prog 24 := enters_of Try.func24 rfl rfl
theorem ent25 : Enters Try.prog 25 := enters_of Try.func25 rfl rfl
theorem ent26 : Enters Try.prog 26 := enters_of Try.func26 rfl rfl
theorem ent27 : Enters Try.prog 27 := enters_of Try.func27 rfl rfl
theorem ent28 : Enters Try.prog 28 := enters_of Try.func28 rfl rfl
theorem ent29 : Enters Try.prog 29 := enters_of Try.func29 rfl rfl
theorem ent30 : Enters Try.prog 30 := enters_of Try.func30 rfl rfl
theorem ent31 : Enters Try.prog 31 := enters_of Try.func31 rfl rfl
theorem ent32 : Enters Try.prog 32 := enters_of Try.func32 rfl rfl
theorem ent33 : Enters Try.prog 33 := enters_of Try.func33 rfl rfl
theorem ent34 : Enters Try.prog 34 := enters_of Try.func34 rfl rfl
theorem ent35 : Enters Try.prog 35 := enters_of Try.func35 rfl rfl
theorem ent36 : Enters Try.prog 36 := enters_of Try.func36 rfl rfl
theorem ent37 : Enters Try.prog 37 := enters_of Try.func37 rfl rfl
theorem ent38 : Enters Try.prog 38 := enters_of Try.func38 rfl rfl
theorem ent39 : Enters Try.prog 39 := enters_of Try.func39 rfl rfl
theorem ent40 : Enters Try.prog 40 := enters_of Try.func40 rfl rfl
theorem ent41 : Enters Try.prog 41 := enters_of Try.func41 rfl rfl
theorem ent42 : Enters Try.prog 42 := enters_of Try.func42 rfl rfl
theorem ent43 : Enters Try.prog 43 := enters_of Try.func43 rfl rfl
theorem ent44 : Enters Try.prog 44 := enters_of Try.func44 rfl rfl
theorem ent45 : Enters Try.prog 45 := enters_of Try.func45 rfl rfl
theorem ent50 : Enters Try.prog 50 := enters_of Try.func50 rfl rfl
theorem ent51 : Enters Try.prog 51 := enters_of Try.func51 rfl rfl
theorem ent52 : Enters Try.prog 52 := enters_of Try.func52 rfl rfl
theorem ent53 : Enters Try.prog 53 := enters_of Try.func53 rfl rfl
theorem ent54 : Enters Try.prog 54 := enters_of Try.func54 rfl rfl
theorem ent55 : Enters Try.prog 55 := enters_of Try.func55 rfl rfl
theorem ent56 : Enters Try.prog 56 := enters_of Try.func56 rfl rfl
theorem ent57 : Enters Try.prog 57 := enters_of Try.func57 rfl rfl
theorem ent58 : Enters Try.prog 58 := enters_of Try.func58 rfl rfl
theorem ent59 : Enters Try.prog 59 := enters_of Try.func59 rfl rfl
theorem ent60 : Enters Try.prog 60 := enters_of Try.func60 rfl rfl
theorem ent61 : Enters Try.prog 61 := enters_of Try.func61 rfl rfl
theorem ent62 : Enters Try.prog 62 := enters_of Try.func62 rfl rfl
theorem ent63 : Enters Try.prog 63 := enters_of Try.func63 rfl rfl
theorem ent64 : Enters Try.prog 64 := enters_of Try.func64 rfl rfl
theorem ent65 : Enters Try.prog 65 := enters_of Try.func65 rfl rfl
theorem ent66 : Enters Try.prog 66 := enters_of Try.func66 rfl rfl
theorem ent67 : Enters Try.prog 67 := enters_of Try.func67 rfl rfl
theorem ent68 : Enters Try.prog 68 := enters_of Try.func68 rfl rfl
theorem ent69 : Enters Try.prog 69 := enters_of Try.func69 rfl rfl
theorem ent70 : Enters Try.prog 70 := enters_of Try.func70 rfl rfl
theorem ent71 : Enters Try.prog 71 := enters_of Try.func71 rfl rfl
theorem ent72 : Enters Try.prog 72 := enters_of Try.func72 rfl rfl
theorem ent73 : Enters Try.prog 73 := enters_of Try.func73 rfl rfl
theorem ent74 : Enters Try.prog 74 := enters_of Try.func74 rfl rfl
theorem ent75 : Enters Try.prog 75 := enters_of Try.func75 rfl rfl
theorem ent76 : Enters Try.prog 76 := enters_of Try.func76 rfl rfl
theorem ent77 : Enters Try.prog 77 := enters_of Try.func77 rfl rfl
theorem ent78 : Enters Try.prog 78 := enters_of Try.func78 rfl rfl
theorem ent79 : Enters Try.prog 79 := enters_of Try.func79 rfl rfl
theorem ent80 : Enters Try.prog 80 := enters_of Try.func80 rfl rfl
theorem ent81 : Enters Try.prog 81 := enters_of Try.func81 rfl rfl
theorem ent82 : Enters Try.prog 82 := enters_of Try.func82 rfl rfl
theorem ent83 : Enters Try.prog 83 := enters_of Try.func83 rfl rfl
theorem ent84 : Enters Try.prog 84 := enters_of Try.func84 rfl rfl
theorem ent85 : Enters Try.prog 85 := enters_of Try.func85 rfl rfl
theorem ent86 : Enters Try.prog 86 := enters_of Try.func86 rfl rfl
theorem ent87 : Enters Try.prog 87 := enters_of Try.func87 rfl rfl
theorem ent88 : Enters Try.prog 88 := enters_of Try.func88 rfl rfl
theorem ent89 : Enters Try.prog 89 := enters_of Try.func89 rfl rfl
theorem ent90 : Enters Try.prog 90 := enters_of Try.func90 rfl rfl
theorem ent91 : Enters Try.prog 91 := enters_of Try.func91 rfl rfl
theorem ent92 : Enters Try.prog 92 := enters_of Try.func92 rfl rfl
theorem ent93 : Enters Try.prog 93 := enters_of Try.func93 rfl rfl
theorem ent94 : Enters Try.prog 94 := enters_of Try.func94 rfl rfl
theorem ent95 : Enters Try.prog 95 := enters_of Try.func95 rfl rfl
theorem ent96 : Enters Try.prog 96 := enters_of Try.func96 rfl rfl
theorem ent97 : Enters Try.prog 97 := enters_of Try.func97 rfl rfl
theorem ent98 : Enters Try.prog 98 := enters_of Try.func98 rfl rfl
theorem ent99 : Enters Try.prog 99 := enters_of Try.func99 rfl rfl
theorem ent100 : Enters Try.prog 100 := enters_of Try.func100 rfl rfl
theorem ent101 : Enters Try.prog 101 := enters_of Try.func101 rfl rfl

theorem C_math_bits_Len64 (F : Nat) (x1 : Int) (r : Int) (hm : M_math_bits_Len64 F x1 = some r) :
    Pure Try.prog 92 [.int .u64 x1] [] Unit (fun _ => .int .i64 r) (fun _ => []) (fun _ => []) := by
  refine pure_of Try.func92 rfl Try.ntmps92 rfl hm (fun w => ?_)
  refine sxc_env (l' := [(0, .int .u64 x1)]) rfl ?_
  refine sxc_seq ?_
  refine sxc_region ?_
  refine sxo_assign rfl rfl rfl ?_
  refine sxo_nil ?_
  refine sxq_next ?_
  refine sxc_join (fun (((x3, x4), _) : ((Int × Int) × Unit)) => [(0, .int .u64 x3), (2, .int .i64 x4)]) (fun (((x3, x4), _) : ((Int × Int) × Unit)) => []) (fun (((x3, x4), _) : ((Int × Int) × Unit)) => []) (fun (((x3, x4), _) : ((Int × Int) × Unit)) => []) (fun (((x3, x4), _) : ((Int × Int) × Unit)) => M_math_bits_Len64_j1 F x3 x4) ?_ ?_
  · refine sxc_seq ?_
    refine sxc_region ?_
    refine sxo_move rfl rfl rfl ?_
    refine sxo_geq rfl rfl rfl rfl ?_
    refine sxo_nil ?_
    refine sxq_next ?_
    refine sxc_if rfl (fun h14 => ?_) (fun h14 => ?_)
    · refine sxc_seq ?_
      refine sxc_region ?_
      refine sxo_move rfl rfl rfl ?_
      refine sxo_shr rfl rfl rfl rfl rfl ?_
      refine sxo_assign rfl rfl rfl ?_
      refine sxo_nil ?_
      refine sxq_next ?_
      refine sxc_region ?_
      refine sxo_assign rfl rfl rfl ?_
      refine sxo_nil ?_
      exact sxq_meetP ((ishr .u64 x1 32, 32), ()) (lk_cons rfl (lk_cons rfl lk_nil)) .nil .nil fk_nil
    · refine sxc_skip ?_
      exact sxq_meetP ((x1, 0), ()) (lk_cons rfl (lk_cons rfl lk_nil)) .nil .nil fk_nil
  · rintro ⟨⟨x3, x4⟩, _⟩
    try dsimp only
    refine sxc_join (fun (((x6, x7), _) : ((Int × Int) × Unit)) => [(0, .int .u64 x6), (2, .int .i64 x7)]) (fun (((x6, x7), _) : ((Int × Int) × Unit)) => []) (fun (((x6, x7), _) : ((Int × Int) × Unit)) => []) (fun (((x6, x7), _) : ((Int × Int) × Unit)) => []) (fun (((x6, x7), _) : ((Int × Int) × Unit)) => M_math_bits_Len64_j2 F x6 x7) ?_ ?_
    · refine sxc_seq ?_
      refine sxc_region ?_
      refine sxo_move rfl rfl rfl ?_
      refine sxo_geq rfl rfl rfl rfl ?_
      refine sxo_nil ?_
      refine sxq_next ?_
      refine sxc_if rfl (fun h13 => ?_) (fun h13 => ?_)
      · refine sxc_seq ?_
        refine sxc_region ?_
        refine sxo_move rfl rfl rfl ?_
        refine sxo_shr rfl rfl rfl rfl rfl ?_
        refine sxo_assign rfl rfl rfl ?_
        refine sxo_nil ?_
        refine sxq_next ?_
        refine sxc_region ?_
        refine sxo_move rfl rfl rfl ?_
        refine sxo_add rfl rfl rfl rfl ?_
        refine sxo_assign rfl rfl rfl ?_
        refine sxo_nil ?_
        exact sxq_meetP ((ishr .u64 x3 16, iadd .i64 x4 16), ()) (lk_cons rfl (lk_cons rfl lk_nil)) .nil .nil fk_nil
      · refine sxc_skip ?_
        exact sxq_meetP ((x3, x4), ()) (lk_cons rfl (lk_cons rfl lk_nil)) .nil .nil fk_nil
    · rintro ⟨⟨x6, x7⟩, _⟩
      try dsimp only
      refine sxc_join (fun (((x9, x10), _) : ((Int × Int) × Unit)) => [(0, .int .u64 x9), (2, .int .i64 x10)]) (fun (((x9, x10), _) : ((Int × Int) × Unit)) => []) (fun (((x9, x10), _) : ((Int × Int) × Unit)) => []) (fun (((x9, x10), _) : ((Int × Int) × Unit)) => []) (fun (((x9, x10), _) : ((Int × Int) × Unit)) => M_math_bits_Len64_j3 F x9 x10) ?_ ?_
      · refine sxc_seq ?_
        refine sxc_region ?_
        refine sxo_move rfl rfl rfl ?_
        refine sxo_geq rfl rfl rfl rfl ?_
        refine sxo_nil ?_
        refine sxq_next ?_
        refine sxc_if rfl (fun h12 => ?_) (fun h12 => ?_)
        · refine sxc_seq ?_
          refine sxc_region ?_
          refine sxo_move rfl rfl rfl ?_
          refine sxo_shr rfl rfl rfl rfl rfl ?_
          refine sxo_assign rfl rfl rfl ?_
          refine sxo_nil ?_
          refine sxq_next ?_
          refine sxc_region ?_
          refine sxo_move rfl rfl rfl ?_
          refine sxo_add rfl rfl rfl rfl ?_
          refine sxo_assign rfl rfl rfl ?_
          refine sxo_nil ?_
          exact sxq_meetP ((ishr .u64 x6 8, iadd .i64 x7 8), ()) (lk_cons rfl (lk_cons rfl lk_nil)) .nil .nil fk_nil
        · refine sxc_skip ?_
          exact sxq_meetP ((x6, x7), ()) (lk_cons rfl (lk_cons rfl lk_nil)) .nil .nil fk_nil
      · rintro ⟨⟨x9, x10⟩, _⟩
        try dsimp only
        refine sxc_seq ?_
        refine sxc_region ?_
        refine sxo_move rfl rfl rfl ?_
        refine sxo_move rfl rfl rfl ?_
        refine sxo_conv rfl Try.underlying22 Try.underlying5 rfl rfl ?_
        refine sxo_indexS (xs := ([0, 1, 2, 2, 3, 3, 3, 3, 4, 4, 4, 4, 4, 4, 4, 4, 5, 5, 5, 5, 5, 5, 5, 5, 5, 5, 5, 5, 5, 5, 5, 5, 6, 6, 6, 6, 6, 6, 6, 6, 6, 6, 6, 6, 6, 6, 6, 6, 6, 6, 6, 6, 6, 6, 6, 6, 6, 6, 6, 6, 6, 6, 6, 6, 7, 7, 7, 7, 7, 7, 7, 7, 7, 7, 7, 7, 7, 7, 7, 7, 7, 7, 7, 7, 7, 7, 7, 7, 7, 7, 7, 7, 7, 7, 7, 7, 7, 7, 7, 7, 7, 7, 7, 7, 7, 7, 7, 7, 7, 7, 7, 7, 7, 7, 7, 7, 7, 7, 7, 7, 7, 7, 7, 7, 7, 7, 7, 7, 8, 8, 8, 8, 8, 8, 8, 8, 8, 8, 8, 8, 8, 8, 8, 8, 8, 8, 8, 8, 8, 8, 8, 8, 8, 8, 8, 8, 8, 8, 8, 8, 8, 8, 8, 8, 8, 8, 8, 8, 8, 8, 8, 8, 8, 8, 8, 8, 8, 8, 8, 8, 8, 8, 8, 8, 8, 8, 8, 8, 8, 8, 8, 8, 8, 8, 8, 8, 8, 8, 8, 8, 8, 8, 8, 8, 8, 8, 8, 8, 8, 8, 8, 8, 8, 8, 8, 8, 8, 8, 8, 8, 8, 8, 8, 8, 8, 8, 8, 8, 8, 8, 8, 8, 8, 8, 8, 8, 8, 8, 8, 8, 8, 8, 8, 8, 8, 8, 8, 8, 8, 8, 8, 8, 8, 8, 8, 8] : List Int)) rfl Try.underlying9 rfl rfl (by kernel_rfl) rfl (fun x11 e11 => ?_)
        refine sxo_conv rfl Try.underlying5 Try.underlying3 rfl rfl ?_
        refine sxo_add rfl rfl rfl rfl ?_
        refine sxo_assign rfl rfl rfl ?_
        refine sxo_nil ?_
        refine sxq_next ?_
        refine sxc_ret ?_
        exact sxq_doneP () (.inl rfl) (res1 rfl rfl) (fun h => by subst h; rfl) (fun h => by subst h; exact .nil)

theorem C_elias_rest (F : Nat) (x1 : Int) (r : Int) (hm : M_elias_rest F x1 = some r) :
    Pure Try.prog 59 [.int .u64 x1] [] Unit (fun _ => .int .i64 r) (fun _ => []) (fun _ => []) := by
  refine pure_of Try.func59 rfl Try.ntmps59 rfl hm (fun w => ?_)
  refine sxc_env (l' := [(0, .int .u64 x1)]) rfl ?_
  refine sxc_seq ?_
  refine sxc_region ?_
  refine sxo_assign rfl rfl rfl ?_
  refine sxo_nil ?_
  refine sxq_next ?_
  refine sxc_seq ?_
  refine sxc_region ?_
  refine sxo_move rfl rfl rfl ?_
  refine sxo_add rfl rfl rfl rfl ?_
  refine sxo_call ent92 rfl rfl rfl (fun x2 e2 => C_math_bits_Len64 F (iadd .u64 x1 1) x2 e2) .nil (fun x2 e2 => ?_)
  intro _
  refine sxo_sub rfl rfl rfl rfl ?_
  refine sxo_assign rfl rfl rfl ?_
  refine sxo_nil ?_
  refine sxq_next ?_
  refine sxc_ret ?_
  exact sxq_doneP () (.inl rfl) (res1 rfl rfl) (fun h => by subst h; rfl) (fun h => by subst h; exact .nil)

theorem C_slices_Clone_byte_byte (F : Nat) (x1 : List Int) (a2 : Option Addr) (c3 : Nat) (r : List Int) (hm : M_slices_Clone_byte_byte F x1 = some r) :
    Pure Try.prog 101 [.slice a2 x1.length c3] [Sl (eI .u8) 1 (.slice a2 x1.length c3) x1] (Option Addr × Nat) (fun g => .slice g.1 r.length g.2) (fun g => [Ro (eI .u8) 5 1 (.slice g.1 r.length g.2) r]) (fun _ => []) := by
  refine pure_of Try.func101 rfl Try.ntmps101 rfl hm (fun w => ?_)
  refine sxc_env (l' := [(0, .slice a2 x1.length c3)]) rfl ?_
  refine sxc_seq ?_
  refine sxc_region ?_
  refine sxo_assign rfl rfl rfl ?_
  refine sxo_nil ?_
  refine sxq_next ?_
  refine sxc_seq ?_
  refine sxc_seq ?_
  refine sxc_region ?_
  refine sxo_move rfl rfl rfl ?_
  refine sxo_eqnil rfl Try.underlying23 rfl rfl rfl ?_
  refine sxo_nil ?_
  refine sxq_next ?_
  refine sxc_cond rfl (fun h11 => ?_) (fun h11 => ?_)
  · refine sxc_nilx 0 (eI_ok .u8) (by decide) rfl h11 (fun h12 => ?_)
    subst h12
    refine sxc_meq (m' := some ([] : List Int)) rfl ?_
    refine sxc_seq ?_
    refine sxc_region ?_
    refine sxo_assign rfl rfl rfl ?_
    refine sxo_nil ?_
    refine sxq_next ?_
    refine sxc_ret ?_
    refine sxq_thenR ?_
    refine sxq_nilrow Int (eI .u8) 5 1 ?_
    exact sxq_doneP (none, 0) (.inl rfl) (res1 rfl rfl) (fun h => by subst h; rfl) (fun h => by subst h; exact (.cons 0 rfl .nil))
  · refine sxc_skip ?_
    refine sxq_next ?_
    refine sxc_seq ?_
    refine sxc_region ?_
    refine sxo_slit (vs := []) (ys := ([] : List Int)) (eI_ok .u8) (by decide) rfl Try.underlying23 tf5 rfl rfl rfl rfl rfl (by decide) (fun a6 c7 => ?_)
    refine sxo_move rfl rfl rfl ?_
    refine sxo_app 0 (eI_ok .u8) rfl Try.underlying23 tf5 rfl rfl rfl rfl rfl (.inr ⟨0, rfl⟩) rfl rfl (fun x8 e8 a9 c10 => ?_)
    refine sxo_assign rfl rfl rfl ?_
    refine sxo_nil ?_
    refine sxq_next ?_
    refine sxc_ret ?_
    exact sxq_doneP (a9, c10) (.inl rfl) (res1 rfl rfl) (fun h => by subst h; rfl) (fun h => by subst h; exact (.cons 0 rfl .nil))

theorem C_bits_own (F : Nat) (x1 : Int) (x2 : List Int) (a3 : Option Addr) (c4 : Nat) (r : (Int × List Int)) (hm : M_bits_own F x1 x2 = some r) :
    PureM Try.prog 97 [.agg #[.int .i64 x1, .slice a3 x2.length c4]] [] [] [Sl (eI .u8) 1 (.slice a3 x2.length c4) x2] ((Option Addr × Nat) × Nat) (fun g => .pointer (some ⟨g.2, 0, none⟩)) (fun g => [⟨g.2, 90, [.int .i64 r.1, .slice g.1.1 r.2.length g.1.2]⟩]) (fun g => [Ro (eI .u8) 5 1 (.slice g.1.1 r.2.length g.1.2) r.2]) := by
  refine pureM_of Try.func97 rfl Try.ntmps97 rfl hm (fun w => ?_)
  refine sxc_env (l' := [(0, .agg #[.int .i64 x1, .slice a3 x2.length c4])]) rfl ?_
  refine sxc_seq ?_
  refine sxc_region ?_
  refine sxo_box rfl rfl rfl (fun g5 => ?_)
  refine sxo_assign rfl rfl rfl ?_
  refine sxo_nil ?_
  refine sxq_next ?_
  refine sxc_seq ?_
  refine sxb_draw mixed [] [⟨g5, 25, [.int .i64 x1, .slice a3 x2.length c4]⟩] [Sl (eI .u8) 1 (.slice a3 x2.length c4) x2] (.cons 0 rfl .nil) (gk_F 0 rfl gk_nil) 9 rfl ?_
  refine sxb_takeP 0 (.pointer (some ⟨g5, 0, none⟩)) rfl rfl rfl rfl (by kernel_rfl) (by kernel_rfl) (by kernel_rfl) (by kernel_rfl) (by kernel_rfl) rfl (show _ = #[true, false, false, false, false, false, false, false, false] from rfl) (yv_fieldAddr rfl ff25_0) ?_
  refine sxb_take 1 (.int .i64 x1) [] rfl rfl rfl rfl (by kernel_rfl) (by kernel_rfl) (by kernel_rfl) (by kernel_rfl) (by kernel_rfl) (by kernel_rfl) rfl (show _ = #[true, true, false, false, false, false, false, false, false] from rfl) (yv_loadB (i := 0) rfl tf3 rfl rfl (fun _ => rfl) rfl) ?_
  refine sxb_takeP 2 (.pointer (some ⟨g5, 1, none⟩)) rfl rfl rfl rfl (by kernel_rfl) (by kernel_rfl) (by kernel_rfl) (by kernel_rfl) (by kernel_rfl) rfl (show _ = #[true, true, true, false, false, false, false, false, false] from rfl) (yv_fieldAddr rfl ff25_1) ?_
  refine sxb_take 3 (.slice a3 x2.length c4) [] rfl rfl rfl rfl (by kernel_rfl) (by kernel_rfl) (by kernel_rfl) (by kernel_rfl) (by kernel_rfl) (by kernel_rfl) rfl (show _ = #[true, true, true, true, false, false, false, false, false] from rfl) (yv_loadB (i := 0) rfl tf23 rfl rfl (fun _ => rfl) rfl) ?_
  refine sxb_step 4 rfl (by kernel_rfl) (show _ = #[true, true, true, true, true, false, false, false, false] from rfl) ?_
  refine sxo_call ent101 rfl rfl rfl (fun x10 e10 => C_slices_Clone_byte_byte F x2 a3 c4 x10 e10) (.consF 0 rfl .nil) (fun x10 e10 => ?_)
  rintro ⟨a11, c12⟩
  refine sxo_nil ?_
  refine sxq_anyB (.cons 0 rfl .nil) (gk_F 0 rfl gk_nil) ?_
  refine sxb_step 5 rfl (by kernel_rfl) (show _ = #[true, true, true, true, true, true, false, false, false] from rfl) ?_
  refine sxo_build (cells := [.int .i64 x1, .slice a11 x10.length c12]) rfl st25 rfl (by kernel_rfl) rfl ?_
  refine sxo_nil ?_
  refine sxq_anyB (.cons 0 rfl .nil) (gk_F 0 rfl gk_nil) ?_
  refine sxb_step 6 rfl (by kernel_rfl) (show _ = #[true, true, true, true, true, true, true, false, false] from rfl) ?_
  refine sxo_build (cells := [.int .i64 x1, .slice a11 x10.length c12]) rfl st90 rfl (by kernel_rfl) rfl ?_
  refine sxo_nil ?_
  refine sxq_anyB (.cons 0 rfl .nil) (gk_F 0 rfl gk_nil) ?_
  refine sxb_step 7 rfl (by kernel_rfl) (show _ = #[true, true, true, true, true, true, true, true, false] from rfl) ?_
  refine sxo_box rfl rfl rfl (fun g13 => ?_)
  refine sxo_nil ?_
  refine sxq_anyB (.cons 1 rfl .nil) (gk_F 0 rfl gk_nil) ?_
  refine sxb_takeP 8 (.pointer (some ⟨g13, 0, none⟩)) rfl rfl rfl rfl (by kernel_rfl) (by kernel_rfl) (by kernel_rfl) (by kernel_rfl) (by kernel_rfl) rfl (show _ = #[true, true, true, true, true, true, true, true, true] from rfl) (yv_pv rfl) ?_
  refine sxb_done (by kernel_rfl) ?_
  refine sxq_np ?_ (by intro c h; cases h)
  refine sxq_next ?_
  refine sxc_ret ?_
  exact sxq_doneM ((a11, c12), g13) (.inl rfl) (res1 rfl rfl) (fun h => by subst h; rfl) (fun h => by subst h; exact (.cons 0 rfl .nil)) (fun h => by subst h; exact (.cons 0 rfl .nil))

theorem C_bits_writer_bit (F : Nat) (g1 : Nat) (x2 : Int) (x3 : List Int) (a4 : Option Addr) (c5 : Nat) (x6 : Int) (r : (Int × List Int)) (hm : M_bits_writer_bit F x2 x3 x6 = some r) :
    PureM Try.prog 81 [.pointer (some ⟨g1, 0, none⟩), .int .u64 x6] [⟨g1, 90, [.int .i64 x2, .slice a4 x3.length c5]⟩] [Ro (eI .u8) 5 1 (.slice a4 x3.length c5) x3] [] (Option Addr × Nat) (fun _ => .tuple #[]) (fun g => [⟨g1, 90, [.int .i64 r.1, .slice g.1 r.2.length g.2]⟩]) (fun g => [Ro (eI .u8) 5 1 (.slice g.1 r.2.length g.2) r.2]) := by
  refine pureM_of Try.func81 rfl Try.ntmps81 rfl hm (fun w => ?_)
  refine sxc_env (l' := [(0, .pointer (some ⟨g1, 0, none⟩)), (1, .int .u64 x6)]) rfl ?_
  refine sxc_join (fun ((x15, (a13, c14)) : (List Int × (Option Addr × Nat))) => [(0, .pointer (some ⟨g1, 0, none⟩)), (1, .int .u64 x6)]) (fun ((x15, (a13, c14)) : (List Int × (Option Addr × Nat))) => [⟨g1, 90, [.int .i64 x2, .slice a13 x15.length c14]⟩]) (fun ((x15, (a13, c14)) : (List Int × (Option Addr × Nat))) => [Ro (eI .u8) 5 1 (.slice a13 x15.length c14) x15]) (fun ((x15, (a13, c14)) : (List Int × (Option Addr × Nat))) => []) (fun ((x15, _) : (List Int × (Option Addr × Nat))) => M_bits_writer_bit_j1 F x2 x6 x15) ?_ ?_
  · refine sxc_seq ?_
    refine sxc_region ?_
    refine sxo_move rfl rfl rfl ?_
    refine sxo_nilCheck rfl rfl rfl ?_
    refine sxo_fieldAddr rfl rfl ff90_0 rfl ?_
    refine sxo_fieldAddr rfl rfl ff25_0 rfl ?_
    refine sxo_loadB (i := 0) rfl rfl tf3 rfl rfl (fun _ => rfl) rfl rfl ?_
    refine sxo_rem rfl rfl rfl rfl rfl ?_
    refine sxo_eql rfl rfl rfl rfl ?_
    refine sxo_nil ?_
    refine sxq_next ?_
    refine sxc_if rfl (fun h49 => ?_) (fun h49 => ?_)
    · refine sxc_region ?_
      refine sxo_move rfl rfl rfl ?_
      refine sxo_move rfl rfl rfl ?_
      refine sxo_nilCheck rfl rfl rfl ?_
      refine sxo_fieldAddr rfl rfl ff90_0 rfl ?_
      refine sxo_fieldAddr rfl rfl ff25_1 rfl ?_
      refine sxo_loadB (i := 0) rfl rfl tf23 rfl rfl (fun _ => rfl) rfl rfl ?_
      refine sxo_slit (vs := [.int .u8 0]) (ys := ([0] : List Int)) (eI_ok .u8) (by decide) rfl Try.underlying23 tf5 rfl rfl rfl rfl rfl (by decide) (fun a44 c45 => ?_)
      refine sxo_app 1 (eI_ok .u8) rfl Try.underlying23 tf5 rfl rfl rfl rfl rfl (.inl ⟨0, _, rfl⟩) rfl rfl (fun x46 e46 a47 c48 => ?_)
      refine sxo_nilCheck rfl rfl rfl ?_
      refine sxo_fieldAddr rfl rfl ff90_0 rfl ?_
      refine sxo_fieldAddr rfl rfl ff25_1 rfl ?_
      refine sxo_storeB (i := 0) rfl rfl rfl tf23 rfl rfl rfl rfl rfl ?_
      refine sxo_nil ?_
      exact sxq_meetP (x46, (a47, c48)) (lk_cons rfl (lk_cons rfl lk_nil)) (.cons 0 rfl .nil) (.cons 0 rfl .nil) fk_nil
    · refine sxc_skip ?_
      exact sxq_meetP (x3, (a4, c5)) (lk_cons rfl (lk_cons rfl lk_nil)) (.cons 0 rfl .nil) (.cons 0 rfl .nil) fk_nil
  · rintro ⟨x15, ⟨a13, c14⟩⟩
    try dsimp only
    refine sxc_seq ?_
    refine sxc_idxO (j := 0) rfl (fun x30 e30 g31 h32 => ?_)
    replace h32 : a13 = some ⟨g31, 0, none⟩ := h32
    have h33 := own_of (k := x15.length) (c := c14) h32
    refine sxc_chk (fun h34 => ?_)
    refine sxc_idxO (j := 0) rfl (fun x36 e36 g37 h38 => ?_)
    replace h38 : a13 = some ⟨g37, 0, none⟩ := h38
    have h39 := own_of (k := x15.length) (c := c14) h38
    refine sxb_draw mixed [25] [⟨g1, 90, [.int .i64 x2, .slice a13 x15.length c14]⟩] [CellsAt g31 ((iquo .i64 x2 8).toNat * 1) ((eI .u8) x30), CellsAt g37 ((iquo .i64 x2 8).toNat * 1) ((eI .u8) x36)] (.cons 0 rfl .nil) (gk_R 0 rfl (at_row (eI_ok .u8) e30 h32) (gk_R 0 rfl (at_row (eI_ok .u8) e36 h38) gk_nil)) 26 rfl ?_
    refine sxb_takeP 0 (.pointer (some ⟨g1, 0, none⟩)) rfl rfl rfl rfl (by kernel_rfl) (by kernel_rfl) (by kernel_rfl) (by kernel_rfl) (by kernel_rfl) rfl (show _ = #[true, false, false, false, false, false, false, false, false, false, false, false, false, false, false, false, false, false, false, false, false, false, false, false, false, false] from rfl) (yv_pv rfl) ?_
    refine sxb_takeP 1 (.pointer (some ⟨g1, 0, none⟩)) rfl rfl rfl rfl (by kernel_rfl) (by kernel_rfl) (by kernel_rfl) (by kernel_rfl) (by kernel_rfl) rfl (show _ = #[true, true, false, false, false, false, false, false, false, false, false, false, false, false, false, false, false, false, false, false, false, false, false, false, false, false] from rfl) (yv_pv rfl) ?_
    refine sxb_takeP 2 (.pointer (some ⟨g1, 0, none⟩)) rfl rfl rfl rfl (by kernel_rfl) (by kernel_rfl) (by kernel_rfl) (by kernel_rfl) (by kernel_rfl) rfl (show _ = #[true, true, true, false, false, false, false, false, false, false, false, false, false, false, false, false, false, false, false, false, false, false, false, false, false, false] from rfl) (yv_fieldAddr rfl ff90_0) ?_
    refine sxb_takeP 3 (.pointer (some ⟨g1, 1, none⟩)) rfl rfl rfl rfl (by kernel_rfl) (by kernel_rfl) (by kernel_rfl) (by kernel_rfl) (by kernel_rfl) rfl (show _ = #[true, true, true, true, false, false, false, false, false, false, false, false, false, false, false, false, false, false, false, false, false, false, false, false, false, false] from rfl) (yv_fieldAddr rfl ff25_1) ?_
    refine sxb_take 4 (.slice a13 x15.length c14) [[25]] rfl rfl rfl rfl (by kernel_rfl) (by kernel_rfl) (by kernel_rfl) (by kernel_rfl) (by kernel_rfl) (by kernel_rfl) rfl (show _ = #[true, true, true, true, true, false, false, false, false, false, false, false, false, false, false, false, false, false, false, false, false, false, false, false, false, false] from rfl) (yv_loadB (i := 0) rfl tf23 rfl rfl (fun _ => rfl) rfl) ?_
    refine sxb_takeP 5 (.pointer (some ⟨g1, 0, none⟩)) rfl rfl rfl rfl (by kernel_rfl) (by kernel_rfl) (by kernel_rfl) (by kernel_rfl) (by kernel_rfl) rfl (show _ = #[true, true, true, true, true, true, false, false, false, false, false, false, false, false, false, false, false, false, false, false, false, false, false, false, false, false] from rfl) (yv_pv rfl) ?_
    refine sxb_takeP 6 (.pointer (some ⟨g1, 0, none⟩)) rfl rfl rfl rfl (by kernel_rfl) (by kernel_rfl) (by kernel_rfl) (by kernel_rfl) (by kernel_rfl) rfl (show _ = #[true, true, true, true, true, true, true, false, false, false, false, false, false, false, false, false, false, false, false, false, false, false, false, false, false, false] from rfl) (yv_pv rfl) ?_
    refine sxb_takeP 7 (.pointer (some ⟨g1, 0, none⟩)) rfl rfl rfl rfl (by kernel_rfl) (by kernel_rfl) (by kernel_rfl) (by kernel_rfl) (by kernel_rfl) rfl (show _ = #[true, true, true, true, true, true, true, true, false, false, false, false, false, false, false, false, false, false, false, false, false, false, false, false, false, false] from rfl) (yv_fieldAddr rfl ff90_0) ?_
    refine sxb_takeP 8 (.pointer (some ⟨g1, 0, none⟩)) rfl rfl rfl rfl (by kernel_rfl) (by kernel_rfl) (by kernel_rfl) (by kernel_rfl) (by kernel_rfl) rfl (show _ = #[true, true, true, true, true, true, true, true, true, false, false, false, false, false, false, false, false, false, false, false, false, false, false, false, false, false] from rfl) (yv_fieldAddr rfl ff25_0) ?_
    refine sxb_take 9 (.int .i64 x2) [[25]] rfl rfl rfl rfl (by kernel_rfl) (by kernel_rfl) (by kernel_rfl) (by kernel_rfl) (by kernel_rfl) (by kernel_rfl) rfl (show _ = #[true, true, true, true, true, true, true, true, true, true, false, false, false, false, false, false, false, false, false, false, false, false, false, false, false, false] from rfl) (yv_loadB (i := 0) rfl tf3 rfl rfl (fun _ => rfl) rfl) ?_
    refine sxb_takeP 10 (.int .i64 (iquo .i64 x2 8)) rfl rfl rfl rfl (by kernel_rfl) (by kernel_rfl) (by kernel_rfl) (by kernel_rfl) (by kernel_rfl) rfl (show _ = #[true, true, true, true, true, true, true, true, true, true, true, false, false, false, false, false, false, false, false, false, false, false, false, false, false, false] from rfl) (yv_quo rfl rfl rfl) ?_
    refine sxb_again (d := 26) (v := .slice (some ⟨g31, 0, none⟩) x15.length c14) rfl (by rw [h32]) ?_
    refine sxb_takeP 11 (.pointer (some ⟨g31, (iquo .i64 x2 8).toNat * 1, none⟩)) rfl rfl rfl rfl (by kernel_rfl) (by kernel_rfl) (by kernel_rfl) (by kernel_rfl) (by kernel_rfl) rfl (show _ = #[true, true, true, true, true, true, true, true, true, true, true, true, false, false, false, false, false, false, false, false, false, false, false, false, false, false] from rfl) (yv_idxO Try.underlying23 tf5 rfl rfl (idx_get e30).1 (idx_lt e30)) ?_
    refine sxb_again (d := 26) (v := .slice a13 x15.length c14) rfl (by rw [h32]) ?_
    refine sxb_take 12 (.int .u8 x30) [[25]] rfl rfl rfl rfl (by kernel_rfl) (by kernel_rfl) (by kernel_rfl) (by kernel_rfl) (by kernel_rfl) (by kernel_rfl) rfl (show _ = #[true, true, true, true, true, true, true, true, true, true, true, true, true, false, false, false, false, false, false, false, false, false, false, false, false, false] from rfl) (yv_loadF (j := 0) rfl tf5 rfl rfl (fun _ => rfl) rfl) ?_
    refine sxb_takeP 13 (.int .u64 x6) rfl rfl rfl rfl (by kernel_rfl) (by kernel_rfl) (by kernel_rfl) (by kernel_rfl) (by kernel_rfl) rfl (show _ = #[true, true, true, true, true, true, true, true, true, true, true, true, true, true, false, false, false, false, false, false, false, false, false, false, false, false] from rfl) (yv_pv rfl) ?_
    refine sxb_takeP 14 (.int .u64 (ishl .u64 x6 7)) rfl rfl rfl rfl (by kernel_rfl) (by kernel_rfl) (by kernel_rfl) (by kernel_rfl) (by kernel_rfl) rfl (show _ = #[true, true, true, true, true, true, true, true, true, true, true, true, true, true, true, false, false, false, false, false, false, false, false, false, false, false] from rfl) (yv_shl rfl rfl rfl) ?_
    refine sxb_takeP 15 (.int .u8 (iconv .u8 (ishl .u64 x6 7))) rfl rfl rfl rfl (by kernel_rfl) (by kernel_rfl) (by kernel_rfl) (by kernel_rfl) (by kernel_rfl) rfl (show _ = #[true, true, true, true, true, true, true, true, true, true, true, true, true, true, true, true, false, false, false, false, false, false, false, false, false, false] from rfl) (yv_conv Try.underlying22 Try.underlying5 rfl) ?_
    refine sxb_takeP 16 (.pointer (some ⟨g1, 0, none⟩)) rfl rfl rfl rfl (by kernel_rfl) (by kernel_rfl) (by kernel_rfl) (by kernel_rfl) (by kernel_rfl) rfl (show _ = #[true, true, true, true, true, true, true, true, true, true, true, true, true, true, true, true, true, false, false, false, false, false, false, false, false, false] from rfl) (yv_pv rfl) ?_
    refine sxb_takeP 17 (.pointer (some ⟨g1, 0, none⟩)) rfl rfl rfl rfl (by kernel_rfl) (by kernel_rfl) (by kernel_rfl) (by kernel_rfl) (by kernel_rfl) rfl (show _ = #[true, true, true, true, true, true, true, true, true, true, true, true, true, true, true, true, true, true, false, false, false, false, false, false, false, false] from rfl) (yv_pv rfl) ?_
    refine sxb_takeP 18 (.pointer (some ⟨g1, 0, none⟩)) rfl rfl rfl rfl (by kernel_rfl) (by kernel_rfl) (by kernel_rfl) (by kernel_rfl) (by kernel_rfl) rfl (show _ = #[true, true, true, true, true, true, true, true, true, true, true, true, true, true, true, true, true, true, true, false, false, false, false, false, false, false] from rfl) (yv_fieldAddr rfl ff90_0) ?_
    refine sxb_takeP 19 (.pointer (some ⟨g1, 0, none⟩)) rfl rfl rfl rfl (by kernel_rfl) (by kernel_rfl) (by kernel_rfl) (by kernel_rfl) (by kernel_rfl) rfl (show _ = #[true, true, true, true, true, true, true, true, true, true, true, true, true, true, true, true, true, true, true, true, false, false, false, false, false, false] from rfl) (yv_fieldAddr rfl ff25_0) ?_
    refine sxb_take 20 (.int .i64 x2) [[25]] rfl rfl rfl rfl (by kernel_rfl) (by kernel_rfl) (by kernel_rfl) (by kernel_rfl) (by kernel_rfl) (by kernel_rfl) rfl (show _ = #[true, true, true, true, true, true, true, true, true, true, true, true, true, true, true, true, true, true, true, true, true, false, false, false, false, false] from rfl) (yv_loadB (i := 0) rfl tf3 rfl rfl (fun _ => rfl) rfl) ?_
    refine sxb_takeP 21 (.int .i64 (irem x2 8)) rfl rfl rfl rfl (by kernel_rfl) (by kernel_rfl) (by kernel_rfl) (by kernel_rfl) (by kernel_rfl) rfl (show _ = #[true, true, true, true, true, true, true, true, true, true, true, true, true, true, true, true, true, true, true, true, true, true, false, false, false, false] from rfl) (yv_rem rfl rfl rfl) ?_
    refine sxb_takeP 22 (.int .u8 (ishr .u8 (iconv .u8 (ishl .u64 x6 7)) (irem x2 8))) rfl rfl rfl rfl (by kernel_rfl) (by kernel_rfl) (by kernel_rfl) (by kernel_rfl) (by kernel_rfl) rfl (show _ = #[true, true, true, true, true, true, true, true, true, true, true, true, true, true, true, true, true, true, true, true, true, true, true, false, false, false] from rfl) (yv_shr rfl rfl h34) ?_
    refine sxb_takeP 23 (.int .u8 (ior .u8 x30 (ishr .u8 (iconv .u8 (ishl .u64 x6 7)) (irem x2 8)))) rfl rfl rfl rfl (by kernel_rfl) (by kernel_rfl) (by kernel_rfl) (by kernel_rfl) (by kernel_rfl) rfl (show _ = #[true, true, true, true, true, true, true, true, true, true, true, true, true, true, true, true, true, true, true, true, true, true, true, true, false, false] from rfl) (yv_pv rfl) ?_
    refine sxb_again (d := 26) (v := .slice (some ⟨g37, 0, none⟩) x15.length c14) rfl (by rw [h38]) ?_
    refine sxb_takeP 24 (.pointer (some ⟨g37, (iquo .i64 x2 8).toNat * 1, none⟩)) rfl rfl rfl rfl (by kernel_rfl) (by kernel_rfl) (by kernel_rfl) (by kernel_rfl) (by kernel_rfl) rfl (show _ = #[true, true, true, true, true, true, true, true, true, true, true, true, true, true, true, true, true, true, true, true, true, true, true, true, true, false] from rfl) (yv_idxO Try.underlying23 tf5 rfl rfl (idx_get e36).1 (idx_lt e36)) ?_
    refine sxb_again (d := 26) (v := .slice a13 x15.length c14) rfl (by rw [h38]) ?_
    refine sxb_step 25 rfl (by kernel_rfl) (show _ = #[true, true, true, true, true, true, true, true, true, true, true, true, true, true, true, true, true, true, true, true, true, true, true, true, true, true] from rfl) ?_
    refine sxo_storeL (j := 0) (y' := ior .u8 x30 (ishr .u8 (iconv .u8 (ishl .u64 x6 7)) (irem x2 8))) (eI_ok .u8) rfl rfl rfl tf5 rfl (own_of h38) (idx_get e36).2.1 rfl (fun x41 e41 h42 => ?_)
    have h43 : x41.length = x15.length := by rw [← e41, List.length_set]
    refine sxo_again (d := 26) (v := .slice a13 x41.length c14) rfl h42 ?_
    refine sxo_blkAgain (i := 0) (cs' := [.int .i64 x2, .slice a13 x41.length c14]) rfl (by rw [h42]) ?_
    refine sxo_nil ?_
    refine sxq_anyW 25 rfl rfl ?_
    refine sxb_done (by kernel_rfl) ?_
    refine sxq_np ?_ (by intro c h; cases h)
    refine sxq_next ?_
    refine sxc_region ?_
    refine sxo_move rfl rfl rfl ?_
    refine sxo_nilCheck rfl rfl rfl ?_
    refine sxo_fieldAddr rfl rfl ff90_0 rfl ?_
    refine sxo_fieldAddr rfl rfl ff25_0 rfl ?_
    refine sxo_loadB (i := 0) rfl rfl tf3 rfl rfl (fun _ => rfl) rfl rfl ?_
    refine sxo_add rfl rfl rfl rfl ?_
    refine sxo_nilCheck rfl rfl rfl ?_
    refine sxo_fieldAddr rfl rfl ff90_0 rfl ?_
    refine sxo_fieldAddr rfl rfl ff25_0 rfl ?_
    refine sxo_storeB (i := 0) rfl rfl rfl tf3 rfl rfl rfl rfl rfl ?_
    refine sxo_nil ?_
    exact sxq_doneM (a13, c14) (.inr rfl) (res0 rfl) (fun h => by subst h; rfl) (fun h => by subst h; exact (.cons 0 rfl .nil)) (fun h => by subst h; exact (.cons 0 rfl .nil))

theorem C_bits_writer_number (F : Nat) (g1 : Nat) (x2 : Int) (x3 : List Int) (a4 : Option Addr) (c5 : Nat) (x6 : Int) (x7 : Int) (r : (Int × List Int)) (hm : M_bits_writer_number F x2 x3 x6 x7 = some r) :
    PureM Try.prog 99 [.pointer (some ⟨g1, 0, none⟩), .int .u64 x6, .int .i64 x7] [⟨g1, 90, [.int .i64 x2, .slice a4 x3.length c5]⟩] [Ro (eI .u8) 5 1 (.slice a4 x3.length c5) x3] [] (Option Addr × Nat) (fun _ => .tuple #[]) (fun g => [⟨g1, 90, [.int .i64 r.1, .slice g.1 r.2.length g.2]⟩]) (fun g => [Ro (eI .u8) 5 1 (.slice g.1 r.2.length g.2) r.2]) := by
  refine pureM_of Try.func99 rfl Try.ntmps99 rfl hm (fun w => ?_)
  refine sxc_env (l' := [(0, .pointer (some ⟨g1, 0, none⟩)), (1, .int .u64 x6), (2, .int .i64 x7)]) rfl ?_
  refine sxc_seq ?_
  refine sxc_region ?_
  refine sxo_move rfl rfl rfl ?_
  refine sxo_sub rfl rfl rfl rfl ?_
  refine sxo_assign rfl rfl rfl ?_
  refine sxo_nil ?_
  refine sxq_next ?_
  refine sxc_block ?_
  refine sxc_loopP (fun (((x18, x19, x22), (a20, c21)) : ((Int × Int × List Int) × (Option Addr × Nat))) => [(0, .pointer (some ⟨g1, 0, none⟩)), (1, .int .u64 x6), (6, .int .i64 x18)]) (fun (((x18, x19, x22), (a20, c21)) : ((Int × Int × List Int) × (Option Addr × Nat))) => [⟨g1, 90, [.int .i64 x19, .slice a20 x22.length c21]⟩]) (fun (((x18, x19, x22), (a20, c21)) : ((Int × Int × List Int) × (Option Addr × Nat))) => [Ro (eI .u8) 5 1 (.slice a20 x22.length c21) x22]) (fun (((x18, x19, x22), (a20, c21)) : ((Int × Int × List Int) × (Option Addr × Nat))) => []) (fun k (s : ((Int × Int × List Int) × (Option Addr × Nat))) => M_bits_writer_number_l1 F x6 k s.1) ((isub .i64 x7 1, x2, x3), (a4, c5)) F (lk_cons rfl (lk_cons rfl (lk_cons rfl lk_nil))) (.cons 0 rfl .nil) (.cons 0 rfl .nil) fk_nil (fun _ => rfl) ?_
  intro k33
  rintro ⟨⟨x18, x19, x22⟩, ⟨a20, c21⟩⟩
  try dsimp only
  refine sxc_meq (m' := M_bits_writer_number_b1 F x6 (M_bits_writer_number_l1 F x6 k33) x18 x19 x22) rfl ?_
  refine sxc_seq ?_
  refine sxc_seq ?_
  refine sxc_region ?_
  refine sxo_move rfl rfl rfl ?_
  refine sxo_geq rfl rfl rfl rfl ?_
  refine sxo_nil ?_
  refine sxq_next ?_
  refine sxc_if rfl (fun h43 => ?_) (fun h43 => ?_)
  · refine sxc_skip ?_
    refine sxq_next ?_
    refine sxc_seq ?_
    refine sxc_block ?_
    refine sxc_region ?_
    refine sxo_move rfl rfl rfl ?_
    refine sxo_move rfl rfl rfl ?_
    refine sxo_move rfl rfl rfl ?_
    refine sxo_chk (fun h39 => ?_)
    refine sxo_shr rfl rfl rfl rfl h39 ?_
    refine sxo_and rfl rfl rfl rfl ?_
    refine sxo_callM ent81 rfl rfl rfl (fun x40 e40 => C_bits_writer_bit F g1 x19 x22 a20 c21 (iand .u64 (ishr .u64 x6 x18) 1) x40 e40) (.cons 0 rfl .nil) (.cons 0 rfl .nil) .nil (fun x40 e40 => ?_)
    rintro ⟨a41, c42⟩
    refine sxo_nil ?_
    refine sxq_blkN ?_
    refine sxq_next ?_
    refine sxc_region ?_
    refine sxo_move rfl rfl rfl ?_
    refine sxo_sub rfl rfl rfl rfl ?_
    refine sxo_assign rfl rfl rfl ?_
    refine sxo_nil ?_
    exact sxq_againP ((isub .i64 x18 1, x40.1, x40.2), (a41, c42)) (lk_cons rfl (lk_cons rfl (lk_cons rfl lk_nil))) (.cons 0 rfl .nil) (.cons 0 rfl .nil) fk_nil
  · refine sxc_exit ?_
    refine sxq_thenX ?_
    refine sxq_thenX ?_
    refine sxq_blkX ?_
    exact sxq_doneM (a20, c21) (.inr rfl) (res0 rfl) (fun h => by subst h; rfl) (fun h => by subst h; exact (.cons 0 rfl .nil)) (fun h => by subst h; exact (.cons 0 rfl .nil))

theorem C_bits_Add (F : Nat) (x1 : Int) (x2 : List Int) (a3 : Option Addr) (c4 : Nat) (x5 : Int) (x6 : Int) (r : (Int × List Int)) (hm : M_bits_Add F x1 x2 x5 x6 = some r) :
    Pure Try.prog 87 [.agg #[.int .i64 x1, .slice a3 x2.length c4], .int .u64 x5, .int .i64 x6] [Sl (eI .u8) 1 (.slice a3 x2.length c4) x2] (Option Addr × Nat) (fun g => .agg #[.int .i64 r.1, .slice g.1 r.2.length g.2]) (fun g => [Ro (eI .u8) 5 1 (.slice g.1 r.2.length g.2) r.2]) (fun _ => []) := by
  refine pure_of Try.func87 rfl Try.ntmps87 rfl hm (fun w => ?_)
  refine sxc_env (l' := [(0, .agg #[.int .i64 x1, .slice a3 x2.length c4]), (1, .int .u64 x5), (2, .int .i64 x6)]) rfl ?_
  refine sxc_seq ?_
  refine sxc_region ?_
  refine sxo_box rfl rfl rfl (fun g7 => ?_)
  refine sxo_alloc rfl tf25 rfl (fun g8 => ?_)
  refine sxo_nil ?_
  refine sxq_next ?_
  refine sxc_seq ?_
  refine sxc_region ?_
  refine sxo_loadB (i := 1) rfl rfl tf25 rfl rfl (by simp) rfl rfl ?_
  refine sxo_callM ent97 rfl rfl rfl (fun x9 e9 => C_bits_own F x1 x2 a3 c4 x9 e9) .nil .nil (.consF 0 rfl .nil) (fun x9 e9 => ?_)
  rintro ⟨⟨a10, c11⟩, g12⟩
  refine sxo_assign rfl rfl rfl ?_
  refine sxo_nil ?_
  refine sxq_next ?_
  refine sxc_seq ?_
  refine sxc_region ?_
  refine sxo_move rfl rfl rfl ?_
  refine sxo_move rfl rfl rfl ?_
  refine sxo_move rfl rfl rfl ?_
  refine sxo_callM ent99 rfl rfl rfl (fun x13 e13 => C_bits_writer_number F g12 x9.1 x9.2 a10 c11 x5 x6 x13 e13) (.cons 0 rfl .nil) (.cons 0 rfl .nil) .nil (fun x13 e13 => ?_)
  rintro ⟨a14, c15⟩
  refine sxo_nil ?_
  refine sxq_next ?_
  refine sxc_seq ?_
  refine sxc_region ?_
  refine sxo_move rfl rfl rfl ?_
  refine sxo_nilCheck rfl rfl rfl ?_
  refine sxo_fieldAddr rfl rfl ff90_0 rfl ?_
  refine sxo_loadB (i := 0) rfl rfl tf25 rfl rfl (by simp) rfl rfl ?_
  refine sxo_storeB (i := 1) rfl rfl rfl tf25 rfl rfl rfl rfl rfl ?_
  refine sxo_nil ?_
  refine sxq_next ?_
  refine sxc_ret ?_
  exact sxq_doneP (a14, c15) (.inl rfl) (resL (rs := [.cell 6 25]) rfl (.cell (i := 1) rfl tf25 rfl rfl (by simp) rfl ResOk.nil) rfl) (fun h => by subst h; rfl) (fun h => by subst h; exact (.cons 0 rfl .nil))

theorem C_unary_Raw (F : Nat) (x1 : Int) (r : (Int × List Int)) (hm : M_unary_Raw F x1 = some r) :
    Pure Try.prog 68 [.int .u64 x1] [] (Option Addr × Nat) (fun g => .agg #[.int .i64 r.1, .slice g.1 r.2.length g.2]) (fun g => [Ro (eI .u8) 5 1 (.slice g.1 r.2.length g.2) r.2]) (fun _ => []) := by
  refine pure_of Try.func68 rfl Try.ntmps68 rfl hm (fun w => ?_)
  refine sxc_env (l' := [(0, .int .u64 x1)]) rfl ?_
  refine sxc_seq ?_
  refine sxc_region ?_
  refine sxo_alloc rfl tf25 rfl (fun g2 => ?_)
  refine sxo_nil ?_
  refine sxq_next ?_
  refine sxc_seq ?_
  refine sxc_region ?_
  refine sxo_move rfl rfl rfl ?_
  refine sxo_conv rfl Try.underlying22 Try.underlying3 rfl rfl ?_
  refine sxo_move rfl rfl rfl ?_
  refine sxo_add rfl rfl rfl rfl ?_
  refine sxo_quo rfl rfl rfl rfl rfl ?_
  refine sxo_mk (eI_ok .u8) rfl Try.underlying23 tf5 rfl rfl rfl rfl rfl rfl rfl (fun x3 e3 a4 c5 => ?_)
  refine sxo_build (cells := [.int .i64 (iconv .i64 x1), .slice a4 x3.length c5]) rfl st25 rfl (by kernel_rfl) rfl ?_
  refine sxo_call ent87 rfl rfl rfl (fun x6 e6 => C_bits_Add F (iconv .i64 x1) x3 a4 c5 1 1 x6 e6) (.consR 0 (Ro (eI .u8) 5 1 (.slice a4 x3.length c5) x3) rfl .nil) (fun x6 e6 => ?_)
  rintro ⟨a7, c8⟩
  refine sxo_storeB (i := 0) rfl rfl rfl tf25 rfl rfl rfl rfl rfl ?_
  refine sxo_nil ?_
  refine sxq_next ?_
  refine sxc_ret ?_
  exact sxq_doneP (a7, c8) (.inl rfl) (resL (rs := [.cell 2 25]) rfl (.cell (i := 0) rfl tf25 rfl rfl (by simp) rfl ResOk.nil) rfl) (fun h => by subst h; rfl) (fun h => by subst h; exact (.cons 0 rfl .nil))

theorem C_elias_low (F : Nat) (x1 : Int) (x2 : Int) (r : Int) (hm : M_elias_low F x1 x2 = some r) :
    Pure Try.prog 88 [.int .u64 x1, .int .i64 x2] [] Unit (fun _ => .int .u64 r) (fun _ => []) (fun _ => []) := by
  refine pure_of Try.func88 rfl Try.ntmps88 rfl hm (fun w => ?_)
  refine sxc_env (l' := [(0, .int .u64 x1), (1, .int .i64 x2)]) rfl ?_
  refine sxc_seq ?_
  refine sxc_region ?_
  refine sxo_assign rfl rfl rfl ?_
  refine sxo_nil ?_
  refine sxq_next ?_
  refine sxc_seq ?_
  refine sxc_region ?_
  refine sxo_move rfl rfl rfl ?_
  refine sxo_move rfl rfl rfl ?_
  refine sxo_chk (fun h3 => ?_)
  refine sxo_shl rfl rfl rfl rfl h3 ?_
  refine sxo_sub rfl rfl rfl rfl ?_
  refine sxo_and rfl rfl rfl rfl ?_
  refine sxo_assign rfl rfl rfl ?_
  refine sxo_lett (fun x4 e4 => ?_)
  refine sxo_again (d := 4) (v := .int .u64 x4) rfl (by rw [e4]) ?_
  refine sxo_nil ?_
  refine sxq_next ?_
  refine sxc_ret ?_
  exact sxq_doneP () (.inl rfl) (res1 rfl rfl) (fun h => by subst h; rfl) (fun h => by subst h; exact .nil)

theorem C_elias_RawGamma (F : Nat) (x1 : Int) (r : (Int × List Int)) (hm : M_elias_RawGamma F x1 = some r) :
    Pure Try.prog 54 [.int .u64 x1] [] (Option Addr × Nat) (fun g => .agg #[.int .i64 r.1, .slice g.1 r.2.length g.2]) (fun g => [Ro (eI .u8) 5 1 (.slice g.1 r.2.length g.2) r.2]) (fun _ => []) := by
  refine pure_of Try.func54 rfl Try.ntmps54 rfl hm (fun w => ?_)
  refine sxc_env (l' := [(0, .int .u64 x1)]) rfl ?_
  refine sxc_seq ?_
  refine sxc_region ?_
  refine sxo_alloc rfl tf25 rfl (fun g2 => ?_)
  refine sxo_nil ?_
  refine sxq_next ?_
  refine sxc_seq ?_
  refine sxc_region ?_
  refine sxo_move rfl rfl rfl ?_
  refine sxo_call ent59 rfl rfl rfl (fun x3 e3 => C_elias_rest F x1 x3 e3) .nil (fun x3 e3 => ?_)
  intro _
  refine sxo_assign rfl rfl rfl ?_
  refine sxo_nil ?_
  refine sxq_next ?_
  refine sxc_seq ?_
  refine sxc_region ?_
  refine sxo_move rfl rfl rfl ?_
  refine sxo_conv rfl Try.underlying3 Try.underlying22 rfl rfl ?_
  refine sxo_call ent68 rfl rfl rfl (fun x4 e4 => C_unary_Raw F (iconv .u64 x3) x4 e4) .nil (fun x4 e4 => ?_)
  rintro ⟨a5, c6⟩
  refine sxo_move rfl rfl rfl ?_
  refine sxo_add rfl rfl rfl rfl ?_
  refine sxo_move rfl rfl rfl ?_
  refine sxo_call ent88 rfl rfl rfl (fun x7 e7 => C_elias_low F (iadd .u64 x1 1) x3 x7 e7) .nil (fun x7 e7 => ?_)
  intro _
  refine sxo_move rfl rfl rfl ?_
  refine sxo_call ent87 rfl rfl rfl (fun x8 e8 => C_bits_Add F x4.1 x4.2 a5 c6 x7 x3 x8 e8) (.consR 0 (Ro (eI .u8) 5 1 (.slice a5 x4.2.length c6) x4.2) rfl .nil) (fun x8 e8 => ?_)
  rintro ⟨a9, c10⟩
  refine sxo_storeB (i := 0) rfl rfl rfl tf25 rfl rfl rfl rfl rfl ?_
  refine sxo_nil ?_
  refine sxq_next ?_
  refine sxc_ret ?_
  exact sxq_doneP (a9, c10) (.inl rfl) (resL (rs := [.cell 2 25]) rfl (.cell (i := 0) rfl tf25 rfl rfl (by simp) rfl ResOk.nil) rfl) (fun h => by subst h; rfl) (fun h => by subst h; exact (.cons 0 rfl .nil))

theorem C_elias_code_elias_RawGamma (F : Nat) (x1 : Int) (r : (Int × List Int × Int)) (hm : M_elias_code_elias_RawGamma F x1 = some r) :
    Pure Try.prog 53 [.int .u64 x1, .func (.func 54) #[] #[]] [] (Option Addr × Nat) (fun g => .tuple #[.agg #[.int .i64 r.1, .slice g.1 r.2.1.length g.2], .int .i64 r.2.2]) (fun g => [Ro (eI .u8) 5 1 (.slice g.1 r.2.1.length g.2) r.2.1]) (fun _ => []) := by
  refine pure_of Try.func53 rfl Try.ntmps53 rfl hm (fun w => ?_)
  refine sxc_env (l' := [(0, .int .u64 x1), (1, .func (.func 54) #[] #[])]) rfl ?_
  refine sxc_seq ?_
  refine sxc_region ?_
  refine sxo_alloc rfl tf25 rfl (fun g2 => ?_)
  refine sxo_assign rfl rfl rfl ?_
  refine sxo_nil ?_
  refine sxq_next ?_
  refine sxc_seq ?_
  refine sxc_seq ?_
  refine sxc_region ?_
  refine sxo_move rfl rfl rfl ?_
  refine sxo_gtr rfl rfl rfl rfl ?_
  refine sxo_nil ?_
  refine sxq_next ?_
  refine sxc_if rfl (fun h7 => ?_) (fun h7 => ?_)
  · refine sxc_seq ?_
    refine sxc_region ?_
    refine sxo_build (cells := [.int .i64 0, .slice none 0 0]) rfl st25 rfl (by kernel_rfl) rfl ?_
    refine sxo_storeB (i := 0) rfl rfl rfl tf25 rfl rfl rfl rfl rfl ?_
    refine sxo_assign rfl rfl rfl ?_
    refine sxo_nil ?_
    refine sxq_next ?_
    refine sxc_ret ?_
    refine sxq_thenR ?_
    refine sxq_nilrow Int (eI .u8) 5 1 ?_
    exact sxq_doneP (none, 0) (.inl rfl) (resL (rs := [.cell 4 25, .tmp 5]) rfl (.cell (i := 0) rfl tf25 rfl rfl (by simp) rfl (.tmp rfl ResOk.nil)) rfl) (fun h => by subst h; rfl) (fun h => by subst h; exact (.cons 0 rfl .nil))
  · refine sxc_skip ?_
    refine sxq_next ?_
    refine sxc_seq ?_
    refine sxc_region ?_
    refine sxo_move rfl rfl rfl ?_
    refine sxo_move rfl rfl rfl ?_
    refine sxo_callV ent54 rfl rfl rfl rfl (fun x4 e4 => C_elias_RawGamma F x1 x4 e4) .nil (fun x4 e4 => ?_)
    rintro ⟨a5, c6⟩
    refine sxo_storeB (i := 0) rfl rfl rfl tf25 rfl rfl rfl rfl rfl ?_
    refine sxo_assign rfl rfl rfl ?_
    refine sxo_nil ?_
    refine sxq_next ?_
    refine sxc_ret ?_
    exact sxq_doneP (a5, c6) (.inl rfl) (resL (rs := [.cell 4 25, .tmp 5]) rfl (.cell (i := 0) rfl tf25 rfl rfl (by simp) rfl (.tmp rfl ResOk.nil)) rfl) (fun h => by subst h; rfl) (fun h => by subst h; exact (.cons 0 rfl .nil))

theorem C_elias_Gamma (F : Nat) (x1 : Int) (r : (Int × List Int × Int)) (hm : M_elias_Gamma F x1 = some r) :
    Pure Try.prog 15 [.int .u64 x1] [] (Option Addr × Nat) (fun g => .tuple #[.agg #[.int .i64 r.1, .slice g.1 r.2.1.length g.2], .int .i64 r.2.2]) (fun g => [Ro (eI .u8) 5 1 (.slice g.1 r.2.1.length g.2) r.2.1]) (fun _ => []) := by
  refine pure_of Try.func15 rfl Try.ntmps15 rfl hm (fun w => ?_)
  refine sxc_env (l' := [(0, .int .u64 x1)]) rfl ?_
  refine sxc_seq ?_
  refine sxc_region ?_
  refine sxo_alloc rfl tf25 rfl (fun g2 => ?_)
  refine sxo_assign rfl rfl rfl ?_
  refine sxo_nil ?_
  refine sxq_next ?_
  refine sxc_seq ?_
  refine sxc_region ?_
  refine sxo_move rfl rfl rfl ?_
  refine sxo_call ent53 rfl rfl rfl (fun x3 e3 => C_elias_code_elias_RawGamma F x1 x3 e3) .nil (fun x3 e3 => ?_)
  rintro ⟨a4, c5⟩
  refine sxo_extract rfl rfl rfl rfl ?_
  refine sxo_extract rfl rfl rfl rfl ?_
  refine sxo_storeB (i := 0) rfl rfl rfl tf25 rfl rfl rfl rfl rfl ?_
  refine sxo_assign rfl rfl rfl ?_
  refine sxo_nil ?_
  refine sxq_next ?_
  refine sxc_ret ?_
  exact sxq_doneP (a4, c5) (.inl rfl) (resL (rs := [.cell 2 25, .tmp 3]) rfl (.cell (i := 0) rfl tf25 rfl rfl (by simp) rfl (.tmp rfl ResOk.nil)) rfl) (fun h => by subst h; rfl) (fun h => by subst h; exact (.cons 0 rfl .nil))

theorem C_elias_RawDelta (F : Nat) (x1 : Int) (r : (Int × List Int)) (hm : M_elias_RawDelta F x1 = some r) :
    Pure Try.prog 55 [.int .u64 x1] [] (Option Addr × Nat) (fun g => .agg #[.int .i64 r.1, .slice g.1 r.2.length g.2]) (fun g => [Ro (eI .u8) 5 1 (.slice g.1 r.2.length g.2) r.2]) (fun _ => []) := by
  refine pure_of Try.func55 rfl Try.ntmps55 rfl hm (fun w => ?_)
  refine sxc_env (l' := [(0, .int .u64 x1)]) rfl ?_
  refine sxc_seq ?_
  refine sxc_region ?_
  refine sxo_alloc rfl tf25 rfl (fun g2 => ?_)
  refine sxo_nil ?_
  refine sxq_next ?_
  refine sxc_seq ?_
  refine sxc_region ?_
  refine sxo_move rfl rfl rfl ?_
  refine sxo_call ent59 rfl rfl rfl (fun x3 e3 => C_elias_rest F x1 x3 e3) .nil (fun x3 e3 => ?_)
  intro _
  refine sxo_assign rfl rfl rfl ?_
  refine sxo_nil ?_
  refine sxq_next ?_
  refine sxc_seq ?_
  refine sxc_region ?_
  refine sxo_move rfl rfl rfl ?_
  refine sxo_conv rfl Try.underlying3 Try.underlying22 rfl rfl ?_
  refine sxo_call ent54 rfl rfl rfl (fun x4 e4 => C_elias_RawGamma F (iconv .u64 x3) x4 e4) .nil (fun x4 e4 => ?_)
  rintro ⟨a5, c6⟩
  refine sxo_move rfl rfl rfl ?_
  refine sxo_add rfl rfl rfl rfl ?_
  refine sxo_move rfl rfl rfl ?_
  refine sxo_call ent88 rfl rfl rfl (fun x7 e7 => C_elias_low F (iadd .u64 x1 1) x3 x7 e7) .nil (fun x7 e7 => ?_)
  intro _
  refine sxo_move rfl rfl rfl ?_
  refine sxo_call ent87 rfl rfl rfl (fun x8 e8 => C_bits_Add F x4.1 x4.2 a5 c6 x7 x3 x8 e8) (.consR 0 (Ro (eI .u8) 5 1 (.slice a5 x4.2.length c6) x4.2) rfl .nil) (fun x8 e8 => ?_)
  rintro ⟨a9, c10⟩
  refine sxo_storeB (i := 0) rfl rfl rfl tf25 rfl rfl rfl rfl rfl ?_
  refine sxo_nil ?_
  refine sxq_next ?_
  refine sxc_ret ?_
  exact sxq_doneP (a9, c10) (.inl rfl) (resL (rs := [.cell 2 25]) rfl (.cell (i := 0) rfl tf25 rfl rfl (by simp) rfl ResOk.nil) rfl) (fun h => by subst h; rfl) (fun h => by subst h; exact (.cons 0 rfl .nil))

theorem C_elias_code_elias_RawDelta (F : Nat) (x1 : Int) (r : (Int × List Int × Int)) (hm : M_elias_code_elias_RawDelta F x1 = some r) :
    Pure Try.prog 53 [.int .u64 x1, .func (.func 55) #[] #[]] [] (Option Addr × Nat) (fun g => .tuple #[.agg #[.int .i64 r.1, .slice g.1 r.2.1.length g.2], .int .i64 r.2.2]) (fun g => [Ro (eI .u8) 5 1 (.slice g.1 r.2.1.length g.2) r.2.1]) (fun _ => []) := by
  refine pure_of Try.func53 rfl Try.ntmps53 rfl hm (fun w => ?_)
  refine sxc_env (l' := [(0, .int .u64 x1), (1, .func (.func 55) #[] #[])]) rfl ?_
  refine sxc_seq ?_
  refine sxc_region ?_
  refine sxo_alloc rfl tf25 rfl (fun g2 => ?_)
  refine sxo_assign rfl rfl rfl ?_
  refine sxo_nil ?_
  refine sxq_next ?_
  refine sxc_seq ?_
  refine sxc_seq ?_
  refine sxc_region ?_
  refine sxo_move rfl rfl rfl ?_
  refine sxo_gtr rfl rfl rfl rfl ?_
  refine sxo_nil ?_
  refine sxq_next ?_
  refine sxc_if rfl (fun h7 => ?_) (fun h7 => ?_)
  · refine sxc_seq ?_
    refine sxc_region ?_
    refine sxo_build (cells := [.int .i64 0, .slice none 0 0]) rfl st25 rfl (by kernel_rfl) rfl ?_
    refine sxo_storeB (i := 0) rfl rfl rfl tf25 rfl rfl rfl rfl rfl ?_
    refine sxo_assign rfl rfl rfl ?_
    refine sxo_nil ?_
    refine sxq_next ?_
    refine sxc_ret ?_
    refine sxq_thenR ?_
    refine sxq_nilrow Int (eI .u8) 5 1 ?_
    exact sxq_doneP (none, 0) (.inl rfl) (resL (rs := [.cell 4 25, .tmp 5]) rfl (.cell (i := 0) rfl tf25 rfl rfl (by simp) rfl (.tmp rfl ResOk.nil)) rfl) (fun h => by subst h; rfl) (fun h => by subst h; exact (.cons 0 rfl .nil))
  · refine sxc_skip ?_
    refine sxq_next ?_
    refine sxc_seq ?_
    refine sxc_region ?_
    refine sxo_move rfl rfl rfl ?_
    refine sxo_move rfl rfl rfl ?_
    refine sxo_callV ent55 rfl rfl rfl rfl (fun x4 e4 => C_elias_RawDelta F x1 x4 e4) .nil (fun x4 e4 => ?_)
    rintro ⟨a5, c6⟩
    refine sxo_storeB (i := 0) rfl rfl rfl tf25 rfl rfl rfl rfl rfl ?_
    refine sxo_assign rfl rfl rfl ?_
    refine sxo_nil ?_
    refine sxq_next ?_
    refine sxc_ret ?_
    exact sxq_doneP (a5, c6) (.inl rfl) (resL (rs := [.cell 4 25, .tmp 5]) rfl (.cell (i := 0) rfl tf25 rfl rfl (by simp) rfl (.tmp rfl ResOk.nil)) rfl) (fun h => by subst h; rfl) (fun h => by subst h; exact (.cons 0 rfl .nil))

theorem C_elias_Delta (F : Nat) (x1 : Int) (r : (Int × List Int × Int)) (hm : M_elias_Delta F x1 = some r) :
    Pure Try.prog 16 [.int .u64 x1] [] (Option Addr × Nat) (fun g => .tuple #[.agg #[.int .i64 r.1, .slice g.1 r.2.1.length g.2], .int .i64 r.2.2]) (fun g => [Ro (eI .u8) 5 1 (.slice g.1 r.2.1.length g.2) r.2.1]) (fun _ => []) := by
  refine pure_of Try.func16 rfl Try.ntmps16 rfl hm (fun w => ?_)
  refine sxc_env (l' := [(0, .int .u64 x1)]) rfl ?_
  refine sxc_seq ?_
  refine sxc_region ?_
  refine sxo_alloc rfl tf25 rfl (fun g2 => ?_)
  refine sxo_assign rfl rfl rfl ?_
  refine sxo_nil ?_
  refine sxq_next ?_
  refine sxc_seq ?_
  refine sxc_region ?_
  refine sxo_move rfl rfl rfl ?_
  refine sxo_call ent53 rfl rfl rfl (fun x3 e3 => C_elias_code_elias_RawDelta F x1 x3 e3) .nil (fun x3 e3 => ?_)
  rintro ⟨a4, c5⟩
  refine sxo_extract rfl rfl rfl rfl ?_
  refine sxo_extract rfl rfl rfl rfl ?_
  refine sxo_storeB (i := 0) rfl rfl rfl tf25 rfl rfl rfl rfl rfl ?_
  refine sxo_assign rfl rfl rfl ?_
  refine sxo_nil ?_
  refine sxq_next ?_
  refine sxc_ret ?_
  exact sxq_doneP (a4, c5) (.inl rfl) (resL (rs := [.cell 2 25, .tmp 3]) rfl (.cell (i := 0) rfl tf25 rfl rfl (by simp) rfl (.tmp rfl ResOk.nil)) rfl) (fun h => by subst h; rfl) (fun h => by subst h; exact (.cons 0 rfl .nil))

theorem C_bits_Check (F : Nat) (x1 : Int) (x2 : List Int) (a3 : Option Addr) (c4 : Nat) (r : Int) (hm : M_bits_Check F x1 x2 = some r) :
    Pure Try.prog 78 [.agg #[.int .i64 x1, .slice a3 x2.length c4]] [Sl (eI .u8) 1 (.slice a3 x2.length c4) x2] Unit (fun _ => .int .i64 r) (fun _ => []) (fun _ => []) := by
  refine pure_of Try.func78 rfl Try.ntmps78 rfl hm (fun w => ?_)
  refine sxc_env (l' := [(0, .agg #[.int .i64 x1, .slice a3 x2.length c4])]) rfl ?_
  refine sxc_seq ?_
  refine sxc_region ?_
  refine sxo_box rfl rfl rfl (fun g5 => ?_)
  refine sxo_assign rfl rfl rfl ?_
  refine sxo_nil ?_
  refine sxq_next ?_
  refine sxc_seq ?_
  refine sxc_block ?_
  refine sxc_seq ?_
  refine sxc_region ?_
  refine sxo_fieldAddr rfl rfl ff25_0 rfl ?_
  refine sxo_loadB (i := 0) rfl rfl tf3 rfl rfl (fun _ => rfl) rfl rfl ?_
  refine sxo_lss rfl rfl rfl rfl ?_
  refine sxo_move rfl rfl rfl ?_
  refine sxo_case 4 (decide (x1 < 0)) [(1, .pointer (some ⟨g5, 0, none⟩)), (11, .bool ((decide (x1 < 0)) || (decide (8192 < x1))))] (fun h27 => ?_) (fun h27 => ?_) ?_
  · refine sxo_take (os := _) rfl ?_
    refine sxo_isT (k := 7) rfl h27 ?_
    refine sxo_skip rfl rfl rfl ?_
    refine sxo_skip rfl rfl rfl ?_
    refine sxo_skip rfl rfl rfl ?_
    refine sxo_pick (b := true) rfl rfl rfl rfl ?_
    refine sxo_again (d := 11) (v := .bool ((decide (x1 < 0)) || (decide (8192 < x1)))) rfl (by rw [h27]; simp only [Bool.true_or]) ?_
    refine sxo_nil ?_
    exact sxq_case (lk_cons rfl (lk_cons rfl lk_nil))
  · refine sxo_take (os := _) rfl ?_
    refine sxo_isF (k := 7) rfl h27 ?_
    refine sxo_fieldAddr rfl rfl ff25_0 rfl ?_
    refine sxo_loadB (i := 0) rfl rfl tf3 rfl rfl (fun _ => rfl) rfl rfl ?_
    refine sxo_gtr rfl rfl rfl rfl ?_
    refine sxo_pick (b := false) rfl rfl rfl rfl ?_
    refine sxo_again (d := 11) (v := .bool ((decide (x1 < 0)) || (decide (8192 < x1)))) rfl (by rw [h27]; simp only [Bool.false_or]) ?_
    refine sxo_nil ?_
    exact sxq_case (lk_cons rfl (lk_cons rfl lk_nil))
  refine sxo_take (os := _) rfl ?_
  refine sxo_assign rfl rfl rfl ?_
  refine sxo_nil ?_
  refine sxq_next ?_
  refine sxc_if rfl (fun h47 => ?_) (fun h47 => ?_)
  · refine sxc_seq ?_
    refine sxc_region ?_
    refine sxo_assign rfl rfl rfl ?_
    refine sxo_nil ?_
    refine sxq_next ?_
    refine sxc_ret ?_
    refine sxq_blkR ?_
    refine sxq_thenR ?_
    exact sxq_doneP () (.inl rfl) (res1 rfl rfl) (fun h => by subst h; rfl) (fun h => by subst h; exact .nil)
  · refine sxc_seq ?_
    refine sxc_region ?_
    refine sxo_fieldAddr rfl rfl ff25_1 rfl ?_
    refine sxo_loadB (i := 0) rfl rfl tf23 rfl rfl (fun _ => rfl) rfl rfl ?_
    refine sxo_len rfl Try.underlying23 rfl rfl ?_
    refine sxo_fieldAddr rfl rfl ff25_0 rfl ?_
    refine sxo_loadB (i := 0) rfl rfl tf3 rfl rfl (fun _ => rfl) rfl rfl ?_
    refine sxo_add rfl rfl rfl rfl ?_
    refine sxo_quo rfl rfl rfl rfl rfl ?_
    refine sxo_neq rfl rfl rfl rfl ?_
    refine sxo_assign rfl rfl rfl ?_
    refine sxo_nil ?_
    refine sxq_next ?_
    refine sxc_if rfl (fun h46 => ?_) (fun h46 => ?_)
    · refine sxc_seq ?_
      refine sxc_region ?_
      refine sxo_assign rfl rfl rfl ?_
      refine sxo_nil ?_
      refine sxq_next ?_
      refine sxc_ret ?_
      refine sxq_blkR ?_
      refine sxq_thenR ?_
      exact sxq_doneP () (.inl rfl) (res1 rfl rfl) (fun h => by subst h; rfl) (fun h => by subst h; exact .nil)
    · refine sxc_join (fun ((x36, _) : (Bool × Unit)) => [(21, .bool x36)]) (fun ((x36, _) : (Bool × Unit)) => []) (fun ((x36, _) : (Bool × Unit)) => []) (fun ((x36, _) : (Bool × Unit)) => []) (fun ((x36, _) : (Bool × Unit)) => M_bits_Check_j2 F x36) ?_ ?_
      · refine sxc_split (fun h38 => ?_) (fun h38 => ?_)
        · refine sxc_idxF (j := 0) (eI_ok .u8) (by decide) rfl (fun x39 e39 b40 o41 h42 => ?_)
          replace h42 : a3 = some ⟨b40, o41, none⟩ := h42
          refine sxc_chk (fun h43 => ?_)
          refine sxb_draw mixed [] [⟨g5, 25, [.int .i64 x1, .slice a3 x2.length c4]⟩] [CellsAt b40 (o41 + (isub .i64 (x2.length : Int) 1).toNat * 1) ((eI .u8) x39), Sl (eI .u8) 1 (.slice a3 x2.length c4) x2] (.cons 0 rfl .nil) (gk_F 0 rfl (gk_F 1 rfl gk_nil)) 20 rfl ?_
          refine sxb_takeP 0 (.pointer (some ⟨g5, 0, none⟩)) rfl rfl rfl rfl (by kernel_rfl) (by kernel_rfl) (by kernel_rfl) (by kernel_rfl) (by kernel_rfl) rfl (show _ = #[true, false, false, false, false, false, false, false, false, false, false, false, false, false, false, false, false, false, false, false] from rfl) (yv_fieldAddr rfl ff25_0) ?_
          refine sxb_take 1 (.int .i64 x1) [] rfl rfl rfl rfl (by kernel_rfl) (by kernel_rfl) (by kernel_rfl) (by kernel_rfl) (by kernel_rfl) (by kernel_rfl) rfl (show _ = #[true, true, false, false, false, false, false, false, false, false, false, false, false, false, false, false, false, false, false, false] from rfl) (yv_loadB (i := 0) rfl tf3 rfl rfl (fun _ => rfl) rfl) ?_
          refine sxb_takeP 2 (.int .i64 (irem x1 8)) rfl rfl rfl rfl (by kernel_rfl) (by kernel_rfl) (by kernel_rfl) (by kernel_rfl) (by kernel_rfl) rfl (show _ = #[true, true, true, false, false, false, false, false, false, false, false, false, false, false, false, false, false, false, false, false] from rfl) (yv_rem rfl rfl rfl) ?_
          refine sxb_takeP 3 (.bool (((irem x1 8) : Int) != 0)) rfl rfl rfl rfl (by kernel_rfl) (by kernel_rfl) (by kernel_rfl) (by kernel_rfl) (by kernel_rfl) rfl (show _ = #[true, true, true, true, false, false, false, false, false, false, false, false, false, false, false, false, false, false, false, false] from rfl) (yv_pv rfl) ?_
          refine sxb_takeP 4 (.bool (((irem x1 8) : Int) != 0)) rfl rfl rfl rfl (by kernel_rfl) (by kernel_rfl) (by kernel_rfl) (by kernel_rfl) (by kernel_rfl) rfl (show _ = #[true, true, true, true, true, false, false, false, false, false, false, false, false, false, false, false, false, false, false, false] from rfl) (yv_pv rfl) ?_
          refine sxb_again (d := 26) (v := .bool true) rfl (by rw [h38]) ?_
          refine sxb_takeP 5 (.pointer (some ⟨g5, 1, none⟩)) rfl rfl rfl rfl (by kernel_rfl) (by kernel_rfl) (by kernel_rfl) (by kernel_rfl) (by kernel_rfl) rfl (show _ = #[true, true, true, true, true, true, false, false, false, false, false, false, false, false, false, false, false, false, false, false] from rfl) (yv_fieldAddr rfl ff25_1) ?_
          refine sxb_take 6 (.slice a3 x2.length c4) [] rfl rfl rfl rfl (by kernel_rfl) (by kernel_rfl) (by kernel_rfl) (by kernel_rfl) (by kernel_rfl) (by kernel_rfl) rfl (show _ = #[true, true, true, true, true, true, true, false, false, false, false, false, false, false, false, false, false, false, false, false] from rfl) (yv_loadB (i := 0) rfl tf23 rfl rfl (fun _ => rfl) rfl) ?_
          refine sxb_takeP 7 (.pointer (some ⟨g5, 1, none⟩)) rfl rfl rfl rfl (by kernel_rfl) (by kernel_rfl) (by kernel_rfl) (by kernel_rfl) (by kernel_rfl) rfl (show _ = #[true, true, true, true, true, true, true, true, false, false, false, false, false, false, false, false, false, false, false, false] from rfl) (yv_fieldAddr rfl ff25_1) ?_
          refine sxb_take 8 (.slice a3 x2.length c4) [] rfl rfl rfl rfl (by kernel_rfl) (by kernel_rfl) (by kernel_rfl) (by kernel_rfl) (by kernel_rfl) (by kernel_rfl) rfl (show _ = #[true, true, true, true, true, true, true, true, true, false, false, false, false, false, false, false, false, false, false, false] from rfl) (yv_loadB (i := 0) rfl tf23 rfl rfl (fun _ => rfl) rfl) ?_
          refine sxb_takeP 9 (.int .i64 (x2.length : Int)) rfl rfl rfl rfl (by kernel_rfl) (by kernel_rfl) (by kernel_rfl) (by kernel_rfl) (by kernel_rfl) rfl (show _ = #[true, true, true, true, true, true, true, true, true, true, false, false, false, false, false, false, false, false, false, false] from rfl) (yv_len Try.underlying23 rfl) ?_
          refine sxb_takeP 10 (.int .i64 (isub .i64 (x2.length : Int) 1)) rfl rfl rfl rfl (by kernel_rfl) (by kernel_rfl) (by kernel_rfl) (by kernel_rfl) (by kernel_rfl) rfl (show _ = #[true, true, true, true, true, true, true, true, true, true, true, false, false, false, false, false, false, false, false, false] from rfl) (yv_pv rfl) ?_
          refine sxb_again (d := 28) (v := .slice (some ⟨b40, o41, none⟩) x2.length c4) rfl (by rw [h42]) ?_
          refine sxb_takeP 11 (.pointer (some ⟨b40, (o41 + (isub .i64 (x2.length : Int) 1).toNat * 1), none⟩)) rfl rfl rfl rfl (by kernel_rfl) (by kernel_rfl) (by kernel_rfl) (by kernel_rfl) (by kernel_rfl) rfl (show _ = #[true, true, true, true, true, true, true, true, true, true, true, true, false, false, false, false, false, false, false, false] from rfl) (yv_idx Try.underlying23 tf5 rfl rfl (idx_get e39).1 (idx_lt e39)) ?_
          refine sxb_again (d := 28) (v := .slice a3 x2.length c4) rfl (by rw [h42]) ?_
          refine sxb_take 12 (.int .u8 x39) [] rfl rfl rfl rfl (by kernel_rfl) (by kernel_rfl) (by kernel_rfl) (by kernel_rfl) (by kernel_rfl) (by kernel_rfl) rfl (show _ = #[true, true, true, true, true, true, true, true, true, true, true, true, true, false, false, false, false, false, false, false] from rfl) (yv_loadF (j := 0) rfl tf5 rfl rfl (fun _ => rfl) rfl) ?_
          refine sxb_takeP 13 (.pointer (some ⟨g5, 0, none⟩)) rfl rfl rfl rfl (by kernel_rfl) (by kernel_rfl) (by kernel_rfl) (by kernel_rfl) (by kernel_rfl) rfl (show _ = #[true, true, true, true, true, true, true, true, true, true, true, true, true, true, false, false, false, false, false, false] from rfl) (yv_fieldAddr rfl ff25_0) ?_
          refine sxb_take 14 (.int .i64 x1) [] rfl rfl rfl rfl (by kernel_rfl) (by kernel_rfl) (by kernel_rfl) (by kernel_rfl) (by kernel_rfl) (by kernel_rfl) rfl (show _ = #[true, true, true, true, true, true, true, true, true, true, true, true, true, true, true, false, false, false, false, false] from rfl) (yv_loadB (i := 0) rfl tf3 rfl rfl (fun _ => rfl) rfl) ?_
          refine sxb_takeP 15 (.int .i64 (irem x1 8)) rfl rfl rfl rfl (by kernel_rfl) (by kernel_rfl) (by kernel_rfl) (by kernel_rfl) (by kernel_rfl) rfl (show _ = #[true, true, true, true, true, true, true, true, true, true, true, true, true, true, true, true, false, false, false, false] from rfl) (yv_rem rfl rfl rfl) ?_
          refine sxb_takeP 16 (.int .u8 (ishl .u8 x39 (irem x1 8))) rfl rfl rfl rfl (by kernel_rfl) (by kernel_rfl) (by kernel_rfl) (by kernel_rfl) (by kernel_rfl) rfl (show _ = #[true, true, true, true, true, true, true, true, true, true, true, true, true, true, true, true, true, false, false, false] from rfl) (yv_shl rfl rfl h43) ?_
          refine sxb_takeP 17 (.bool (((ishl .u8 x39 (irem x1 8)) : Int) != 0)) rfl rfl rfl rfl (by kernel_rfl) (by kernel_rfl) (by kernel_rfl) (by kernel_rfl) (by kernel_rfl) rfl (show _ = #[true, true, true, true, true, true, true, true, true, true, true, true, true, true, true, true, true, true, false, false] from rfl) (yv_pv rfl) ?_
          refine sxb_takeP 18 (.bool (((ishl .u8 x39 (irem x1 8)) : Int) != 0)) rfl rfl rfl rfl (by kernel_rfl) (by kernel_rfl) (by kernel_rfl) (by kernel_rfl) (by kernel_rfl) rfl (show _ = #[true, true, true, true, true, true, true, true, true, true, true, true, true, true, true, true, true, true, true, false] from rfl) (yv_pv rfl) ?_
          refine sxb_takeP 19 (.bool (((ishl .u8 x39 (irem x1 8)) : Int) != 0)) rfl rfl rfl rfl (by kernel_rfl) (by kernel_rfl) (by kernel_rfl) (by kernel_rfl) (by kernel_rfl) rfl (show _ = #[true, true, true, true, true, true, true, true, true, true, true, true, true, true, true, true, true, true, true, true] from rfl) (yv_pv rfl) ?_
          refine sxb_done (by kernel_rfl) ?_
          refine sxq_np ?_ (by intro c h; cases h)
          exact sxq_meetP ((((ishl .u8 x39 (irem x1 8)) : Int) != 0), ()) (lk_cons rfl lk_nil) .nil .nil fk_nil
        · refine sxb_draw mixed [] [⟨g5, 25, [.int .i64 x1, .slice a3 x2.length c4]⟩] [Sl (eI .u8) 1 (.slice a3 x2.length c4) x2] (.cons 0 rfl .nil) (gk_F 0 rfl gk_nil) 20 rfl ?_
          refine sxb_takeP 0 (.pointer (some ⟨g5, 0, none⟩)) rfl rfl rfl rfl (by kernel_rfl) (by kernel_rfl) (by kernel_rfl) (by kernel_rfl) (by kernel_rfl) rfl (show _ = #[true, false, false, false, false, false, false, false, false, false, false, false, false, false, false, false, false, false, false, false] from rfl) (yv_fieldAddr rfl ff25_0) ?_
          refine sxb_take 1 (.int .i64 x1) [] rfl rfl rfl rfl (by kernel_rfl) (by kernel_rfl) (by kernel_rfl) (by kernel_rfl) (by kernel_rfl) (by kernel_rfl) rfl (show _ = #[true, true, false, false, false, false, false, false, false, false, false, false, false, false, false, false, false, false, false, false] from rfl) (yv_loadB (i := 0) rfl tf3 rfl rfl (fun _ => rfl) rfl) ?_
          refine sxb_takeP 2 (.int .i64 (irem x1 8)) rfl rfl rfl rfl (by kernel_rfl) (by kernel_rfl) (by kernel_rfl) (by kernel_rfl) (by kernel_rfl) rfl (show _ = #[true, true, true, false, false, false, false, false, false, false, false, false, false, false, false, false, false, false, false, false] from rfl) (yv_rem rfl rfl rfl) ?_
          refine sxb_takeP 3 (.bool (((irem x1 8) : Int) != 0)) rfl rfl rfl rfl (by kernel_rfl) (by kernel_rfl) (by kernel_rfl) (by kernel_rfl) (by kernel_rfl) rfl (show _ = #[true, true, true, true, false, false, false, false, false, false, false, false, false, false, false, false, false, false, false, false] from rfl) (yv_pv rfl) ?_
          refine sxb_takeP 4 (.bool (((irem x1 8) : Int) != 0)) rfl rfl rfl rfl (by kernel_rfl) (by kernel_rfl) (by kernel_rfl) (by kernel_rfl) (by kernel_rfl) rfl (show _ = #[true, true, true, true, true, false, false, false, false, false, false, false, false, false, false, false, false, false, false, false] from rfl) (yv_pv rfl) ?_
          refine sxb_again (d := 26) (v := .bool false) rfl (by rw [h38]) ?_
          refine sxb_skip 5 rfl rfl rfl rfl (by kernel_rfl) (by kernel_rfl) (by kernel_rfl) (by kernel_rfl) (by kernel_rfl) rfl (show _ = #[true, true, true, true, true, true, false, false, false, false, false, false, false, false, false, false, false, false, false, false] from rfl) ?_
          refine sxb_skip 6 rfl rfl rfl rfl (by kernel_rfl) (by kernel_rfl) (by kernel_rfl) (by kernel_rfl) (by kernel_rfl) rfl (show _ = #[true, true, true, true, true, true, true, false, false, false, false, false, false, false, false, false, false, false, false, false] from rfl) ?_
          refine sxb_skip 7 rfl rfl rfl rfl (by kernel_rfl) (by kernel_rfl) (by kernel_rfl) (by kernel_rfl) (by kernel_rfl) rfl (show _ = #[true, true, true, true, true, true, true, true, false, false, false, false, false, false, false, false, false, false, false, false] from rfl) ?_
          refine sxb_skip 8 rfl rfl rfl rfl (by kernel_rfl) (by kernel_rfl) (by kernel_rfl) (by kernel_rfl) (by kernel_rfl) rfl (show _ = #[true, true, true, true, true, true, true, true, true, false, false, false, false, false, false, false, false, false, false, false] from rfl) ?_
          refine sxb_skip 9 rfl rfl rfl rfl (by kernel_rfl) (by kernel_rfl) (by kernel_rfl) (by kernel_rfl) (by kernel_rfl) rfl (show _ = #[true, true, true, true, true, true, true, true, true, true, false, false, false, false, false, false, false, false, false, false] from rfl) ?_
          refine sxb_skip 10 rfl rfl rfl rfl (by kernel_rfl) (by kernel_rfl) (by kernel_rfl) (by kernel_rfl) (by kernel_rfl) rfl (show _ = #[true, true, true, true, true, true, true, true, true, true, true, false, false, false, false, false, false, false, false, false] from rfl) ?_
          refine sxb_skip 11 rfl rfl rfl rfl (by kernel_rfl) (by kernel_rfl) (by kernel_rfl) (by kernel_rfl) (by kernel_rfl) rfl (show _ = #[true, true, true, true, true, true, true, true, true, true, true, true, false, false, false, false, false, false, false, false] from rfl) ?_
          refine sxb_skip 12 rfl rfl rfl rfl (by kernel_rfl) (by kernel_rfl) (by kernel_rfl) (by kernel_rfl) (by kernel_rfl) rfl (show _ = #[true, true, true, true, true, true, true, true, true, true, true, true, true, false, false, false, false, false, false, false] from rfl) ?_
          refine sxb_skip 13 rfl rfl rfl rfl (by kernel_rfl) (by kernel_rfl) (by kernel_rfl) (by kernel_rfl) (by kernel_rfl) rfl (show _ = #[true, true, true, true, true, true, true, true, true, true, true, true, true, true, false, false, false, false, false, false] from rfl) ?_
          refine sxb_skip 14 rfl rfl rfl rfl (by kernel_rfl) (by kernel_rfl) (by kernel_rfl) (by kernel_rfl) (by kernel_rfl) rfl (show _ = #[true, true, true, true, true, true, true, true, true, true, true, true, true, true, true, false, false, false, false, false] from rfl) ?_
          refine sxb_skip 15 rfl rfl rfl rfl (by kernel_rfl) (by kernel_rfl) (by kernel_rfl) (by kernel_rfl) (by kernel_rfl) rfl (show _ = #[true, true, true, true, true, true, true, true, true, true, true, true, true, true, true, true, false, false, false, false] from rfl) ?_
          refine sxb_skip 16 rfl rfl rfl rfl (by kernel_rfl) (by kernel_rfl) (by kernel_rfl) (by kernel_rfl) (by kernel_rfl) rfl (show _ = #[true, true, true, true, true, true, true, true, true, true, true, true, true, true, true, true, true, false, false, false] from rfl) ?_
          refine sxb_skip 17 rfl rfl rfl rfl (by kernel_rfl) (by kernel_rfl) (by kernel_rfl) (by kernel_rfl) (by kernel_rfl) rfl (show _ = #[true, true, true, true, true, true, true, true, true, true, true, true, true, true, true, true, true, true, false, false] from rfl) ?_
          refine sxb_takeP 18 (.bool false) rfl rfl rfl rfl (by kernel_rfl) (by kernel_rfl) (by kernel_rfl) (by kernel_rfl) (by kernel_rfl) rfl (show _ = #[true, true, true, true, true, true, true, true, true, true, true, true, true, true, true, true, true, true, true, false] from rfl) (yv_pv rfl) ?_
          refine sxb_takeP 19 (.bool false) rfl rfl rfl rfl (by kernel_rfl) (by kernel_rfl) (by kernel_rfl) (by kernel_rfl) (by kernel_rfl) rfl (show _ = #[true, true, true, true, true, true, true, true, true, true, true, true, true, true, true, true, true, true, true, true] from rfl) (yv_pv rfl) ?_
          refine sxb_done (by kernel_rfl) ?_
          refine sxq_np ?_ (by intro c h; cases h)
          exact sxq_meetP (false, ()) (lk_cons rfl lk_nil) .nil .nil fk_nil
      · rintro ⟨x36, _⟩
        try dsimp only
        refine sxc_if rfl (fun h37 => ?_) (fun h37 => ?_)
        · refine sxc_seq ?_
          refine sxc_region ?_
          refine sxo_assign rfl rfl rfl ?_
          refine sxo_nil ?_
          refine sxq_next ?_
          refine sxc_ret ?_
          refine sxq_blkR ?_
          refine sxq_thenR ?_
          exact sxq_doneP () (.inl rfl) (res1 rfl rfl) (fun h => by subst h; rfl) (fun h => by subst h; exact .nil)
        · refine sxc_skip ?_
          refine sxq_blkN ?_
          refine sxq_next ?_
          refine sxc_seq ?_
          refine sxc_region ?_
          refine sxo_assign rfl rfl rfl ?_
          refine sxo_nil ?_
          refine sxq_next ?_
          refine sxc_ret ?_
          exact sxq_doneP () (.inl rfl) (res1 rfl rfl) (fun h => by subst h; rfl) (fun h => by subst h; exact .nil)

theorem C_elias_Check (F : Nat) (x1 : Int) (x2 : List Int) (a3 : Option Addr) (c4 : Nat) (x5 : Int) (r : Int) (hm : M_elias_Check F x1 x2 x5 = some r) :
    Pure Try.prog 89 [.agg #[.int .i64 x1, .slice a3 x2.length c4], .int .i64 x5] [Sl (eI .u8) 1 (.slice a3 x2.length c4) x2] Unit (fun _ => .int .i64 r) (fun _ => []) (fun _ => []) := by
  refine pure_of Try.func89 rfl Try.ntmps89 rfl hm (fun w => ?_)
  refine sxc_env (l' := [(0, .agg #[.int .i64 x1, .slice a3 x2.length c4]), (1, .int .i64 x5)]) rfl ?_
  refine sxc_seq ?_
  refine sxc_region ?_
  refine sxo_box rfl rfl rfl (fun g6 => ?_)
  refine sxo_assign rfl rfl rfl ?_
  refine sxo_nil ?_
  refine sxq_next ?_
  refine sxc_seq ?_
  refine sxc_region ?_
  refine sxo_loadB (i := 0) rfl rfl tf25 rfl rfl (by simp) rfl rfl ?_
  refine sxo_call ent78 rfl rfl rfl (fun x7 e7 => C_bits_Check F x1 x2 a3 c4 x7 e7) (.consF 0 rfl .nil) (fun x7 e7 => ?_)
  intro _
  refine sxo_assign rfl rfl rfl ?_
  refine sxo_nil ?_
  refine sxq_next ?_
  refine sxc_join (fun ((x13, _) : (Int × Unit)) => [(5, .int .i64 x13)]) (fun ((x13, _) : (Int × Unit)) => []) (fun ((x13, _) : (Int × Unit)) => []) (fun ((x13, _) : (Int × Unit)) => []) (fun ((x13, _) : (Int × Unit)) => M_elias_Check_j2 F x13) ?_ ?_
  · refine sxc_seq ?_
    refine sxc_region ?_
    refine sxo_move rfl rfl rfl ?_
    refine sxo_eql rfl rfl rfl rfl ?_
    refine sxo_move rfl rfl rfl ?_
    refine sxo_join 9 (fun ((x16, _) : (Bool × Unit)) => [(5, .int .i64 x7), (19, .bool x16)]) (fun ((x16, _) : (Bool × Unit)) => []) (fun ((x16, _) : (Bool × Unit)) => []) (fun ((x16, _) : (Bool × Unit)) => []) (fun ((x16, _) : (Bool × Unit)) => M_elias_Check_j3 F x7 x16) ?_ ?_
    · refine sxo_take (os := _) rfl ?_
      refine sxo_if (fun h14 => ?_) (fun h14 => ?_)
      · refine sxo_isT (k := 10) rfl h14 ?_
        refine sxo_move rfl rfl rfl ?_
        refine sxo_lss rfl rfl rfl rfl ?_
        refine sxo_move rfl rfl rfl ?_
        refine sxo_case 5 (decide (x5 < 0)) [(5, .int .i64 x7), (10, .bool true), (18, .bool ((decide (x5 < 0)) || (decide (x1 < x5))))] (fun h18 => ?_) (fun h18 => ?_) ?_
        · refine sxo_take (os := _) rfl ?_
          refine sxo_isT (k := 13) rfl h18 ?_
          refine sxo_skip rfl rfl rfl ?_
          refine sxo_skip rfl rfl rfl ?_
          refine sxo_skip rfl rfl rfl ?_
          refine sxo_skip rfl rfl rfl ?_
          refine sxo_pick (b := true) rfl rfl rfl rfl ?_
          refine sxo_again (d := 18) (v := .bool ((decide (x5 < 0)) || (decide (x1 < x5)))) rfl (by rw [h18]; simp only [Bool.true_or]) ?_
          refine sxo_nil ?_
          exact sxq_case (lk_cons rfl (lk_cons rfl (lk_cons rfl lk_nil)))
        · refine sxo_take (os := _) rfl ?_
          refine sxo_isF (k := 13) rfl h18 ?_
          refine sxo_move rfl rfl rfl ?_
          refine sxo_fieldAddr rfl rfl ff25_0 rfl ?_
          refine sxo_loadB (i := 0) rfl rfl tf3 rfl rfl (fun _ => rfl) rfl rfl ?_
          refine sxo_gtr rfl rfl rfl rfl ?_
          refine sxo_pick (b := false) rfl rfl rfl rfl ?_
          refine sxo_again (d := 18) (v := .bool ((decide (x5 < 0)) || (decide (x1 < x5)))) rfl (by rw [h18]; simp only [Bool.false_or]) ?_
          refine sxo_nil ?_
          exact sxq_case (lk_cons rfl (lk_cons rfl (lk_cons rfl lk_nil)))
        refine sxo_take (os := _) rfl ?_
        refine sxo_pick (b := true) rfl rfl rfl rfl ?_
        refine sxo_nil ?_
        exact sxq_meetP (((decide (x5 < 0)) || (decide (x1 < x5))), ()) (lk_cons rfl (lk_cons rfl lk_nil)) .nil .nil fk_nil
      · refine sxo_isF (k := 10) rfl h14 ?_
        refine sxo_skip rfl rfl rfl ?_
        refine sxo_skip rfl rfl rfl ?_
        refine sxo_skip rfl rfl rfl ?_
        refine sxo_skip rfl rfl rfl ?_
        refine sxo_skip rfl rfl rfl ?_
        refine sxo_skip rfl rfl rfl ?_
        refine sxo_skip rfl rfl rfl ?_
        refine sxo_skip rfl rfl rfl ?_
        refine sxo_pick (b := false) rfl rfl rfl rfl ?_
        refine sxo_nil ?_
        exact sxq_meetP (false, ()) (lk_cons rfl (lk_cons rfl lk_nil)) .nil .nil fk_nil
    · rintro ⟨x16, _⟩
      try dsimp only
      refine sxo_take (os := _) rfl ?_
      refine sxo_nil ?_
      refine sxq_next ?_
      refine sxc_if rfl (fun h17 => ?_) (fun h17 => ?_)
      · refine sxc_region ?_
        refine sxo_assign rfl rfl rfl ?_
        refine sxo_nil ?_
        exact sxq_meetP (3, ()) (lk_cons rfl lk_nil) .nil .nil fk_nil
      · refine sxc_skip ?_
        exact sxq_meetP (x7, ()) (lk_cons rfl lk_nil) .nil .nil fk_nil
  · rintro ⟨x13, _⟩
    try dsimp only
    refine sxc_seq ?_
    refine sxc_region ?_
    refine sxo_move rfl rfl rfl ?_
    refine sxo_assign rfl rfl rfl ?_
    refine sxo_nil ?_
    refine sxq_next ?_
    refine sxc_ret ?_
    exact sxq_doneP () (.inl rfl) (res1 rfl rfl) (fun h => by subst h; rfl) (fun h => by subst h; exact .nil)

theorem C_bits_At (F : Nat) (x1 : Int) (x2 : List Int) (a3 : Option Addr) (c4 : Nat) (x5 : Int) (r : Int) (hm : M_bits_At F x1 x2 x5 = some r) :
    Pure Try.prog 96 [.agg #[.int .i64 x1, .slice a3 x2.length c4], .int .i64 x5] [Sl (eI .u8) 1 (.slice a3 x2.length c4) x2] Unit (fun _ => .int .u64 r) (fun _ => []) (fun _ => []) := by
  refine pure_of Try.func96 rfl Try.ntmps96 rfl hm (fun w => ?_)
  refine sxc_env (l' := [(0, .agg #[.int .i64 x1, .slice a3 x2.length c4]), (1, .int .i64 x5)]) rfl ?_
  refine sxc_seq ?_
  refine sxc_region ?_
  refine sxo_box rfl rfl rfl (fun g6 => ?_)
  refine sxo_assign rfl rfl rfl ?_
  refine sxo_nil ?_
  refine sxq_next ?_
  refine sxc_seq ?_
  refine sxc_region ?_
  refine sxo_fieldAddr rfl rfl ff25_1 rfl ?_
  refine sxo_loadB (i := 0) rfl rfl tf23 rfl rfl (fun _ => rfl) rfl rfl ?_
  refine sxo_move rfl rfl rfl ?_
  refine sxo_quo rfl rfl rfl rfl rfl ?_
  refine sxo_indexF (j := 0) (eI_ok .u8) (by decide) rfl Try.underlying23 tf5 rfl rfl rfl rfl (fun x7 e7 b8 o9 => ?_)
  refine sxo_loadF (j := 0) rfl rfl tf5 rfl rfl (fun _ => rfl) rfl rfl ?_
  refine sxo_move rfl rfl rfl ?_
  refine sxo_rem rfl rfl rfl rfl rfl ?_
  refine sxo_sub rfl rfl rfl rfl ?_
  refine sxo_chk (fun h10 => ?_)
  refine sxo_shr rfl rfl rfl rfl h10 ?_
  refine sxo_conv rfl Try.underlying5 Try.underlying22 rfl rfl ?_
  refine sxo_and rfl rfl rfl rfl ?_
  refine sxo_assign rfl rfl rfl ?_
  refine sxo_lett (fun x11 e11 => ?_)
  refine sxo_again (d := 4) (v := .int .u64 x11) rfl (by rw [e11]) ?_
  refine sxo_nil ?_
  refine sxq_next ?_
  refine sxc_ret ?_
  exact sxq_doneP () (.inl rfl) (res1 rfl rfl) (fun h => by subst h; rfl) (fun h => by subst h; exact .nil)

theorem C_unary_From (F : Nat) (x1 : Int) (x2 : List Int) (a3 : Option Addr) (c4 : Nat) (x5 : Int) (r : (Int × Int × Bool)) (hm : M_unary_From F x1 x2 x5 = some r) :
    Pure Try.prog 72 [.agg #[.int .i64 x1, .slice a3 x2.length c4], .int .i64 x5] [Sl (eI .u8) 1 (.slice a3 x2.length c4) x2] Unit (fun _ => .tuple #[.int .u64 r.1, .int .i64 r.2.1, .bool r.2.2]) (fun _ => []) (fun _ => []) := by
  refine pure_of Try.func72 rfl Try.ntmps72 rfl hm (fun w => ?_)
  refine sxc_env (l' := [(0, .agg #[.int .i64 x1, .slice a3 x2.length c4]), (1, .int .i64 x5)]) rfl ?_
  refine sxc_seq ?_
  refine sxc_region ?_
  refine sxo_box rfl rfl rfl (fun g6 => ?_)
  refine sxo_assign rfl rfl rfl ?_
  refine sxo_assign rfl rfl rfl ?_
  refine sxo_assign rfl rfl rfl ?_
  refine sxo_nil ?_
  refine sxq_next ?_
  refine sxc_join (fun ((_, _) : (Unit × Unit)) => []) (fun ((_, _) : (Unit × Unit)) => []) (fun ((_, _) : (Unit × Unit)) => []) (fun ((_, _) : (Unit × Unit)) => []) (fun ((_, _) : (Unit × Unit)) => M_unary_From_j2 F) ?_ ?_
  · refine sxc_seq ?_
    refine sxc_region ?_
    refine sxo_move rfl rfl rfl ?_
    refine sxo_assign rfl rfl rfl ?_
    refine sxo_nil ?_
    refine sxq_next ?_
    refine sxc_block ?_
    refine sxc_loopP (fun ((x33, _) : (Int × Unit)) => [(1, .int .i64 x5), (2, .pointer (some ⟨g6, 0, none⟩)), (7, .int .i64 x33)]) (fun ((x33, _) : (Int × Unit)) => [⟨g6, 25, [.int .i64 x1, .slice a3 x2.length c4]⟩]) (fun ((x33, _) : (Int × Unit)) => []) (fun ((x33, _) : (Int × Unit)) => [Sl (eI .u8) 1 (.slice a3 x2.length c4) x2]) (fun k (s : (Int × Unit)) => M_unary_From_l3 F x1 x2 x5 k s.1) (x5, ()) F (lk_cons rfl (lk_cons rfl (lk_cons rfl lk_nil))) (.cons 0 rfl .nil) .nil (fk_cons 0 rfl fk_nil) (fun _ => rfl) ?_
    intro k40
    rintro ⟨x33, _⟩
    try dsimp only
    refine sxc_meq (m' := M_unary_From_b3 F x1 x2 x5 (M_unary_From_l3 F x1 x2 x5 k40) x33) rfl ?_
    refine sxc_seq ?_
    refine sxc_seq ?_
    refine sxc_region ?_
    refine sxo_move rfl rfl rfl ?_
    refine sxo_fieldAddr rfl rfl ff25_0 rfl ?_
    refine sxo_loadB (i := 0) rfl rfl tf3 rfl rfl (fun _ => rfl) rfl rfl ?_
    refine sxo_lss rfl rfl rfl rfl ?_
    refine sxo_nil ?_
    refine sxq_next ?_
    refine sxc_if rfl (fun h46 => ?_) (fun h46 => ?_)
    · refine sxc_skip ?_
      refine sxq_next ?_
      refine sxc_seq ?_
      refine sxc_block ?_
      refine sxc_seq ?_
      refine sxc_region ?_
      refine sxo_loadB (i := 0) rfl rfl tf25 rfl rfl (by simp) rfl rfl ?_
      refine sxo_move rfl rfl rfl ?_
      refine sxo_call ent96 rfl rfl rfl (fun x44 e44 => C_bits_At F x1 x2 a3 c4 x33 x44 e44) (.consF 0 rfl .nil) (fun x44 e44 => ?_)
      intro _
      refine sxo_eql rfl rfl rfl rfl ?_
      refine sxo_nil ?_
      refine sxq_next ?_
      refine sxc_if rfl (fun h45 => ?_) (fun h45 => ?_)
      · refine sxc_seq ?_
        refine sxc_region ?_
        refine sxo_move rfl rfl rfl ?_
        refine sxo_move rfl rfl rfl ?_
        refine sxo_sub rfl rfl rfl rfl ?_
        refine sxo_conv rfl Try.underlying3 Try.underlying22 rfl rfl ?_
        refine sxo_move rfl rfl rfl ?_
        refine sxo_add rfl rfl rfl rfl ?_
        refine sxo_assign rfl rfl rfl ?_
        refine sxo_assign rfl rfl rfl ?_
        refine sxo_assign rfl rfl rfl ?_
        refine sxo_nil ?_
        refine sxq_next ?_
        refine sxc_ret ?_
        refine sxq_blkR ?_
        refine sxq_thenR ?_
        refine sxq_thenR ?_
        refine sxq_blkR ?_
        refine sxq_thenR ?_
        exact sxq_doneP () (.inl rfl) (res3 rfl rfl rfl rfl) (fun h => by subst h; rfl) (fun h => by subst h; exact .nil)
      · refine sxc_skip ?_
        refine sxq_blkN ?_
        refine sxq_next ?_
        refine sxc_region ?_
        refine sxo_move rfl rfl rfl ?_
        refine sxo_add rfl rfl rfl rfl ?_
        refine sxo_assign rfl rfl rfl ?_
        refine sxo_nil ?_
        exact sxq_againP (iadd .i64 x33 1, ()) (lk_cons rfl (lk_cons rfl (lk_cons rfl lk_nil))) (.cons 0 rfl .nil) .nil (fk_cons 0 rfl fk_nil)
    · refine sxc_exit ?_
      refine sxq_thenX ?_
      refine sxq_thenX ?_
      refine sxq_blkX ?_
      exact sxq_meetP ((), ()) lk_nil .nil .nil fk_nil
  · rintro ⟨_, _⟩
    try dsimp only
    refine sxc_seq ?_
    refine sxc_region ?_
    refine sxo_assign rfl rfl rfl ?_
    refine sxo_assign rfl rfl rfl ?_
    refine sxo_assign rfl rfl rfl ?_
    refine sxo_nil ?_
    refine sxq_next ?_
    refine sxc_ret ?_
    exact sxq_doneP () (.inl rfl) (res3 rfl rfl rfl rfl) (fun h => by subst h; rfl) (fun h => by subst h; exact .nil)

theorem C_elias_unaryLength (F : Nat) (x1 : Int) (x2 : List Int) (a3 : Option Addr) (c4 : Nat) (x5 : Int) (r : (Int × Int × Int)) (hm : M_elias_unaryLength F x1 x2 x5 = some r) :
    Pure Try.prog 90 [.agg #[.int .i64 x1, .slice a3 x2.length c4], .int .i64 x5] [Sl (eI .u8) 1 (.slice a3 x2.length c4) x2] Unit (fun _ => .tuple #[.int .u64 r.1, .int .i64 r.2.1, .int .i64 r.2.2]) (fun _ => []) (fun _ => []) := by
  refine pure_of Try.func90 rfl Try.ntmps90 rfl hm (fun w => ?_)
  refine sxc_env (l' := [(0, .agg #[.int .i64 x1, .slice a3 x2.length c4]), (1, .int .i64 x5)]) rfl ?_
  refine sxc_seq ?_
  refine sxc_region ?_
  refine sxo_box rfl rfl rfl (fun g6 => ?_)
  refine sxo_assign rfl rfl rfl ?_
  refine sxo_assign rfl rfl rfl ?_
  refine sxo_assign rfl rfl rfl ?_
  refine sxo_nil ?_
  refine sxq_next ?_
  refine sxc_seq ?_
  refine sxc_region ?_
  refine sxo_loadB (i := 0) rfl rfl tf25 rfl rfl (by simp) rfl rfl ?_
  refine sxo_move rfl rfl rfl ?_
  refine sxo_call ent72 rfl rfl rfl (fun x7 e7 => C_unary_From F x1 x2 a3 c4 x5 x7 e7) (.consF 0 rfl .nil) (fun x7 e7 => ?_)
  intro _
  refine sxo_move rfl rfl rfl ?_
  refine sxo_extract rfl rfl rfl rfl ?_
  refine sxo_extract rfl rfl rfl rfl ?_
  refine sxo_extract rfl rfl rfl rfl ?_
  refine sxo_assign rfl rfl rfl ?_
  refine sxo_assign rfl rfl rfl ?_
  refine sxo_assign rfl rfl rfl ?_
  refine sxo_nil ?_
  refine sxq_next ?_
  refine sxc_seq ?_
  refine sxc_seq ?_
  refine sxc_region ?_
  refine sxo_move rfl rfl rfl ?_
  refine sxo_not rfl rfl rfl ?_
  refine sxo_nil ?_
  refine sxq_next ?_
  refine sxc_if rfl (fun h9 => ?_) (fun h9 => ?_)
  · refine sxc_seq ?_
    refine sxc_region ?_
    refine sxo_assign rfl rfl rfl ?_
    refine sxo_assign rfl rfl rfl ?_
    refine sxo_assign rfl rfl rfl ?_
    refine sxo_nil ?_
    refine sxq_next ?_
    refine sxc_ret ?_
    refine sxq_thenR ?_
    exact sxq_doneP () (.inl rfl) (res3 rfl rfl rfl rfl) (fun h => by subst h; rfl) (fun h => by subst h; exact .nil)
  · refine sxc_skip ?_
    refine sxq_next ?_
    refine sxc_seq ?_
    refine sxc_region ?_
    refine sxo_move rfl rfl rfl ?_
    refine sxo_move rfl rfl rfl ?_
    refine sxo_assign rfl rfl rfl ?_
    refine sxo_assign rfl rfl rfl ?_
    refine sxo_assign rfl rfl rfl ?_
    refine sxo_nil ?_
    refine sxq_next ?_
    refine sxc_ret ?_
    exact sxq_doneP () (.inl rfl) (res3 rfl rfl rfl rfl) (fun h => by subst h; rfl) (fun h => by subst h; exact .nil)

theorem C_bits_Read (F : Nat) (x1 : Int) (x2 : List Int) (a3 : Option Addr) (c4 : Nat) (x5 : Int) (x6 : Int) (r : (Int × Bool)) (hm : M_bits_Read F x1 x2 x5 x6 = some r) :
    Pure Try.prog 82 [.agg #[.int .i64 x1, .slice a3 x2.length c4], .int .i64 x5, .int .i64 x6] [Sl (eI .u8) 1 (.slice a3 x2.length c4) x2] Unit (fun _ => .tuple #[.int .u64 r.1, .bool r.2]) (fun _ => []) (fun _ => []) := by
  refine pure_of Try.func82 rfl Try.ntmps82 rfl hm (fun w => ?_)
  refine sxc_env (l' := [(0, .agg #[.int .i64 x1, .slice a3 x2.length c4]), (1, .int .i64 x5), (2, .int .i64 x6)]) rfl ?_
  refine sxc_seq ?_
  refine sxc_region ?_
  refine sxo_box rfl rfl rfl (fun g7 => ?_)
  refine sxo_assign rfl rfl rfl ?_
  refine sxo_assign rfl rfl rfl ?_
  refine sxo_nil ?_
  refine sxq_next ?_
  refine sxc_seq ?_
  refine sxc_seq ?_
  refine sxc_region ?_
  refine sxo_fieldAddr rfl rfl ff25_0 rfl ?_
  refine sxo_loadB (i := 0) rfl rfl tf3 rfl rfl (fun _ => rfl) rfl rfl ?_
  refine sxo_move rfl rfl rfl ?_
  refine sxo_sub rfl rfl rfl rfl ?_
  refine sxo_move rfl rfl rfl ?_
  refine sxo_lss rfl rfl rfl rfl ?_
  refine sxo_nil ?_
  refine sxq_next ?_
  refine sxc_if rfl (fun h40 => ?_) (fun h40 => ?_)
  · refine sxc_seq ?_
    refine sxc_region ?_
    refine sxo_assign rfl rfl rfl ?_
    refine sxo_assign rfl rfl rfl ?_
    refine sxo_nil ?_
    refine sxq_next ?_
    refine sxc_ret ?_
    refine sxq_thenR ?_
    exact sxq_doneP () (.inl rfl) (res2 rfl rfl rfl) (fun h => by subst h; rfl) (fun h => by subst h; exact .nil)
  · refine sxc_skip ?_
    refine sxq_next ?_
    refine sxc_join (fun ((x24, _) : (Int × Unit)) => [(6, .int .u64 x24)]) (fun ((x24, _) : (Int × Unit)) => []) (fun ((x24, _) : (Int × Unit)) => []) (fun ((x24, _) : (Int × Unit)) => []) (fun ((x24, _) : (Int × Unit)) => M_bits_Read_j2 F x24) ?_ ?_
    · refine sxc_seq ?_
      refine sxc_region ?_
      refine sxo_move rfl rfl rfl ?_
      refine sxo_move rfl rfl rfl ?_
      refine sxo_nil ?_
      refine sxq_next ?_
      refine sxc_block ?_
      refine sxc_loopP (fun (((x29, x30), _) : ((Int × Int) × Unit)) => [(1, .int .i64 x5), (3, .pointer (some ⟨g7, 0, none⟩)), (6, .int .u64 x29), (15, .int .i64 x6), (16, .int .i64 x30)]) (fun (((x29, x30), _) : ((Int × Int) × Unit)) => [⟨g7, 25, [.int .i64 x1, .slice a3 x2.length c4]⟩]) (fun (((x29, x30), _) : ((Int × Int) × Unit)) => []) (fun (((x29, x30), _) : ((Int × Int) × Unit)) => [Sl (eI .u8) 1 (.slice a3 x2.length c4) x2]) (fun k (s : ((Int × Int) × Unit)) => M_bits_Read_l3 F x1 x2 x5 x6 k s.1) ((0, 0), ()) F (lk_cons rfl (lk_cons rfl (lk_cons rfl (lk_cons rfl (lk_cons rfl lk_nil))))) (.cons 0 rfl .nil) .nil (fk_cons 0 rfl fk_nil) (fun _ => rfl) ?_
      intro k35
      rintro ⟨⟨x29, x30⟩, _⟩
      try dsimp only
      refine sxc_meq (m' := M_bits_Read_b3 F x1 x2 x5 x6 (M_bits_Read_l3 F x1 x2 x5 x6 k35) x29 x30) rfl ?_
      refine sxc_seq ?_
      refine sxc_region ?_
      refine sxo_lss rfl rfl rfl rfl ?_
      refine sxo_nil ?_
      refine sxq_next ?_
      refine sxc_seq ?_
      refine sxc_if rfl (fun h39 => ?_) (fun h39 => ?_)
      · refine sxc_skip ?_
        refine sxq_next ?_
        refine sxc_seq ?_
        refine sxc_block ?_
        refine sxc_seq ?_
        refine sxc_region ?_
        refine sxo_move rfl rfl rfl ?_
        refine sxo_assign rfl rfl rfl ?_
        refine sxo_nil ?_
        refine sxq_next ?_
        refine sxc_region ?_
        refine sxo_move rfl rfl rfl ?_
        refine sxo_shl rfl rfl rfl rfl rfl ?_
        refine sxo_loadB (i := 0) rfl rfl tf25 rfl rfl (by simp) rfl rfl ?_
        refine sxo_move rfl rfl rfl ?_
        refine sxo_move rfl rfl rfl ?_
        refine sxo_add rfl rfl rfl rfl ?_
        refine sxo_call ent96 rfl rfl rfl (fun x38 e38 => C_bits_At F x1 x2 a3 c4 (iadd .i64 x5 x30) x38 e38) (.consF 0 rfl .nil) (fun x38 e38 => ?_)
        intro _
        refine sxo_or rfl rfl rfl rfl ?_
        refine sxo_assign rfl rfl rfl ?_
        refine sxo_nil ?_
        refine sxq_blkN ?_
        refine sxq_next ?_
        refine sxc_region ?_
        refine sxo_add rfl rfl rfl rfl ?_
        refine sxo_move rfl rfl rfl ?_
        refine sxo_nil ?_
        exact sxq_againP ((ior .u64 (ishl .u64 x29 1) x38, iadd .i64 x30 1), ()) (lk_cons rfl (lk_cons rfl (lk_cons rfl (lk_cons rfl (lk_cons rfl lk_nil))))) (.cons 0 rfl .nil) .nil (fk_cons 0 rfl fk_nil)
      · refine sxc_exit ?_
        refine sxq_thenX ?_
        refine sxq_thenX ?_
        refine sxq_blkX ?_
        exact sxq_meetP (x29, ()) (lk_cons rfl lk_nil) .nil .nil fk_nil
    · rintro ⟨x24, _⟩
      try dsimp only
      refine sxc_seq ?_
      refine sxc_region ?_
      refine sxo_move rfl rfl rfl ?_
      refine sxo_assign rfl rfl rfl ?_
      refine sxo_assign rfl rfl rfl ?_
      refine sxo_nil ?_
      refine sxq_next ?_
      refine sxc_ret ?_
      exact sxq_doneP () (.inl rfl) (res2 rfl rfl rfl) (fun h => by subst h; rfl) (fun h => by subst h; exact .nil)

theorem C_elias_reader_number_elias_unaryLength (F : Nat) (x1 : Int) (x2 : List Int) (a3 : Option Addr) (c4 : Nat) (x5 : Int) (r : (Int × Int × Int)) (hm : M_elias_reader_number_elias_unaryLength F x1 x2 x5 = some r) :
    Pure Try.prog 91 [.func (.func 90) #[] #[], .agg #[.int .i64 x1, .slice a3 x2.length c4], .int .i64 x5] [Sl (eI .u8) 1 (.slice a3 x2.length c4) x2] Unit (fun _ => .tuple #[.int .u64 r.1, .int .i64 r.2.1, .int .i64 r.2.2]) (fun _ => []) (fun _ => []) := by
  refine pure_of Try.func91 rfl Try.ntmps91 rfl hm (fun w => ?_)
  refine sxc_env (l' := [(0, .func (.func 90) #[] #[]), (1, .agg #[.int .i64 x1, .slice a3 x2.length c4]), (2, .int .i64 x5)]) rfl ?_
  refine sxc_seq ?_
  refine sxc_region ?_
  refine sxo_box rfl rfl rfl (fun g6 => ?_)
  refine sxo_assign rfl rfl rfl ?_
  refine sxo_assign rfl rfl rfl ?_
  refine sxo_assign rfl rfl rfl ?_
  refine sxo_nil ?_
  refine sxq_next ?_
  refine sxc_seq ?_
  refine sxc_region ?_
  refine sxo_move rfl rfl rfl ?_
  refine sxo_loadB (i := 0) rfl rfl tf25 rfl rfl (by simp) rfl rfl ?_
  refine sxo_move rfl rfl rfl ?_
  refine sxo_callV ent90 rfl rfl rfl rfl (fun x7 e7 => C_elias_unaryLength F x1 x2 a3 c4 x5 x7 e7) (.consF 0 rfl .nil) (fun x7 e7 => ?_)
  intro _
  refine sxo_move rfl rfl rfl ?_
  refine sxo_extract rfl rfl rfl rfl ?_
  refine sxo_extract rfl rfl rfl rfl ?_
  refine sxo_extract rfl rfl rfl rfl ?_
  refine sxo_assign rfl rfl rfl ?_
  refine sxo_assign rfl rfl rfl ?_
  refine sxo_assign rfl rfl rfl ?_
  refine sxo_nil ?_
  refine sxq_next ?_
  refine sxc_seq ?_
  refine sxc_seq ?_
  refine sxc_region ?_
  refine sxo_move rfl rfl rfl ?_
  refine sxo_neq rfl rfl rfl rfl ?_
  refine sxo_nil ?_
  refine sxq_next ?_
  refine sxc_if rfl (fun h20 => ?_) (fun h20 => ?_)
  · refine sxc_seq ?_
    refine sxc_region ?_
    refine sxo_move rfl rfl rfl ?_
    refine sxo_assign rfl rfl rfl ?_
    refine sxo_assign rfl rfl rfl ?_
    refine sxo_assign rfl rfl rfl ?_
    refine sxo_nil ?_
    refine sxq_next ?_
    refine sxc_ret ?_
    refine sxq_thenR ?_
    exact sxq_doneP () (.inl rfl) (res3 rfl rfl rfl rfl) (fun h => by subst h; rfl) (fun h => by subst h; exact .nil)
  · refine sxc_skip ?_
    refine sxq_next ?_
    refine sxc_seq ?_
    refine sxc_seq ?_
    refine sxc_region ?_
    refine sxo_move rfl rfl rfl ?_
    refine sxo_geq rfl rfl rfl rfl ?_
    refine sxo_nil ?_
    refine sxq_next ?_
    refine sxc_if rfl (fun h19 => ?_) (fun h19 => ?_)
    · refine sxc_seq ?_
      refine sxc_region ?_
      refine sxo_assign rfl rfl rfl ?_
      refine sxo_assign rfl rfl rfl ?_
      refine sxo_assign rfl rfl rfl ?_
      refine sxo_nil ?_
      refine sxq_next ?_
      refine sxc_ret ?_
      refine sxq_thenR ?_
      exact sxq_doneP () (.inl rfl) (res3 rfl rfl rfl rfl) (fun h => by subst h; rfl) (fun h => by subst h; exact .nil)
    · refine sxc_skip ?_
      refine sxq_next ?_
      refine sxc_seq ?_
      refine sxc_region ?_
      refine sxo_loadB (i := 0) rfl rfl tf25 rfl rfl (by simp) rfl rfl ?_
      refine sxo_move rfl rfl rfl ?_
      refine sxo_move rfl rfl rfl ?_
      refine sxo_conv rfl Try.underlying22 Try.underlying3 rfl rfl ?_
      refine sxo_call ent82 rfl rfl rfl (fun x10 e10 => C_bits_Read F x1 x2 a3 c4 x7.2.1 (iconv .i64 x7.1) x10 e10) (.consF 0 rfl .nil) (fun x10 e10 => ?_)
      intro _
      refine sxo_move rfl rfl rfl ?_
      refine sxo_extract rfl rfl rfl rfl ?_
      refine sxo_extract rfl rfl rfl rfl ?_
      refine sxo_assign rfl rfl rfl ?_
      refine sxo_assign rfl rfl rfl ?_
      refine sxo_nil ?_
      refine sxq_next ?_
      refine sxc_seq ?_
      refine sxc_seq ?_
      refine sxc_region ?_
      refine sxo_move rfl rfl rfl ?_
      refine sxo_not rfl rfl rfl ?_
      refine sxo_nil ?_
      refine sxq_next ?_
      refine sxc_if rfl (fun h18 => ?_) (fun h18 => ?_)
      · refine sxc_seq ?_
        refine sxc_region ?_
        refine sxo_assign rfl rfl rfl ?_
        refine sxo_assign rfl rfl rfl ?_
        refine sxo_assign rfl rfl rfl ?_
        refine sxo_nil ?_
        refine sxq_next ?_
        refine sxc_ret ?_
        refine sxq_thenR ?_
        exact sxq_doneP () (.inl rfl) (res3 rfl rfl rfl rfl) (fun h => by subst h; rfl) (fun h => by subst h; exact .nil)
      · refine sxc_skip ?_
        refine sxq_next ?_
        refine sxc_seq ?_
        refine sxc_seq ?_
        refine sxc_region ?_
        refine sxo_move rfl rfl rfl ?_
        refine sxo_move rfl rfl rfl ?_
        refine sxo_chk (fun h15 => ?_)
        refine sxo_shl rfl rfl rfl rfl h15 ?_
        refine sxo_sub rfl rfl rfl rfl ?_
        refine sxo_add rfl rfl rfl rfl ?_
        refine sxo_assign rfl rfl rfl ?_
        refine sxo_lett (fun x16 e16 => ?_)
        refine sxo_again (d := 12) (v := .int .u64 x16) rfl (by rw [e16]) ?_
        refine sxo_nil ?_
        refine sxq_next ?_
        refine sxc_seq ?_
        refine sxc_region ?_
        refine sxo_move rfl rfl rfl ?_
        refine sxo_gtr rfl rfl rfl rfl ?_
        refine sxo_nil ?_
        refine sxq_next ?_
        refine sxc_if rfl (fun h17 => ?_) (fun h17 => ?_)
        · refine sxc_seq ?_
          refine sxc_region ?_
          refine sxo_assign rfl rfl rfl ?_
          refine sxo_assign rfl rfl rfl ?_
          refine sxo_assign rfl rfl rfl ?_
          refine sxo_nil ?_
          refine sxq_next ?_
          refine sxc_ret ?_
          refine sxq_thenR ?_
          exact sxq_doneP () (.inl rfl) (res3 rfl rfl rfl rfl) (fun h => by subst h; rfl) (fun h => by subst h; exact .nil)
        · refine sxc_skip ?_
          refine sxq_next ?_
          refine sxc_seq ?_
          refine sxc_region ?_
          refine sxo_move rfl rfl rfl ?_
          refine sxo_move rfl rfl rfl ?_
          refine sxo_move rfl rfl rfl ?_
          refine sxo_conv rfl Try.underlying22 Try.underlying3 rfl rfl ?_
          refine sxo_add rfl rfl rfl rfl ?_
          refine sxo_assign rfl rfl rfl ?_
          refine sxo_assign rfl rfl rfl ?_
          refine sxo_assign rfl rfl rfl ?_
          refine sxo_nil ?_
          refine sxq_next ?_
          refine sxc_ret ?_
          exact sxq_doneP () (.inl rfl) (res3 rfl rfl rfl rfl) (fun h => by subst h; rfl) (fun h => by subst h; exact .nil)

theorem C_elias_FromGamma (F : Nat) (x1 : Int) (x2 : List Int) (a3 : Option Addr) (c4 : Nat) (x5 : Int) (r : (Int × Int × Int)) (hm : M_elias_FromGamma F x1 x2 x5 = some r) :
    Pure Try.prog 57 [.agg #[.int .i64 x1, .slice a3 x2.length c4], .int .i64 x5] [Sl (eI .u8) 1 (.slice a3 x2.length c4) x2] Unit (fun _ => .tuple #[.int .u64 r.1, .int .i64 r.2.1, .int .i64 r.2.2]) (fun _ => []) (fun _ => []) := by
  refine pure_of Try.func57 rfl Try.ntmps57 rfl hm (fun w => ?_)
  refine sxc_env (l' := [(0, .agg #[.int .i64 x1, .slice a3 x2.length c4]), (1, .int .i64 x5)]) rfl ?_
  refine sxc_seq ?_
  refine sxc_region ?_
  refine sxo_box rfl rfl rfl (fun g6 => ?_)
  refine sxo_assign rfl rfl rfl ?_
  refine sxo_assign rfl rfl rfl ?_
  refine sxo_assign rfl rfl rfl ?_
  refine sxo_nil ?_
  refine sxq_next ?_
  refine sxc_seq ?_
  refine sxc_region ?_
  refine sxo_loadB (i := 0) rfl rfl tf25 rfl rfl (by simp) rfl rfl ?_
  refine sxo_move rfl rfl rfl ?_
  refine sxo_call ent91 rfl rfl rfl (fun x7 e7 => C_elias_reader_number_elias_unaryLength F x1 x2 a3 c4 x5 x7 e7) (.consF 0 rfl .nil) (fun x7 e7 => ?_)
  intro _
  refine sxo_extract rfl rfl rfl rfl ?_
  refine sxo_extract rfl rfl rfl rfl ?_
  refine sxo_extract rfl rfl rfl rfl ?_
  refine sxo_assign rfl rfl rfl ?_
  refine sxo_assign rfl rfl rfl ?_
  refine sxo_assign rfl rfl rfl ?_
  refine sxo_nil ?_
  refine sxq_next ?_
  refine sxc_ret ?_
  exact sxq_doneP () (.inl rfl) (res3 rfl rfl rfl rfl) (fun h => by subst h; rfl) (fun h => by subst h; exact .nil)

theorem C_elias_read_elias_FromGamma (F : Nat) (x1 : Int) (x2 : List Int) (a3 : Option Addr) (c4 : Nat) (x5 : Int) (r : (Int × Int × Int)) (hm : M_elias_read_elias_FromGamma F x1 x2 x5 = some r) :
    Pure Try.prog 56 [.agg #[.int .i64 x1, .slice a3 x2.length c4], .int .i64 x5, .func (.func 57) #[] #[]] [Sl (eI .u8) 1 (.slice a3 x2.length c4) x2] Unit (fun _ => .tuple #[.int .u64 r.1, .int .i64 r.2.1, .int .i64 r.2.2]) (fun _ => []) (fun _ => []) := by
  refine pure_of Try.func56 rfl Try.ntmps56 rfl hm (fun w => ?_)
  refine sxc_env (l' := [(0, .agg #[.int .i64 x1, .slice a3 x2.length c4]), (1, .int .i64 x5), (2, .func (.func 57) #[] #[])]) rfl ?_
  refine sxc_seq ?_
  refine sxc_region ?_
  refine sxo_box rfl rfl rfl (fun g6 => ?_)
  refine sxo_assign rfl rfl rfl ?_
  refine sxo_assign rfl rfl rfl ?_
  refine sxo_assign rfl rfl rfl ?_
  refine sxo_nil ?_
  refine sxq_next ?_
  refine sxc_seq ?_
  refine sxc_seq ?_
  refine sxc_region ?_
  refine sxo_loadB (i := 0) rfl rfl tf25 rfl rfl (by simp) rfl rfl ?_
  refine sxo_move rfl rfl rfl ?_
  refine sxo_call ent89 rfl rfl rfl (fun x9 e9 => C_elias_Check F x1 x2 a3 c4 x5 x9 e9) (.consF 0 rfl .nil) (fun x9 e9 => ?_)
  intro _
  refine sxo_assign rfl rfl rfl ?_
  refine sxo_nil ?_
  refine sxq_next ?_
  refine sxc_seq ?_
  refine sxc_region ?_
  refine sxo_move rfl rfl rfl ?_
  refine sxo_neq rfl rfl rfl rfl ?_
  refine sxo_nil ?_
  refine sxq_next ?_
  refine sxc_if rfl (fun h11 => ?_) (fun h11 => ?_)
  · refine sxc_seq ?_
    refine sxc_region ?_
    refine sxo_move rfl rfl rfl ?_
    refine sxo_assign rfl rfl rfl ?_
    refine sxo_assign rfl rfl rfl ?_
    refine sxo_assign rfl rfl rfl ?_
    refine sxo_nil ?_
    refine sxq_next ?_
    refine sxc_ret ?_
    refine sxq_thenR ?_
    exact sxq_doneP () (.inl rfl) (res3 rfl rfl rfl rfl) (fun h => by subst h; rfl) (fun h => by subst h; exact .nil)
  · refine sxc_skip ?_
    refine sxq_next ?_
    refine sxc_seq ?_
    refine sxc_region ?_
    refine sxo_move rfl rfl rfl ?_
    refine sxo_loadB (i := 0) rfl rfl tf25 rfl rfl (by simp) rfl rfl ?_
    refine sxo_move rfl rfl rfl ?_
    refine sxo_callV ent57 rfl rfl rfl rfl (fun x10 e10 => C_elias_FromGamma F x1 x2 a3 c4 x5 x10 e10) (.consF 0 rfl .nil) (fun x10 e10 => ?_)
    intro _
    refine sxo_extract rfl rfl rfl rfl ?_
    refine sxo_extract rfl rfl rfl rfl ?_
    refine sxo_extract rfl rfl rfl rfl ?_
    refine sxo_assign rfl rfl rfl ?_
    refine sxo_assign rfl rfl rfl ?_
    refine sxo_assign rfl rfl rfl ?_
    refine sxo_nil ?_
    refine sxq_next ?_
    refine sxc_ret ?_
    exact sxq_doneP () (.inl rfl) (res3 rfl rfl rfl rfl) (fun h => by subst h; rfl) (fun h => by subst h; exact .nil)

theorem C_elias_ReadGamma (F : Nat) (x1 : Int) (x2 : List Int) (a3 : Option Addr) (c4 : Nat) (x5 : Int) (r : (Int × Int × Int)) (hm : M_elias_ReadGamma F x1 x2 x5 = some r) :
    Pure Try.prog 17 [.agg #[.int .i64 x1, .slice a3 x2.length c4], .int .i64 x5] [Sl (eI .u8) 1 (.slice a3 x2.length c4) x2] Unit (fun _ => .tuple #[.int .u64 r.1, .int .i64 r.2.1, .int .i64 r.2.2]) (fun _ => []) (fun _ => []) := by
  refine pure_of Try.func17 rfl Try.ntmps17 rfl hm (fun w => ?_)
  refine sxc_env (l' := [(0, .agg #[.int .i64 x1, .slice a3 x2.length c4]), (1, .int .i64 x5)]) rfl ?_
  refine sxc_seq ?_
  refine sxc_region ?_
  refine sxo_box rfl rfl rfl (fun g6 => ?_)
  refine sxo_assign rfl rfl rfl ?_
  refine sxo_assign rfl rfl rfl ?_
  refine sxo_assign rfl rfl rfl ?_
  refine sxo_nil ?_
  refine sxq_next ?_
  refine sxc_seq ?_
  refine sxc_region ?_
  refine sxo_loadB (i := 0) rfl rfl tf25 rfl rfl (by simp) rfl rfl ?_
  refine sxo_move rfl rfl rfl ?_
  refine sxo_call ent56 rfl rfl rfl (fun x7 e7 => C_elias_read_elias_FromGamma F x1 x2 a3 c4 x5 x7 e7) (.consF 0 rfl .nil) (fun x7 e7 => ?_)
  intro _
  refine sxo_extract rfl rfl rfl rfl ?_
  refine sxo_extract rfl rfl rfl rfl ?_
  refine sxo_extract rfl rfl rfl rfl ?_
  refine sxo_assign rfl rfl rfl ?_
  refine sxo_assign rfl rfl rfl ?_
  refine sxo_assign rfl rfl rfl ?_
  refine sxo_nil ?_
  refine sxq_next ?_
  refine sxc_ret ?_
  exact sxq_doneP () (.inl rfl) (res3 rfl rfl rfl rfl) (fun h => by subst h; rfl) (fun h => by subst h; exact .nil)

theorem C_elias_reader_number_elias_FromGamma (F : Nat) (x1 : Int) (x2 : List Int) (a3 : Option Addr) (c4 : Nat) (x5 : Int) (r : (Int × Int × Int)) (hm : M_elias_reader_number_elias_FromGamma F x1 x2 x5 = some r) :
    Pure Try.prog 91 [.func (.func 57) #[] #[], .agg #[.int .i64 x1, .slice a3 x2.length c4], .int .i64 x5] [Sl (eI .u8) 1 (.slice a3 x2.length c4) x2] Unit (fun _ => .tuple #[.int .u64 r.1, .int .i64 r.2.1, .int .i64 r.2.2]) (fun _ => []) (fun _ => []) := by
  refine pure_of Try.func91 rfl Try.ntmps91 rfl hm (fun w => ?_)
  refine sxc_env (l' := [(0, .func (.func 57) #[] #[]), (1, .agg #[.int .i64 x1, .slice a3 x2.length c4]), (2, .int .i64 x5)]) rfl ?_
  refine sxc_seq ?_
  refine sxc_region ?_
  refine sxo_box rfl rfl rfl (fun g6 => ?_)
  refine sxo_assign rfl rfl rfl ?_
  refine sxo_assign rfl rfl rfl ?_
  refine sxo_assign rfl rfl rfl ?_
  refine sxo_nil ?_
  refine sxq_next ?_
  refine sxc_seq ?_
  refine sxc_region ?_
  refine sxo_move rfl rfl rfl ?_
  refine sxo_loadB (i := 0) rfl rfl tf25 rfl rfl (by simp) rfl rfl ?_
  refine sxo_move rfl rfl rfl ?_
  refine sxo_callV ent57 rfl rfl rfl rfl (fun x7 e7 => C_elias_FromGamma F x1 x2 a3 c4 x5 x7 e7) (.consF 0 rfl .nil) (fun x7 e7 => ?_)
  intro _
  refine sxo_move rfl rfl rfl ?_
  refine sxo_extract rfl rfl rfl rfl ?_
  refine sxo_extract rfl rfl rfl rfl ?_
  refine sxo_extract rfl rfl rfl rfl ?_
  refine sxo_assign rfl rfl rfl ?_
  refine sxo_assign rfl rfl rfl ?_
  refine sxo_assign rfl rfl rfl ?_
  refine sxo_nil ?_
  refine sxq_next ?_
  refine sxc_seq ?_
  refine sxc_seq ?_
  refine sxc_region ?_
  refine sxo_move rfl rfl rfl ?_
  refine sxo_neq rfl rfl rfl rfl ?_
  refine sxo_nil ?_
  refine sxq_next ?_
  refine sxc_if rfl (fun h20 => ?_) (fun h20 => ?_)
  · refine sxc_seq ?_
    refine sxc_region ?_
    refine sxo_move rfl rfl rfl ?_
    refine sxo_assign rfl rfl rfl ?_
    refine sxo_assign rfl rfl rfl ?_
    refine sxo_assign rfl rfl rfl ?_
    refine sxo_nil ?_
    refine sxq_next ?_
    refine sxc_ret ?_
    refine sxq_thenR ?_
    exact sxq_doneP () (.inl rfl) (res3 rfl rfl rfl rfl) (fun h => by subst h; rfl) (fun h => by subst h; exact .nil)
  · refine sxc_skip ?_
    refine sxq_next ?_
    refine sxc_seq ?_
    refine sxc_seq ?_
    refine sxc_region ?_
    refine sxo_move rfl rfl rfl ?_
    refine sxo_geq rfl rfl rfl rfl ?_
    refine sxo_nil ?_
    refine sxq_next ?_
    refine sxc_if rfl (fun h19 => ?_) (fun h19 => ?_)
    · refine sxc_seq ?_
      refine sxc_region ?_
      refine sxo_assign rfl rfl rfl ?_
      refine sxo_assign rfl rfl rfl ?_
      refine sxo_assign rfl rfl rfl ?_
      refine sxo_nil ?_
      refine sxq_next ?_
      refine sxc_ret ?_
      refine sxq_thenR ?_
      exact sxq_doneP () (.inl rfl) (res3 rfl rfl rfl rfl) (fun h => by subst h; rfl) (fun h => by subst h; exact .nil)
    · refine sxc_skip ?_
      refine sxq_next ?_
      refine sxc_seq ?_
      refine sxc_region ?_
      refine sxo_loadB (i := 0) rfl rfl tf25 rfl rfl (by simp) rfl rfl ?_
      refine sxo_move rfl rfl rfl ?_
      refine sxo_move rfl rfl rfl ?_
      refine sxo_conv rfl Try.underlying22 Try.underlying3 rfl rfl ?_
      refine sxo_call ent82 rfl rfl rfl (fun x10 e10 => C_bits_Read F x1 x2 a3 c4 x7.2.1 (iconv .i64 x7.1) x10 e10) (.consF 0 rfl .nil) (fun x10 e10 => ?_)
      intro _
      refine sxo_move rfl rfl rfl ?_
      refine sxo_extract rfl rfl rfl rfl ?_
      refine sxo_extract rfl rfl rfl rfl ?_
      refine sxo_assign rfl rfl rfl ?_
      refine sxo_assign rfl rfl rfl ?_
      refine sxo_nil ?_
      refine sxq_next ?_
      refine sxc_seq ?_
      refine sxc_seq ?_
      refine sxc_region ?_
      refine sxo_move rfl rfl rfl ?_
      refine sxo_not rfl rfl rfl ?_
      refine sxo_nil ?_
      refine sxq_next ?_
      refine sxc_if rfl (fun h18 => ?_) (fun h18 => ?_)
      · refine sxc_seq ?_
        refine sxc_region ?_
        refine sxo_assign rfl rfl rfl ?_
        refine sxo_assign rfl rfl rfl ?_
        refine sxo_assign rfl rfl rfl ?_
        refine sxo_nil ?_
        refine sxq_next ?_
        refine sxc_ret ?_
        refine sxq_thenR ?_
        exact sxq_doneP () (.inl rfl) (res3 rfl rfl rfl rfl) (fun h => by subst h; rfl) (fun h => by subst h; exact .nil)
      · refine sxc_skip ?_
        refine sxq_next ?_
        refine sxc_seq ?_
        refine sxc_seq ?_
        refine sxc_region ?_
        refine sxo_move rfl rfl rfl ?_
        refine sxo_move rfl rfl rfl ?_
        refine sxo_chk (fun h15 => ?_)
        refine sxo_shl rfl rfl rfl rfl h15 ?_
        refine sxo_sub rfl rfl rfl rfl ?_
        refine sxo_add rfl rfl rfl rfl ?_
        refine sxo_assign rfl rfl rfl ?_
        refine sxo_lett (fun x16 e16 => ?_)
        refine sxo_again (d := 12) (v := .int .u64 x16) rfl (by rw [e16]) ?_
        refine sxo_nil ?_
        refine sxq_next ?_
        refine sxc_seq ?_
        refine sxc_region ?_
        refine sxo_move rfl rfl rfl ?_
        refine sxo_gtr rfl rfl rfl rfl ?_
        refine sxo_nil ?_
        refine sxq_next ?_
        refine sxc_if rfl (fun h17 => ?_) (fun h17 => ?_)
        · refine sxc_seq ?_
          refine sxc_region ?_
          refine sxo_assign rfl rfl rfl ?_
          refine sxo_assign rfl rfl rfl ?_
          refine sxo_assign rfl rfl rfl ?_
          refine sxo_nil ?_
          refine sxq_next ?_
          refine sxc_ret ?_
          refine sxq_thenR ?_
          exact sxq_doneP () (.inl rfl) (res3 rfl rfl rfl rfl) (fun h => by subst h; rfl) (fun h => by subst h; exact .nil)
        · refine sxc_skip ?_
          refine sxq_next ?_
          refine sxc_seq ?_
          refine sxc_region ?_
          refine sxo_move rfl rfl rfl ?_
          refine sxo_move rfl rfl rfl ?_
          refine sxo_move rfl rfl rfl ?_
          refine sxo_conv rfl Try.underlying22 Try.underlying3 rfl rfl ?_
          refine sxo_add rfl rfl rfl rfl ?_
          refine sxo_assign rfl rfl rfl ?_
          refine sxo_assign rfl rfl rfl ?_
          refine sxo_assign rfl rfl rfl ?_
          refine sxo_nil ?_
          refine sxq_next ?_
          refine sxc_ret ?_
          exact sxq_doneP () (.inl rfl) (res3 rfl rfl rfl rfl) (fun h => by subst h; rfl) (fun h => by subst h; exact .nil)

theorem C_elias_FromDelta (F : Nat) (x1 : Int) (x2 : List Int) (a3 : Option Addr) (c4 : Nat) (x5 : Int) (r : (Int × Int × Int)) (hm : M_elias_FromDelta F x1 x2 x5 = some r) :
    Pure Try.prog 58 [.agg #[.int .i64 x1, .slice a3 x2.length c4], .int .i64 x5] [Sl (eI .u8) 1 (.slice a3 x2.length c4) x2] Unit (fun _ => .tuple #[.int .u64 r.1, .int .i64 r.2.1, .int .i64 r.2.2]) (fun _ => []) (fun _ => []) := by
  refine pure_of Try.func58 rfl Try.ntmps58 rfl hm (fun w => ?_)
  refine sxc_env (l' := [(0, .agg #[.int .i64 x1, .slice a3 x2.length c4]), (1, .int .i64 x5)]) rfl ?_
  refine sxc_seq ?_
  refine sxc_region ?_
  refine sxo_box rfl rfl rfl (fun g6 => ?_)
  refine sxo_assign rfl rfl rfl ?_
  refine sxo_assign rfl rfl rfl ?_
  refine sxo_assign rfl rfl rfl ?_
  refine sxo_nil ?_
  refine sxq_next ?_
  refine sxc_seq ?_
  refine sxc_region ?_
  refine sxo_loadB (i := 0) rfl rfl tf25 rfl rfl (by simp) rfl rfl ?_
  refine sxo_move rfl rfl rfl ?_
  refine sxo_call ent91 rfl rfl rfl (fun x7 e7 => C_elias_reader_number_elias_FromGamma F x1 x2 a3 c4 x5 x7 e7) (.consF 0 rfl .nil) (fun x7 e7 => ?_)
  intro _
  refine sxo_extract rfl rfl rfl rfl ?_
  refine sxo_extract rfl rfl rfl rfl ?_
  refine sxo_extract rfl rfl rfl rfl ?_
  refine sxo_assign rfl rfl rfl ?_
  refine sxo_assign rfl rfl rfl ?_
  refine sxo_assign rfl rfl rfl ?_
  refine sxo_nil ?_
  refine sxq_next ?_
  refine sxc_ret ?_
  exact sxq_doneP () (.inl rfl) (res3 rfl rfl rfl rfl) (fun h => by subst h; rfl) (fun h => by subst h; exact .nil)

theorem C_elias_read_elias_FromDelta (F : Nat) (x1 : Int) (x2 : List Int) (a3 : Option Addr) (c4 : Nat) (x5 : Int) (r : (Int × Int × Int)) (hm : M_elias_read_elias_FromDelta F x1 x2 x5 = some r) :
    Pure Try.prog 56 [.agg #[.int .i64 x1, .slice a3 x2.length c4], .int .i64 x5, .func (.func 58) #[] #[]] [Sl (eI .u8) 1 (.slice a3 x2.length c4) x2] Unit (fun _ => .tuple #[.int .u64 r.1, .int .i64 r.2.1, .int .i64 r.2.2]) (fun _ => []) (fun _ => []) := by
  refine pure_of Try.func56 rfl Try.ntmps56 rfl hm (fun w => ?_)
  refine sxc_env (l' := [(0, .agg #[.int .i64 x1, .slice a3 x2.length c4]), (1, .int .i64 x5), (2, .func (.func 58) #[] #[])]) rfl ?_
  refine sxc_seq ?_
  refine sxc_region ?_
  refine sxo_box rfl rfl rfl (fun g6 => ?_)
  refine sxo_assign rfl rfl rfl ?_
  refine sxo_assign rfl rfl rfl ?_
  refine sxo_assign rfl rfl rfl ?_
  refine sxo_nil ?_
  refine sxq_next ?_
  refine sxc_seq ?_
  refine sxc_seq ?_
  refine sxc_region ?_
  refine sxo_loadB (i := 0) rfl rfl tf25 rfl rfl (by simp) rfl rfl ?_
  refine sxo_move rfl rfl rfl ?_
  refine sxo_call ent89 rfl rfl rfl (fun x9 e9 => C_elias_Check F x1 x2 a3 c4 x5 x9 e9) (.consF 0 rfl .nil) (fun x9 e9 => ?_)
  intro _
  refine sxo_assign rfl rfl rfl ?_
  refine sxo_nil ?_
  refine sxq_next ?_
  refine sxc_seq ?_
  refine sxc_region ?_
  refine sxo_move rfl rfl rfl ?_
  refine sxo_neq rfl rfl rfl rfl ?_
  refine sxo_nil ?_
  refine sxq_next ?_
  refine sxc_if rfl (fun h11 => ?_) (fun h11 => ?_)
  · refine sxc_seq ?_
    refine sxc_region ?_
    refine sxo_move rfl rfl rfl ?_
    refine sxo_assign rfl rfl rfl ?_
    refine sxo_assign rfl rfl rfl ?_
    refine sxo_assign rfl rfl rfl ?_
    refine sxo_nil ?_
    refine sxq_next ?_
    refine sxc_ret ?_
    refine sxq_thenR ?_
    exact sxq_doneP () (.inl rfl) (res3 rfl rfl rfl rfl) (fun h => by subst h; rfl) (fun h => by subst h; exact .nil)
  · refine sxc_skip ?_
    refine sxq_next ?_
    refine sxc_seq ?_
    refine sxc_region ?_
    refine sxo_move rfl rfl rfl ?_
    refine sxo_loadB (i := 0) rfl rfl tf25 rfl rfl (by simp) rfl rfl ?_
    refine sxo_move rfl rfl rfl ?_
    refine sxo_callV ent58 rfl rfl rfl rfl (fun x10 e10 => C_elias_FromDelta F x1 x2 a3 c4 x5 x10 e10) (.consF 0 rfl .nil) (fun x10 e10 => ?_)
    intro _
    refine sxo_extract rfl rfl rfl rfl ?_
    refine sxo_extract rfl rfl rfl rfl ?_
    refine sxo_extract rfl rfl rfl rfl ?_
    refine sxo_assign rfl rfl rfl ?_
    refine sxo_assign rfl rfl rfl ?_
    refine sxo_assign rfl rfl rfl ?_
    refine sxo_nil ?_
    refine sxq_next ?_
    refine sxc_ret ?_
    exact sxq_doneP () (.inl rfl) (res3 rfl rfl rfl rfl) (fun h => by subst h; rfl) (fun h => by subst h; exact .nil)

theorem C_elias_ReadDelta (F : Nat) (x1 : Int) (x2 : List Int) (a3 : Option Addr) (c4 : Nat) (x5 : Int) (r : (Int × Int × Int)) (hm : M_elias_ReadDelta F x1 x2 x5 = some r) :
    Pure Try.prog 18 [.agg #[.int .i64 x1, .slice a3 x2.length c4], .int .i64 x5] [Sl (eI .u8) 1 (.slice a3 x2.length c4) x2] Unit (fun _ => .tuple #[.int .u64 r.1, .int .i64 r.2.1, .int .i64 r.2.2]) (fun _ => []) (fun _ => []) := by
  refine pure_of Try.func18 rfl Try.ntmps18 rfl hm (fun w => ?_)
  refine sxc_env (l' := [(0, .agg #[.int .i64 x1, .slice a3 x2.length c4]), (1, .int .i64 x5)]) rfl ?_
  refine sxc_seq ?_
  refine sxc_region ?_
  refine sxo_box rfl rfl rfl (fun g6 => ?_)
  refine sxo_assign rfl rfl rfl ?_
  refine sxo_assign rfl rfl rfl ?_
  refine sxo_assign rfl rfl rfl ?_
  refine sxo_nil ?_
  refine sxq_next ?_
  refine sxc_seq ?_
  refine sxc_region ?_
  refine sxo_loadB (i := 0) rfl rfl tf25 rfl rfl (by simp) rfl rfl ?_
  refine sxo_move rfl rfl rfl ?_
  refine sxo_call ent56 rfl rfl rfl (fun x7 e7 => C_elias_read_elias_FromDelta F x1 x2 a3 c4 x5 x7 e7) (.consF 0 rfl .nil) (fun x7 e7 => ?_)
  intro _
  refine sxo_extract rfl rfl rfl rfl ?_
  refine sxo_extract rfl rfl rfl rfl ?_
  refine sxo_extract rfl rfl rfl rfl ?_
  refine sxo_assign rfl rfl rfl ?_
  refine sxo_assign rfl rfl rfl ?_
  refine sxo_assign rfl rfl rfl ?_
  refine sxo_nil ?_
  refine sxq_next ?_
  refine sxc_ret ?_
  exact sxq_doneP () (.inl rfl) (res3 rfl rfl rfl rfl) (fun h => by subst h; rfl) (fun h => by subst h; exact .nil)

theorem C_elias_Long (F : Nat) (x1 : Int) (r : (Int × Int × Int)) (hm : M_elias_Long F x1 = some r) :
    Pure Try.prog 19 [.int .u64 x1] [] Unit (fun _ => .tuple #[.int .i64 r.1, .int .i64 r.2.1, .int .i64 r.2.2]) (fun _ => []) (fun _ => []) := by
  refine pure_of Try.func19 rfl Try.ntmps19 rfl hm (fun w => ?_)
  refine sxc_env (l' := [(0, .int .u64 x1)]) rfl ?_
  refine sxc_seq ?_
  refine sxc_region ?_
  refine sxo_assign rfl rfl rfl ?_
  refine sxo_assign rfl rfl rfl ?_
  refine sxo_assign rfl rfl rfl ?_
  refine sxo_nil ?_
  refine sxq_next ?_
  refine sxc_seq ?_
  refine sxc_seq ?_
  refine sxc_region ?_
  refine sxo_move rfl rfl rfl ?_
  refine sxo_gtr rfl rfl rfl rfl ?_
  refine sxo_nil ?_
  refine sxq_next ?_
  refine sxc_if rfl (fun h6 => ?_) (fun h6 => ?_)
  · refine sxc_seq ?_
    refine sxc_region ?_
    refine sxo_assign rfl rfl rfl ?_
    refine sxo_assign rfl rfl rfl ?_
    refine sxo_assign rfl rfl rfl ?_
    refine sxo_nil ?_
    refine sxq_next ?_
    refine sxc_ret ?_
    refine sxq_thenR ?_
    exact sxq_doneP () (.inl rfl) (res3 rfl rfl rfl rfl) (fun h => by subst h; rfl) (fun h => by subst h; exact .nil)
  · refine sxc_skip ?_
    refine sxq_next ?_
    refine sxc_seq ?_
    refine sxc_region ?_
    refine sxo_move rfl rfl rfl ?_
    refine sxo_call ent59 rfl rfl rfl (fun x3 e3 => C_elias_rest F x1 x3 e3) .nil (fun x3 e3 => ?_)
    intro _
    refine sxo_assign rfl rfl rfl ?_
    refine sxo_nil ?_
    refine sxq_next ?_
    refine sxc_seq ?_
    refine sxc_region ?_
    refine sxo_move rfl rfl rfl ?_
    refine sxo_mul rfl rfl rfl rfl ?_
    refine sxo_add rfl rfl rfl rfl ?_
    refine sxo_move rfl rfl rfl ?_
    refine sxo_conv rfl Try.underlying3 Try.underlying22 rfl rfl ?_
    refine sxo_call ent59 rfl rfl rfl (fun x4 e4 => C_elias_rest F (iconv .u64 x3) x4 e4) .nil (fun x4 e4 => ?_)
    intro _
    refine sxo_mul rfl rfl rfl rfl ?_
    refine sxo_add rfl rfl rfl rfl ?_
    refine sxo_move rfl rfl rfl ?_
    refine sxo_add rfl rfl rfl rfl ?_
    refine sxo_assign rfl rfl rfl ?_
    refine sxo_assign rfl rfl rfl ?_
    refine sxo_lett (fun x5 e5 => ?_)
    refine sxo_again (d := 3) (v := .int .i64 x5) rfl (by rw [e5]) ?_
    refine sxo_assign rfl rfl rfl ?_
    refine sxo_nil ?_
    refine sxq_next ?_
    refine sxc_ret ?_
    exact sxq_doneP () (.inl rfl) (res3 rfl rfl rfl rfl) (fun h => by subst h; rfl) (fun h => by subst h; exact .nil)

theorem C_R_PackBits (F : Nat) (x1 : List Int) (a2 : Option Addr) (c3 : Nat) (r : (Int × List Int)) (hm : M_R_PackBits F x1 = some r) :
    Pure Try.prog 20 [.slice a2 x1.length c3] [Sl (eI .i64) 1 (.slice a2 x1.length c3) x1] (Option Addr × Nat) (fun g => .agg #[.int .i64 r.1, .slice g.1 r.2.length g.2]) (fun g => [Ro (eI .u8) 5 1 (.slice g.1 r.2.length g.2) r.2]) (fun _ => []) := by
  refine pure_of Try.func20 rfl Try.ntmps20 rfl hm (fun w => ?_)
  refine sxc_env (l' := [(0, .slice a2 x1.length c3)]) rfl ?_
  refine sxc_seq ?_
  refine sxc_region ?_
  refine sxo_alloc rfl tf25 rfl (fun g4 => ?_)
  refine sxo_nil ?_
  refine sxq_next ?_
  refine sxc_seq ?_
  refine sxc_region ?_
  refine sxo_move rfl rfl rfl ?_
  refine sxo_len rfl Try.underlying34 rfl rfl ?_
  refine sxo_build (cells := [.int .i64 (x1.length : Int), .slice none 0 0]) rfl st25 rfl (by kernel_rfl) rfl ?_
  refine sxo_alloc rfl tf25 rfl (fun g5 => ?_)
  refine sxo_storeB (i := 0) rfl rfl rfl tf25 rfl rfl rfl rfl rfl ?_
  refine sxo_nil ?_
  refine sxq_next ?_
  refine sxc_join (fun ((x497, (a495, c496)) : (List Int × (Option Addr × Nat))) => [(2, .pointer (some ⟨g4, 0, none⟩)), (3, .pointer (some ⟨g5, 0, none⟩))]) (fun ((x497, (a495, c496)) : (List Int × (Option Addr × Nat))) => [⟨g5, 25, [.int .i64 (x1.length : Int), .slice a495 x497.length c496]⟩, ⟨g4, 25, [.int .i64 0, .slice none 0 0]⟩]) (fun ((x497, (a495, c496)) : (List Int × (Option Addr × Nat))) => [Ro (eI .u8) 5 1 (.slice a495 x497.length c496) x497]) (fun ((x497, (a495, c496)) : (List Int × (Option Addr × Nat))) => []) (fun ((x497, _) : (List Int × (Option Addr × Nat))) => M_R_PackBits_j59 F x1 x497) ?_ ?_
  · refine sxc_seq ?_
    refine sxc_region ?_
    refine sxo_assign rfl rfl rfl ?_
    refine sxo_nil ?_
    refine sxq_next ?_
    refine sxc_block ?_
    refine sxc_nilrow Int (eI .u8) 5 1 ?_
    refine sxc_loopP (fun (((x660, x663), (a661, c662)) : ((Int × List Int) × (Option Addr × Nat))) => [(0, .slice a2 x1.length c3), (2, .pointer (some ⟨g4, 0, none⟩)), (3, .pointer (some ⟨g5, 0, none⟩)), (4, .int .i64 x660)]) (fun (((x660, x663), (a661, c662)) : ((Int × List Int) × (Option Addr × Nat))) => [⟨g5, 25, [.int .i64 (x1.length : Int), .slice a661 x663.length c662]⟩, ⟨g4, 25, [.int .i64 0, .slice none 0 0]⟩]) (fun (((x660, x663), (a661, c662)) : ((Int × List Int) × (Option Addr × Nat))) => [Ro (eI .u8) 5 1 (.slice a661 x663.length c662) x663]) (fun (((x660, x663), (a661, c662)) : ((Int × List Int) × (Option Addr × Nat))) => [Sl (eI .i64) 1 (.slice a2 x1.length c3) x1]) (fun k (s : ((Int × List Int) × (Option Addr × Nat))) => M_R_PackBits_l98 F x1 k s.1) ((0, ([] : List Int)), (none, 0)) F (lk_cons rfl (lk_cons rfl (lk_cons rfl (lk_cons rfl lk_nil)))) (.cons 0 rfl (.cons 0 rfl .nil)) (.cons 0 rfl .nil) (fk_cons 0 rfl fk_nil) (fun _ => rfl) ?_
    intro k825
    rintro ⟨⟨x660, x663⟩, ⟨a661, c662⟩⟩
    try dsimp only
    refine sxc_meq (m' := M_R_PackBits_b98 F x1 (M_R_PackBits_l98 F x1 k825) x660 x663) rfl ?_
    refine sxc_seq ?_
    refine sxc_seq ?_
    refine sxc_region ?_
    refine sxo_move rfl rfl rfl ?_
    refine sxo_move rfl rfl rfl ?_
    refine sxo_len rfl Try.underlying34 rfl rfl ?_
    refine sxo_lss rfl rfl rfl rfl ?_
    refine sxo_nil ?_
    refine sxq_next ?_
    refine sxc_if rfl (fun h986 => ?_) (fun h986 => ?_)
    · refine sxc_skip ?_
      refine sxq_next ?_
      refine sxc_join (fun ((x907, (a905, c906)) : (List Int × (Option Addr × Nat))) => [(0, .slice a2 x1.length c3), (2, .pointer (some ⟨g4, 0, none⟩)), (3, .pointer (some ⟨g5, 0, none⟩)), (4, .int .i64 x660)]) (fun ((x907, (a905, c906)) : (List Int × (Option Addr × Nat))) => [⟨g5, 25, [.int .i64 (x1.length : Int), .slice a905 x907.length c906]⟩, ⟨g4, 25, [.int .i64 0, .slice none 0 0]⟩]) (fun ((x907, (a905, c906)) : (List Int × (Option Addr × Nat))) => [Ro (eI .u8) 5 1 (.slice a905 x907.length c906) x907]) (fun ((x907, (a905, c906)) : (List Int × (Option Addr × Nat))) => [Sl (eI .i64) 1 (.slice a2 x1.length c3) x1]) (fun ((x907, _) : (List Int × (Option Addr × Nat))) => M_R_PackBits_j108 F (M_R_PackBits_l98 F x1 k825) x660 x907) ?_ ?_
      · refine sxc_block ?_
        refine sxc_seq ?_
        refine sxc_region ?_
        refine sxo_assign rfl rfl rfl ?_
        refine sxo_nil ?_
        refine sxq_next ?_
        refine sxc_join (fun ((x944, _) : (Int × Unit)) => [(0, .slice a2 x1.length c3), (2, .pointer (some ⟨g4, 0, none⟩)), (3, .pointer (some ⟨g5, 0, none⟩)), (4, .int .i64 x660), (5, .int .i64 x944)]) (fun ((x944, _) : (Int × Unit)) => [⟨g5, 25, [.int .i64 (x1.length : Int), .slice a661 x663.length c662]⟩, ⟨g4, 25, [.int .i64 0, .slice none 0 0]⟩]) (fun ((x944, _) : (Int × Unit)) => [Ro (eI .u8) 5 1 (.slice a661 x663.length c662) x663]) (fun ((x944, _) : (Int × Unit)) => [Sl (eI .i64) 1 (.slice a2 x1.length c3) x1]) (fun ((x944, _) : (Int × Unit)) => M_R_PackBits_j113 F (M_R_PackBits_l98 F x1 k825) x660 x663 x944) ?_ ?_
        · refine sxc_seq ?_
          refine sxc_region ?_
          refine sxo_assign rfl rfl rfl ?_
          refine sxo_nil ?_
          refine sxq_next ?_
          refine sxc_block ?_
          refine sxc_loopP (fun (((x961, x962), _) : ((Int × Int) × Unit)) => [(0, .slice a2 x1.length c3), (2, .pointer (some ⟨g4, 0, none⟩)), (3, .pointer (some ⟨g5, 0, none⟩)), (4, .int .i64 x660), (5, .int .i64 x961), (6, .int .i64 x962)]) (fun (((x961, x962), _) : ((Int × Int) × Unit)) => [⟨g5, 25, [.int .i64 (x1.length : Int), .slice a661 x663.length c662]⟩, ⟨g4, 25, [.int .i64 0, .slice none 0 0]⟩]) (fun (((x961, x962), _) : ((Int × Int) × Unit)) => [Ro (eI .u8) 5 1 (.slice a661 x663.length c662) x663]) (fun (((x961, x962), _) : ((Int × Int) × Unit)) => [Sl (eI .i64) 1 (.slice a2 x1.length c3) x1]) (fun k (s : ((Int × Int) × Unit)) => M_R_PackBits_l116 F (M_R_PackBits_l98 F x1 k825) x1 x660 x663 k s.1) ((0, 0), ()) F (lk_cons rfl (lk_cons rfl (lk_cons rfl (lk_cons rfl (lk_cons rfl (lk_cons rfl lk_nil)))))) (.cons 0 rfl (.cons 0 rfl .nil)) (.cons 0 rfl .nil) (fk_cons 0 rfl fk_nil) (fun _ => rfl) ?_
          intro k974
          rintro ⟨⟨x961, x962⟩, _⟩
          try dsimp only
          refine sxc_meq (m' := M_R_PackBits_b116 F (M_R_PackBits_l98 F x1 k825) x1 x660 x663 (M_R_PackBits_l116 F (M_R_PackBits_l98 F x1 k825) x1 x660 x663 k974) x961 x962) rfl ?_
          refine sxc_seq ?_
          refine sxc_seq ?_
          refine sxc_region ?_
          refine sxo_move rfl rfl rfl ?_
          refine sxo_lss rfl rfl rfl rfl ?_
          refine sxo_nil ?_
          refine sxq_next ?_
          refine sxc_if rfl (fun h985 => ?_) (fun h985 => ?_)
          · refine sxc_skip ?_
            refine sxq_next ?_
            refine sxc_join (fun ((x980, _) : (Int × Unit)) => [(0, .slice a2 x1.length c3), (2, .pointer (some ⟨g4, 0, none⟩)), (3, .pointer (some ⟨g5, 0, none⟩)), (4, .int .i64 x660), (5, .int .i64 x980), (6, .int .i64 x962)]) (fun ((x980, _) : (Int × Unit)) => [⟨g5, 25, [.int .i64 (x1.length : Int), .slice a661 x663.length c662]⟩, ⟨g4, 25, [.int .i64 0, .slice none 0 0]⟩]) (fun ((x980, _) : (Int × Unit)) => [Ro (eI .u8) 5 1 (.slice a661 x663.length c662) x663]) (fun ((x980, _) : (Int × Unit)) => [Sl (eI .i64) 1 (.slice a2 x1.length c3) x1]) (fun ((x980, _) : (Int × Unit)) => M_R_PackBits_j117 F (M_R_PackBits_l116 F (M_R_PackBits_l98 F x1 k825) x1 x660 x663 k974) x962 x980) ?_ ?_
            · refine sxc_block ?_
              refine sxc_seq ?_
              refine sxc_region ?_
              refine sxo_move rfl rfl rfl ?_
              refine sxo_mul rfl rfl rfl rfl ?_
              refine sxo_assign rfl rfl rfl ?_
              refine sxo_nil ?_
              refine sxq_next ?_
              refine sxc_seq ?_
              refine sxc_region ?_
              refine sxo_move rfl rfl rfl ?_
              refine sxo_move rfl rfl rfl ?_
              refine sxo_add rfl rfl rfl rfl ?_
              refine sxo_move rfl rfl rfl ?_
              refine sxo_len rfl Try.underlying34 rfl rfl ?_
              refine sxo_lss rfl rfl rfl rfl ?_
              refine sxo_nil ?_
              refine sxq_next ?_
              refine sxc_if rfl (fun h984 => ?_) (fun h984 => ?_)
              · refine sxc_region ?_
                refine sxo_move rfl rfl rfl ?_
                refine sxo_move rfl rfl rfl ?_
                refine sxo_move rfl rfl rfl ?_
                refine sxo_move rfl rfl rfl ?_
                refine sxo_add rfl rfl rfl rfl ?_
                refine sxo_indexF (j := 0) (eI_ok .i64) (by decide) rfl Try.underlying34 tf3 rfl rfl rfl rfl (fun x981 e981 b982 o983 => ?_)
                refine sxo_loadF (j := 0) rfl rfl tf3 rfl rfl (fun _ => rfl) rfl rfl ?_
                refine sxo_add rfl rfl rfl rfl ?_
                refine sxo_assign rfl rfl rfl ?_
                refine sxo_nil ?_
                refine sxq_blkN ?_
                exact sxq_meetP (iadd .i64 (imul .i64 2 x961) x981, ()) (lk_cons rfl (lk_cons rfl (lk_cons rfl (lk_cons rfl (lk_cons rfl (lk_cons rfl lk_nil)))))) (.cons 0 rfl (.cons 0 rfl .nil)) (.cons 0 rfl .nil) (fk_cons 1 rfl fk_nil)
              · refine sxc_skip ?_
                refine sxq_blkN ?_
                exact sxq_meetP (imul .i64 2 x961, ()) (lk_cons rfl (lk_cons rfl (lk_cons rfl (lk_cons rfl (lk_cons rfl (lk_cons rfl lk_nil)))))) (.cons 0 rfl (.cons 0 rfl .nil)) (.cons 0 rfl .nil) (fk_cons 0 rfl fk_nil)
            · rintro ⟨x980, _⟩
              try dsimp only
              refine sxc_region ?_
              refine sxo_move rfl rfl rfl ?_
              refine sxo_add rfl rfl rfl rfl ?_
              refine sxo_assign rfl rfl rfl ?_
              refine sxo_nil ?_
              exact sxq_againP ((x980, iadd .i64 x962 1), ()) (lk_cons rfl (lk_cons rfl (lk_cons rfl (lk_cons rfl (lk_cons rfl (lk_cons rfl lk_nil)))))) (.cons 0 rfl (.cons 0 rfl .nil)) (.cons 0 rfl .nil) (fk_cons 0 rfl fk_nil)
          · refine sxc_exit ?_
            refine sxq_thenX ?_
            refine sxq_thenX ?_
            refine sxq_blkX ?_
            exact sxq_meetP (x961, ()) (lk_cons rfl (lk_cons rfl (lk_cons rfl (lk_cons rfl (lk_cons rfl lk_nil))))) (.cons 0 rfl (.cons 0 rfl .nil)) (.cons 0 rfl .nil) (fk_cons 0 rfl fk_nil)
        · rintro ⟨x944, _⟩
          try dsimp only
          refine sxc_region ?_
          refine sxo_fieldAddr rfl rfl ff25_1 rfl ?_
          refine sxo_loadB (i := 0) rfl rfl tf23 rfl rfl (fun _ => rfl) rfl rfl ?_
          refine sxo_move rfl rfl rfl ?_
          refine sxo_conv rfl Try.underlying3 Try.underlying5 rfl rfl ?_
          refine sxo_slit (vs := [.int .u8 (iconv .u8 x944)]) (ys := ([iconv .u8 x944] : List Int)) (eI_ok .u8) (by decide) rfl Try.underlying23 tf5 rfl rfl rfl rfl rfl (by decide) (fun a945 c946 => ?_)
          refine sxo_app 1 (eI_ok .u8) rfl Try.underlying23 tf5 rfl rfl rfl rfl rfl (.inl ⟨0, _, rfl⟩) rfl rfl (fun x947 e947 a948 c949 => ?_)
          refine sxo_fieldAddr rfl rfl ff25_1 rfl ?_
          refine sxo_storeB (i := 0) rfl rfl rfl tf23 rfl rfl rfl rfl rfl ?_
          refine sxo_nil ?_
          refine sxq_blkN ?_
          exact sxq_meetP (x947, (a948, c949)) (lk_cons rfl (lk_cons rfl (lk_cons rfl (lk_cons rfl lk_nil)))) (.cons 0 rfl (.cons 0 rfl .nil)) (.cons 0 rfl .nil) (fk_cons 0 rfl fk_nil)
      · rintro ⟨x907, ⟨a905, c906⟩⟩
        try dsimp only
        refine sxc_region ?_
        refine sxo_move rfl rfl rfl ?_
        refine sxo_add rfl rfl rfl rfl ?_
        refine sxo_assign rfl rfl rfl ?_
        refine sxo_nil ?_
        exact sxq_againP ((iadd .i64 x660 8, x907), (a905, c906)) (lk_cons rfl (lk_cons rfl (lk_cons rfl (lk_cons rfl lk_nil)))) (.cons 0 rfl (.cons 0 rfl .nil)) (.cons 0 rfl .nil) (fk_cons 0 rfl fk_nil)
    · refine sxc_exit ?_
      refine sxq_thenX ?_
      refine sxq_thenX ?_
      refine sxq_blkX ?_
      exact sxq_meetP (x663, (a661, c662)) (lk_cons rfl (lk_cons rfl lk_nil)) (.cons 0 rfl (.cons 0 rfl .nil)) (.cons 0 rfl .nil) fk_nil
  · rintro ⟨x497, ⟨a495, c496⟩⟩
    try dsimp only
    refine sxc_seq ?_
    refine sxc_region ?_
    refine sxo_loadB (i := 0) rfl rfl tf25 rfl rfl (by simp) rfl rfl ?_
    refine sxo_storeB (i := 1) rfl rfl rfl tf25 rfl rfl rfl rfl rfl ?_
    refine sxo_nil ?_
    refine sxq_next ?_
    refine sxc_ret ?_
    exact sxq_doneP (a495, c496) (.inl rfl) (resL (rs := [.cell 2 25]) rfl (.cell (i := 1) rfl tf25 rfl rfl (by simp) rfl ResOk.nil) rfl) (fun h => by subst h; rfl) (fun h => by subst h; exact (.cons 0 rfl .nil))

theorem C_R_binary (F : Nat) (x1 : Int) (r : List Int) (hm : M_R_binary F x1 = some r) :
    Pure Try.prog 60 [.int .u64 x1] [] (Option Addr × Nat) (fun g => .slice g.1 r.length g.2) (fun g => [Ro (eI .i64) 3 1 (.slice g.1 r.length g.2) r]) (fun _ => []) := by
  refine pure_of Try.func60 rfl Try.ntmps60 rfl hm (fun w => ?_)
  refine sxc_env (l' := [(0, .int .u64 x1)]) rfl ?_
  refine sxc_seq ?_
  refine sxc_region ?_
  refine sxo_assign rfl rfl rfl ?_
  refine sxo_nil ?_
  refine sxq_next ?_
  refine sxc_seq ?_
  refine sxc_region ?_
  refine sxo_assign rfl rfl rfl ?_
  refine sxo_nil ?_
  refine sxq_next ?_
  refine sxc_join (fun ((x31, (a29, c30)) : (List Int × (Option Addr × Nat))) => [(3, .slice a29 x31.length c30)]) (fun ((x31, (a29, c30)) : (List Int × (Option Addr × Nat))) => []) (fun ((x31, (a29, c30)) : (List Int × (Option Addr × Nat))) => [Ro (eI .i64) 3 1 (.slice a29 x31.length c30) x31]) (fun ((x31, (a29, c30)) : (List Int × (Option Addr × Nat))) => []) (fun ((x31, _) : (List Int × (Option Addr × Nat))) => M_R_binary_j2 F x31) ?_ ?_
  · refine sxc_block ?_
    refine sxc_nilrow Int (eI .i64) 3 1 ?_
    refine sxc_loopP (fun (((x40, x43), (a41, c42)) : ((Int × List Int) × (Option Addr × Nat))) => [(0, .int .u64 x40), (3, .slice a41 x43.length c42)]) (fun (((x40, x43), (a41, c42)) : ((Int × List Int) × (Option Addr × Nat))) => []) (fun (((x40, x43), (a41, c42)) : ((Int × List Int) × (Option Addr × Nat))) => [Ro (eI .i64) 3 1 (.slice a41 x43.length c42) x43]) (fun (((x40, x43), (a41, c42)) : ((Int × List Int) × (Option Addr × Nat))) => []) (fun k (s : ((Int × List Int) × (Option Addr × Nat))) => M_R_binary_l3 F k s.1) ((x1, ([] : List Int)), (none, 0)) F (lk_cons rfl (lk_cons rfl lk_nil)) .nil (.cons 0 rfl .nil) fk_nil (fun _ => rfl) ?_
    intro k51
    rintro ⟨⟨x40, x43⟩, ⟨a41, c42⟩⟩
    try dsimp only
    refine sxc_meq (m' := M_R_binary_b3 F (M_R_binary_l3 F k51) x40 x43) rfl ?_
    refine sxc_seq ?_
    refine sxc_seq ?_
    refine sxc_region ?_
    refine sxo_move rfl rfl rfl ?_
    refine sxo_gtr rfl rfl rfl rfl ?_
    refine sxo_nil ?_
    refine sxq_next ?_
    refine sxc_if rfl (fun h58 => ?_) (fun h58 => ?_)
    · refine sxc_skip ?_
      refine sxq_next ?_
      refine sxc_block ?_
      refine sxc_seq ?_
      refine sxc_region ?_
      refine sxo_move rfl rfl rfl ?_
      refine sxo_rem rfl rfl rfl rfl rfl ?_
      refine sxo_conv rfl Try.underlying22 Try.underlying3 rfl rfl ?_
      refine sxo_slit (vs := [.int .i64 (iconv .i64 (irem x40 2))]) (ys := ([iconv .i64 (irem x40 2)] : List Int)) (eI_ok .i64) (by decide) rfl Try.underlying34 tf3 rfl rfl rfl rfl rfl (by decide) (fun a53 c54 => ?_)
      refine sxo_move rfl rfl rfl ?_
      refine sxo_app 0 (eI_ok .i64) rfl Try.underlying34 tf3 rfl rfl rfl rfl rfl (.inl ⟨1, _, rfl⟩) rfl rfl (fun x55 e55 a56 c57 => ?_)
      refine sxo_assign rfl rfl rfl ?_
      refine sxo_nil ?_
      refine sxq_next ?_
      refine sxc_region ?_
      refine sxo_move rfl rfl rfl ?_
      refine sxo_quo rfl rfl rfl rfl rfl ?_
      refine sxo_assign rfl rfl rfl ?_
      refine sxo_nil ?_
      refine sxq_blkN ?_
      exact sxq_againP ((iquo .u64 x40 2, x55), (a56, c57)) (lk_cons rfl (lk_cons rfl lk_nil)) .nil (.cons 0 rfl .nil) fk_nil
    · refine sxc_exit ?_
      refine sxq_thenX ?_
      refine sxq_thenX ?_
      refine sxq_blkX ?_
      exact sxq_meetP (x43, (a41, c42)) (lk_cons rfl lk_nil) .nil (.cons 0 rfl .nil) fk_nil
  · rintro ⟨x31, ⟨a29, c30⟩⟩
    try dsimp only
    refine sxc_seq ?_
    refine sxc_region ?_
    refine sxo_move rfl rfl rfl ?_
    refine sxo_assign rfl rfl rfl ?_
    refine sxo_nil ?_
    refine sxq_next ?_
    refine sxc_ret ?_
    exact sxq_doneP (a29, c30) (.inl rfl) (res1 rfl rfl) (fun h => by subst h; rfl) (fun h => by subst h; exact (.cons 0 rfl .nil))

theorem C_R_GammaList (F : Nat) (x1 : Int) (r : List Int) (hm : M_R_GammaList F x1 = some r) :
    Pure Try.prog 21 [.int .u64 x1] [] (Option Addr × Nat) (fun g => .slice g.1 r.length g.2) (fun g => [Ro (eI .i64) 3 1 (.slice g.1 r.length g.2) r]) (fun _ => []) := by
  refine pure_of Try.func21 rfl Try.ntmps21 rfl hm (fun w => ?_)
  refine sxc_env (l' := [(0, .int .u64 x1)]) rfl ?_
  refine sxc_seq ?_
  refine sxc_region ?_
  refine sxo_assign rfl rfl rfl ?_
  refine sxo_nil ?_
  refine sxq_next ?_
  refine sxc_seq ?_
  refine sxc_region ?_
  refine sxo_move rfl rfl rfl ?_
  refine sxo_add rfl rfl rfl rfl ?_
  refine sxo_call ent60 rfl rfl rfl (fun x2 e2 => C_R_binary F (iadd .u64 x1 1) x2 e2) .nil (fun x2 e2 => ?_)
  rintro ⟨a3, c4⟩
  refine sxo_assign rfl rfl rfl ?_
  refine sxo_nil ?_
  refine sxq_next ?_
  refine sxc_seq ?_
  refine sxc_region ?_
  refine sxo_assign rfl rfl rfl ?_
  refine sxo_nil ?_
  refine sxq_next ?_
  refine sxc_join (fun ((x48, (a46, c47)) : (List Int × (Option Addr × Nat))) => [(3, .slice a3 x2.length c4), (4, .slice a46 x48.length c47)]) (fun ((x48, (a46, c47)) : (List Int × (Option Addr × Nat))) => []) (fun ((x48, (a46, c47)) : (List Int × (Option Addr × Nat))) => [Ro (eI .i64) 3 1 (.slice a3 x2.length c4) x2, Ro (eI .i64) 3 1 (.slice a46 x48.length c47) x48]) (fun ((x48, (a46, c47)) : (List Int × (Option Addr × Nat))) => []) (fun ((x48, _) : (List Int × (Option Addr × Nat))) => M_R_GammaList_j2 F x2 x48) ?_ ?_
  · refine sxc_seq ?_
    refine sxc_region ?_
    refine sxo_assign rfl rfl rfl ?_
    refine sxo_nil ?_
    refine sxq_next ?_
    refine sxc_block ?_
    refine sxc_nilrow Int (eI .i64) 3 1 ?_
    refine sxc_loopP (fun (((x66, x67), (a64, c65)) : ((List Int × Int) × (Option Addr × Nat))) => [(3, .slice a3 x2.length c4), (4, .slice a64 x66.length c65), (5, .int .i64 x67)]) (fun (((x66, x67), (a64, c65)) : ((List Int × Int) × (Option Addr × Nat))) => []) (fun (((x66, x67), (a64, c65)) : ((List Int × Int) × (Option Addr × Nat))) => [Ro (eI .i64) 3 1 (.slice a3 x2.length c4) x2, Ro (eI .i64) 3 1 (.slice a64 x66.length c65) x66]) (fun (((x66, x67), (a64, c65)) : ((List Int × Int) × (Option Addr × Nat))) => []) (fun k (s : ((List Int × Int) × (Option Addr × Nat))) => M_R_GammaList_l3 F x2 k s.1) ((([] : List Int), 1), (none, 0)) F (lk_cons rfl (lk_cons rfl (lk_cons rfl lk_nil))) .nil (.cons 1 rfl (.cons 0 rfl .nil)) fk_nil (fun _ => rfl) ?_
    intro k80
    rintro ⟨⟨x66, x67⟩, ⟨a64, c65⟩⟩
    try dsimp only
    refine sxc_meq (m' := M_R_GammaList_b3 F x2 (M_R_GammaList_l3 F x2 k80) x66 x67) rfl ?_
    refine sxc_seq ?_
    refine sxc_seq ?_
    refine sxc_region ?_
    refine sxo_move rfl rfl rfl ?_
    refine sxo_move rfl rfl rfl ?_
    refine sxo_len rfl Try.underlying34 rfl rfl ?_
    refine sxo_lss rfl rfl rfl rfl ?_
    refine sxo_nil ?_
    refine sxq_next ?_
    refine sxc_if rfl (fun h92 => ?_) (fun h92 => ?_)
    · refine sxc_skip ?_
      refine sxq_next ?_
      refine sxc_seq ?_
      refine sxc_block ?_
      refine sxc_region ?_
      refine sxo_move rfl rfl rfl ?_
      refine sxo_slit (vs := [.int .i64 0]) (ys := ([0] : List Int)) (eI_ok .i64) (by decide) rfl Try.underlying34 tf3 rfl rfl rfl rfl rfl (by decide) (fun a87 c88 => ?_)
      refine sxo_app 2 (eI_ok .i64) rfl Try.underlying34 tf3 rfl rfl rfl rfl rfl (.inl ⟨0, _, rfl⟩) rfl rfl (fun x89 e89 a90 c91 => ?_)
      refine sxo_assign rfl rfl rfl ?_
      refine sxo_nil ?_
      refine sxq_blkN ?_
      refine sxq_next ?_
      refine sxc_region ?_
      refine sxo_move rfl rfl rfl ?_
      refine sxo_add rfl rfl rfl rfl ?_
      refine sxo_assign rfl rfl rfl ?_
      refine sxo_nil ?_
      exact sxq_againP ((x89, iadd .i64 x67 1), (a90, c91)) (lk_cons rfl (lk_cons rfl (lk_cons rfl lk_nil))) .nil (.cons 2 rfl (.cons 0 rfl .nil)) fk_nil
    · refine sxc_exit ?_
      refine sxq_thenX ?_
      refine sxq_thenX ?_
      refine sxq_blkX ?_
      exact sxq_meetP (x66, (a64, c65)) (lk_cons rfl (lk_cons rfl lk_nil)) .nil (.cons 0 rfl (.cons 0 rfl .nil)) fk_nil
  · rintro ⟨x48, ⟨a46, c47⟩⟩
    try dsimp only
    refine sxc_seq ?_
    refine sxc_region ?_
    refine sxo_move rfl rfl rfl ?_
    refine sxo_move rfl rfl rfl ?_
    refine sxo_app 1 (eI_ok .i64) rfl Try.underlying34 tf3 rfl rfl rfl rfl rfl (.inl ⟨0, _, rfl⟩) rfl rfl (fun x49 e49 a50 c51 => ?_)
    refine sxo_assign rfl rfl rfl ?_
    refine sxo_nil ?_
    refine sxq_next ?_
    refine sxc_ret ?_
    exact sxq_doneP (a50, c51) (.inl rfl) (res1 rfl rfl) (fun h => by subst h; rfl) (fun h => by subst h; exact (.cons 0 rfl .nil))

theorem C_R_DeltaList (F : Nat) (x1 : Int) (r : List Int) (hm : M_R_DeltaList F x1 = some r) :
    Pure Try.prog 22 [.int .u64 x1] [] (Option Addr × Nat) (fun g => .slice g.1 r.length g.2) (fun g => [Ro (eI .i64) 3 1 (.slice g.1 r.length g.2) r]) (fun _ => []) := by
  refine pure_of Try.func22 rfl Try.ntmps22 rfl hm (fun w => ?_)
  refine sxc_env (l' := [(0, .int .u64 x1)]) rfl ?_
  refine sxc_seq ?_
  refine sxc_region ?_
  refine sxo_assign rfl rfl rfl ?_
  refine sxo_nil ?_
  refine sxq_next ?_
  refine sxc_seq ?_
  refine sxc_region ?_
  refine sxo_move rfl rfl rfl ?_
  refine sxo_add rfl rfl rfl rfl ?_
  refine sxo_call ent60 rfl rfl rfl (fun x2 e2 => C_R_binary F (iadd .u64 x1 1) x2 e2) .nil (fun x2 e2 => ?_)
  rintro ⟨a3, c4⟩
  refine sxo_assign rfl rfl rfl ?_
  refine sxo_nil ?_
  refine sxq_next ?_
  refine sxc_seq ?_
  refine sxc_freeze 0 rfl ?_
  refine sxc_cutH 0 (eI_ok .i64) rfl (fun x16 e16 a17 c18 h19 h20 => ?_)
  refine sxb_draw mixed [] [] [Sl (eI .i64) 1 (.slice a17 x16.length c18) x16, Sl (eI .i64) 1 (.slice a3 x2.length c4) x2] .nil (gk_F 0 rfl (gk_F 1 rfl gk_nil)) 9 rfl ?_
  refine sxb_takeP 0 (.slice a3 x2.length c4) rfl rfl rfl rfl (by kernel_rfl) (by kernel_rfl) (by kernel_rfl) (by kernel_rfl) (by kernel_rfl) rfl (show _ = #[true, false, false, false, false, false, false, false, false] from rfl) (yv_pv rfl) ?_
  refine sxb_takeP 1 (.int .i64 (x2.length : Int)) rfl rfl rfl rfl (by kernel_rfl) (by kernel_rfl) (by kernel_rfl) (by kernel_rfl) (by kernel_rfl) rfl (show _ = #[true, true, false, false, false, false, false, false, false] from rfl) (yv_len Try.underlying34 rfl) ?_
  refine sxb_takeP 2 (.int .i64 (isub .i64 (x2.length : Int) 1)) rfl rfl rfl rfl (by kernel_rfl) (by kernel_rfl) (by kernel_rfl) (by kernel_rfl) (by kernel_rfl) rfl (show _ = #[true, true, true, false, false, false, false, false, false] from rfl) (yv_pv rfl) ?_
  refine sxb_takeP 3 (.int .u64 (iconv .u64 (isub .i64 (x2.length : Int) 1))) rfl rfl rfl rfl (by kernel_rfl) (by kernel_rfl) (by kernel_rfl) (by kernel_rfl) (by kernel_rfl) rfl (show _ = #[true, true, true, true, false, false, false, false, false] from rfl) (yv_conv Try.underlying3 Try.underlying22 rfl) ?_
  refine sxb_takeP 5 (.slice a3 x2.length c4) rfl rfl rfl rfl (by kernel_rfl) (by kernel_rfl) (by kernel_rfl) (by kernel_rfl) (by kernel_rfl) rfl (show _ = #[true, true, true, true, false, true, false, false, false] from rfl) (yv_pv rfl) ?_
  refine sxb_takeP 6 (.slice a17 x16.length c18) rfl rfl rfl rfl (by kernel_rfl) (by kernel_rfl) (by kernel_rfl) (by kernel_rfl) (by kernel_rfl) rfl (show _ = #[true, true, true, true, false, true, true, false, false] from rfl) (yv_cut Try.underlying34 tf3 rfl rfl rfl e16 h20 h19) ?_
  refine sxb_step 4 rfl (by kernel_rfl) (show _ = #[true, true, true, true, true, true, true, false, false] from rfl) ?_
  refine sxo_call ent21 rfl rfl rfl (fun x21 e21 => C_R_GammaList F (iconv .u64 (isub .i64 (x2.length : Int) 1)) x21 e21) .nil (fun x21 e21 => ?_)
  rintro ⟨a22, c23⟩
  refine sxo_nil ?_
  refine sxq_anyB .nil (gk_F 0 rfl (gk_F 1 rfl gk_nil)) ?_
  refine sxb_step 7 rfl (by kernel_rfl) (show _ = #[true, true, true, true, true, true, true, true, false] from rfl) ?_
  refine sxo_app 0 (eI_ok .i64) rfl Try.underlying34 tf3 rfl rfl rfl rfl rfl (.inr ⟨0, rfl⟩) rfl rfl (fun x24 e24 a25 c26 => ?_)
  refine sxo_nil ?_
  refine sxq_anyB .nil (gk_F 0 rfl (gk_F 1 rfl gk_nil)) ?_
  refine sxb_takeP 8 (.slice a25 x24.length c26) rfl rfl rfl rfl (by kernel_rfl) (by kernel_rfl) (by kernel_rfl) (by kernel_rfl) (by kernel_rfl) rfl (show _ = #[true, true, true, true, true, true, true, true, true] from rfl) (yv_pv rfl) ?_
  refine sxb_done (by kernel_rfl) ?_
  refine sxq_np ?_ (by intro c h; cases h)
  refine sxq_next ?_
  refine sxc_ret ?_
  exact sxq_doneP (a25, c26) (.inl rfl) (res1 rfl rfl) (fun h => by subst h; rfl) (fun h => by subst h; exact (.cons 0 rfl .nil))

theorem C_R_BitList (F : Nat) (x1 : Int) (x2 : List Int) (a3 : Option Addr) (c4 : Nat) (r : List Int) (hm : M_R_BitList F x1 x2 = some r) :
    Pure Try.prog 24 [.agg #[.int .i64 x1, .slice a3 x2.length c4]] [Sl (eI .u8) 1 (.slice a3 x2.length c4) x2] (Option Addr × Nat) (fun g => .slice g.1 r.length g.2) (fun g => [Ro (eI .i64) 3 1 (.slice g.1 r.length g.2) r]) (fun _ => []) := by
  refine pure_of Try.func24 rfl Try.ntmps24 rfl hm (fun w => ?_)
  refine sxc_env (l' := [(0, .agg #[.int .i64 x1, .slice a3 x2.length c4])]) rfl ?_
  refine sxc_seq ?_
  refine sxc_region ?_
  refine sxo_box rfl rfl rfl (fun g5 => ?_)
  refine sxo_assign rfl rfl rfl ?_
  refine sxo_nil ?_
  refine sxq_next ?_
  refine sxc_seq ?_
  refine sxc_region ?_
  refine sxo_assign rfl rfl rfl ?_
  refine sxo_nil ?_
  refine sxq_next ?_
  refine sxc_join (fun ((x190, (a188, c189)) : (List Int × (Option Addr × Nat))) => [(3, .slice a188 x190.length c189)]) (fun ((x190, (a188, c189)) : (List Int × (Option Addr × Nat))) => []) (fun ((x190, (a188, c189)) : (List Int × (Option Addr × Nat))) => [Ro (eI .i64) 3 1 (.slice a188 x190.length c189) x190]) (fun ((x190, (a188, c189)) : (List Int × (Option Addr × Nat))) => []) (fun ((x190, _) : (List Int × (Option Addr × Nat))) => M_R_BitList_j23 F x190) ?_ ?_
  · refine sxc_seq ?_
    refine sxc_region ?_
    refine sxo_assign rfl rfl rfl ?_
    refine sxo_nil ?_
    refine sxq_next ?_
    refine sxc_block ?_
    refine sxc_nilrow Int (eI .i64) 3 1 ?_
    refine sxc_loopP (fun (((x252, x253), (a250, c251)) : ((List Int × Int) × (Option Addr × Nat))) => [(1, .pointer (some ⟨g5, 0, none⟩)), (3, .slice a250 x252.length c251), (4, .int .i64 x253)]) (fun (((x252, x253), (a250, c251)) : ((List Int × Int) × (Option Addr × Nat))) => [⟨g5, 25, [.int .i64 x1, .slice a3 x2.length c4]⟩]) (fun (((x252, x253), (a250, c251)) : ((List Int × Int) × (Option Addr × Nat))) => [Ro (eI .i64) 3 1 (.slice a250 x252.length c251) x252]) (fun (((x252, x253), (a250, c251)) : ((List Int × Int) × (Option Addr × Nat))) => [Sl (eI .u8) 1 (.slice a3 x2.length c4) x2]) (fun k (s : ((List Int × Int) × (Option Addr × Nat))) => M_R_BitList_l38 F x1 x2 k s.1) ((([] : List Int), 0), (none, 0)) F (lk_cons rfl (lk_cons rfl (lk_cons rfl lk_nil))) (.cons 0 rfl .nil) (.cons 0 rfl .nil) (fk_cons 0 rfl fk_nil) (fun _ => rfl) ?_
    intro k313
    rintro ⟨⟨x252, x253⟩, ⟨a250, c251⟩⟩
    try dsimp only
    refine sxc_meq (m' := M_R_BitList_b38 F x1 x2 (M_R_BitList_l38 F x1 x2 k313) x252 x253) rfl ?_
    refine sxc_seq ?_
    refine sxc_seq ?_
    refine sxc_region ?_
    refine sxo_move rfl rfl rfl ?_
    refine sxo_fieldAddr rfl rfl ff25_0 rfl ?_
    refine sxo_loadB (i := 0) rfl rfl tf3 rfl rfl (fun _ => rfl) rfl rfl ?_
    refine sxo_lss rfl rfl rfl rfl ?_
    refine sxo_nil ?_
    refine sxq_next ?_
    refine sxc_if rfl (fun h372 => ?_) (fun h372 => ?_)
    · refine sxc_skip ?_
      refine sxq_next ?_
      refine sxc_join (fun ((x344, (a342, c343)) : (List Int × (Option Addr × Nat))) => [(1, .pointer (some ⟨g5, 0, none⟩)), (3, .slice a342 x344.length c343), (4, .int .i64 x253)]) (fun ((x344, (a342, c343)) : (List Int × (Option Addr × Nat))) => [⟨g5, 25, [.int .i64 x1, .slice a3 x2.length c4]⟩]) (fun ((x344, (a342, c343)) : (List Int × (Option Addr × Nat))) => [Ro (eI .i64) 3 1 (.slice a342 x344.length c343) x344]) (fun ((x344, (a342, c343)) : (List Int × (Option Addr × Nat))) => [Sl (eI .u8) 1 (.slice a3 x2.length c4) x2]) (fun ((x344, _) : (List Int × (Option Addr × Nat))) => M_R_BitList_j42 F (M_R_BitList_l38 F x1 x2 k313) x253 x344) ?_ ?_
      · refine sxc_block ?_
        refine sxc_seq ?_
        refine sxc_region ?_
        refine sxo_fieldAddr rfl rfl ff25_1 rfl ?_
        refine sxo_loadB (i := 0) rfl rfl tf23 rfl rfl (fun _ => rfl) rfl rfl ?_
        refine sxo_move rfl rfl rfl ?_
        refine sxo_quo rfl rfl rfl rfl rfl ?_
        refine sxo_indexF (j := 0) (eI_ok .u8) (by decide) rfl Try.underlying23 tf5 rfl rfl rfl rfl (fun x345 e345 b346 o347 => ?_)
        refine sxo_loadF (j := 0) rfl rfl tf5 rfl rfl (fun _ => rfl) rfl rfl ?_
        refine sxo_conv rfl Try.underlying5 Try.underlying3 rfl rfl ?_
        refine sxo_assign rfl rfl rfl ?_
        refine sxo_nil ?_
        refine sxq_next ?_
        refine sxc_join (fun ((x357, _) : (Int × Unit)) => [(1, .pointer (some ⟨g5, 0, none⟩)), (3, .slice a250 x252.length c251), (4, .int .i64 x253), (5, .int .i64 x357)]) (fun ((x357, _) : (Int × Unit)) => [⟨g5, 25, [.int .i64 x1, .slice a3 x2.length c4]⟩]) (fun ((x357, _) : (Int × Unit)) => [Ro (eI .i64) 3 1 (.slice a250 x252.length c251) x252]) (fun ((x357, _) : (Int × Unit)) => [Sl (eI .u8) 1 (.slice a3 x2.length c4) x2]) (fun ((x357, _) : (Int × Unit)) => M_R_BitList_j44 F (M_R_BitList_l38 F x1 x2 k313) x252 x253 x357) ?_ ?_
        · refine sxc_seq ?_
          refine sxc_region ?_
          refine sxo_assign rfl rfl rfl ?_
          refine sxo_nil ?_
          refine sxq_next ?_
          refine sxc_block ?_
          refine sxc_loopP (fun (((x365, x366), _) : ((Int × Int) × Unit)) => [(1, .pointer (some ⟨g5, 0, none⟩)), (3, .slice a250 x252.length c251), (4, .int .i64 x253), (5, .int .i64 x365), (6, .int .i64 x366)]) (fun (((x365, x366), _) : ((Int × Int) × Unit)) => [⟨g5, 25, [.int .i64 x1, .slice a3 x2.length c4]⟩]) (fun (((x365, x366), _) : ((Int × Int) × Unit)) => [Ro (eI .i64) 3 1 (.slice a250 x252.length c251) x252]) (fun (((x365, x366), _) : ((Int × Int) × Unit)) => [Sl (eI .u8) 1 (.slice a3 x2.length c4) x2]) (fun k (s : ((Int × Int) × Unit)) => M_R_BitList_l45 F (M_R_BitList_l38 F x1 x2 k313) x252 x253 k s.1) ((iconv .i64 x345, 0), ()) F (lk_cons rfl (lk_cons rfl (lk_cons rfl (lk_cons rfl (lk_cons rfl lk_nil))))) (.cons 0 rfl .nil) (.cons 0 rfl .nil) (fk_cons 1 rfl fk_nil) (fun _ => rfl) ?_
          intro k369
          rintro ⟨⟨x365, x366⟩, _⟩
          try dsimp only
          refine sxc_meq (m' := M_R_BitList_b45 F (M_R_BitList_l38 F x1 x2 k313) x252 x253 (M_R_BitList_l45 F (M_R_BitList_l38 F x1 x2 k313) x252 x253 k369) x365 x366) rfl ?_
          refine sxc_seq ?_
          refine sxc_seq ?_
          refine sxc_region ?_
          refine sxo_move rfl rfl rfl ?_
          refine sxo_move rfl rfl rfl ?_
          refine sxo_rem rfl rfl rfl rfl rfl ?_
          refine sxo_sub rfl rfl rfl rfl ?_
          refine sxo_lss rfl rfl rfl rfl ?_
          refine sxo_nil ?_
          refine sxq_next ?_
          refine sxc_if rfl (fun h371 => ?_) (fun h371 => ?_)
          · refine sxc_skip ?_
            refine sxq_next ?_
            refine sxc_seq ?_
            refine sxc_block ?_
            refine sxc_region ?_
            refine sxo_move rfl rfl rfl ?_
            refine sxo_quo rfl rfl rfl rfl rfl ?_
            refine sxo_assign rfl rfl rfl ?_
            refine sxo_nil ?_
            refine sxq_blkN ?_
            refine sxq_next ?_
            refine sxc_region ?_
            refine sxo_move rfl rfl rfl ?_
            refine sxo_add rfl rfl rfl rfl ?_
            refine sxo_assign rfl rfl rfl ?_
            refine sxo_nil ?_
            exact sxq_againP ((iquo .i64 x365 2, iadd .i64 x366 1), ()) (lk_cons rfl (lk_cons rfl (lk_cons rfl (lk_cons rfl (lk_cons rfl lk_nil))))) (.cons 0 rfl .nil) (.cons 0 rfl .nil) (fk_cons 0 rfl fk_nil)
          · refine sxc_exit ?_
            refine sxq_thenX ?_
            refine sxq_thenX ?_
            refine sxq_blkX ?_
            exact sxq_meetP (x365, ()) (lk_cons rfl (lk_cons rfl (lk_cons rfl (lk_cons rfl lk_nil)))) (.cons 0 rfl .nil) (.cons 0 rfl .nil) (fk_cons 0 rfl fk_nil)
        · rintro ⟨x357, _⟩
          try dsimp only
          refine sxc_region ?_
          refine sxo_move rfl rfl rfl ?_
          refine sxo_move rfl rfl rfl ?_
          refine sxo_rem rfl rfl rfl rfl rfl ?_
          refine sxo_slit (vs := [.int .i64 (irem x357 2)]) (ys := ([irem x357 2] : List Int)) (eI_ok .i64) (by decide) rfl Try.underlying34 tf3 rfl rfl rfl rfl rfl (by decide) (fun a358 c359 => ?_)
          refine sxo_app 1 (eI_ok .i64) rfl Try.underlying34 tf3 rfl rfl rfl rfl rfl (.inl ⟨0, _, rfl⟩) rfl rfl (fun x360 e360 a361 c362 => ?_)
          refine sxo_assign rfl rfl rfl ?_
          refine sxo_nil ?_
          refine sxq_blkN ?_
          exact sxq_meetP (x360, (a361, c362)) (lk_cons rfl (lk_cons rfl (lk_cons rfl lk_nil))) (.cons 0 rfl .nil) (.cons 0 rfl .nil) (fk_cons 0 rfl fk_nil)
      · rintro ⟨x344, ⟨a342, c343⟩⟩
        try dsimp only
        refine sxc_region ?_
        refine sxo_move rfl rfl rfl ?_
        refine sxo_add rfl rfl rfl rfl ?_
        refine sxo_assign rfl rfl rfl ?_
        refine sxo_nil ?_
        exact sxq_againP ((x344, iadd .i64 x253 1), (a342, c343)) (lk_cons rfl (lk_cons rfl (lk_cons rfl lk_nil))) (.cons 0 rfl .nil) (.cons 0 rfl .nil) (fk_cons 0 rfl fk_nil)
    · refine sxc_exit ?_
      refine sxq_thenX ?_
      refine sxq_thenX ?_
      refine sxq_blkX ?_
      exact sxq_meetP (x252, (a250, c251)) (lk_cons rfl lk_nil) .nil (.cons 0 rfl .nil) fk_nil
  · rintro ⟨x190, ⟨a188, c189⟩⟩
    try dsimp only
    refine sxc_seq ?_
    refine sxc_region ?_
    refine sxo_move rfl rfl rfl ?_
    refine sxo_assign rfl rfl rfl ?_
    refine sxo_nil ?_
    refine sxq_next ?_
    refine sxc_ret ?_
    exact sxq_doneP (a188, c189) (.inl rfl) (res1 rfl rfl) (fun h => by subst h; rfl) (fun h => by subst h; exact (.cons 0 rfl .nil))

theorem C_R_between (F : Nat) (x1 : Int) (x2 : Int) (x3 : Int) (r : Bool) (hm : M_R_between F x1 x2 x3 = some r) :
    Pure Try.prog 62 [.int .i64 x1, .int .i64 x2, .int .i64 x3] [] Unit (fun _ => .bool r) (fun _ => []) (fun _ => []) := by
  refine pure_of Try.func62 rfl Try.ntmps62 rfl hm (fun w => ?_)
  refine sxc_env (l' := [(0, .int .i64 x1), (1, .int .i64 x2), (2, .int .i64 x3)]) rfl ?_
  refine sxc_seq ?_
  refine sxc_region ?_
  refine sxo_assign rfl rfl rfl ?_
  refine sxo_nil ?_
  refine sxq_next ?_
  refine sxc_seq ?_
  refine sxc_region ?_
  refine sxo_move rfl rfl rfl ?_
  refine sxo_move rfl rfl rfl ?_
  refine sxo_geq rfl rfl rfl rfl ?_
  refine sxo_move rfl rfl rfl ?_
  refine sxo_case 4 (decide (x2 ≤ x1)) [(14, .bool ((decide (x2 ≤ x1)) && (decide (x1 ≤ x3))))] (fun h4 => ?_) (fun h4 => ?_) ?_
  · refine sxo_take (os := _) rfl ?_
    refine sxo_isT (k := 10) rfl h4 ?_
    refine sxo_move rfl rfl rfl ?_
    refine sxo_move rfl rfl rfl ?_
    refine sxo_leq rfl rfl rfl rfl ?_
    refine sxo_pick (b := true) rfl rfl rfl rfl ?_
    refine sxo_again (d := 14) (v := .bool ((decide (x2 ≤ x1)) && (decide (x1 ≤ x3)))) rfl (by rw [h4]; simp only [Bool.true_and]) ?_
    refine sxo_nil ?_
    exact sxq_case (lk_cons rfl lk_nil)
  · refine sxo_take (os := _) rfl ?_
    refine sxo_isF (k := 10) rfl h4 ?_
    refine sxo_skip rfl rfl rfl ?_
    refine sxo_skip rfl rfl rfl ?_
    refine sxo_skip rfl rfl rfl ?_
    refine sxo_pick (b := false) rfl rfl rfl rfl ?_
    refine sxo_again (d := 14) (v := .bool ((decide (x2 ≤ x1)) && (decide (x1 ≤ x3)))) rfl (by rw [h4]; simp only [Bool.false_and]) ?_
    refine sxo_nil ?_
    exact sxq_case (lk_cons rfl lk_nil)
  refine sxo_take (os := _) rfl ?_
  refine sxo_assign rfl rfl rfl ?_
  refine sxo_nil ?_
  refine sxq_next ?_
  refine sxc_ret ?_
  exact sxq_doneP () (.inl rfl) (res1 rfl rfl) (fun h => by subst h; rfl) (fun h => by subst h; exact .nil)

theorem C_R_BitsCheck (F : Nat) (x1 : Int) (x2 : List Int) (a3 : Option Addr) (c4 : Nat) (r : Int) (hm : M_R_BitsCheck F x1 x2 = some r) :
    Pure Try.prog 61 [.agg #[.int .i64 x1, .slice a3 x2.length c4]] [Sl (eI .u8) 1 (.slice a3 x2.length c4) x2] Unit (fun _ => .int .i64 r) (fun _ => []) (fun _ => []) := by
  refine pure_of Try.func61 rfl Try.ntmps61 rfl hm (fun w => ?_)
  refine sxc_env (l' := [(0, .agg #[.int .i64 x1, .slice a3 x2.length c4])]) rfl ?_
  refine sxc_seq ?_
  refine sxc_region ?_
  refine sxo_box rfl rfl rfl (fun g5 => ?_)
  refine sxo_assign rfl rfl rfl ?_
  refine sxo_nil ?_
  refine sxq_next ?_
  refine sxc_seq ?_
  refine sxc_seq ?_
  refine sxc_region ?_
  refine sxo_fieldAddr rfl rfl ff25_0 rfl ?_
  refine sxo_loadB (i := 0) rfl rfl tf3 rfl rfl (fun _ => rfl) rfl rfl ?_
  refine sxo_call ent62 rfl rfl rfl (fun x8 e8 => C_R_between F x1 0 8192 x8 e8) .nil (fun x8 e8 => ?_)
  intro _
  refine sxo_not rfl rfl rfl ?_
  refine sxo_nil ?_
  refine sxq_next ?_
  refine sxc_if rfl (fun h81 => ?_) (fun h81 => ?_)
  · refine sxc_seq ?_
    refine sxc_region ?_
    refine sxo_assign rfl rfl rfl ?_
    refine sxo_nil ?_
    refine sxq_next ?_
    refine sxc_ret ?_
    refine sxq_thenR ?_
    exact sxq_doneP () (.inl rfl) (res1 rfl rfl) (fun h => by subst h; rfl) (fun h => by subst h; exact .nil)
  · refine sxc_skip ?_
    refine sxq_next ?_
    refine sxc_seq ?_
    refine sxc_region ?_
    refine sxo_fieldAddr rfl rfl ff25_0 rfl ?_
    refine sxo_loadB (i := 0) rfl rfl tf3 rfl rfl (fun _ => rfl) rfl rfl ?_
    refine sxo_quo rfl rfl rfl rfl rfl ?_
    refine sxo_assign rfl rfl rfl ?_
    refine sxo_nil ?_
    refine sxq_next ?_
    refine sxc_join (fun ((x10, _) : (Int × Unit)) => [(1, .pointer (some ⟨g5, 0, none⟩)), (3, .int .i64 x10)]) (fun ((x10, _) : (Int × Unit)) => [⟨g5, 25, [.int .i64 x1, .slice a3 x2.length c4]⟩]) (fun ((x10, _) : (Int × Unit)) => []) (fun ((x10, _) : (Int × Unit)) => [Sl (eI .u8) 1 (.slice a3 x2.length c4) x2]) (fun ((x10, _) : (Int × Unit)) => M_R_BitsCheck_j1 F x1 x2 x10) ?_ ?_
    · refine sxc_seq ?_
      refine sxc_region ?_
      refine sxo_fieldAddr rfl rfl ff25_0 rfl ?_
      refine sxo_loadB (i := 0) rfl rfl tf3 rfl rfl (fun _ => rfl) rfl rfl ?_
      refine sxo_rem rfl rfl rfl rfl rfl ?_
      refine sxo_gtr rfl rfl rfl rfl ?_
      refine sxo_nil ?_
      refine sxq_next ?_
      refine sxc_if rfl (fun h80 => ?_) (fun h80 => ?_)
      · refine sxc_region ?_
        refine sxo_move rfl rfl rfl ?_
        refine sxo_add rfl rfl rfl rfl ?_
        refine sxo_assign rfl rfl rfl ?_
        refine sxo_nil ?_
        exact sxq_meetP (iadd .i64 (iquo .i64 x1 8) 1, ()) (lk_cons rfl (lk_cons rfl lk_nil)) (.cons 0 rfl .nil) .nil (fk_cons 0 rfl fk_nil)
      · refine sxc_skip ?_
        exact sxq_meetP (iquo .i64 x1 8, ()) (lk_cons rfl (lk_cons rfl lk_nil)) (.cons 0 rfl .nil) .nil (fk_cons 0 rfl fk_nil)
    · rintro ⟨x10, _⟩
      try dsimp only
      refine sxc_seq ?_
      refine sxc_seq ?_
      refine sxc_region ?_
      refine sxo_fieldAddr rfl rfl ff25_1 rfl ?_
      refine sxo_loadB (i := 0) rfl rfl tf23 rfl rfl (fun _ => rfl) rfl rfl ?_
      refine sxo_len rfl Try.underlying23 rfl rfl ?_
      refine sxo_move rfl rfl rfl ?_
      refine sxo_neq rfl rfl rfl rfl ?_
      refine sxo_nil ?_
      refine sxq_next ?_
      refine sxc_if rfl (fun h79 => ?_) (fun h79 => ?_)
      · refine sxc_seq ?_
        refine sxc_region ?_
        refine sxo_assign rfl rfl rfl ?_
        refine sxo_nil ?_
        refine sxq_next ?_
        refine sxc_ret ?_
        refine sxq_thenR ?_
        exact sxq_doneP () (.inl rfl) (res1 rfl rfl) (fun h => by subst h; rfl) (fun h => by subst h; exact .nil)
      · refine sxc_skip ?_
        refine sxq_next ?_
        refine sxc_seq ?_
        refine sxc_region ?_
        refine sxo_move rfl rfl rfl ?_
        refine sxo_mul rfl rfl rfl rfl ?_
        refine sxo_fieldAddr rfl rfl ff25_1 rfl ?_
        refine sxo_loadB (i := 0) rfl rfl tf23 rfl rfl (fun _ => rfl) rfl rfl ?_
        refine sxo_build (cells := [.int .i64 (imul .i64 8 x10), .slice a3 x2.length c4]) rfl st25 rfl (by kernel_rfl) rfl ?_
        refine sxo_call ent24 rfl rfl rfl (fun x12 e12 => C_R_BitList F (imul .i64 8 x10) x2 a3 c4 x12 e12) (.consF 0 rfl .nil) (fun x12 e12 => ?_)
        rintro ⟨a13, c14⟩
        refine sxo_assign rfl rfl rfl ?_
        refine sxo_nil ?_
        refine sxq_next ?_
        refine sxc_join (fun ((_, _) : (Unit × Unit)) => []) (fun ((_, _) : (Unit × Unit)) => []) (fun ((_, _) : (Unit × Unit)) => []) (fun ((_, _) : (Unit × Unit)) => []) (fun ((_, _) : (Unit × Unit)) => M_R_BitsCheck_j3 F) ?_ ?_
        · refine sxc_seq ?_
          refine sxc_region ?_
          refine sxo_fieldAddr rfl rfl ff25_0 rfl ?_
          refine sxo_loadB (i := 0) rfl rfl tf3 rfl rfl (fun _ => rfl) rfl rfl ?_
          refine sxo_assign rfl rfl rfl ?_
          refine sxo_nil ?_
          refine sxq_next ?_
          refine sxc_block ?_
          refine sxc_loopP (fun ((x57, _) : (Int × Unit)) => [(4, .slice a13 x12.length c14), (5, .int .i64 x57)]) (fun ((x57, _) : (Int × Unit)) => []) (fun ((x57, _) : (Int × Unit)) => [Ro (eI .i64) 3 1 (.slice a13 x12.length c14) x12]) (fun ((x57, _) : (Int × Unit)) => []) (fun k (s : (Int × Unit)) => M_R_BitsCheck_l4 F x12 k s.1) (x1, ()) F (lk_cons rfl (lk_cons rfl lk_nil)) .nil (.cons 0 rfl .nil) fk_nil (fun _ => rfl) ?_
          intro k68
          rintro ⟨x57, _⟩
          try dsimp only
          refine sxc_meq (m' := M_R_BitsCheck_b4 F x12 (M_R_BitsCheck_l4 F x12 k68) x57) rfl ?_
          refine sxc_seq ?_
          refine sxc_seq ?_
          refine sxc_region ?_
          refine sxo_move rfl rfl rfl ?_
          refine sxo_move rfl rfl rfl ?_
          refine sxo_len rfl Try.underlying34 rfl rfl ?_
          refine sxo_lss rfl rfl rfl rfl ?_
          refine sxo_nil ?_
          refine sxq_next ?_
          refine sxc_if rfl (fun h78 => ?_) (fun h78 => ?_)
          · refine sxc_skip ?_
            refine sxq_next ?_
            refine sxc_seq ?_
            refine sxc_block ?_
            refine sxc_seq ?_
            refine sxc_region ?_
            refine sxo_move rfl rfl rfl ?_
            refine sxo_move rfl rfl rfl ?_
            refine sxo_indexR (j := 0) rfl Try.underlying34 tf3 rfl rfl rfl rfl (fun x74 e74 g75 h76 => ?_)
            refine sxo_loadR (j := 0) (y := x74) (eI_ok .i64) rfl rfl tf3 rfl h76 (idx_get e74).2.2 (fun _ => rfl) rfl rfl ?_
            refine sxo_neq rfl rfl rfl rfl ?_
            refine sxo_nil ?_
            refine sxq_next ?_
            refine sxc_if rfl (fun h77 => ?_) (fun h77 => ?_)
            · refine sxc_seq ?_
              refine sxc_region ?_
              refine sxo_assign rfl rfl rfl ?_
              refine sxo_nil ?_
              refine sxq_next ?_
              refine sxc_ret ?_
              refine sxq_blkR ?_
              refine sxq_thenR ?_
              refine sxq_thenR ?_
              refine sxq_blkR ?_
              refine sxq_thenR ?_
              exact sxq_doneP () (.inl rfl) (res1 rfl rfl) (fun h => by subst h; rfl) (fun h => by subst h; exact .nil)
            · refine sxc_skip ?_
              refine sxq_blkN ?_
              refine sxq_next ?_
              refine sxc_region ?_
              refine sxo_move rfl rfl rfl ?_
              refine sxo_add rfl rfl rfl rfl ?_
              refine sxo_assign rfl rfl rfl ?_
              refine sxo_nil ?_
              exact sxq_againP (iadd .i64 x57 1, ()) (lk_cons rfl (lk_cons rfl lk_nil)) .nil (.cons 0 rfl .nil) fk_nil
          · refine sxc_exit ?_
            refine sxq_thenX ?_
            refine sxq_thenX ?_
            refine sxq_blkX ?_
            exact sxq_meetP ((), ()) lk_nil .nil .nil fk_nil
        · rintro ⟨_, _⟩
          try dsimp only
          refine sxc_seq ?_
          refine sxc_region ?_
          refine sxo_assign rfl rfl rfl ?_
          refine sxo_nil ?_
          refine sxq_next ?_
          refine sxc_ret ?_
          exact sxq_doneP () (.inl rfl) (res1 rfl rfl) (fun h => by subst h; rfl) (fun h => by subst h; exact .nil)

theorem C_R_ReadErr (F : Nat) (x1 : Int) (x2 : List Int) (a3 : Option Addr) (c4 : Nat) (x5 : Int) (r : Int) (hm : M_R_ReadErr F x1 x2 x5 = some r) :
    Pure Try.prog 23 [.agg #[.int .i64 x1, .slice a3 x2.length c4], .int .i64 x5] [Sl (eI .u8) 1 (.slice a3 x2.length c4) x2] Unit (fun _ => .int .i64 r) (fun _ => []) (fun _ => []) := by
  refine pure_of Try.func23 rfl Try.ntmps23 rfl hm (fun w => ?_)
  refine sxc_env (l' := [(0, .agg #[.int .i64 x1, .slice a3 x2.length c4]), (1, .int .i64 x5)]) rfl ?_
  refine sxc_seq ?_
  refine sxc_region ?_
  refine sxo_box rfl rfl rfl (fun g6 => ?_)
  refine sxo_assign rfl rfl rfl ?_
  refine sxo_nil ?_
  refine sxq_next ?_
  refine sxc_seq ?_
  refine sxc_region ?_
  refine sxo_loadB (i := 0) rfl rfl tf25 rfl rfl (by simp) rfl rfl ?_
  refine sxo_call ent61 rfl rfl rfl (fun x7 e7 => C_R_BitsCheck F x1 x2 a3 c4 x7 e7) (.consF 0 rfl .nil) (fun x7 e7 => ?_)
  intro _
  refine sxo_assign rfl rfl rfl ?_
  refine sxo_nil ?_
  refine sxq_next ?_
  refine sxc_join (fun ((x13, _) : (Int × Unit)) => [(5, .int .i64 x13)]) (fun ((x13, _) : (Int × Unit)) => []) (fun ((x13, _) : (Int × Unit)) => []) (fun ((x13, _) : (Int × Unit)) => []) (fun ((x13, _) : (Int × Unit)) => M_R_ReadErr_j2 F x13) ?_ ?_
  · refine sxc_seq ?_
    refine sxc_region ?_
    refine sxo_move rfl rfl rfl ?_
    refine sxo_eql rfl rfl rfl rfl ?_
    refine sxo_move rfl rfl rfl ?_
    refine sxo_join 6 (fun ((x16, _) : (Bool × Unit)) => [(5, .int .i64 x7), (16, .bool x16)]) (fun ((x16, _) : (Bool × Unit)) => []) (fun ((x16, _) : (Bool × Unit)) => []) (fun ((x16, _) : (Bool × Unit)) => []) (fun ((x16, _) : (Bool × Unit)) => M_R_ReadErr_j3 F x7 x16) ?_ ?_
    · refine sxo_take (os := _) rfl ?_
      refine sxo_if (fun h14 => ?_) (fun h14 => ?_)
      · refine sxo_isT (k := 10) rfl h14 ?_
        refine sxo_move rfl rfl rfl ?_
        refine sxo_fieldAddr rfl rfl ff25_0 rfl ?_
        refine sxo_loadB (i := 0) rfl rfl tf3 rfl rfl (fun _ => rfl) rfl rfl ?_
        refine sxo_call ent62 rfl rfl rfl (fun x18 e18 => C_R_between F x5 0 x1 x18 e18) .nil (fun x18 e18 => ?_)
        intro _
        refine sxo_not rfl rfl rfl ?_
        refine sxo_pick (b := true) rfl rfl rfl rfl ?_
        refine sxo_nil ?_
        exact sxq_meetP ((!x18), ()) (lk_cons rfl (lk_cons rfl lk_nil)) .nil .nil fk_nil
      · refine sxo_isF (k := 10) rfl h14 ?_
        refine sxo_skip rfl rfl rfl ?_
        refine sxo_skip rfl rfl rfl ?_
        refine sxo_skip rfl rfl rfl ?_
        refine sxo_skip rfl rfl rfl ?_
        refine sxo_skip rfl rfl rfl ?_
        refine sxo_pick (b := false) rfl rfl rfl rfl ?_
        refine sxo_nil ?_
        exact sxq_meetP (false, ()) (lk_cons rfl (lk_cons rfl lk_nil)) .nil .nil fk_nil
    · rintro ⟨x16, _⟩
      try dsimp only
      refine sxo_take (os := _) rfl ?_
      refine sxo_nil ?_
      refine sxq_next ?_
      refine sxc_if rfl (fun h17 => ?_) (fun h17 => ?_)
      · refine sxc_region ?_
        refine sxo_assign rfl rfl rfl ?_
        refine sxo_nil ?_
        exact sxq_meetP (3, ()) (lk_cons rfl lk_nil) .nil .nil fk_nil
      · refine sxc_skip ?_
        exact sxq_meetP (x7, ()) (lk_cons rfl lk_nil) .nil .nil fk_nil
  · rintro ⟨x13, _⟩
    try dsimp only
    refine sxc_seq ?_
    refine sxc_region ?_
    refine sxo_move rfl rfl rfl ?_
    refine sxo_assign rfl rfl rfl ?_
    refine sxo_nil ?_
    refine sxq_next ?_
    refine sxc_ret ?_
    exact sxq_doneP () (.inl rfl) (res1 rfl rfl) (fun h => by subst h; rfl) (fun h => by subst h; exact .nil)

theorem C_R_UnaryRead (F : Nat) (x1 : List Int) (a2 : Option Addr) (c3 : Nat) (x4 : Int) (r : (Int × Int)) (hm : M_R_UnaryRead F x1 x4 = some r) :
    Pure Try.prog 63 [.slice a2 x1.length c3, .int .i64 x4] [Sl (eI .i64) 1 (.slice a2 x1.length c3) x1] Unit (fun _ => .tuple #[.int .u64 r.1, .int .i64 r.2]) (fun _ => []) (fun _ => []) := by
  refine pure_of Try.func63 rfl Try.ntmps63 rfl hm (fun w => ?_)
  refine sxc_env (l' := [(0, .slice a2 x1.length c3), (1, .int .i64 x4)]) rfl ?_
  refine sxc_seq ?_
  refine sxc_region ?_
  refine sxo_assign rfl rfl rfl ?_
  refine sxo_assign rfl rfl rfl ?_
  refine sxo_nil ?_
  refine sxq_next ?_
  refine sxc_seq ?_
  refine sxc_region ?_
  refine sxo_assign rfl rfl rfl ?_
  refine sxo_nil ?_
  refine sxq_next ?_
  refine sxc_join (fun ((_, _) : (Unit × Unit)) => []) (fun ((_, _) : (Unit × Unit)) => []) (fun ((_, _) : (Unit × Unit)) => []) (fun ((_, _) : (Unit × Unit)) => []) (fun ((_, _) : (Unit × Unit)) => M_R_UnaryRead_j2 F) ?_ ?_
  · refine sxc_seq ?_
    refine sxc_region ?_
    refine sxo_move rfl rfl rfl ?_
    refine sxo_assign rfl rfl rfl ?_
    refine sxo_nil ?_
    refine sxq_next ?_
    refine sxc_block ?_
    refine sxc_loopP (fun (((x80, x81), _) : ((Int × Int) × Unit)) => [(0, .slice a2 x1.length c3), (6, .int .u64 x80), (7, .int .i64 x81)]) (fun (((x80, x81), _) : ((Int × Int) × Unit)) => []) (fun (((x80, x81), _) : ((Int × Int) × Unit)) => []) (fun (((x80, x81), _) : ((Int × Int) × Unit)) => [Sl (eI .i64) 1 (.slice a2 x1.length c3) x1]) (fun k (s : ((Int × Int) × Unit)) => M_R_UnaryRead_l3 F x1 k s.1) ((0, x4), ()) F (lk_cons rfl (lk_cons rfl (lk_cons rfl lk_nil))) .nil .nil (fk_cons 0 rfl fk_nil) (fun _ => rfl) ?_
    intro k100
    rintro ⟨⟨x80, x81⟩, _⟩
    try dsimp only
    refine sxc_meq (m' := M_R_UnaryRead_b3 F x1 (M_R_UnaryRead_l3 F x1 k100) x80 x81) rfl ?_
    refine sxc_seq ?_
    refine sxc_seq ?_
    refine sxc_region ?_
    refine sxo_move rfl rfl rfl ?_
    refine sxo_move rfl rfl rfl ?_
    refine sxo_len rfl Try.underlying34 rfl rfl ?_
    refine sxo_lss rfl rfl rfl rfl ?_
    refine sxo_nil ?_
    refine sxq_next ?_
    refine sxc_if rfl (fun h118 => ?_) (fun h118 => ?_)
    · refine sxc_skip ?_
      refine sxq_next ?_
      refine sxc_seq ?_
      refine sxc_block ?_
      refine sxc_seq ?_
      refine sxc_seq ?_
      refine sxc_region ?_
      refine sxo_move rfl rfl rfl ?_
      refine sxo_move rfl rfl rfl ?_
      refine sxo_indexF (j := 0) (eI_ok .i64) (by decide) rfl Try.underlying34 tf3 rfl rfl rfl rfl (fun x114 e114 b115 o116 => ?_)
      refine sxo_loadF (j := 0) rfl rfl tf3 rfl rfl (fun _ => rfl) rfl rfl ?_
      refine sxo_eql rfl rfl rfl rfl ?_
      refine sxo_nil ?_
      refine sxq_next ?_
      refine sxc_if rfl (fun h117 => ?_) (fun h117 => ?_)
      · refine sxc_seq ?_
        refine sxc_region ?_
        refine sxo_move rfl rfl rfl ?_
        refine sxo_move rfl rfl rfl ?_
        refine sxo_add rfl rfl rfl rfl ?_
        refine sxo_assign rfl rfl rfl ?_
        refine sxo_assign rfl rfl rfl ?_
        refine sxo_nil ?_
        refine sxq_next ?_
        refine sxc_ret ?_
        refine sxq_thenR ?_
        refine sxq_blkR ?_
        refine sxq_thenR ?_
        refine sxq_thenR ?_
        refine sxq_blkR ?_
        refine sxq_thenR ?_
        exact sxq_doneP () (.inl rfl) (res2 rfl rfl rfl) (fun h => by subst h; rfl) (fun h => by subst h; exact .nil)
      · refine sxc_skip ?_
        refine sxq_next ?_
        refine sxc_region ?_
        refine sxo_move rfl rfl rfl ?_
        refine sxo_add rfl rfl rfl rfl ?_
        refine sxo_assign rfl rfl rfl ?_
        refine sxo_nil ?_
        refine sxq_blkN ?_
        refine sxq_next ?_
        refine sxc_region ?_
        refine sxo_move rfl rfl rfl ?_
        refine sxo_add rfl rfl rfl rfl ?_
        refine sxo_assign rfl rfl rfl ?_
        refine sxo_nil ?_
        exact sxq_againP ((iadd .u64 x80 1, iadd .i64 x81 1), ()) (lk_cons rfl (lk_cons rfl (lk_cons rfl lk_nil))) .nil .nil (fk_cons 1 rfl fk_nil)
    · refine sxc_exit ?_
      refine sxq_thenX ?_
      refine sxq_thenX ?_
      refine sxq_blkX ?_
      exact sxq_meetP ((), ()) lk_nil .nil .nil fk_nil
  · rintro ⟨_, _⟩
    try dsimp only
    refine sxc_seq ?_
    refine sxc_region ?_
    refine sxo_assign rfl rfl rfl ?_
    refine sxo_assign rfl rfl rfl ?_
    refine sxo_nil ?_
    refine sxq_next ?_
    refine sxc_ret ?_
    exact sxq_doneP () (.inl rfl) (res2 rfl rfl rfl) (fun h => by subst h; rfl) (fun h => by subst h; exact .nil)

theorem C_R_BitNum (F : Nat) (x1 : List Int) (a2 : Option Addr) (c3 : Nat) (r : Int) (hm : M_R_BitNum F x1 = some r) :
    Pure Try.prog 93 [.slice a2 x1.length c3] [Sl (eI .i64) 1 (.slice a2 x1.length c3) x1] Unit (fun _ => .int .u64 r) (fun _ => []) (fun _ => []) := by
  refine pure_of Try.func93 rfl Try.ntmps93 rfl hm (fun w => ?_)
  refine sxc_env (l' := [(0, .slice a2 x1.length c3)]) rfl ?_
  refine sxc_seq ?_
  refine sxc_region ?_
  refine sxo_assign rfl rfl rfl ?_
  refine sxo_nil ?_
  refine sxq_next ?_
  refine sxc_seq ?_
  refine sxc_region ?_
  refine sxo_assign rfl rfl rfl ?_
  refine sxo_nil ?_
  refine sxq_next ?_
  refine sxc_join (fun ((x37, _) : (Int × Unit)) => [(3, .int .u64 x37)]) (fun ((x37, _) : (Int × Unit)) => []) (fun ((x37, _) : (Int × Unit)) => []) (fun ((x37, _) : (Int × Unit)) => []) (fun ((x37, _) : (Int × Unit)) => M_R_BitNum_j2 F x37) ?_ ?_
  · refine sxc_seq ?_
    refine sxc_region ?_
    refine sxo_assign rfl rfl rfl ?_
    refine sxo_nil ?_
    refine sxq_next ?_
    refine sxc_block ?_
    refine sxc_loopP (fun (((x48, x49), _) : ((Int × Int) × Unit)) => [(0, .slice a2 x1.length c3), (3, .int .u64 x48), (4, .int .i64 x49)]) (fun (((x48, x49), _) : ((Int × Int) × Unit)) => []) (fun (((x48, x49), _) : ((Int × Int) × Unit)) => []) (fun (((x48, x49), _) : ((Int × Int) × Unit)) => [Sl (eI .i64) 1 (.slice a2 x1.length c3) x1]) (fun k (s : ((Int × Int) × Unit)) => M_R_BitNum_l3 F x1 k s.1) ((0, 0), ()) F (lk_cons rfl (lk_cons rfl (lk_cons rfl lk_nil))) .nil .nil (fk_cons 0 rfl fk_nil) (fun _ => rfl) ?_
    intro k60
    rintro ⟨⟨x48, x49⟩, _⟩
    try dsimp only
    refine sxc_meq (m' := M_R_BitNum_b3 F x1 (M_R_BitNum_l3 F x1 k60) x48 x49) rfl ?_
    refine sxc_seq ?_
    refine sxc_seq ?_
    refine sxc_region ?_
    refine sxo_move rfl rfl rfl ?_
    refine sxo_move rfl rfl rfl ?_
    refine sxo_len rfl Try.underlying34 rfl rfl ?_
    refine sxo_lss rfl rfl rfl rfl ?_
    refine sxo_nil ?_
    refine sxq_next ?_
    refine sxc_if rfl (fun h70 => ?_) (fun h70 => ?_)
    · refine sxc_skip ?_
      refine sxq_next ?_
      refine sxc_seq ?_
      refine sxc_block ?_
      refine sxc_region ?_
      refine sxo_move rfl rfl rfl ?_
      refine sxo_mul rfl rfl rfl rfl ?_
      refine sxo_move rfl rfl rfl ?_
      refine sxo_move rfl rfl rfl ?_
      refine sxo_indexF (j := 0) (eI_ok .i64) (by decide) rfl Try.underlying34 tf3 rfl rfl rfl rfl (fun x66 e66 b67 o68 => ?_)
      refine sxo_loadF (j := 0) rfl rfl tf3 rfl rfl (fun _ => rfl) rfl rfl ?_
      refine sxo_conv rfl Try.underlying3 Try.underlying22 rfl rfl ?_
      refine sxo_add rfl rfl rfl rfl ?_
      refine sxo_assign rfl rfl rfl ?_
      refine sxo_lett (fun x69 e69 => ?_)
      refine sxo_again (d := 3) (v := .int .u64 x69) rfl (by rw [e69]) ?_
      refine sxo_nil ?_
      refine sxq_blkN ?_
      refine sxq_next ?_
      refine sxc_region ?_
      refine sxo_move rfl rfl rfl ?_
      refine sxo_add rfl rfl rfl rfl ?_
      refine sxo_assign rfl rfl rfl ?_
      refine sxo_nil ?_
      exact sxq_againP ((x69, iadd .i64 x49 1), ()) (lk_cons rfl (lk_cons rfl (lk_cons rfl lk_nil))) .nil .nil (fk_cons 1 rfl fk_nil)
    · refine sxc_exit ?_
      refine sxq_thenX ?_
      refine sxq_thenX ?_
      refine sxq_blkX ?_
      exact sxq_meetP (x48, ()) (lk_cons rfl lk_nil) .nil .nil fk_nil
  · rintro ⟨x37, _⟩
    try dsimp only
    refine sxc_seq ?_
    refine sxc_region ?_
    refine sxo_move rfl rfl rfl ?_
    refine sxo_assign rfl rfl rfl ?_
    refine sxo_nil ?_
    refine sxq_next ?_
    refine sxc_ret ?_
    exact sxq_doneP () (.inl rfl) (res1 rfl rfl) (fun h => by subst h; rfl) (fun h => by subst h; exact .nil)

theorem C_R_restRead (F : Nat) (x1 : List Int) (a2 : Option Addr) (c3 : Nat) (x4 : Int) (x5 : Int) (r : (Int × Int × Int)) (hm : M_R_restRead F x1 x4 x5 = some r) :
    Pure Try.prog 64 [.slice a2 x1.length c3, .int .i64 x4, .int .u64 x5] [Sl (eI .i64) 1 (.slice a2 x1.length c3) x1] Unit (fun _ => .tuple #[.int .u64 r.1, .int .i64 r.2.1, .int .i64 r.2.2]) (fun _ => []) (fun _ => []) := by
  refine pure_of Try.func64 rfl Try.ntmps64 rfl hm (fun w => ?_)
  refine sxc_env (l' := [(0, .slice a2 x1.length c3), (1, .int .i64 x4), (2, .int .u64 x5)]) rfl ?_
  refine sxc_seq ?_
  refine sxc_region ?_
  refine sxo_assign rfl rfl rfl ?_
  refine sxo_assign rfl rfl rfl ?_
  refine sxo_assign rfl rfl rfl ?_
  refine sxo_nil ?_
  refine sxq_next ?_
  refine sxc_seq ?_
  refine sxc_seq ?_
  refine sxc_region ?_
  refine sxo_move rfl rfl rfl ?_
  refine sxo_gtr rfl rfl rfl rfl ?_
  refine sxo_nil ?_
  refine sxq_next ?_
  refine sxc_if rfl (fun h20 => ?_) (fun h20 => ?_)
  · refine sxc_seq ?_
    refine sxc_region ?_
    refine sxo_assign rfl rfl rfl ?_
    refine sxo_assign rfl rfl rfl ?_
    refine sxo_assign rfl rfl rfl ?_
    refine sxo_nil ?_
    refine sxq_next ?_
    refine sxc_ret ?_
    refine sxq_thenR ?_
    exact sxq_doneP () (.inl rfl) (res3 rfl rfl rfl rfl) (fun h => by subst h; rfl) (fun h => by subst h; exact .nil)
  · refine sxc_skip ?_
    refine sxq_next ?_
    refine sxc_seq ?_
    refine sxc_seq ?_
    refine sxc_region ?_
    refine sxo_move rfl rfl rfl ?_
    refine sxo_move rfl rfl rfl ?_
    refine sxo_conv rfl Try.underlying22 Try.underlying3 rfl rfl ?_
    refine sxo_add rfl rfl rfl rfl ?_
    refine sxo_move rfl rfl rfl ?_
    refine sxo_len rfl Try.underlying34 rfl rfl ?_
    refine sxo_gtr rfl rfl rfl rfl ?_
    refine sxo_nil ?_
    refine sxq_next ?_
    refine sxc_if rfl (fun h19 => ?_) (fun h19 => ?_)
    · refine sxc_seq ?_
      refine sxc_region ?_
      refine sxo_assign rfl rfl rfl ?_
      refine sxo_assign rfl rfl rfl ?_
      refine sxo_assign rfl rfl rfl ?_
      refine sxo_nil ?_
      refine sxq_next ?_
      refine sxc_ret ?_
      refine sxq_thenR ?_
      exact sxq_doneP () (.inl rfl) (res3 rfl rfl rfl rfl) (fun h => by subst h; rfl) (fun h => by subst h; exact .nil)
    · refine sxc_skip ?_
      refine sxq_next ?_
      refine sxc_seq ?_
      refine sxc_region ?_
      refine sxo_slit (vs := [.int .i64 1]) (ys := ([1] : List Int)) (eI_ok .i64) (by decide) rfl Try.underlying34 tf3 rfl rfl rfl rfl rfl (by decide) (fun a8 c9 => ?_)
      refine sxo_move rfl rfl rfl ?_
      refine sxo_move rfl rfl rfl ?_
      refine sxo_move rfl rfl rfl ?_
      refine sxo_move rfl rfl rfl ?_
      refine sxo_conv rfl Try.underlying22 Try.underlying3 rfl rfl ?_
      refine sxo_add rfl rfl rfl rfl ?_
      refine sxo_cut (j := 0) (eI_ok .i64) rfl Try.underlying34 tf3 rfl rfl rfl rfl rfl (fun x10 e10 a11 c12 => ?_)
      refine sxo_app 0 (eI_ok .i64) rfl Try.underlying34 tf3 rfl rfl rfl rfl rfl (.inr ⟨0, rfl⟩) rfl rfl (fun x13 e13 a14 c15 => ?_)
      refine sxo_call ent93 rfl rfl rfl (fun x16 e16 => C_R_BitNum F x13 a14 c15 x16 e16) (.consR 0 (Ro (eI .i64) 3 1 (.slice a14 x13.length c15) x13) rfl .nil) (fun x16 e16 => ?_)
      intro _
      refine sxo_sub rfl rfl rfl rfl ?_
      refine sxo_assign rfl rfl rfl ?_
      refine sxo_nil ?_
      refine sxq_next ?_
      refine sxc_seq ?_
      refine sxc_seq ?_
      refine sxc_region ?_
      refine sxo_move rfl rfl rfl ?_
      refine sxo_gtr rfl rfl rfl rfl ?_
      refine sxo_nil ?_
      refine sxq_next ?_
      refine sxc_if rfl (fun h18 => ?_) (fun h18 => ?_)
      · refine sxc_seq ?_
        refine sxc_region ?_
        refine sxo_assign rfl rfl rfl ?_
        refine sxo_assign rfl rfl rfl ?_
        refine sxo_assign rfl rfl rfl ?_
        refine sxo_nil ?_
        refine sxq_next ?_
        refine sxc_ret ?_
        refine sxq_thenR ?_
        exact sxq_doneP () (.inl rfl) (res3 rfl rfl rfl rfl) (fun h => by subst h; rfl) (fun h => by subst h; exact .nil)
      · refine sxc_skip ?_
        refine sxq_next ?_
        refine sxc_seq ?_
        refine sxc_region ?_
        refine sxo_move rfl rfl rfl ?_
        refine sxo_move rfl rfl rfl ?_
        refine sxo_move rfl rfl rfl ?_
        refine sxo_conv rfl Try.underlying22 Try.underlying3 rfl rfl ?_
        refine sxo_add rfl rfl rfl rfl ?_
        refine sxo_assign rfl rfl rfl ?_
        refine sxo_assign rfl rfl rfl ?_
        refine sxo_assign rfl rfl rfl ?_
        refine sxo_nil ?_
        refine sxq_next ?_
        refine sxc_ret ?_
        exact sxq_doneP () (.inl rfl) (res3 rfl rfl rfl rfl) (fun h => by subst h; rfl) (fun h => by subst h; exact .nil)

theorem C_R_GammaRead (F : Nat) (x1 : List Int) (a2 : Option Addr) (c3 : Nat) (x4 : Int) (r : (Int × Int × Int)) (hm : M_R_GammaRead F x1 x4 = some r) :
    Pure Try.prog 25 [.slice a2 x1.length c3, .int .i64 x4] [Sl (eI .i64) 1 (.slice a2 x1.length c3) x1] Unit (fun _ => .tuple #[.int .u64 r.1, .int .i64 r.2.1, .int .i64 r.2.2]) (fun _ => []) (fun _ => []) := by
  refine pure_of Try.func25 rfl Try.ntmps25 rfl hm (fun w => ?_)
  refine sxc_env (l' := [(0, .slice a2 x1.length c3), (1, .int .i64 x4)]) rfl ?_
  refine sxc_seq ?_
  refine sxc_region ?_
  refine sxo_assign rfl rfl rfl ?_
  refine sxo_assign rfl rfl rfl ?_
  refine sxo_assign rfl rfl rfl ?_
  refine sxo_nil ?_
  refine sxq_next ?_
  refine sxc_seq ?_
  refine sxc_region ?_
  refine sxo_move rfl rfl rfl ?_
  refine sxo_move rfl rfl rfl ?_
  refine sxo_call ent63 rfl rfl rfl (fun x5 e5 => C_R_UnaryRead F x1 a2 c3 x4 x5 e5) (.consF 0 rfl .nil) (fun x5 e5 => ?_)
  intro _
  refine sxo_move rfl rfl rfl ?_
  refine sxo_extract rfl rfl rfl rfl ?_
  refine sxo_extract rfl rfl rfl rfl ?_
  refine sxo_assign rfl rfl rfl ?_
  refine sxo_assign rfl rfl rfl ?_
  refine sxo_nil ?_
  refine sxq_next ?_
  refine sxc_seq ?_
  refine sxc_seq ?_
  refine sxc_region ?_
  refine sxo_move rfl rfl rfl ?_
  refine sxo_lss rfl rfl rfl rfl ?_
  refine sxo_nil ?_
  refine sxq_next ?_
  refine sxc_if rfl (fun h8 => ?_) (fun h8 => ?_)
  · refine sxc_seq ?_
    refine sxc_region ?_
    refine sxo_assign rfl rfl rfl ?_
    refine sxo_assign rfl rfl rfl ?_
    refine sxo_assign rfl rfl rfl ?_
    refine sxo_nil ?_
    refine sxq_next ?_
    refine sxc_ret ?_
    refine sxq_thenR ?_
    exact sxq_doneP () (.inl rfl) (res3 rfl rfl rfl rfl) (fun h => by subst h; rfl) (fun h => by subst h; exact .nil)
  · refine sxc_skip ?_
    refine sxq_next ?_
    refine sxc_seq ?_
    refine sxc_region ?_
    refine sxo_move rfl rfl rfl ?_
    refine sxo_move rfl rfl rfl ?_
    refine sxo_move rfl rfl rfl ?_
    refine sxo_call ent64 rfl rfl rfl (fun x7 e7 => C_R_restRead F x1 a2 c3 x5.2 x5.1 x7 e7) (.consF 0 rfl .nil) (fun x7 e7 => ?_)
    intro _
    refine sxo_extract rfl rfl rfl rfl ?_
    refine sxo_extract rfl rfl rfl rfl ?_
    refine sxo_extract rfl rfl rfl rfl ?_
    refine sxo_assign rfl rfl rfl ?_
    refine sxo_assign rfl rfl rfl ?_
    refine sxo_assign rfl rfl rfl ?_
    refine sxo_nil ?_
    refine sxq_next ?_
    refine sxc_ret ?_
    exact sxq_doneP () (.inl rfl) (res3 rfl rfl rfl rfl) (fun h => by subst h; rfl) (fun h => by subst h; exact .nil)

theorem C_R_DeltaRead (F : Nat) (x1 : List Int) (a2 : Option Addr) (c3 : Nat) (x4 : Int) (r : (Int × Int × Int)) (hm : M_R_DeltaRead F x1 x4 = some r) :
    Pure Try.prog 26 [.slice a2 x1.length c3, .int .i64 x4] [Sl (eI .i64) 1 (.slice a2 x1.length c3) x1] Unit (fun _ => .tuple #[.int .u64 r.1, .int .i64 r.2.1, .int .i64 r.2.2]) (fun _ => []) (fun _ => []) := by
  refine pure_of Try.func26 rfl Try.ntmps26 rfl hm (fun w => ?_)
  refine sxc_env (l' := [(0, .slice a2 x1.length c3), (1, .int .i64 x4)]) rfl ?_
  refine sxc_seq ?_
  refine sxc_region ?_
  refine sxo_assign rfl rfl rfl ?_
  refine sxo_assign rfl rfl rfl ?_
  refine sxo_assign rfl rfl rfl ?_
  refine sxo_nil ?_
  refine sxq_next ?_
  refine sxc_seq ?_
  refine sxc_region ?_
  refine sxo_move rfl rfl rfl ?_
  refine sxo_move rfl rfl rfl ?_
  refine sxo_call ent25 rfl rfl rfl (fun x5 e5 => C_R_GammaRead F x1 a2 c3 x4 x5 e5) (.consF 0 rfl .nil) (fun x5 e5 => ?_)
  intro _
  refine sxo_move rfl rfl rfl ?_
  refine sxo_extract rfl rfl rfl rfl ?_
  refine sxo_extract rfl rfl rfl rfl ?_
  refine sxo_extract rfl rfl rfl rfl ?_
  refine sxo_assign rfl rfl rfl ?_
  refine sxo_assign rfl rfl rfl ?_
  refine sxo_assign rfl rfl rfl ?_
  refine sxo_nil ?_
  refine sxq_next ?_
  refine sxc_seq ?_
  refine sxc_seq ?_
  refine sxc_region ?_
  refine sxo_move rfl rfl rfl ?_
  refine sxo_neq rfl rfl rfl rfl ?_
  refine sxo_nil ?_
  refine sxq_next ?_
  refine sxc_if rfl (fun h8 => ?_) (fun h8 => ?_)
  · refine sxc_seq ?_
    refine sxc_region ?_
    refine sxo_move rfl rfl rfl ?_
    refine sxo_assign rfl rfl rfl ?_
    refine sxo_assign rfl rfl rfl ?_
    refine sxo_assign rfl rfl rfl ?_
    refine sxo_nil ?_
    refine sxq_next ?_
    refine sxc_ret ?_
    refine sxq_thenR ?_
    exact sxq_doneP () (.inl rfl) (res3 rfl rfl rfl rfl) (fun h => by subst h; rfl) (fun h => by subst h; exact .nil)
  · refine sxc_skip ?_
    refine sxq_next ?_
    refine sxc_seq ?_
    refine sxc_region ?_
    refine sxo_move rfl rfl rfl ?_
    refine sxo_move rfl rfl rfl ?_
    refine sxo_move rfl rfl rfl ?_
    refine sxo_call ent64 rfl rfl rfl (fun x7 e7 => C_R_restRead F x1 a2 c3 x5.2.1 x5.1 x7 e7) (.consF 0 rfl .nil) (fun x7 e7 => ?_)
    intro _
    refine sxo_extract rfl rfl rfl rfl ?_
    refine sxo_extract rfl rfl rfl rfl ?_
    refine sxo_extract rfl rfl rfl rfl ?_
    refine sxo_assign rfl rfl rfl ?_
    refine sxo_assign rfl rfl rfl ?_
    refine sxo_assign rfl rfl rfl ?_
    refine sxo_nil ?_
    refine sxq_next ?_
    refine sxc_ret ?_
    exact sxq_doneP () (.inl rfl) (res3 rfl rfl rfl rfl) (fun h => by subst h; rfl) (fun h => by subst h; exact .nil)

theorem C_R_SameBytes (F : Nat) (x1 : List Int) (a2 : Option Addr) (c3 : Nat) (x4 : List Int) (a5 : Option Addr) (c6 : Nat) (r : Bool) (hm : M_R_SameBytes F x1 x4 = some r) :
    Pure Try.prog 65 [.slice a2 x1.length c3, .slice a5 x4.length c6] [Sl (eI .u8) 1 (.slice a2 x1.length c3) x1, Sl (eI .u8) 1 (.slice a5 x4.length c6) x4] Unit (fun _ => .bool r) (fun _ => []) (fun _ => []) := by
  refine pure_of Try.func65 rfl Try.ntmps65 rfl hm (fun w => ?_)
  refine sxc_env (l' := [(0, .slice a2 x1.length c3), (1, .slice a5 x4.length c6)]) rfl ?_
  refine sxc_seq ?_
  refine sxc_region ?_
  refine sxo_assign rfl rfl rfl ?_
  refine sxo_nil ?_
  refine sxq_next ?_
  refine sxc_seq ?_
  refine sxc_seq ?_
  refine sxc_region ?_
  refine sxo_move rfl rfl rfl ?_
  refine sxo_len rfl Try.underlying23 rfl rfl ?_
  refine sxo_move rfl rfl rfl ?_
  refine sxo_len rfl Try.underlying23 rfl rfl ?_
  refine sxo_neq rfl rfl rfl rfl ?_
  refine sxo_nil ?_
  refine sxq_next ?_
  refine sxc_if rfl (fun h228 => ?_) (fun h228 => ?_)
  · refine sxc_seq ?_
    refine sxc_region ?_
    refine sxo_assign rfl rfl rfl ?_
    refine sxo_nil ?_
    refine sxq_next ?_
    refine sxc_ret ?_
    refine sxq_thenR ?_
    exact sxq_doneP () (.inl rfl) (res1 rfl rfl) (fun h => by subst h; rfl) (fun h => by subst h; exact .nil)
  · refine sxc_skip ?_
    refine sxq_next ?_
    refine sxc_join (fun ((_, _) : (Unit × Unit)) => []) (fun ((_, _) : (Unit × Unit)) => []) (fun ((_, _) : (Unit × Unit)) => []) (fun ((_, _) : (Unit × Unit)) => []) (fun ((_, _) : (Unit × Unit)) => M_R_SameBytes_j2 F) ?_ ?_
    · refine sxc_seq ?_
      refine sxc_region ?_
      refine sxo_assign rfl rfl rfl ?_
      refine sxo_nil ?_
      refine sxq_next ?_
      refine sxc_block ?_
      refine sxc_loopP (fun ((x154, _) : (Int × Unit)) => [(0, .slice a2 x1.length c3), (1, .slice a5 x4.length c6), (5, .int .i64 x154)]) (fun ((x154, _) : (Int × Unit)) => []) (fun ((x154, _) : (Int × Unit)) => []) (fun ((x154, _) : (Int × Unit)) => [Sl (eI .u8) 1 (.slice a2 x1.length c3) x1, Sl (eI .u8) 1 (.slice a5 x4.length c6) x4]) (fun k (s : (Int × Unit)) => M_R_SameBytes_l3 F x1 x4 k s.1) (0, ()) F (lk_cons rfl (lk_cons rfl (lk_cons rfl lk_nil))) .nil .nil (fk_cons 0 rfl (fk_cons 1 rfl fk_nil)) (fun _ => rfl) ?_
      intro k191
      rintro ⟨x154, _⟩
      try dsimp only
      refine sxc_meq (m' := M_R_SameBytes_b3 F x1 x4 (M_R_SameBytes_l3 F x1 x4 k191) x154) rfl ?_
      refine sxc_seq ?_
      refine sxc_seq ?_
      refine sxc_region ?_
      refine sxo_move rfl rfl rfl ?_
      refine sxo_move rfl rfl rfl ?_
      refine sxo_len rfl Try.underlying23 rfl rfl ?_
      refine sxo_lss rfl rfl rfl rfl ?_
      refine sxo_nil ?_
      refine sxq_next ?_
      refine sxc_if rfl (fun h227 => ?_) (fun h227 => ?_)
      · refine sxc_skip ?_
        refine sxq_next ?_
        refine sxc_seq ?_
        refine sxc_block ?_
        refine sxc_seq ?_
        refine sxc_idxF (j := 0) (eI_ok .u8) (by decide) rfl (fun x218 e218 b219 o220 h221 => ?_)
        replace h221 : a2 = some ⟨b219, o220, none⟩ := h221
        refine sxc_idxF (j := 2) (eI_ok .u8) (by decide) rfl (fun x222 e222 b223 o224 h225 => ?_)
        replace h225 : a5 = some ⟨b223, o224, none⟩ := h225
        refine sxb_draw mixed [] [] [CellsAt b223 (o224 + x154.toNat * 1) ((eI .u8) x222), CellsAt b219 (o220 + x154.toNat * 1) ((eI .u8) x218), Sl (eI .u8) 1 (.slice a2 x1.length c3) x1, Sl (eI .u8) 1 (.slice a5 x4.length c6) x4] .nil (gk_F 0 rfl (gk_F 1 rfl (gk_F 2 rfl (gk_F 3 rfl gk_nil)))) 9 rfl ?_
        refine sxb_takeP 0 (.slice a2 x1.length c3) rfl rfl rfl rfl (by kernel_rfl) (by kernel_rfl) (by kernel_rfl) (by kernel_rfl) (by kernel_rfl) rfl (show _ = #[true, false, false, false, false, false, false, false, false] from rfl) (yv_pv rfl) ?_
        refine sxb_takeP 1 (.int .i64 x154) rfl rfl rfl rfl (by kernel_rfl) (by kernel_rfl) (by kernel_rfl) (by kernel_rfl) (by kernel_rfl) rfl (show _ = #[true, true, false, false, false, false, false, false, false] from rfl) (yv_pv rfl) ?_
        refine sxb_again (d := 17) (v := .slice (some ⟨b219, o220, none⟩) x1.length c3) rfl (by rw [h221]) ?_
        refine sxb_takeP 2 (.pointer (some ⟨b219, (o220 + x154.toNat * 1), none⟩)) rfl rfl rfl rfl (by kernel_rfl) (by kernel_rfl) (by kernel_rfl) (by kernel_rfl) (by kernel_rfl) rfl (show _ = #[true, true, true, false, false, false, false, false, false] from rfl) (yv_idx Try.underlying23 tf5 rfl rfl (idx_get e218).1 (idx_lt e218)) ?_
        refine sxb_again (d := 17) (v := .slice a2 x1.length c3) rfl (by rw [h221]) ?_
        refine sxb_take 3 (.int .u8 x218) [] rfl rfl rfl rfl (by kernel_rfl) (by kernel_rfl) (by kernel_rfl) (by kernel_rfl) (by kernel_rfl) (by kernel_rfl) rfl (show _ = #[true, true, true, true, false, false, false, false, false] from rfl) (yv_loadF (j := 1) rfl tf5 rfl rfl (fun _ => rfl) rfl) ?_
        refine sxb_takeP 4 (.slice a5 x4.length c6) rfl rfl rfl rfl (by kernel_rfl) (by kernel_rfl) (by kernel_rfl) (by kernel_rfl) (by kernel_rfl) rfl (show _ = #[true, true, true, true, true, false, false, false, false] from rfl) (yv_pv rfl) ?_
        refine sxb_takeP 5 (.int .i64 x154) rfl rfl rfl rfl (by kernel_rfl) (by kernel_rfl) (by kernel_rfl) (by kernel_rfl) (by kernel_rfl) rfl (show _ = #[true, true, true, true, true, true, false, false, false] from rfl) (yv_pv rfl) ?_
        refine sxb_again (d := 21) (v := .slice (some ⟨b223, o224, none⟩) x4.length c6) rfl (by rw [h225]) ?_
        refine sxb_takeP 6 (.pointer (some ⟨b223, (o224 + x154.toNat * 1), none⟩)) rfl rfl rfl rfl (by kernel_rfl) (by kernel_rfl) (by kernel_rfl) (by kernel_rfl) (by kernel_rfl) rfl (show _ = #[true, true, true, true, true, true, true, false, false] from rfl) (yv_idx Try.underlying23 tf5 rfl rfl (idx_get e222).1 (idx_lt e222)) ?_
        refine sxb_again (d := 21) (v := .slice a5 x4.length c6) rfl (by rw [h225]) ?_
        refine sxb_take 7 (.int .u8 x222) [] rfl rfl rfl rfl (by kernel_rfl) (by kernel_rfl) (by kernel_rfl) (by kernel_rfl) (by kernel_rfl) (by kernel_rfl) rfl (show _ = #[true, true, true, true, true, true, true, true, false] from rfl) (yv_loadF (j := 0) rfl tf5 rfl rfl (fun _ => rfl) rfl) ?_
        refine sxb_takeP 8 (.bool ((x218 : Int) != x222)) rfl rfl rfl rfl (by kernel_rfl) (by kernel_rfl) (by kernel_rfl) (by kernel_rfl) (by kernel_rfl) rfl (show _ = #[true, true, true, true, true, true, true, true, true] from rfl) (yv_pv rfl) ?_
        refine sxb_done (by kernel_rfl) ?_
        refine sxq_np ?_ (by intro c h; cases h)
        refine sxq_next ?_
        refine sxc_if rfl (fun h226 => ?_) (fun h226 => ?_)
        · refine sxc_seq ?_
          refine sxc_region ?_
          refine sxo_assign rfl rfl rfl ?_
          refine sxo_nil ?_
          refine sxq_next ?_
          refine sxc_ret ?_
          refine sxq_blkR ?_
          refine sxq_thenR ?_
          refine sxq_thenR ?_
          refine sxq_blkR ?_
          refine sxq_thenR ?_
          exact sxq_doneP () (.inl rfl) (res1 rfl rfl) (fun h => by subst h; rfl) (fun h => by subst h; exact .nil)
        · refine sxc_skip ?_
          refine sxq_blkN ?_
          refine sxq_next ?_
          refine sxc_region ?_
          refine sxo_move rfl rfl rfl ?_
          refine sxo_add rfl rfl rfl rfl ?_
          refine sxo_assign rfl rfl rfl ?_
          refine sxo_nil ?_
          exact sxq_againP (iadd .i64 x154 1, ()) (lk_cons rfl (lk_cons rfl (lk_cons rfl lk_nil))) .nil .nil (fk_cons 2 rfl (fk_cons 3 rfl fk_nil))
      · refine sxc_exit ?_
        refine sxq_thenX ?_
        refine sxq_thenX ?_
        refine sxq_blkX ?_
        exact sxq_meetP ((), ()) lk_nil .nil .nil fk_nil
    · rintro ⟨_, _⟩
      try dsimp only
      refine sxc_seq ?_
      refine sxc_region ?_
      refine sxo_assign rfl rfl rfl ?_
      refine sxo_nil ?_
      refine sxq_next ?_
      refine sxc_ret ?_
      exact sxq_doneP () (.inl rfl) (res1 rfl rfl) (fun h => by subst h; rfl) (fun h => by subst h; exact .nil)

theorem C_R_SameBits (F : Nat) (x1 : Int) (x2 : List Int) (a3 : Option Addr) (c4 : Nat) (x5 : Int) (x6 : List Int) (a7 : Option Addr) (c8 : Nat) (r : Bool) (hm : M_R_SameBits F x1 x2 x5 x6 = some r) :
    Pure Try.prog 28 [.agg #[.int .i64 x1, .slice a3 x2.length c4], .agg #[.int .i64 x5, .slice a7 x6.length c8]] [Sl (eI .u8) 1 (.slice a3 x2.length c4) x2, Sl (eI .u8) 1 (.slice a7 x6.length c8) x6] Unit (fun _ => .bool r) (fun _ => []) (fun _ => []) := by
  refine pure_of Try.func28 rfl Try.ntmps28 rfl hm (fun w => ?_)
  refine sxc_env (l' := [(0, .agg #[.int .i64 x1, .slice a3 x2.length c4]), (1, .agg #[.int .i64 x5, .slice a7 x6.length c8])]) rfl ?_
  refine sxc_seq ?_
  refine sxc_region ?_
  refine sxo_box rfl rfl rfl (fun g9 => ?_)
  refine sxo_box rfl rfl rfl (fun g10 => ?_)
  refine sxo_assign rfl rfl rfl ?_
  refine sxo_nil ?_
  refine sxq_next ?_
  refine sxc_seq ?_
  refine sxc_region ?_
  refine sxo_fieldAddr rfl rfl ff25_0 rfl ?_
  refine sxo_loadB (i := 1) rfl rfl tf3 rfl rfl (fun _ => rfl) rfl rfl ?_
  refine sxo_fieldAddr rfl rfl ff25_0 rfl ?_
  refine sxo_loadB (i := 0) rfl rfl tf3 rfl rfl (fun _ => rfl) rfl rfl ?_
  refine sxo_eql rfl rfl rfl rfl ?_
  refine sxo_move rfl rfl rfl ?_
  refine sxo_join 6 (fun ((x13, _) : (Bool × Unit)) => [(16, .bool x13)]) (fun ((x13, _) : (Bool × Unit)) => []) (fun ((x13, _) : (Bool × Unit)) => []) (fun ((x13, _) : (Bool × Unit)) => []) (fun ((x13, _) : (Bool × Unit)) => M_R_SameBits_j1 F x13) ?_ ?_
  · refine sxo_take (os := _) rfl ?_
    refine sxo_if (fun h11 => ?_) (fun h11 => ?_)
    · refine sxo_isT (k := 10) rfl h11 ?_
      refine sxo_fieldAddr rfl rfl ff25_1 rfl ?_
      refine sxo_loadB (i := 1) rfl rfl tf23 rfl rfl (fun _ => rfl) rfl rfl ?_
      refine sxo_fieldAddr rfl rfl ff25_1 rfl ?_
      refine sxo_loadB (i := 0) rfl rfl tf23 rfl rfl (fun _ => rfl) rfl rfl ?_
      refine sxo_call ent65 rfl rfl rfl (fun x14 e14 => C_R_SameBytes F x2 a3 c4 x6 a7 c8 x14 e14) (.consF 0 rfl (.consF 1 rfl .nil)) (fun x14 e14 => ?_)
      intro _
      refine sxo_pick (b := true) rfl rfl rfl rfl ?_
      refine sxo_nil ?_
      exact sxq_meetP (x14, ()) (lk_cons rfl lk_nil) .nil .nil fk_nil
    · refine sxo_isF (k := 10) rfl h11 ?_
      refine sxo_skip rfl rfl rfl ?_
      refine sxo_skip rfl rfl rfl ?_
      refine sxo_skip rfl rfl rfl ?_
      refine sxo_skip rfl rfl rfl ?_
      refine sxo_skip rfl rfl rfl ?_
      refine sxo_pick (b := false) rfl rfl rfl rfl ?_
      refine sxo_nil ?_
      exact sxq_meetP (false, ()) (lk_cons rfl lk_nil) .nil .nil fk_nil
  · rintro ⟨x13, _⟩
    try dsimp only
    refine sxo_take (os := _) rfl ?_
    refine sxo_assign rfl rfl rfl ?_
    refine sxo_nil ?_
    refine sxq_next ?_
    refine sxc_ret ?_
    exact sxq_doneP () (.inl rfl) (res1 rfl rfl) (fun h => by subst h; rfl) (fun h => by subst h; exact .nil)

set_option maxHeartbeats 4000000 in
theorem C_L_eliasBegun (F : Nat)  (r : Bool) (hm : M_L_eliasBegun F  = some r) :
    Pure Try.prog 27 [] [] Unit (fun _ => .bool r) (fun _ => []) (fun _ => []) := by
  refine pure_of Try.func27 rfl Try.ntmps27 rfl hm (fun w => ?_)
  refine sxc_env (l' := []) rfl ?_
  refine sxc_seq ?_
  refine sxc_region ?_
  refine sxo_assign rfl rfl rfl ?_
  refine sxo_nil ?_
  refine sxq_next ?_
  refine sxc_seq ?_
  refine sxc_region ?_
  refine sxo_call ent15 rfl rfl rfl (fun x1 e1 => C_elias_Gamma F 4 x1 e1) .nil (fun x1 e1 => ?_)
  rintro ⟨a2, c3⟩
  refine sxo_move rfl rfl rfl ?_
  refine sxo_extract rfl rfl rfl rfl ?_
  refine sxo_extract rfl rfl rfl rfl ?_
  refine sxo_alloc rfl tf25 rfl (fun g4 => ?_)
  refine sxo_storeB (i := 0) rfl rfl rfl tf25 rfl rfl rfl rfl rfl ?_
  refine sxo_assign rfl rfl rfl ?_
  refine sxo_nil ?_
  refine sxq_next ?_
  refine sxc_seq ?_
  refine sxc_region ?_
  refine sxo_call ent16 rfl rfl rfl (fun x5 e5 => C_elias_Delta F 9 x5 e5) .nil (fun x5 e5 => ?_)
  rintro ⟨a6, c7⟩
  refine sxo_move rfl rfl rfl ?_
  refine sxo_extract rfl rfl rfl rfl ?_
  refine sxo_extract rfl rfl rfl rfl ?_
  refine sxo_alloc rfl tf25 rfl (fun g8 => ?_)
  refine sxo_storeB (i := 0) rfl rfl rfl tf25 rfl rfl rfl rfl rfl ?_
  refine sxo_assign rfl rfl rfl ?_
  refine sxo_nil ?_
  refine sxq_next ?_
  refine sxc_seq ?_
  refine sxc_region ?_
  refine sxo_loadB (i := 1) rfl rfl tf25 rfl rfl (by simp) rfl rfl ?_
  refine sxo_call ent17 rfl rfl rfl (fun x9 e9 => C_elias_ReadGamma F x1.1 x1.2.1 a2 c3 0 x9 e9) (.consR 1 (Ro (eI .u8) 5 1 (.slice a2 x1.2.1.length c3) x1.2.1) rfl .nil) (fun x9 e9 => ?_)
  intro _
  refine sxo_move rfl rfl rfl ?_
  refine sxo_extract rfl rfl rfl rfl ?_
  refine sxo_extract rfl rfl rfl rfl ?_
  refine sxo_extract rfl rfl rfl rfl ?_
  refine sxo_assign rfl rfl rfl ?_
  refine sxo_assign rfl rfl rfl ?_
  refine sxo_assign rfl rfl rfl ?_
  refine sxo_nil ?_
  refine sxq_next ?_
  refine sxc_seq ?_
  refine sxc_region ?_
  refine sxo_loadB (i := 0) rfl rfl tf25 rfl rfl (by simp) rfl rfl ?_
  refine sxo_call ent18 rfl rfl rfl (fun x10 e10 => C_elias_ReadDelta F x5.1 x5.2.1 a6 c7 0 x10 e10) (.consR 0 (Ro (eI .u8) 5 1 (.slice a6 x5.2.1.length c7) x5.2.1) rfl .nil) (fun x10 e10 => ?_)
  intro _
  refine sxo_move rfl rfl rfl ?_
  refine sxo_extract rfl rfl rfl rfl ?_
  refine sxo_extract rfl rfl rfl rfl ?_
  refine sxo_extract rfl rfl rfl rfl ?_
  refine sxo_assign rfl rfl rfl ?_
  refine sxo_assign rfl rfl rfl ?_
  refine sxo_assign rfl rfl rfl ?_
  refine sxo_nil ?_
  refine sxq_next ?_
  refine sxc_seq ?_
  refine sxc_region ?_
  refine sxo_call ent19 rfl rfl rfl (fun x11 e11 => C_elias_Long F 9 x11 e11) .nil (fun x11 e11 => ?_)
  intro _
  refine sxo_move rfl rfl rfl ?_
  refine sxo_extract rfl rfl rfl rfl ?_
  refine sxo_extract rfl rfl rfl rfl ?_
  refine sxo_extract rfl rfl rfl rfl ?_
  refine sxo_assign rfl rfl rfl ?_
  refine sxo_assign rfl rfl rfl ?_
  refine sxo_assign rfl rfl rfl ?_
  refine sxo_nil ?_
  refine sxq_next ?_
  refine sxc_seq ?_
  refine sxc_region ?_
  refine sxo_loadB (i := 1) rfl rfl tf25 rfl rfl (by simp) rfl rfl ?_
  refine sxo_call ent17 rfl rfl rfl (fun x12 e12 => C_elias_ReadGamma F x1.1 x1.2.1 a2 c3 5 x12 e12) (.consR 1 (Ro (eI .u8) 5 1 (.slice a2 x1.2.1.length c3) x1.2.1) rfl .nil) (fun x12 e12 => ?_)
  intro _
  refine sxo_move rfl rfl rfl ?_
  refine sxo_extract rfl rfl rfl rfl ?_
  refine sxo_extract rfl rfl rfl rfl ?_
  refine sxo_extract rfl rfl rfl rfl ?_
  refine sxo_assign rfl rfl rfl ?_
  refine sxo_assign rfl rfl rfl ?_
  refine sxo_assign rfl rfl rfl ?_
  refine sxo_nil ?_
  refine sxq_next ?_
  refine sxc_seq ?_
  refine sxc_region ?_
  refine sxo_call ent15 rfl rfl rfl (fun x13 e13 => C_elias_Gamma F 1099511627777 x13 e13) .nil (fun x13 e13 => ?_)
  rintro ⟨a14, c15⟩
  refine sxo_move rfl rfl rfl ?_
  refine sxo_extract rfl rfl rfl rfl ?_
  refine sxo_extract rfl rfl rfl rfl ?_
  refine sxo_alloc rfl tf25 rfl (fun g16 => ?_)
  refine sxo_storeB (i := 0) rfl rfl rfl tf25 rfl rfl rfl rfl rfl ?_
  refine sxo_assign rfl rfl rfl ?_
  refine sxo_nil ?_
  refine sxq_next ?_
  refine sxc_seq ?_
  refine sxc_region ?_
  refine sxo_loadB (i := 2) rfl rfl tf25 rfl rfl (by simp) rfl rfl ?_
  refine sxo_slit (vs := [.int .u8 40]) (ys := ([40] : List Int)) (eI_ok .u8) (by decide) rfl Try.underlying23 tf5 rfl rfl rfl rfl rfl (by decide) (fun a17 c18 => ?_)
  refine sxo_build (cells := [.int .i64 5, .slice a17 ([40] : List Int).length c18]) rfl st25 rfl (by kernel_rfl) rfl ?_
  refine sxo_call ent28 rfl rfl rfl (fun x19 e19 => C_R_SameBits F x1.1 x1.2.1 a2 c3 5 ([40] : List Int) a17 c18 x19 e19) (.consR 3 (Ro (eI .u8) 5 1 (.slice a2 x1.2.1.length c3) x1.2.1) rfl (.consR 0 (Ro (eI .u8) 5 1 (.slice a17 ([40] : List Int).length c18) ([40] : List Int)) rfl .nil)) (fun x19 e19 => ?_)
  intro _
  refine sxo_move rfl rfl rfl ?_
  refine sxo_case 3 x19 [(3, .pointer (some ⟨g8, 0, none⟩)), (4, .int .i64 x5.2.2), (5, .int .u64 x9.1), (6, .int .i64 x9.2.1), (7, .int .i64 x9.2.2), (8, .int .u64 x10.1), (9, .int .i64 x10.2.1), (10, .int .i64 x10.2.2), (11, .int .i64 x11.1), (12, .int .i64 x11.2.1), (13, .int .i64 x11.2.2), (16, .int .i64 x12.2.2), (18, .int .i64 x13.2.2), (61, .bool (x19 && ((x1.2.2 : Int) == 0)))] (fun h20 => ?_) (fun h20 => ?_) ?_
  · refine sxo_take (os := _) rfl ?_
    refine sxo_isT (k := 58) rfl h20 ?_
    refine sxo_move rfl rfl rfl ?_
    refine sxo_eql rfl rfl rfl rfl ?_
    refine sxo_pick (b := true) rfl rfl rfl rfl ?_
    refine sxo_again (d := 61) (v := .bool (x19 && ((x1.2.2 : Int) == 0))) rfl (by rw [h20]; simp only [Bool.true_and]) ?_
    refine sxo_nil ?_
    exact sxq_case (lk_cons rfl (lk_cons rfl (lk_cons rfl (lk_cons rfl (lk_cons rfl (lk_cons rfl (lk_cons rfl (lk_cons rfl (lk_cons rfl (lk_cons rfl (lk_cons rfl (lk_cons rfl (lk_cons rfl (lk_cons rfl lk_nil))))))))))))))
  · refine sxo_take (os := _) rfl ?_
    refine sxo_isF (k := 58) rfl h20 ?_
    refine sxo_skip rfl rfl rfl ?_
    refine sxo_skip rfl rfl rfl ?_
    refine sxo_pick (b := false) rfl rfl rfl rfl ?_
    refine sxo_again (d := 61) (v := .bool (x19 && ((x1.2.2 : Int) == 0))) rfl (by rw [h20]; simp only [Bool.false_and]) ?_
    refine sxo_nil ?_
    exact sxq_case (lk_cons rfl (lk_cons rfl (lk_cons rfl (lk_cons rfl (lk_cons rfl (lk_cons rfl (lk_cons rfl (lk_cons rfl (lk_cons rfl (lk_cons rfl (lk_cons rfl (lk_cons rfl (lk_cons rfl (lk_cons rfl lk_nil))))))))))))))
  refine sxo_take (os := _) rfl ?_
  refine sxo_move rfl rfl rfl ?_
  refine sxo_join 5 (fun ((x25, _) : (Bool × Unit)) => [(4, .int .i64 x5.2.2), (5, .int .u64 x9.1), (6, .int .i64 x9.2.1), (7, .int .i64 x9.2.2), (8, .int .u64 x10.1), (9, .int .i64 x10.2.1), (10, .int .i64 x10.2.2), (11, .int .i64 x11.1), (12, .int .i64 x11.2.1), (13, .int .i64 x11.2.2), (16, .int .i64 x12.2.2), (18, .int .i64 x13.2.2), (67, .bool x25)]) (fun ((x25, _) : (Bool × Unit)) => []) (fun ((x25, _) : (Bool × Unit)) => []) (fun ((x25, _) : (Bool × Unit)) => []) (fun ((x25, _) : (Bool × Unit)) => M_L_eliasBegun_j1 F x5 x9 x10 x11 x12 x13 x25) ?_ ?_
  · refine sxo_take (os := _) rfl ?_
    refine sxo_if (fun h21 => ?_) (fun h21 => ?_)
    · refine sxo_isT (k := 62) rfl h21 ?_
      refine sxo_loadB (i := 1) rfl rfl tf25 rfl rfl (by simp) rfl rfl ?_
      refine sxo_slit (vs := [.int .u8 34]) (ys := ([34] : List Int)) (eI_ok .u8) (by decide) rfl Try.underlying23 tf5 rfl rfl rfl rfl rfl (by decide) (fun a38 c39 => ?_)
      refine sxo_build (cells := [.int .i64 8, .slice a38 ([34] : List Int).length c39]) rfl st25 rfl (by kernel_rfl) rfl ?_
      refine sxo_call ent28 rfl rfl rfl (fun x40 e40 => C_R_SameBits F x5.1 x5.2.1 a6 c7 8 ([34] : List Int) a38 c39 x40 e40) (.consR 3 (Ro (eI .u8) 5 1 (.slice a6 x5.2.1.length c7) x5.2.1) rfl (.consR 0 (Ro (eI .u8) 5 1 (.slice a38 ([34] : List Int).length c39) ([34] : List Int)) rfl .nil)) (fun x40 e40 => ?_)
      intro _
      refine sxo_pick (b := true) rfl rfl rfl rfl ?_
      refine sxo_nil ?_
      exact sxq_meetP (x40, ()) (lk_cons rfl (lk_cons rfl (lk_cons rfl (lk_cons rfl (lk_cons rfl (lk_cons rfl (lk_cons rfl (lk_cons rfl (lk_cons rfl (lk_cons rfl (lk_cons rfl (lk_cons rfl (lk_cons rfl lk_nil))))))))))))) .nil .nil fk_nil
    · refine sxo_isF (k := 62) rfl h21 ?_
      refine sxo_skip rfl rfl rfl ?_
      refine sxo_skip rfl rfl rfl ?_
      refine sxo_skip rfl rfl rfl ?_
      refine sxo_skip rfl rfl rfl ?_
      refine sxo_pick (b := false) rfl rfl rfl rfl ?_
      refine sxo_nil ?_
      exact sxq_meetP (false, ()) (lk_cons rfl (lk_cons rfl (lk_cons rfl (lk_cons rfl (lk_cons rfl (lk_cons rfl (lk_cons rfl (lk_cons rfl (lk_cons rfl (lk_cons rfl (lk_cons rfl (lk_cons rfl (lk_cons rfl lk_nil))))))))))))) .nil .nil fk_nil
  · rintro ⟨x25, _⟩
    try dsimp only
    refine sxo_take (os := _) rfl ?_
    refine sxo_move rfl rfl rfl ?_
    refine sxo_case 3 x25 [(5, .int .u64 x9.1), (6, .int .i64 x9.2.1), (7, .int .i64 x9.2.2), (8, .int .u64 x10.1), (9, .int .i64 x10.2.1), (10, .int .i64 x10.2.2), (11, .int .i64 x11.1), (12, .int .i64 x11.2.1), (13, .int .i64 x11.2.2), (16, .int .i64 x12.2.2), (18, .int .i64 x13.2.2), (71, .bool (x25 && ((x5.2.2 : Int) == 0)))] (fun h26 => ?_) (fun h26 => ?_) ?_
    · refine sxo_take (os := _) rfl ?_
      refine sxo_isT (k := 68) rfl h26 ?_
      refine sxo_move rfl rfl rfl ?_
      refine sxo_eql rfl rfl rfl rfl ?_
      refine sxo_pick (b := true) rfl rfl rfl rfl ?_
      refine sxo_again (d := 71) (v := .bool (x25 && ((x5.2.2 : Int) == 0))) rfl (by rw [h26]; simp only [Bool.true_and]) ?_
      refine sxo_nil ?_
      exact sxq_case (lk_cons rfl (lk_cons rfl (lk_cons rfl (lk_cons rfl (lk_cons rfl (lk_cons rfl (lk_cons rfl (lk_cons rfl (lk_cons rfl (lk_cons rfl (lk_cons rfl (lk_cons rfl lk_nil))))))))))))
    · refine sxo_take (os := _) rfl ?_
      refine sxo_isF (k := 68) rfl h26 ?_
      refine sxo_skip rfl rfl rfl ?_
      refine sxo_skip rfl rfl rfl ?_
      refine sxo_pick (b := false) rfl rfl rfl rfl ?_
      refine sxo_again (d := 71) (v := .bool (x25 && ((x5.2.2 : Int) == 0))) rfl (by rw [h26]; simp only [Bool.false_and]) ?_
      refine sxo_nil ?_
      exact sxq_case (lk_cons rfl (lk_cons rfl (lk_cons rfl (lk_cons rfl (lk_cons rfl (lk_cons rfl (lk_cons rfl (lk_cons rfl (lk_cons rfl (lk_cons rfl (lk_cons rfl (lk_cons rfl lk_nil))))))))))))
    refine sxo_take (os := _) rfl ?_
    refine sxo_move rfl rfl rfl ?_
    refine sxo_case 3 (x25 && ((x5.2.2 : Int) == 0)) [(6, .int .i64 x9.2.1), (7, .int .i64 x9.2.2), (8, .int .u64 x10.1), (9, .int .i64 x10.2.1), (10, .int .i64 x10.2.2), (11, .int .i64 x11.1), (12, .int .i64 x11.2.1), (13, .int .i64 x11.2.2), (16, .int .i64 x12.2.2), (18, .int .i64 x13.2.2), (75, .bool ((x25 && ((x5.2.2 : Int) == 0)) && ((x9.1 : Int) == 4)))] (fun h27 => ?_) (fun h27 => ?_) ?_
    · refine sxo_take (os := _) rfl ?_
      refine sxo_isT (k := 72) rfl h27 ?_
      refine sxo_move rfl rfl rfl ?_
      refine sxo_eql rfl rfl rfl rfl ?_
      refine sxo_pick (b := true) rfl rfl rfl rfl ?_
      refine sxo_again (d := 75) (v := .bool ((x25 && ((x5.2.2 : Int) == 0)) && ((x9.1 : Int) == 4))) rfl (by rw [h27]; simp only [Bool.true_and]) ?_
      refine sxo_nil ?_
      exact sxq_case (lk_cons rfl (lk_cons rfl (lk_cons rfl (lk_cons rfl (lk_cons rfl (lk_cons rfl (lk_cons rfl (lk_cons rfl (lk_cons rfl (lk_cons rfl (lk_cons rfl lk_nil)))))))))))
    · refine sxo_take (os := _) rfl ?_
      refine sxo_isF (k := 72) rfl h27 ?_
      refine sxo_skip rfl rfl rfl ?_
      refine sxo_skip rfl rfl rfl ?_
      refine sxo_pick (b := false) rfl rfl rfl rfl ?_
      refine sxo_again (d := 75) (v := .bool ((x25 && ((x5.2.2 : Int) == 0)) && ((x9.1 : Int) == 4))) rfl (by rw [h27]; simp only [Bool.false_and]) ?_
      refine sxo_nil ?_
      exact sxq_case (lk_cons rfl (lk_cons rfl (lk_cons rfl (lk_cons rfl (lk_cons rfl (lk_cons rfl (lk_cons rfl (lk_cons rfl (lk_cons rfl (lk_cons rfl (lk_cons rfl lk_nil)))))))))))
    refine sxo_take (os := _) rfl ?_
    refine sxo_move rfl rfl rfl ?_
    refine sxo_case 3 ((x25 && ((x5.2.2 : Int) == 0)) && ((x9.1 : Int) == 4)) [(7, .int .i64 x9.2.2), (8, .int .u64 x10.1), (9, .int .i64 x10.2.1), (10, .int .i64 x10.2.2), (11, .int .i64 x11.1), (12, .int .i64 x11.2.1), (13, .int .i64 x11.2.2), (16, .int .i64 x12.2.2), (18, .int .i64 x13.2.2), (79, .bool (((x25 && ((x5.2.2 : Int) == 0)) && ((x9.1 : Int) == 4)) && ((x9.2.1 : Int) == 5)))] (fun h28 => ?_) (fun h28 => ?_) ?_
    · refine sxo_take (os := _) rfl ?_
      refine sxo_isT (k := 76) rfl h28 ?_
      refine sxo_move rfl rfl rfl ?_
      refine sxo_eql rfl rfl rfl rfl ?_
      refine sxo_pick (b := true) rfl rfl rfl rfl ?_
      refine sxo_again (d := 79) (v := .bool (((x25 && ((x5.2.2 : Int) == 0)) && ((x9.1 : Int) == 4)) && ((x9.2.1 : Int) == 5))) rfl (by rw [h28]; simp only [Bool.true_and]) ?_
      refine sxo_nil ?_
      exact sxq_case (lk_cons rfl (lk_cons rfl (lk_cons rfl (lk_cons rfl (lk_cons rfl (lk_cons rfl (lk_cons rfl (lk_cons rfl (lk_cons rfl (lk_cons rfl lk_nil))))))))))
    · refine sxo_take (os := _) rfl ?_
      refine sxo_isF (k := 76) rfl h28 ?_
      refine sxo_skip rfl rfl rfl ?_
      refine sxo_skip rfl rfl rfl ?_
      refine sxo_pick (b := false) rfl rfl rfl rfl ?_
      refine sxo_again (d := 79) (v := .bool (((x25 && ((x5.2.2 : Int) == 0)) && ((x9.1 : Int) == 4)) && ((x9.2.1 : Int) == 5))) rfl (by rw [h28]; simp only [Bool.false_and]) ?_
      refine sxo_nil ?_
      exact sxq_case (lk_cons rfl (lk_cons rfl (lk_cons rfl (lk_cons rfl (lk_cons rfl (lk_cons rfl (lk_cons rfl (lk_cons rfl (lk_cons rfl (lk_cons rfl lk_nil))))))))))
    refine sxo_take (os := _) rfl ?_
    refine sxo_move rfl rfl rfl ?_
    refine sxo_case 3 (((x25 && ((x5.2.2 : Int) == 0)) && ((x9.1 : Int) == 4)) && ((x9.2.1 : Int) == 5)) [(8, .int .u64 x10.1), (9, .int .i64 x10.2.1), (10, .int .i64 x10.2.2), (11, .int .i64 x11.1), (12, .int .i64 x11.2.1), (13, .int .i64 x11.2.2), (16, .int .i64 x12.2.2), (18, .int .i64 x13.2.2), (83, .bool ((((x25 && ((x5.2.2 : Int) == 0)) && ((x9.1 : Int) == 4)) && ((x9.2.1 : Int) == 5)) && ((x9.2.2 : Int) == 0)))] (fun h29 => ?_) (fun h29 => ?_) ?_
    · refine sxo_take (os := _) rfl ?_
      refine sxo_isT (k := 80) rfl h29 ?_
      refine sxo_move rfl rfl rfl ?_
      refine sxo_eql rfl rfl rfl rfl ?_
      refine sxo_pick (b := true) rfl rfl rfl rfl ?_
      refine sxo_again (d := 83) (v := .bool ((((x25 && ((x5.2.2 : Int) == 0)) && ((x9.1 : Int) == 4)) && ((x9.2.1 : Int) == 5)) && ((x9.2.2 : Int) == 0))) rfl (by rw [h29]; simp only [Bool.true_and]) ?_
      refine sxo_nil ?_
      exact sxq_case (lk_cons rfl (lk_cons rfl (lk_cons rfl (lk_cons rfl (lk_cons rfl (lk_cons rfl (lk_cons rfl (lk_cons rfl (lk_cons rfl lk_nil)))))))))
    · refine sxo_take (os := _) rfl ?_
      refine sxo_isF (k := 80) rfl h29 ?_
      refine sxo_skip rfl rfl rfl ?_
      refine sxo_skip rfl rfl rfl ?_
      refine sxo_pick (b := false) rfl rfl rfl rfl ?_
      refine sxo_again (d := 83) (v := .bool ((((x25 && ((x5.2.2 : Int) == 0)) && ((x9.1 : Int) == 4)) && ((x9.2.1 : Int) == 5)) && ((x9.2.2 : Int) == 0))) rfl (by rw [h29]; simp only [Bool.false_and]) ?_
      refine sxo_nil ?_
      exact sxq_case (lk_cons rfl (lk_cons rfl (lk_cons rfl (lk_cons rfl (lk_cons rfl (lk_cons rfl (lk_cons rfl (lk_cons rfl (lk_cons rfl lk_nil)))))))))
    refine sxo_take (os := _) rfl ?_
    refine sxo_move rfl rfl rfl ?_
    refine sxo_case 3 ((((x25 && ((x5.2.2 : Int) == 0)) && ((x9.1 : Int) == 4)) && ((x9.2.1 : Int) == 5)) && ((x9.2.2 : Int) == 0)) [(9, .int .i64 x10.2.1), (10, .int .i64 x10.2.2), (11, .int .i64 x11.1), (12, .int .i64 x11.2.1), (13, .int .i64 x11.2.2), (16, .int .i64 x12.2.2), (18, .int .i64 x13.2.2), (87, .bool (((((x25 && ((x5.2.2 : Int) == 0)) && ((x9.1 : Int) == 4)) && ((x9.2.1 : Int) == 5)) && ((x9.2.2 : Int) == 0)) && ((x10.1 : Int) == 9)))] (fun h30 => ?_) (fun h30 => ?_) ?_
    · refine sxo_take (os := _) rfl ?_
      refine sxo_isT (k := 84) rfl h30 ?_
      refine sxo_move rfl rfl rfl ?_
      refine sxo_eql rfl rfl rfl rfl ?_
      refine sxo_pick (b := true) rfl rfl rfl rfl ?_
      refine sxo_again (d := 87) (v := .bool (((((x25 && ((x5.2.2 : Int) == 0)) && ((x9.1 : Int) == 4)) && ((x9.2.1 : Int) == 5)) && ((x9.2.2 : Int) == 0)) && ((x10.1 : Int) == 9))) rfl (by rw [h30]; simp only [Bool.true_and]) ?_
      refine sxo_nil ?_
      exact sxq_case (lk_cons rfl (lk_cons rfl (lk_cons rfl (lk_cons rfl (lk_cons rfl (lk_cons rfl (lk_cons rfl (lk_cons rfl lk_nil))))))))
    · refine sxo_take (os := _) rfl ?_
      refine sxo_isF (k := 84) rfl h30 ?_
      refine sxo_skip rfl rfl rfl ?_
      refine sxo_skip rfl rfl rfl ?_
      refine sxo_pick (b := false) rfl rfl rfl rfl ?_
      refine sxo_again (d := 87) (v := .bool (((((x25 && ((x5.2.2 : Int) == 0)) && ((x9.1 : Int) == 4)) && ((x9.2.1 : Int) == 5)) && ((x9.2.2 : Int) == 0)) && ((x10.1 : Int) == 9))) rfl (by rw [h30]; simp only [Bool.false_and]) ?_
      refine sxo_nil ?_
      exact sxq_case (lk_cons rfl (lk_cons rfl (lk_cons rfl (lk_cons rfl (lk_cons rfl (lk_cons rfl (lk_cons rfl (lk_cons rfl lk_nil))))))))
    refine sxo_take (os := _) rfl ?_
    refine sxo_move rfl rfl rfl ?_
    refine sxo_case 3 (((((x25 && ((x5.2.2 : Int) == 0)) && ((x9.1 : Int) == 4)) && ((x9.2.1 : Int) == 5)) && ((x9.2.2 : Int) == 0)) && ((x10.1 : Int) == 9)) [(10, .int .i64 x10.2.2), (11, .int .i64 x11.1), (12, .int .i64 x11.2.1), (13, .int .i64 x11.2.2), (16, .int .i64 x12.2.2), (18, .int .i64 x13.2.2), (91, .bool ((((((x25 && ((x5.2.2 : Int) == 0)) && ((x9.1 : Int) == 4)) && ((x9.2.1 : Int) == 5)) && ((x9.2.2 : Int) == 0)) && ((x10.1 : Int) == 9)) && ((x10.2.1 : Int) == 8)))] (fun h31 => ?_) (fun h31 => ?_) ?_
    · refine sxo_take (os := _) rfl ?_
      refine sxo_isT (k := 88) rfl h31 ?_
      refine sxo_move rfl rfl rfl ?_
      refine sxo_eql rfl rfl rfl rfl ?_
      refine sxo_pick (b := true) rfl rfl rfl rfl ?_
      refine sxo_again (d := 91) (v := .bool ((((((x25 && ((x5.2.2 : Int) == 0)) && ((x9.1 : Int) == 4)) && ((x9.2.1 : Int) == 5)) && ((x9.2.2 : Int) == 0)) && ((x10.1 : Int) == 9)) && ((x10.2.1 : Int) == 8))) rfl (by rw [h31]; simp only [Bool.true_and]) ?_
      refine sxo_nil ?_
      exact sxq_case (lk_cons rfl (lk_cons rfl (lk_cons rfl (lk_cons rfl (lk_cons rfl (lk_cons rfl (lk_cons rfl lk_nil)))))))
    · refine sxo_take (os := _) rfl ?_
      refine sxo_isF (k := 88) rfl h31 ?_
      refine sxo_skip rfl rfl rfl ?_
      refine sxo_skip rfl rfl rfl ?_
      refine sxo_pick (b := false) rfl rfl rfl rfl ?_
      refine sxo_again (d := 91) (v := .bool ((((((x25 && ((x5.2.2 : Int) == 0)) && ((x9.1 : Int) == 4)) && ((x9.2.1 : Int) == 5)) && ((x9.2.2 : Int) == 0)) && ((x10.1 : Int) == 9)) && ((x10.2.1 : Int) == 8))) rfl (by rw [h31]; simp only [Bool.false_and]) ?_
      refine sxo_nil ?_
      exact sxq_case (lk_cons rfl (lk_cons rfl (lk_cons rfl (lk_cons rfl (lk_cons rfl (lk_cons rfl (lk_cons rfl lk_nil)))))))
    refine sxo_take (os := _) rfl ?_
    refine sxo_move rfl rfl rfl ?_
    refine sxo_case 3 ((((((x25 && ((x5.2.2 : Int) == 0)) && ((x9.1 : Int) == 4)) && ((x9.2.1 : Int) == 5)) && ((x9.2.2 : Int) == 0)) && ((x10.1 : Int) == 9)) && ((x10.2.1 : Int) == 8)) [(11, .int .i64 x11.1), (12, .int .i64 x11.2.1), (13, .int .i64 x11.2.2), (16, .int .i64 x12.2.2), (18, .int .i64 x13.2.2), (95, .bool (((((((x25 && ((x5.2.2 : Int) == 0)) && ((x9.1 : Int) == 4)) && ((x9.2.1 : Int) == 5)) && ((x9.2.2 : Int) == 0)) && ((x10.1 : Int) == 9)) && ((x10.2.1 : Int) == 8)) && ((x10.2.2 : Int) == 0)))] (fun h32 => ?_) (fun h32 => ?_) ?_
    · refine sxo_take (os := _) rfl ?_
      refine sxo_isT (k := 92) rfl h32 ?_
      refine sxo_move rfl rfl rfl ?_
      refine sxo_eql rfl rfl rfl rfl ?_
      refine sxo_pick (b := true) rfl rfl rfl rfl ?_
      refine sxo_again (d := 95) (v := .bool (((((((x25 && ((x5.2.2 : Int) == 0)) && ((x9.1 : Int) == 4)) && ((x9.2.1 : Int) == 5)) && ((x9.2.2 : Int) == 0)) && ((x10.1 : Int) == 9)) && ((x10.2.1 : Int) == 8)) && ((x10.2.2 : Int) == 0))) rfl (by rw [h32]; simp only [Bool.true_and]) ?_
      refine sxo_nil ?_
      exact sxq_case (lk_cons rfl (lk_cons rfl (lk_cons rfl (lk_cons rfl (lk_cons rfl (lk_cons rfl lk_nil))))))
    · refine sxo_take (os := _) rfl ?_
      refine sxo_isF (k := 92) rfl h32 ?_
      refine sxo_skip rfl rfl rfl ?_
      refine sxo_skip rfl rfl rfl ?_
      refine sxo_pick (b := false) rfl rfl rfl rfl ?_
      refine sxo_again (d := 95) (v := .bool (((((((x25 && ((x5.2.2 : Int) == 0)) && ((x9.1 : Int) == 4)) && ((x9.2.1 : Int) == 5)) && ((x9.2.2 : Int) == 0)) && ((x10.1 : Int) == 9)) && ((x10.2.1 : Int) == 8)) && ((x10.2.2 : Int) == 0))) rfl (by rw [h32]; simp only [Bool.false_and]) ?_
      refine sxo_nil ?_
      exact sxq_case (lk_cons rfl (lk_cons rfl (lk_cons rfl (lk_cons rfl (lk_cons rfl (lk_cons rfl lk_nil))))))
    refine sxo_take (os := _) rfl ?_
    refine sxo_move rfl rfl rfl ?_
    refine sxo_case 3 (((((((x25 && ((x5.2.2 : Int) == 0)) && ((x9.1 : Int) == 4)) && ((x9.2.1 : Int) == 5)) && ((x9.2.2 : Int) == 0)) && ((x10.1 : Int) == 9)) && ((x10.2.1 : Int) == 8)) && ((x10.2.2 : Int) == 0)) [(12, .int .i64 x11.2.1), (13, .int .i64 x11.2.2), (16, .int .i64 x12.2.2), (18, .int .i64 x13.2.2), (99, .bool ((((((((x25 && ((x5.2.2 : Int) == 0)) && ((x9.1 : Int) == 4)) && ((x9.2.1 : Int) == 5)) && ((x9.2.2 : Int) == 0)) && ((x10.1 : Int) == 9)) && ((x10.2.1 : Int) == 8)) && ((x10.2.2 : Int) == 0)) && ((x11.1 : Int) == 7)))] (fun h33 => ?_) (fun h33 => ?_) ?_
    · refine sxo_take (os := _) rfl ?_
      refine sxo_isT (k := 96) rfl h33 ?_
      refine sxo_move rfl rfl rfl ?_
      refine sxo_eql rfl rfl rfl rfl ?_
      refine sxo_pick (b := true) rfl rfl rfl rfl ?_
      refine sxo_again (d := 99) (v := .bool ((((((((x25 && ((x5.2.2 : Int) == 0)) && ((x9.1 : Int) == 4)) && ((x9.2.1 : Int) == 5)) && ((x9.2.2 : Int) == 0)) && ((x10.1 : Int) == 9)) && ((x10.2.1 : Int) == 8)) && ((x10.2.2 : Int) == 0)) && ((x11.1 : Int) == 7))) rfl (by rw [h33]; simp only [Bool.true_and]) ?_
      refine sxo_nil ?_
      exact sxq_case (lk_cons rfl (lk_cons rfl (lk_cons rfl (lk_cons rfl (lk_cons rfl lk_nil)))))
    · refine sxo_take (os := _) rfl ?_
      refine sxo_isF (k := 96) rfl h33 ?_
      refine sxo_skip rfl rfl rfl ?_
      refine sxo_skip rfl rfl rfl ?_
      refine sxo_pick (b := false) rfl rfl rfl rfl ?_
      refine sxo_again (d := 99) (v := .bool ((((((((x25 && ((x5.2.2 : Int) == 0)) && ((x9.1 : Int) == 4)) && ((x9.2.1 : Int) == 5)) && ((x9.2.2 : Int) == 0)) && ((x10.1 : Int) == 9)) && ((x10.2.1 : Int) == 8)) && ((x10.2.2 : Int) == 0)) && ((x11.1 : Int) == 7))) rfl (by rw [h33]; simp only [Bool.false_and]) ?_
      refine sxo_nil ?_
      exact sxq_case (lk_cons rfl (lk_cons rfl (lk_cons rfl (lk_cons rfl (lk_cons rfl lk_nil)))))
    refine sxo_take (os := _) rfl ?_
    refine sxo_move rfl rfl rfl ?_
    refine sxo_case 3 ((((((((x25 && ((x5.2.2 : Int) == 0)) && ((x9.1 : Int) == 4)) && ((x9.2.1 : Int) == 5)) && ((x9.2.2 : Int) == 0)) && ((x10.1 : Int) == 9)) && ((x10.2.1 : Int) == 8)) && ((x10.2.2 : Int) == 0)) && ((x11.1 : Int) == 7)) [(13, .int .i64 x11.2.2), (16, .int .i64 x12.2.2), (18, .int .i64 x13.2.2), (103, .bool (((((((((x25 && ((x5.2.2 : Int) == 0)) && ((x9.1 : Int) == 4)) && ((x9.2.1 : Int) == 5)) && ((x9.2.2 : Int) == 0)) && ((x10.1 : Int) == 9)) && ((x10.2.1 : Int) == 8)) && ((x10.2.2 : Int) == 0)) && ((x11.1 : Int) == 7)) && ((x11.2.1 : Int) == 8)))] (fun h34 => ?_) (fun h34 => ?_) ?_
    · refine sxo_take (os := _) rfl ?_
      refine sxo_isT (k := 100) rfl h34 ?_
      refine sxo_move rfl rfl rfl ?_
      refine sxo_eql rfl rfl rfl rfl ?_
      refine sxo_pick (b := true) rfl rfl rfl rfl ?_
      refine sxo_again (d := 103) (v := .bool (((((((((x25 && ((x5.2.2 : Int) == 0)) && ((x9.1 : Int) == 4)) && ((x9.2.1 : Int) == 5)) && ((x9.2.2 : Int) == 0)) && ((x10.1 : Int) == 9)) && ((x10.2.1 : Int) == 8)) && ((x10.2.2 : Int) == 0)) && ((x11.1 : Int) == 7)) && ((x11.2.1 : Int) == 8))) rfl (by rw [h34]; simp only [Bool.true_and]) ?_
      refine sxo_nil ?_
      exact sxq_case (lk_cons rfl (lk_cons rfl (lk_cons rfl (lk_cons rfl lk_nil))))
    · refine sxo_take (os := _) rfl ?_
      refine sxo_isF (k := 100) rfl h34 ?_
      refine sxo_skip rfl rfl rfl ?_
      refine sxo_skip rfl rfl rfl ?_
      refine sxo_pick (b := false) rfl rfl rfl rfl ?_
      refine sxo_again (d := 103) (v := .bool (((((((((x25 && ((x5.2.2 : Int) == 0)) && ((x9.1 : Int) == 4)) && ((x9.2.1 : Int) == 5)) && ((x9.2.2 : Int) == 0)) && ((x10.1 : Int) == 9)) && ((x10.2.1 : Int) == 8)) && ((x10.2.2 : Int) == 0)) && ((x11.1 : Int) == 7)) && ((x11.2.1 : Int) == 8))) rfl (by rw [h34]; simp only [Bool.false_and]) ?_
      refine sxo_nil ?_
      exact sxq_case (lk_cons rfl (lk_cons rfl (lk_cons rfl (lk_cons rfl lk_nil))))
    refine sxo_take (os := _) rfl ?_
    refine sxo_move rfl rfl rfl ?_
    refine sxo_case 3 (((((((((x25 && ((x5.2.2 : Int) == 0)) && ((x9.1 : Int) == 4)) && ((x9.2.1 : Int) == 5)) && ((x9.2.2 : Int) == 0)) && ((x10.1 : Int) == 9)) && ((x10.2.1 : Int) == 8)) && ((x10.2.2 : Int) == 0)) && ((x11.1 : Int) == 7)) && ((x11.2.1 : Int) == 8)) [(16, .int .i64 x12.2.2), (18, .int .i64 x13.2.2), (107, .bool ((((((((((x25 && ((x5.2.2 : Int) == 0)) && ((x9.1 : Int) == 4)) && ((x9.2.1 : Int) == 5)) && ((x9.2.2 : Int) == 0)) && ((x10.1 : Int) == 9)) && ((x10.2.1 : Int) == 8)) && ((x10.2.2 : Int) == 0)) && ((x11.1 : Int) == 7)) && ((x11.2.1 : Int) == 8)) && ((x11.2.2 : Int) == 0)))] (fun h35 => ?_) (fun h35 => ?_) ?_
    · refine sxo_take (os := _) rfl ?_
      refine sxo_isT (k := 104) rfl h35 ?_
      refine sxo_move rfl rfl rfl ?_
      refine sxo_eql rfl rfl rfl rfl ?_
      refine sxo_pick (b := true) rfl rfl rfl rfl ?_
      refine sxo_again (d := 107) (v := .bool ((((((((((x25 && ((x5.2.2 : Int) == 0)) && ((x9.1 : Int) == 4)) && ((x9.2.1 : Int) == 5)) && ((x9.2.2 : Int) == 0)) && ((x10.1 : Int) == 9)) && ((x10.2.1 : Int) == 8)) && ((x10.2.2 : Int) == 0)) && ((x11.1 : Int) == 7)) && ((x11.2.1 : Int) == 8)) && ((x11.2.2 : Int) == 0))) rfl (by rw [h35]; simp only [Bool.true_and]) ?_
      refine sxo_nil ?_
      exact sxq_case (lk_cons rfl (lk_cons rfl (lk_cons rfl lk_nil)))
    · refine sxo_take (os := _) rfl ?_
      refine sxo_isF (k := 104) rfl h35 ?_
      refine sxo_skip rfl rfl rfl ?_
      refine sxo_skip rfl rfl rfl ?_
      refine sxo_pick (b := false) rfl rfl rfl rfl ?_
      refine sxo_again (d := 107) (v := .bool ((((((((((x25 && ((x5.2.2 : Int) == 0)) && ((x9.1 : Int) == 4)) && ((x9.2.1 : Int) == 5)) && ((x9.2.2 : Int) == 0)) && ((x10.1 : Int) == 9)) && ((x10.2.1 : Int) == 8)) && ((x10.2.2 : Int) == 0)) && ((x11.1 : Int) == 7)) && ((x11.2.1 : Int) == 8)) && ((x11.2.2 : Int) == 0))) rfl (by rw [h35]; simp only [Bool.false_and]) ?_
      refine sxo_nil ?_
      exact sxq_case (lk_cons rfl (lk_cons rfl (lk_cons rfl lk_nil)))
    refine sxo_take (os := _) rfl ?_
    refine sxo_move rfl rfl rfl ?_
    refine sxo_case 3 ((((((((((x25 && ((x5.2.2 : Int) == 0)) && ((x9.1 : Int) == 4)) && ((x9.2.1 : Int) == 5)) && ((x9.2.2 : Int) == 0)) && ((x10.1 : Int) == 9)) && ((x10.2.1 : Int) == 8)) && ((x10.2.2 : Int) == 0)) && ((x11.1 : Int) == 7)) && ((x11.2.1 : Int) == 8)) && ((x11.2.2 : Int) == 0)) [(18, .int .i64 x13.2.2), (111, .bool (((((((((((x25 && ((x5.2.2 : Int) == 0)) && ((x9.1 : Int) == 4)) && ((x9.2.1 : Int) == 5)) && ((x9.2.2 : Int) == 0)) && ((x10.1 : Int) == 9)) && ((x10.2.1 : Int) == 8)) && ((x10.2.2 : Int) == 0)) && ((x11.1 : Int) == 7)) && ((x11.2.1 : Int) == 8)) && ((x11.2.2 : Int) == 0)) && ((x12.2.2 : Int) == 7)))] (fun h36 => ?_) (fun h36 => ?_) ?_
    · refine sxo_take (os := _) rfl ?_
      refine sxo_isT (k := 108) rfl h36 ?_
      refine sxo_move rfl rfl rfl ?_
      refine sxo_eql rfl rfl rfl rfl ?_
      refine sxo_pick (b := true) rfl rfl rfl rfl ?_
      refine sxo_again (d := 111) (v := .bool (((((((((((x25 && ((x5.2.2 : Int) == 0)) && ((x9.1 : Int) == 4)) && ((x9.2.1 : Int) == 5)) && ((x9.2.2 : Int) == 0)) && ((x10.1 : Int) == 9)) && ((x10.2.1 : Int) == 8)) && ((x10.2.2 : Int) == 0)) && ((x11.1 : Int) == 7)) && ((x11.2.1 : Int) == 8)) && ((x11.2.2 : Int) == 0)) && ((x12.2.2 : Int) == 7))) rfl (by rw [h36]; simp only [Bool.true_and]) ?_
      refine sxo_nil ?_
      exact sxq_case (lk_cons rfl (lk_cons rfl lk_nil))
    · refine sxo_take (os := _) rfl ?_
      refine sxo_isF (k := 108) rfl h36 ?_
      refine sxo_skip rfl rfl rfl ?_
      refine sxo_skip rfl rfl rfl ?_
      refine sxo_pick (b := false) rfl rfl rfl rfl ?_
      refine sxo_again (d := 111) (v := .bool (((((((((((x25 && ((x5.2.2 : Int) == 0)) && ((x9.1 : Int) == 4)) && ((x9.2.1 : Int) == 5)) && ((x9.2.2 : Int) == 0)) && ((x10.1 : Int) == 9)) && ((x10.2.1 : Int) == 8)) && ((x10.2.2 : Int) == 0)) && ((x11.1 : Int) == 7)) && ((x11.2.1 : Int) == 8)) && ((x11.2.2 : Int) == 0)) && ((x12.2.2 : Int) == 7))) rfl (by rw [h36]; simp only [Bool.false_and]) ?_
      refine sxo_nil ?_
      exact sxq_case (lk_cons rfl (lk_cons rfl lk_nil))
    refine sxo_take (os := _) rfl ?_
    refine sxo_move rfl rfl rfl ?_
    refine sxo_case 3 (((((((((((x25 && ((x5.2.2 : Int) == 0)) && ((x9.1 : Int) == 4)) && ((x9.2.1 : Int) == 5)) && ((x9.2.2 : Int) == 0)) && ((x10.1 : Int) == 9)) && ((x10.2.1 : Int) == 8)) && ((x10.2.2 : Int) == 0)) && ((x11.1 : Int) == 7)) && ((x11.2.1 : Int) == 8)) && ((x11.2.2 : Int) == 0)) && ((x12.2.2 : Int) == 7)) [(115, .bool ((((((((((((x25 && ((x5.2.2 : Int) == 0)) && ((x9.1 : Int) == 4)) && ((x9.2.1 : Int) == 5)) && ((x9.2.2 : Int) == 0)) && ((x10.1 : Int) == 9)) && ((x10.2.1 : Int) == 8)) && ((x10.2.2 : Int) == 0)) && ((x11.1 : Int) == 7)) && ((x11.2.1 : Int) == 8)) && ((x11.2.2 : Int) == 0)) && ((x12.2.2 : Int) == 7)) && ((x13.2.2 : Int) == 3)))] (fun h37 => ?_) (fun h37 => ?_) ?_
    · refine sxo_take (os := _) rfl ?_
      refine sxo_isT (k := 112) rfl h37 ?_
      refine sxo_move rfl rfl rfl ?_
      refine sxo_eql rfl rfl rfl rfl ?_
      refine sxo_pick (b := true) rfl rfl rfl rfl ?_
      refine sxo_again (d := 115) (v := .bool ((((((((((((x25 && ((x5.2.2 : Int) == 0)) && ((x9.1 : Int) == 4)) && ((x9.2.1 : Int) == 5)) && ((x9.2.2 : Int) == 0)) && ((x10.1 : Int) == 9)) && ((x10.2.1 : Int) == 8)) && ((x10.2.2 : Int) == 0)) && ((x11.1 : Int) == 7)) && ((x11.2.1 : Int) == 8)) && ((x11.2.2 : Int) == 0)) && ((x12.2.2 : Int) == 7)) && ((x13.2.2 : Int) == 3))) rfl (by rw [h37]; simp only [Bool.true_and]) ?_
      refine sxo_nil ?_
      exact sxq_case (lk_cons rfl lk_nil)
    · refine sxo_take (os := _) rfl ?_
      refine sxo_isF (k := 112) rfl h37 ?_
      refine sxo_skip rfl rfl rfl ?_
      refine sxo_skip rfl rfl rfl ?_
      refine sxo_pick (b := false) rfl rfl rfl rfl ?_
      refine sxo_again (d := 115) (v := .bool ((((((((((((x25 && ((x5.2.2 : Int) == 0)) && ((x9.1 : Int) == 4)) && ((x9.2.1 : Int) == 5)) && ((x9.2.2 : Int) == 0)) && ((x10.1 : Int) == 9)) && ((x10.2.1 : Int) == 8)) && ((x10.2.2 : Int) == 0)) && ((x11.1 : Int) == 7)) && ((x11.2.1 : Int) == 8)) && ((x11.2.2 : Int) == 0)) && ((x12.2.2 : Int) == 7)) && ((x13.2.2 : Int) == 3))) rfl (by rw [h37]; simp only [Bool.false_and]) ?_
      refine sxo_nil ?_
      exact sxq_case (lk_cons rfl lk_nil)
    refine sxo_take (os := _) rfl ?_
    refine sxo_assign rfl rfl rfl ?_
    refine sxo_nil ?_
    refine sxq_next ?_
    refine sxc_ret ?_
    exact sxq_doneP () (.inl rfl) (res1 rfl rfl) (fun h => by subst h; rfl) (fun h => by subst h; exact .nil)

set_option maxHeartbeats 4000000 in
theorem C_L_EliasTells (F : Nat) (x1 : Int) (x2 : Int) (x3 : List Int) (a4 : Option Addr) (c5 : Nat) (x6 : Int) (r : Bool) (hm : M_L_EliasTells F x1 x2 x3 x6 = some r) :
    Pure Try.prog 3 [.int .u64 x1, .agg #[.int .i64 x2, .slice a4 x3.length c5], .int .i64 x6] [Sl (eI .u8) 1 (.slice a4 x3.length c5) x3] Unit (fun _ => .bool r) (fun _ => []) (fun _ => []) := by
  refine pure_of Try.func3 rfl Try.ntmps3 rfl hm (fun w => ?_)
  refine sxc_env (l' := [(0, .int .u64 x1), (1, .agg #[.int .i64 x2, .slice a4 x3.length c5]), (2, .int .i64 x6)]) rfl ?_
  refine sxc_seq ?_
  refine sxc_region ?_
  refine sxo_box rfl rfl rfl (fun g7 => ?_)
  refine sxo_assign rfl rfl rfl ?_
  refine sxo_nil ?_
  refine sxq_next ?_
  refine sxc_seq ?_
  refine sxc_region ?_
  refine sxo_move rfl rfl rfl ?_
  refine sxo_call ent15 rfl rfl rfl (fun x8 e8 => C_elias_Gamma F x1 x8 e8) .nil (fun x8 e8 => ?_)
  rintro ⟨a9, c10⟩
  refine sxo_move rfl rfl rfl ?_
  refine sxo_extract rfl rfl rfl rfl ?_
  refine sxo_extract rfl rfl rfl rfl ?_
  refine sxo_alloc rfl tf25 rfl (fun g11 => ?_)
  refine sxo_storeB (i := 0) rfl rfl rfl tf25 rfl rfl rfl rfl rfl ?_
  refine sxo_assign rfl rfl rfl ?_
  refine sxo_nil ?_
  refine sxq_next ?_
  refine sxc_seq ?_
  refine sxc_region ?_
  refine sxo_move rfl rfl rfl ?_
  refine sxo_call ent16 rfl rfl rfl (fun x12 e12 => C_elias_Delta F x1 x12 e12) .nil (fun x12 e12 => ?_)
  rintro ⟨a13, c14⟩
  refine sxo_move rfl rfl rfl ?_
  refine sxo_extract rfl rfl rfl rfl ?_
  refine sxo_extract rfl rfl rfl rfl ?_
  refine sxo_alloc rfl tf25 rfl (fun g15 => ?_)
  refine sxo_storeB (i := 0) rfl rfl rfl tf25 rfl rfl rfl rfl rfl ?_
  refine sxo_assign rfl rfl rfl ?_
  refine sxo_nil ?_
  refine sxq_next ?_
  refine sxc_seq ?_
  refine sxc_region ?_
  refine sxo_loadB (i := 2) rfl rfl tf25 rfl rfl (by simp) rfl rfl ?_
  refine sxo_move rfl rfl rfl ?_
  refine sxo_call ent17 rfl rfl rfl (fun x16 e16 => C_elias_ReadGamma F x2 x3 a4 c5 x6 x16 e16) (.consF 0 rfl .nil) (fun x16 e16 => ?_)
  intro _
  refine sxo_move rfl rfl rfl ?_
  refine sxo_extract rfl rfl rfl rfl ?_
  refine sxo_extract rfl rfl rfl rfl ?_
  refine sxo_extract rfl rfl rfl rfl ?_
  refine sxo_assign rfl rfl rfl ?_
  refine sxo_assign rfl rfl rfl ?_
  refine sxo_assign rfl rfl rfl ?_
  refine sxo_nil ?_
  refine sxq_next ?_
  refine sxc_seq ?_
  refine sxc_region ?_
  refine sxo_loadB (i := 2) rfl rfl tf25 rfl rfl (by simp) rfl rfl ?_
  refine sxo_move rfl rfl rfl ?_
  refine sxo_call ent18 rfl rfl rfl (fun x17 e17 => C_elias_ReadDelta F x2 x3 a4 c5 x6 x17 e17) (.consF 0 rfl .nil) (fun x17 e17 => ?_)
  intro _
  refine sxo_move rfl rfl rfl ?_
  refine sxo_extract rfl rfl rfl rfl ?_
  refine sxo_extract rfl rfl rfl rfl ?_
  refine sxo_extract rfl rfl rfl rfl ?_
  refine sxo_assign rfl rfl rfl ?_
  refine sxo_assign rfl rfl rfl ?_
  refine sxo_assign rfl rfl rfl ?_
  refine sxo_nil ?_
  refine sxq_next ?_
  refine sxc_seq ?_
  refine sxc_region ?_
  refine sxo_move rfl rfl rfl ?_
  refine sxo_call ent19 rfl rfl rfl (fun x18 e18 => C_elias_Long F x1 x18 e18) .nil (fun x18 e18 => ?_)
  intro _
  refine sxo_move rfl rfl rfl ?_
  refine sxo_extract rfl rfl rfl rfl ?_
  refine sxo_extract rfl rfl rfl rfl ?_
  refine sxo_extract rfl rfl rfl rfl ?_
  refine sxo_assign rfl rfl rfl ?_
  refine sxo_assign rfl rfl rfl ?_
  refine sxo_assign rfl rfl rfl ?_
  refine sxo_nil ?_
  refine sxq_next ?_
  refine sxc_seq ?_
  refine sxc_region ?_
  refine sxo_assign rfl rfl rfl ?_
  refine sxo_nil ?_
  refine sxq_next ?_
  refine sxc_seq ?_
  refine sxc_region ?_
  refine sxo_alloc rfl tf25 rfl (fun g19 => ?_)
  refine sxo_alloc rfl tf25 rfl (fun g20 => ?_)
  refine sxo_nil ?_
  refine sxq_next ?_
  refine sxc_join (fun (((x40, x41, x44, x45, x48), (a42, c43, a46, c47)) : ((Int × Int × List Int × Int × List Int) × (Option Addr × Nat × Option Addr × Nat))) => [(2, .int .i64 x6), (4, .pointer (some ⟨g7, 0, none⟩)), (7, .pointer (some ⟨g11, 0, none⟩)), (8, .int .i64 x8.2.2), (9, .pointer (some ⟨g15, 0, none⟩)), (10, .int .i64 x12.2.2), (11, .int .u64 x16.1), (12, .int .i64 x16.2.1), (13, .int .i64 x16.2.2), (14, .int .u64 x17.1), (15, .int .i64 x17.2.1), (16, .int .i64 x17.2.2), (17, .int .i64 x18.1), (18, .int .i64 x18.2.1), (19, .int .i64 x18.2.2), (20, .int .i64 x40), (21, .pointer (some ⟨g19, 0, none⟩)), (22, .pointer (some ⟨g20, 0, none⟩))]) (fun (((x40, x41, x44, x45, x48), (a42, c43, a46, c47)) : ((Int × Int × List Int × Int × List Int) × (Option Addr × Nat × Option Addr × Nat))) => [⟨g20, 25, [.int .i64 x41, .slice a42 x44.length c43]⟩, ⟨g19, 25, [.int .i64 x45, .slice a46 x48.length c47]⟩, ⟨g15, 25, [.int .i64 x12.1, .slice a13 x12.2.1.length c14]⟩, ⟨g11, 25, [.int .i64 x8.1, .slice a9 x8.2.1.length c10]⟩, ⟨g7, 25, [.int .i64 x2, .slice a4 x3.length c5]⟩]) (fun (((x40, x41, x44, x45, x48), (a42, c43, a46, c47)) : ((Int × Int × List Int × Int × List Int) × (Option Addr × Nat × Option Addr × Nat))) => [Ro (eI .u8) 5 1 (.slice a42 x44.length c43) x44, Ro (eI .u8) 5 1 (.slice a46 x48.length c47) x48, Ro (eI .u8) 5 1 (.slice a13 x12.2.1.length c14) x12.2.1, Ro (eI .u8) 5 1 (.slice a9 x8.2.1.length c10) x8.2.1]) (fun (((x40, x41, x44, x45, x48), (a42, c43, a46, c47)) : ((Int × Int × List Int × Int × List Int) × (Option Addr × Nat × Option Addr × Nat))) => [Sl (eI .u8) 1 (.slice a4 x3.length c5) x3]) (fun (((x40, x41, x44, x45, x48), _) : ((Int × Int × List Int × Int × List Int) × (Option Addr × Nat × Option Addr × Nat))) => M_L_EliasTells_j1 F x2 x3 x6 x8 x12 x16 x17 x18 x40 x41 x44 x45 x48) ?_ ?_
  · refine sxc_seq ?_
    refine sxc_region ?_
    refine sxo_move rfl rfl rfl ?_
    refine sxo_gtr rfl rfl rfl rfl ?_
    refine sxo_nil ?_
    refine sxq_next ?_
    refine sxc_if rfl (fun h103 => ?_) (fun h103 => ?_)
    · refine sxc_region ?_
      refine sxo_assign rfl rfl rfl ?_
      refine sxo_nil ?_
      refine sxq_nilrow Int (eI .u8) 5 1 ?_
      refine sxq_nilrow Int (eI .u8) 5 1 ?_
      exact sxq_meetP ((3, 0, ([] : List Int), 0, ([] : List Int)), (none, 0, none, 0)) (lk_cons rfl (lk_cons rfl (lk_cons rfl (lk_cons rfl (lk_cons rfl (lk_cons rfl (lk_cons rfl (lk_cons rfl (lk_cons rfl (lk_cons rfl (lk_cons rfl (lk_cons rfl (lk_cons rfl (lk_cons rfl (lk_cons rfl (lk_cons rfl (lk_cons rfl (lk_cons rfl lk_nil)))))))))))))))))) (.cons 0 rfl (.cons 0 rfl (.cons 0 rfl (.cons 0 rfl (.cons 0 rfl .nil))))) (.cons 0 rfl (.cons 0 rfl (.cons 0 rfl (.cons 0 rfl .nil)))) (fk_cons 0 rfl fk_nil)
    · refine sxc_region ?_
      refine sxo_move rfl rfl rfl ?_
      refine sxo_call ent21 rfl rfl rfl (fun x91 e91 => C_R_GammaList F x1 x91 e91) .nil (fun x91 e91 => ?_)
      rintro ⟨a92, c93⟩
      refine sxo_call ent20 rfl rfl rfl (fun x94 e94 => C_R_PackBits F x91 a92 c93 x94 e94) (.consR 0 (Ro (eI .i64) 3 1 (.slice a92 x91.length c93) x91) rfl .nil) (fun x94 e94 => ?_)
      rintro ⟨a95, c96⟩
      refine sxo_move rfl rfl rfl ?_
      refine sxo_call ent22 rfl rfl rfl (fun x97 e97 => C_R_DeltaList F x1 x97 e97) .nil (fun x97 e97 => ?_)
      rintro ⟨a98, c99⟩
      refine sxo_call ent20 rfl rfl rfl (fun x100 e100 => C_R_PackBits F x97 a98 c99 x100 e100) (.consR 0 (Ro (eI .i64) 3 1 (.slice a98 x97.length c99) x97) rfl .nil) (fun x100 e100 => ?_)
      rintro ⟨a101, c102⟩
      refine sxo_storeB (i := 1) rfl rfl rfl tf25 rfl rfl rfl rfl rfl ?_
      refine sxo_storeB (i := 0) rfl rfl rfl tf25 rfl rfl rfl rfl rfl ?_
      refine sxo_nil ?_
      exact sxq_meetP ((0, x100.1, x100.2, x94.1, x94.2), (a101, c102, a95, c96)) (lk_cons rfl (lk_cons rfl (lk_cons rfl (lk_cons rfl (lk_cons rfl (lk_cons rfl (lk_cons rfl (lk_cons rfl (lk_cons rfl (lk_cons rfl (lk_cons rfl (lk_cons rfl (lk_cons rfl (lk_cons rfl (lk_cons rfl (lk_cons rfl (lk_cons rfl (lk_cons rfl lk_nil)))))))))))))))))) (.cons 0 rfl (.cons 0 rfl (.cons 0 rfl (.cons 0 rfl (.cons 0 rfl .nil))))) (.cons 0 rfl (.cons 1 rfl (.cons 2 rfl (.cons 2 rfl .nil)))) (fk_cons 0 rfl fk_nil)
  · rintro ⟨⟨x40, x41, x44, x45, x48⟩, ⟨a42, c43, a46, c47⟩⟩
    try dsimp only
    refine sxc_seq ?_
    refine sxb_draw mixed [] [⟨g20, 25, [.int .i64 x41, .slice a42 x44.length c43]⟩, ⟨g19, 25, [.int .i64 x45, .slice a46 x48.length c47]⟩, ⟨g15, 25, [.int .i64 x12.1, .slice a13 x12.2.1.length c14]⟩, ⟨g11, 25, [.int .i64 x8.1, .slice a9 x8.2.1.length c10]⟩, ⟨g7, 25, [.int .i64 x2, .slice a4 x3.length c5]⟩] [Sl (eI .u8) 1 (.slice a4 x3.length c5) x3] (.cons 0 rfl (.cons 0 rfl (.cons 0 rfl (.cons 0 rfl (.cons 0 rfl .nil))))) (gk_F 0 rfl gk_nil) 8 rfl ?_
    refine sxb_take 0 (.agg #[.int .i64 x2, .slice a4 x3.length c5]) [] rfl rfl rfl rfl (by kernel_rfl) (by kernel_rfl) (by kernel_rfl) (by kernel_rfl) (by kernel_rfl) (by kernel_rfl) rfl (show _ = #[true, false, false, false, false, false, false, false] from rfl) (yv_loadB (i := 4) rfl tf25 rfl rfl (by simp) rfl) ?_
    refine sxb_takeP 1 (.int .i64 x6) rfl rfl rfl rfl (by kernel_rfl) (by kernel_rfl) (by kernel_rfl) (by kernel_rfl) (by kernel_rfl) rfl (show _ = #[true, true, false, false, false, false, false, false] from rfl) (yv_pv rfl) ?_
    refine sxb_take 3 (.agg #[.int .i64 x2, .slice a4 x3.length c5]) [] rfl rfl rfl rfl (by kernel_rfl) (by kernel_rfl) (by kernel_rfl) (by kernel_rfl) (by kernel_rfl) (by kernel_rfl) rfl (show _ = #[true, true, false, true, false, false, false, false] from rfl) (yv_loadB (i := 4) rfl tf25 rfl rfl (by simp) rfl) ?_
    refine sxb_takeP 4 (.int .i64 x6) rfl rfl rfl rfl (by kernel_rfl) (by kernel_rfl) (by kernel_rfl) (by kernel_rfl) (by kernel_rfl) rfl (show _ = #[true, true, false, true, true, false, false, false] from rfl) (yv_pv rfl) ?_
    refine sxb_step 2 rfl (by kernel_rfl) (show _ = #[true, true, true, true, true, false, false, false] from rfl) ?_
    refine sxo_call ent23 rfl rfl rfl (fun x51 e51 => C_R_ReadErr F x2 x3 a4 c5 x6 x51 e51) (.consF 0 rfl .nil) (fun x51 e51 => ?_)
    intro _
    refine sxo_nil ?_
    refine sxq_anyB (.cons 0 rfl (.cons 0 rfl (.cons 0 rfl (.cons 0 rfl (.cons 0 rfl .nil))))) (gk_F 0 rfl gk_nil) ?_
    refine sxb_step 5 rfl (by kernel_rfl) (show _ = #[true, true, true, true, true, true, false, false] from rfl) ?_
    refine sxo_call ent23 rfl rfl rfl (fun x52 e52 => C_R_ReadErr F x2 x3 a4 c5 x6 x52 e52) (.consF 0 rfl .nil) (fun x52 e52 => ?_)
    intro _
    refine sxo_nil ?_
    refine sxq_anyB (.cons 0 rfl (.cons 0 rfl (.cons 0 rfl (.cons 0 rfl (.cons 0 rfl .nil))))) (gk_F 0 rfl gk_nil) ?_
    refine sxb_takeP 6 (.int .i64 x51) rfl rfl rfl rfl (by kernel_rfl) (by kernel_rfl) (by kernel_rfl) (by kernel_rfl) (by kernel_rfl) rfl (show _ = #[true, true, true, true, true, true, true, false] from rfl) (yv_pv rfl) ?_
    refine sxb_takeP 7 (.int .i64 x52) rfl rfl rfl rfl (by kernel_rfl) (by kernel_rfl) (by kernel_rfl) (by kernel_rfl) (by kernel_rfl) rfl (show _ = #[true, true, true, true, true, true, true, true] from rfl) (yv_pv rfl) ?_
    refine sxb_done (by kernel_rfl) ?_
    refine sxq_np ?_ (by intro c h; cases h)
    refine sxq_next ?_
    refine sxc_seq ?_
    refine sxc_region ?_
    refine sxo_assign rfl rfl rfl ?_
    refine sxo_assign rfl rfl rfl ?_
    refine sxo_assign rfl rfl rfl ?_
    refine sxo_assign rfl rfl rfl ?_
    refine sxo_nil ?_
    refine sxq_next ?_
    refine sxc_join (fun (((x59, x60, x61, x62, x63, x64), _) : ((Int × Int × Int × Int × Int × Int) × Unit)) => [(7, .pointer (some ⟨g11, 0, none⟩)), (8, .int .i64 x8.2.2), (9, .pointer (some ⟨g15, 0, none⟩)), (10, .int .i64 x12.2.2), (11, .int .u64 x16.1), (12, .int .i64 x16.2.1), (13, .int .i64 x16.2.2), (14, .int .u64 x17.1), (15, .int .i64 x17.2.1), (16, .int .i64 x17.2.2), (17, .int .i64 x18.1), (18, .int .i64 x18.2.1), (19, .int .i64 x18.2.2), (20, .int .i64 x40), (21, .pointer (some ⟨g19, 0, none⟩)), (22, .pointer (some ⟨g20, 0, none⟩)), (23, .int .i64 x59), (24, .int .i64 x60), (25, .int .u64 x61), (26, .int .i64 x62), (27, .int .u64 x63), (28, .int .i64 x64)]) (fun (((x59, x60, x61, x62, x63, x64), _) : ((Int × Int × Int × Int × Int × Int) × Unit)) => [⟨g20, 25, [.int .i64 x41, .slice a42 x44.length c43]⟩, ⟨g19, 25, [.int .i64 x45, .slice a46 x48.length c47]⟩, ⟨g15, 25, [.int .i64 x12.1, .slice a13 x12.2.1.length c14]⟩, ⟨g11, 25, [.int .i64 x8.1, .slice a9 x8.2.1.length c10]⟩]) (fun (((x59, x60, x61, x62, x63, x64), _) : ((Int × Int × Int × Int × Int × Int) × Unit)) => [Ro (eI .u8) 5 1 (.slice a42 x44.length c43) x44, Ro (eI .u8) 5 1 (.slice a46 x48.length c47) x48, Ro (eI .u8) 5 1 (.slice a13 x12.2.1.length c14) x12.2.1, Ro (eI .u8) 5 1 (.slice a9 x8.2.1.length c10) x8.2.1]) (fun (((x59, x60, x61, x62, x63, x64), _) : ((Int × Int × Int × Int × Int × Int) × Unit)) => []) (fun (((x59, x60, x61, x62, x63, x64), _) : ((Int × Int × Int × Int × Int × Int) × Unit)) => M_L_EliasTells_j2 F x8 x12 x16 x17 x18 x40 x41 x44 x45 x48 x59 x60 x61 x62 x63 x64) ?_ ?_
    · refine sxc_seq ?_
      refine sxc_region ?_
      refine sxo_move rfl rfl rfl ?_
      refine sxo_eql rfl rfl rfl rfl ?_
      refine sxo_nil ?_
      refine sxq_next ?_
      refine sxc_if rfl (fun h90 => ?_) (fun h90 => ?_)
      · refine sxc_seq ?_
        refine sxc_region ?_
        refine sxo_loadB (i := 4) rfl rfl tf25 rfl rfl (by simp) rfl rfl ?_
        refine sxo_call ent24 rfl rfl rfl (fun x85 e85 => C_R_BitList F x2 x3 a4 c5 x85 e85) (.consF 0 rfl .nil) (fun x85 e85 => ?_)
        rintro ⟨a86, c87⟩
        refine sxo_assign rfl rfl rfl ?_
        refine sxo_nil ?_
        refine sxq_next ?_
        refine sxc_seq ?_
        refine sxc_region ?_
        refine sxo_move rfl rfl rfl ?_
        refine sxo_move rfl rfl rfl ?_
        refine sxo_call ent25 rfl rfl rfl (fun x88 e88 => C_R_GammaRead F x85 a86 c87 x6 x88 e88) (.consR 0 (Ro (eI .i64) 3 1 (.slice a86 x85.length c87) x85) rfl .nil) (fun x88 e88 => ?_)
        intro _
        refine sxo_move rfl rfl rfl ?_
        refine sxo_extract rfl rfl rfl rfl ?_
        refine sxo_extract rfl rfl rfl rfl ?_
        refine sxo_extract rfl rfl rfl rfl ?_
        refine sxo_assign rfl rfl rfl ?_
        refine sxo_assign rfl rfl rfl ?_
        refine sxo_assign rfl rfl rfl ?_
        refine sxo_nil ?_
        refine sxq_next ?_
        refine sxc_region ?_
        refine sxo_move rfl rfl rfl ?_
        refine sxo_move rfl rfl rfl ?_
        refine sxo_call ent26 rfl rfl rfl (fun x89 e89 => C_R_DeltaRead F x85 a86 c87 x6 x89 e89) (.consR 0 (Ro (eI .i64) 3 1 (.slice a86 x85.length c87) x85) rfl .nil) (fun x89 e89 => ?_)
        intro _
        refine sxo_move rfl rfl rfl ?_
        refine sxo_extract rfl rfl rfl rfl ?_
        refine sxo_extract rfl rfl rfl rfl ?_
        refine sxo_extract rfl rfl rfl rfl ?_
        refine sxo_assign rfl rfl rfl ?_
        refine sxo_assign rfl rfl rfl ?_
        refine sxo_assign rfl rfl rfl ?_
        refine sxo_nil ?_
        exact sxq_meetP ((x88.2.2, x89.2.2, x88.1, x88.2.1, x89.1, x89.2.1), ()) (lk_cons rfl (lk_cons rfl (lk_cons rfl (lk_cons rfl (lk_cons rfl (lk_cons rfl (lk_cons rfl (lk_cons rfl (lk_cons rfl (lk_cons rfl (lk_cons rfl (lk_cons rfl (lk_cons rfl (lk_cons rfl (lk_cons rfl (lk_cons rfl (lk_cons rfl (lk_cons rfl (lk_cons rfl (lk_cons rfl (lk_cons rfl (lk_cons rfl lk_nil)))))))))))))))))))))) (.cons 0 rfl (.cons 0 rfl (.cons 0 rfl (.cons 0 rfl .nil)))) (.cons 1 rfl (.cons 1 rfl (.cons 1 rfl (.cons 1 rfl .nil)))) fk_nil
      · refine sxc_skip ?_
        exact sxq_meetP ((x51, x52, 0, 0, 0, 0), ()) (lk_cons rfl (lk_cons rfl (lk_cons rfl (lk_cons rfl (lk_cons rfl (lk_cons rfl (lk_cons rfl (lk_cons rfl (lk_cons rfl (lk_cons rfl (lk_cons rfl (lk_cons rfl (lk_cons rfl (lk_cons rfl (lk_cons rfl (lk_cons rfl (lk_cons rfl (lk_cons rfl (lk_cons rfl (lk_cons rfl (lk_cons rfl (lk_cons rfl lk_nil)))))))))))))))))))))) (.cons 0 rfl (.cons 0 rfl (.cons 0 rfl (.cons 0 rfl .nil)))) (.cons 0 rfl (.cons 0 rfl (.cons 0 rfl (.cons 0 rfl .nil)))) fk_nil
    · rintro ⟨⟨x59, x60, x61, x62, x63, x64⟩, _⟩
      try dsimp only
      refine sxc_seq ?_
      refine sxc_region ?_
      refine sxo_call ent27 rfl rfl rfl (fun x65 e65 => C_L_eliasBegun F  x65 e65) .nil (fun x65 e65 => ?_)
      intro _
      refine sxo_move rfl rfl rfl ?_
      refine sxo_join 4 (fun ((x68, _) : (Bool × Unit)) => [(8, .int .i64 x8.2.2), (9, .pointer (some ⟨g15, 0, none⟩)), (10, .int .i64 x12.2.2), (11, .int .u64 x16.1), (12, .int .i64 x16.2.1), (13, .int .i64 x16.2.2), (14, .int .u64 x17.1), (15, .int .i64 x17.2.1), (16, .int .i64 x17.2.2), (17, .int .i64 x18.1), (18, .int .i64 x18.2.1), (19, .int .i64 x18.2.2), (20, .int .i64 x40), (21, .pointer (some ⟨g19, 0, none⟩)), (22, .pointer (some ⟨g20, 0, none⟩)), (23, .int .i64 x59), (24, .int .i64 x60), (25, .int .u64 x61), (26, .int .i64 x62), (27, .int .u64 x63), (28, .int .i64 x64), (97, .bool x68)]) (fun ((x68, _) : (Bool × Unit)) => [⟨g20, 25, [.int .i64 x41, .slice a42 x44.length c43]⟩, ⟨g19, 25, [.int .i64 x45, .slice a46 x48.length c47]⟩, ⟨g15, 25, [.int .i64 x12.1, .slice a13 x12.2.1.length c14]⟩]) (fun ((x68, _) : (Bool × Unit)) => [Ro (eI .u8) 5 1 (.slice a42 x44.length c43) x44, Ro (eI .u8) 5 1 (.slice a46 x48.length c47) x48, Ro (eI .u8) 5 1 (.slice a13 x12.2.1.length c14) x12.2.1]) (fun ((x68, _) : (Bool × Unit)) => []) (fun ((x68, _) : (Bool × Unit)) => M_L_EliasTells_j3 F x8 x12 x16 x17 x18 x40 x41 x44 x45 x59 x60 x61 x62 x63 x64 x68) ?_ ?_
      · refine sxo_take (os := _) rfl ?_
        refine sxo_if (fun h66 => ?_) (fun h66 => ?_)
        · refine sxo_isT (k := 93) rfl h66 ?_
          refine sxo_loadB (i := 3) rfl rfl tf25 rfl rfl (by simp) rfl rfl ?_
          refine sxo_loadB (i := 1) rfl rfl tf25 rfl rfl (by simp) rfl rfl ?_
          refine sxo_call ent28 rfl rfl rfl (fun x84 e84 => C_R_SameBits F x8.1 x8.2.1 a9 c10 x45 x48 a46 c47 x84 e84) (.consR 3 (Ro (eI .u8) 5 1 (.slice a9 x8.2.1.length c10) x8.2.1) rfl (.consR 1 (Ro (eI .u8) 5 1 (.slice a46 x48.length c47) x48) rfl .nil)) (fun x84 e84 => ?_)
          intro _
          refine sxo_pick (b := true) rfl rfl rfl rfl ?_
          refine sxo_nil ?_
          exact sxq_meetP (x84, ()) (lk_cons rfl (lk_cons rfl (lk_cons rfl (lk_cons rfl (lk_cons rfl (lk_cons rfl (lk_cons rfl (lk_cons rfl (lk_cons rfl (lk_cons rfl (lk_cons rfl (lk_cons rfl (lk_cons rfl (lk_cons rfl (lk_cons rfl (lk_cons rfl (lk_cons rfl (lk_cons rfl (lk_cons rfl (lk_cons rfl (lk_cons rfl (lk_cons rfl lk_nil)))))))))))))))))))))) (.cons 0 rfl (.cons 0 rfl (.cons 0 rfl .nil))) (.cons 0 rfl (.cons 0 rfl (.cons 0 rfl .nil))) fk_nil
        · refine sxo_isF (k := 93) rfl h66 ?_
          refine sxo_skip rfl rfl rfl ?_
          refine sxo_skip rfl rfl rfl ?_
          refine sxo_skip rfl rfl rfl ?_
          refine sxo_pick (b := false) rfl rfl rfl rfl ?_
          refine sxo_nil ?_
          exact sxq_meetP (false, ()) (lk_cons rfl (lk_cons rfl (lk_cons rfl (lk_cons rfl (lk_cons rfl (lk_cons rfl (lk_cons rfl (lk_cons rfl (lk_cons rfl (lk_cons rfl (lk_cons rfl (lk_cons rfl (lk_cons rfl (lk_cons rfl (lk_cons rfl (lk_cons rfl (lk_cons rfl (lk_cons rfl (lk_cons rfl (lk_cons rfl (lk_cons rfl (lk_cons rfl lk_nil)))))))))))))))))))))) (.cons 0 rfl (.cons 0 rfl (.cons 0 rfl .nil))) (.cons 0 rfl (.cons 0 rfl (.cons 0 rfl .nil))) fk_nil
      · rintro ⟨x68, _⟩
        try dsimp only
        refine sxo_take (os := _) rfl ?_
        refine sxo_move rfl rfl rfl ?_
        refine sxo_case 4 x68 [(9, .pointer (some ⟨g15, 0, none⟩)), (10, .int .i64 x12.2.2), (11, .int .u64 x16.1), (12, .int .i64 x16.2.1), (13, .int .i64 x16.2.2), (14, .int .u64 x17.1), (15, .int .i64 x17.2.1), (16, .int .i64 x17.2.2), (17, .int .i64 x18.1), (18, .int .i64 x18.2.1), (19, .int .i64 x18.2.2), (20, .int .i64 x40), (21, .pointer (some ⟨g19, 0, none⟩)), (22, .pointer (some ⟨g20, 0, none⟩)), (23, .int .i64 x59), (24, .int .i64 x60), (25, .int .u64 x61), (26, .int .i64 x62), (27, .int .u64 x63), (28, .int .i64 x64), (102, .bool (x68 && ((x8.2.2 : Int) == x40)))] (fun h69 => ?_) (fun h69 => ?_) ?_
        · refine sxo_take (os := _) rfl ?_
          refine sxo_isT (k := 98) rfl h69 ?_
          refine sxo_move rfl rfl rfl ?_
          refine sxo_move rfl rfl rfl ?_
          refine sxo_eql rfl rfl rfl rfl ?_
          refine sxo_pick (b := true) rfl rfl rfl rfl ?_
          refine sxo_again (d := 102) (v := .bool (x68 && ((x8.2.2 : Int) == x40))) rfl (by rw [h69]; simp only [Bool.true_and]) ?_
          refine sxo_nil ?_
          exact sxq_case (lk_cons rfl (lk_cons rfl (lk_cons rfl (lk_cons rfl (lk_cons rfl (lk_cons rfl (lk_cons rfl (lk_cons rfl (lk_cons rfl (lk_cons rfl (lk_cons rfl (lk_cons rfl (lk_cons rfl (lk_cons rfl (lk_cons rfl (lk_cons rfl (lk_cons rfl (lk_cons rfl (lk_cons rfl (lk_cons rfl (lk_cons rfl lk_nil)))))))))))))))))))))
        · refine sxo_take (os := _) rfl ?_
          refine sxo_isF (k := 98) rfl h69 ?_
          refine sxo_skip rfl rfl rfl ?_
          refine sxo_skip rfl rfl rfl ?_
          refine sxo_skip rfl rfl rfl ?_
          refine sxo_pick (b := false) rfl rfl rfl rfl ?_
          refine sxo_again (d := 102) (v := .bool (x68 && ((x8.2.2 : Int) == x40))) rfl (by rw [h69]; simp only [Bool.false_and]) ?_
          refine sxo_nil ?_
          exact sxq_case (lk_cons rfl (lk_cons rfl (lk_cons rfl (lk_cons rfl (lk_cons rfl (lk_cons rfl (lk_cons rfl (lk_cons rfl (lk_cons rfl (lk_cons rfl (lk_cons rfl (lk_cons rfl (lk_cons rfl (lk_cons rfl (lk_cons rfl (lk_cons rfl (lk_cons rfl (lk_cons rfl (lk_cons rfl (lk_cons rfl (lk_cons rfl lk_nil)))))))))))))))))))))
        refine sxo_take (os := _) rfl ?_
        refine sxo_move rfl rfl rfl ?_
        refine sxo_join 4 (fun ((x72, _) : (Bool × Unit)) => [(10, .int .i64 x12.2.2), (11, .int .u64 x16.1), (12, .int .i64 x16.2.1), (13, .int .i64 x16.2.2), (14, .int .u64 x17.1), (15, .int .i64 x17.2.1), (16, .int .i64 x17.2.2), (17, .int .i64 x18.1), (18, .int .i64 x18.2.1), (19, .int .i64 x18.2.2), (20, .int .i64 x40), (21, .pointer (some ⟨g19, 0, none⟩)), (22, .pointer (some ⟨g20, 0, none⟩)), (23, .int .i64 x59), (24, .int .i64 x60), (25, .int .u64 x61), (26, .int .i64 x62), (27, .int .u64 x63), (28, .int .i64 x64), (107, .bool x72)]) (fun ((x72, _) : (Bool × Unit)) => [⟨g20, 25, [.int .i64 x41, .slice a42 x44.length c43]⟩, ⟨g19, 25, [.int .i64 x45, .slice a46 x48.length c47]⟩]) (fun ((x72, _) : (Bool × Unit)) => [Ro (eI .u8) 5 1 (.slice a42 x44.length c43) x44, Ro (eI .u8) 5 1 (.slice a46 x48.length c47) x48]) (fun ((x72, _) : (Bool × Unit)) => []) (fun ((x72, _) : (Bool × Unit)) => M_L_EliasTells_j4 F x12 x16 x17 x18 x40 x41 x45 x59 x60 x61 x62 x63 x64 x72) ?_ ?_
        · refine sxo_take (os := _) rfl ?_
          refine sxo_if (fun h70 => ?_) (fun h70 => ?_)
          · refine sxo_isT (k := 103) rfl h70 ?_
            refine sxo_loadB (i := 2) rfl rfl tf25 rfl rfl (by simp) rfl rfl ?_
            refine sxo_loadB (i := 0) rfl rfl tf25 rfl rfl (by simp) rfl rfl ?_
            refine sxo_call ent28 rfl rfl rfl (fun x83 e83 => C_R_SameBits F x12.1 x12.2.1 a13 c14 x41 x44 a42 c43 x83 e83) (.consR 2 (Ro (eI .u8) 5 1 (.slice a13 x12.2.1.length c14) x12.2.1) rfl (.consR 0 (Ro (eI .u8) 5 1 (.slice a42 x44.length c43) x44) rfl .nil)) (fun x83 e83 => ?_)
            intro _
            refine sxo_pick (b := true) rfl rfl rfl rfl ?_
            refine sxo_nil ?_
            exact sxq_meetP (x83, ()) (lk_cons rfl (lk_cons rfl (lk_cons rfl (lk_cons rfl (lk_cons rfl (lk_cons rfl (lk_cons rfl (lk_cons rfl (lk_cons rfl (lk_cons rfl (lk_cons rfl (lk_cons rfl (lk_cons rfl (lk_cons rfl (lk_cons rfl (lk_cons rfl (lk_cons rfl (lk_cons rfl (lk_cons rfl (lk_cons rfl lk_nil)))))))))))))))))))) (.cons 0 rfl (.cons 0 rfl .nil)) (.cons 0 rfl (.cons 0 rfl .nil)) fk_nil
          · refine sxo_isF (k := 103) rfl h70 ?_
            refine sxo_skip rfl rfl rfl ?_
            refine sxo_skip rfl rfl rfl ?_
            refine sxo_skip rfl rfl rfl ?_
            refine sxo_pick (b := false) rfl rfl rfl rfl ?_
            refine sxo_nil ?_
            exact sxq_meetP (false, ()) (lk_cons rfl (lk_cons rfl (lk_cons rfl (lk_cons rfl (lk_cons rfl (lk_cons rfl (lk_cons rfl (lk_cons rfl (lk_cons rfl (lk_cons rfl (lk_cons rfl (lk_cons rfl (lk_cons rfl (lk_cons rfl (lk_cons rfl (lk_cons rfl (lk_cons rfl (lk_cons rfl (lk_cons rfl (lk_cons rfl lk_nil)))))))))))))))))))) (.cons 0 rfl (.cons 0 rfl .nil)) (.cons 0 rfl (.cons 0 rfl .nil)) fk_nil
        · rintro ⟨x72, _⟩
          try dsimp only
          refine sxo_take (os := _) rfl ?_
          refine sxo_move rfl rfl rfl ?_
          refine sxo_case 4 x72 [(11, .int .u64 x16.1), (12, .int .i64 x16.2.1), (13, .int .i64 x16.2.2), (14, .int .u64 x17.1), (15, .int .i64 x17.2.1), (16, .int .i64 x17.2.2), (17, .int .i64 x18.1), (18, .int .i64 x18.2.1), (19, .int .i64 x18.2.2), (20, .int .i64 x40), (21, .pointer (some ⟨g19, 0, none⟩)), (22, .pointer (some ⟨g20, 0, none⟩)), (23, .int .i64 x59), (24, .int .i64 x60), (25, .int .u64 x61), (26, .int .i64 x62), (27, .int .u64 x63), (28, .int .i64 x64), (112, .bool (x72 && ((x12.2.2 : Int) == x40)))] (fun h73 => ?_) (fun h73 => ?_) ?_
          · refine sxo_take (os := _) rfl ?_
            refine sxo_isT (k := 108) rfl h73 ?_
            refine sxo_move rfl rfl rfl ?_
            refine sxo_move rfl rfl rfl ?_
            refine sxo_eql rfl rfl rfl rfl ?_
            refine sxo_pick (b := true) rfl rfl rfl rfl ?_
            refine sxo_again (d := 112) (v := .bool (x72 && ((x12.2.2 : Int) == x40))) rfl (by rw [h73]; simp only [Bool.true_and]) ?_
            refine sxo_nil ?_
            exact sxq_case (lk_cons rfl (lk_cons rfl (lk_cons rfl (lk_cons rfl (lk_cons rfl (lk_cons rfl (lk_cons rfl (lk_cons rfl (lk_cons rfl (lk_cons rfl (lk_cons rfl (lk_cons rfl (lk_cons rfl (lk_cons rfl (lk_cons rfl (lk_cons rfl (lk_cons rfl (lk_cons rfl (lk_cons rfl lk_nil)))))))))))))))))))
          · refine sxo_take (os := _) rfl ?_
            refine sxo_isF (k := 108) rfl h73 ?_
            refine sxo_skip rfl rfl rfl ?_
            refine sxo_skip rfl rfl rfl ?_
            refine sxo_skip rfl rfl rfl ?_
            refine sxo_pick (b := false) rfl rfl rfl rfl ?_
            refine sxo_again (d := 112) (v := .bool (x72 && ((x12.2.2 : Int) == x40))) rfl (by rw [h73]; simp only [Bool.false_and]) ?_
            refine sxo_nil ?_
            exact sxq_case (lk_cons rfl (lk_cons rfl (lk_cons rfl (lk_cons rfl (lk_cons rfl (lk_cons rfl (lk_cons rfl (lk_cons rfl (lk_cons rfl (lk_cons rfl (lk_cons rfl (lk_cons rfl (lk_cons rfl (lk_cons rfl (lk_cons rfl (lk_cons rfl (lk_cons rfl (lk_cons rfl (lk_cons rfl lk_nil)))))))))))))))))))
          refine sxo_take (os := _) rfl ?_
          refine sxo_move rfl rfl rfl ?_
          refine sxo_case 4 (x72 && ((x12.2.2 : Int) == x40)) [(12, .int .i64 x16.2.1), (13, .int .i64 x16.2.2), (14, .int .u64 x17.1), (15, .int .i64 x17.2.1), (16, .int .i64 x17.2.2), (17, .int .i64 x18.1), (18, .int .i64 x18.2.1), (19, .int .i64 x18.2.2), (20, .int .i64 x40), (21, .pointer (some ⟨g19, 0, none⟩)), (22, .pointer (some ⟨g20, 0, none⟩)), (23, .int .i64 x59), (24, .int .i64 x60), (26, .int .i64 x62), (27, .int .u64 x63), (28, .int .i64 x64), (117, .bool ((x72 && ((x12.2.2 : Int) == x40)) && ((x16.1 : Int) == x61)))] (fun h74 => ?_) (fun h74 => ?_) ?_
          · refine sxo_take (os := _) rfl ?_
            refine sxo_isT (k := 113) rfl h74 ?_
            refine sxo_move rfl rfl rfl ?_
            refine sxo_move rfl rfl rfl ?_
            refine sxo_eql rfl rfl rfl rfl ?_
            refine sxo_pick (b := true) rfl rfl rfl rfl ?_
            refine sxo_again (d := 117) (v := .bool ((x72 && ((x12.2.2 : Int) == x40)) && ((x16.1 : Int) == x61))) rfl (by rw [h74]; simp only [Bool.true_and]) ?_
            refine sxo_nil ?_
            exact sxq_case (lk_cons rfl (lk_cons rfl (lk_cons rfl (lk_cons rfl (lk_cons rfl (lk_cons rfl (lk_cons rfl (lk_cons rfl (lk_cons rfl (lk_cons rfl (lk_cons rfl (lk_cons rfl (lk_cons rfl (lk_cons rfl (lk_cons rfl (lk_cons rfl (lk_cons rfl lk_nil)))))))))))))))))
          · refine sxo_take (os := _) rfl ?_
            refine sxo_isF (k := 113) rfl h74 ?_
            refine sxo_skip rfl rfl rfl ?_
            refine sxo_skip rfl rfl rfl ?_
            refine sxo_skip rfl rfl rfl ?_
            refine sxo_pick (b := false) rfl rfl rfl rfl ?_
            refine sxo_again (d := 117) (v := .bool ((x72 && ((x12.2.2 : Int) == x40)) && ((x16.1 : Int) == x61))) rfl (by rw [h74]; simp only [Bool.false_and]) ?_
            refine sxo_nil ?_
            exact sxq_case (lk_cons rfl (lk_cons rfl (lk_cons rfl (lk_cons rfl (lk_cons rfl (lk_cons rfl (lk_cons rfl (lk_cons rfl (lk_cons rfl (lk_cons rfl (lk_cons rfl (lk_cons rfl (lk_cons rfl (lk_cons rfl (lk_cons rfl (lk_cons rfl (lk_cons rfl lk_nil)))))))))))))))))
          refine sxo_take (os := _) rfl ?_
          refine sxo_move rfl rfl rfl ?_
          refine sxo_case 4 ((x72 && ((x12.2.2 : Int) == x40)) && ((x16.1 : Int) == x61)) [(13, .int .i64 x16.2.2), (14, .int .u64 x17.1), (15, .int .i64 x17.2.1), (16, .int .i64 x17.2.2), (17, .int .i64 x18.1), (18, .int .i64 x18.2.1), (19, .int .i64 x18.2.2), (20, .int .i64 x40), (21, .pointer (some ⟨g19, 0, none⟩)), (22, .pointer (some ⟨g20, 0, none⟩)), (23, .int .i64 x59), (24, .int .i64 x60), (27, .int .u64 x63), (28, .int .i64 x64), (122, .bool (((x72 && ((x12.2.2 : Int) == x40)) && ((x16.1 : Int) == x61)) && ((x16.2.1 : Int) == x62)))] (fun h75 => ?_) (fun h75 => ?_) ?_
          · refine sxo_take (os := _) rfl ?_
            refine sxo_isT (k := 118) rfl h75 ?_
            refine sxo_move rfl rfl rfl ?_
            refine sxo_move rfl rfl rfl ?_
            refine sxo_eql rfl rfl rfl rfl ?_
            refine sxo_pick (b := true) rfl rfl rfl rfl ?_
            refine sxo_again (d := 122) (v := .bool (((x72 && ((x12.2.2 : Int) == x40)) && ((x16.1 : Int) == x61)) && ((x16.2.1 : Int) == x62))) rfl (by rw [h75]; simp only [Bool.true_and]) ?_
            refine sxo_nil ?_
            exact sxq_case (lk_cons rfl (lk_cons rfl (lk_cons rfl (lk_cons rfl (lk_cons rfl (lk_cons rfl (lk_cons rfl (lk_cons rfl (lk_cons rfl (lk_cons rfl (lk_cons rfl (lk_cons rfl (lk_cons rfl (lk_cons rfl (lk_cons rfl lk_nil)))))))))))))))
          · refine sxo_take (os := _) rfl ?_
            refine sxo_isF (k := 118) rfl h75 ?_
            refine sxo_skip rfl rfl rfl ?_
            refine sxo_skip rfl rfl rfl ?_
            refine sxo_skip rfl rfl rfl ?_
            refine sxo_pick (b := false) rfl rfl rfl rfl ?_
            refine sxo_again (d := 122) (v := .bool (((x72 && ((x12.2.2 : Int) == x40)) && ((x16.1 : Int) == x61)) && ((x16.2.1 : Int) == x62))) rfl (by rw [h75]; simp only [Bool.false_and]) ?_
            refine sxo_nil ?_
            exact sxq_case (lk_cons rfl (lk_cons rfl (lk_cons rfl (lk_cons rfl (lk_cons rfl (lk_cons rfl (lk_cons rfl (lk_cons rfl (lk_cons rfl (lk_cons rfl (lk_cons rfl (lk_cons rfl (lk_cons rfl (lk_cons rfl (lk_cons rfl lk_nil)))))))))))))))
          refine sxo_take (os := _) rfl ?_
          refine sxo_move rfl rfl rfl ?_
          refine sxo_case 4 (((x72 && ((x12.2.2 : Int) == x40)) && ((x16.1 : Int) == x61)) && ((x16.2.1 : Int) == x62)) [(14, .int .u64 x17.1), (15, .int .i64 x17.2.1), (16, .int .i64 x17.2.2), (17, .int .i64 x18.1), (18, .int .i64 x18.2.1), (19, .int .i64 x18.2.2), (20, .int .i64 x40), (21, .pointer (some ⟨g19, 0, none⟩)), (22, .pointer (some ⟨g20, 0, none⟩)), (24, .int .i64 x60), (27, .int .u64 x63), (28, .int .i64 x64), (127, .bool ((((x72 && ((x12.2.2 : Int) == x40)) && ((x16.1 : Int) == x61)) && ((x16.2.1 : Int) == x62)) && ((x16.2.2 : Int) == x59)))] (fun h76 => ?_) (fun h76 => ?_) ?_
          · refine sxo_take (os := _) rfl ?_
            refine sxo_isT (k := 123) rfl h76 ?_
            refine sxo_move rfl rfl rfl ?_
            refine sxo_move rfl rfl rfl ?_
            refine sxo_eql rfl rfl rfl rfl ?_
            refine sxo_pick (b := true) rfl rfl rfl rfl ?_
            refine sxo_again (d := 127) (v := .bool ((((x72 && ((x12.2.2 : Int) == x40)) && ((x16.1 : Int) == x61)) && ((x16.2.1 : Int) == x62)) && ((x16.2.2 : Int) == x59))) rfl (by rw [h76]; simp only [Bool.true_and]) ?_
            refine sxo_nil ?_
            exact sxq_case (lk_cons rfl (lk_cons rfl (lk_cons rfl (lk_cons rfl (lk_cons rfl (lk_cons rfl (lk_cons rfl (lk_cons rfl (lk_cons rfl (lk_cons rfl (lk_cons rfl (lk_cons rfl (lk_cons rfl lk_nil)))))))))))))
          · refine sxo_take (os := _) rfl ?_
            refine sxo_isF (k := 123) rfl h76 ?_
            refine sxo_skip rfl rfl rfl ?_
            refine sxo_skip rfl rfl rfl ?_
            refine sxo_skip rfl rfl rfl ?_
            refine sxo_pick (b := false) rfl rfl rfl rfl ?_
            refine sxo_again (d := 127) (v := .bool ((((x72 && ((x12.2.2 : Int) == x40)) && ((x16.1 : Int) == x61)) && ((x16.2.1 : Int) == x62)) && ((x16.2.2 : Int) == x59))) rfl (by rw [h76]; simp only [Bool.false_and]) ?_
            refine sxo_nil ?_
            exact sxq_case (lk_cons rfl (lk_cons rfl (lk_cons rfl (lk_cons rfl (lk_cons rfl (lk_cons rfl (lk_cons rfl (lk_cons rfl (lk_cons rfl (lk_cons rfl (lk_cons rfl (lk_cons rfl (lk_cons rfl lk_nil)))))))))))))
          refine sxo_take (os := _) rfl ?_
          refine sxo_move rfl rfl rfl ?_
          refine sxo_case 4 ((((x72 && ((x12.2.2 : Int) == x40)) && ((x16.1 : Int) == x61)) && ((x16.2.1 : Int) == x62)) && ((x16.2.2 : Int) == x59)) [(15, .int .i64 x17.2.1), (16, .int .i64 x17.2.2), (17, .int .i64 x18.1), (18, .int .i64 x18.2.1), (19, .int .i64 x18.2.2), (20, .int .i64 x40), (21, .pointer (some ⟨g19, 0, none⟩)), (22, .pointer (some ⟨g20, 0, none⟩)), (24, .int .i64 x60), (28, .int .i64 x64), (132, .bool (((((x72 && ((x12.2.2 : Int) == x40)) && ((x16.1 : Int) == x61)) && ((x16.2.1 : Int) == x62)) && ((x16.2.2 : Int) == x59)) && ((x17.1 : Int) == x63)))] (fun h77 => ?_) (fun h77 => ?_) ?_
          · refine sxo_take (os := _) rfl ?_
            refine sxo_isT (k := 128) rfl h77 ?_
            refine sxo_move rfl rfl rfl ?_
            refine sxo_move rfl rfl rfl ?_
            refine sxo_eql rfl rfl rfl rfl ?_
            refine sxo_pick (b := true) rfl rfl rfl rfl ?_
            refine sxo_again (d := 132) (v := .bool (((((x72 && ((x12.2.2 : Int) == x40)) && ((x16.1 : Int) == x61)) && ((x16.2.1 : Int) == x62)) && ((x16.2.2 : Int) == x59)) && ((x17.1 : Int) == x63))) rfl (by rw [h77]; simp only [Bool.true_and]) ?_
            refine sxo_nil ?_
            exact sxq_case (lk_cons rfl (lk_cons rfl (lk_cons rfl (lk_cons rfl (lk_cons rfl (lk_cons rfl (lk_cons rfl (lk_cons rfl (lk_cons rfl (lk_cons rfl (lk_cons rfl lk_nil)))))))))))
          · refine sxo_take (os := _) rfl ?_
            refine sxo_isF (k := 128) rfl h77 ?_
            refine sxo_skip rfl rfl rfl ?_
            refine sxo_skip rfl rfl rfl ?_
            refine sxo_skip rfl rfl rfl ?_
            refine sxo_pick (b := false) rfl rfl rfl rfl ?_
            refine sxo_again (d := 132) (v := .bool (((((x72 && ((x12.2.2 : Int) == x40)) && ((x16.1 : Int) == x61)) && ((x16.2.1 : Int) == x62)) && ((x16.2.2 : Int) == x59)) && ((x17.1 : Int) == x63))) rfl (by rw [h77]; simp only [Bool.false_and]) ?_
            refine sxo_nil ?_
            exact sxq_case (lk_cons rfl (lk_cons rfl (lk_cons rfl (lk_cons rfl (lk_cons rfl (lk_cons rfl (lk_cons rfl (lk_cons rfl (lk_cons rfl (lk_cons rfl (lk_cons rfl lk_nil)))))))))))
          refine sxo_take (os := _) rfl ?_
          refine sxo_move rfl rfl rfl ?_
          refine sxo_case 4 (((((x72 && ((x12.2.2 : Int) == x40)) && ((x16.1 : Int) == x61)) && ((x16.2.1 : Int) == x62)) && ((x16.2.2 : Int) == x59)) && ((x17.1 : Int) == x63)) [(16, .int .i64 x17.2.2), (17, .int .i64 x18.1), (18, .int .i64 x18.2.1), (19, .int .i64 x18.2.2), (20, .int .i64 x40), (21, .pointer (some ⟨g19, 0, none⟩)), (22, .pointer (some ⟨g20, 0, none⟩)), (24, .int .i64 x60), (137, .bool ((((((x72 && ((x12.2.2 : Int) == x40)) && ((x16.1 : Int) == x61)) && ((x16.2.1 : Int) == x62)) && ((x16.2.2 : Int) == x59)) && ((x17.1 : Int) == x63)) && ((x17.2.1 : Int) == x64)))] (fun h78 => ?_) (fun h78 => ?_) ?_
          · refine sxo_take (os := _) rfl ?_
            refine sxo_isT (k := 133) rfl h78 ?_
            refine sxo_move rfl rfl rfl ?_
            refine sxo_move rfl rfl rfl ?_
            refine sxo_eql rfl rfl rfl rfl ?_
            refine sxo_pick (b := true) rfl rfl rfl rfl ?_
            refine sxo_again (d := 137) (v := .bool ((((((x72 && ((x12.2.2 : Int) == x40)) && ((x16.1 : Int) == x61)) && ((x16.2.1 : Int) == x62)) && ((x16.2.2 : Int) == x59)) && ((x17.1 : Int) == x63)) && ((x17.2.1 : Int) == x64))) rfl (by rw [h78]; simp only [Bool.true_and]) ?_
            refine sxo_nil ?_
            exact sxq_case (lk_cons rfl (lk_cons rfl (lk_cons rfl (lk_cons rfl (lk_cons rfl (lk_cons rfl (lk_cons rfl (lk_cons rfl (lk_cons rfl lk_nil)))))))))
          · refine sxo_take (os := _) rfl ?_
            refine sxo_isF (k := 133) rfl h78 ?_
            refine sxo_skip rfl rfl rfl ?_
            refine sxo_skip rfl rfl rfl ?_
            refine sxo_skip rfl rfl rfl ?_
            refine sxo_pick (b := false) rfl rfl rfl rfl ?_
            refine sxo_again (d := 137) (v := .bool ((((((x72 && ((x12.2.2 : Int) == x40)) && ((x16.1 : Int) == x61)) && ((x16.2.1 : Int) == x62)) && ((x16.2.2 : Int) == x59)) && ((x17.1 : Int) == x63)) && ((x17.2.1 : Int) == x64))) rfl (by rw [h78]; simp only [Bool.false_and]) ?_
            refine sxo_nil ?_
            exact sxq_case (lk_cons rfl (lk_cons rfl (lk_cons rfl (lk_cons rfl (lk_cons rfl (lk_cons rfl (lk_cons rfl (lk_cons rfl (lk_cons rfl lk_nil)))))))))
          refine sxo_take (os := _) rfl ?_
          refine sxo_move rfl rfl rfl ?_
          refine sxo_case 4 ((((((x72 && ((x12.2.2 : Int) == x40)) && ((x16.1 : Int) == x61)) && ((x16.2.1 : Int) == x62)) && ((x16.2.2 : Int) == x59)) && ((x17.1 : Int) == x63)) && ((x17.2.1 : Int) == x64)) [(17, .int .i64 x18.1), (18, .int .i64 x18.2.1), (19, .int .i64 x18.2.2), (20, .int .i64 x40), (21, .pointer (some ⟨g19, 0, none⟩)), (22, .pointer (some ⟨g20, 0, none⟩)), (142, .bool (((((((x72 && ((x12.2.2 : Int) == x40)) && ((x16.1 : Int) == x61)) && ((x16.2.1 : Int) == x62)) && ((x16.2.2 : Int) == x59)) && ((x17.1 : Int) == x63)) && ((x17.2.1 : Int) == x64)) && ((x17.2.2 : Int) == x60)))] (fun h79 => ?_) (fun h79 => ?_) ?_
          · refine sxo_take (os := _) rfl ?_
            refine sxo_isT (k := 138) rfl h79 ?_
            refine sxo_move rfl rfl rfl ?_
            refine sxo_move rfl rfl rfl ?_
            refine sxo_eql rfl rfl rfl rfl ?_
            refine sxo_pick (b := true) rfl rfl rfl rfl ?_
            refine sxo_again (d := 142) (v := .bool (((((((x72 && ((x12.2.2 : Int) == x40)) && ((x16.1 : Int) == x61)) && ((x16.2.1 : Int) == x62)) && ((x16.2.2 : Int) == x59)) && ((x17.1 : Int) == x63)) && ((x17.2.1 : Int) == x64)) && ((x17.2.2 : Int) == x60))) rfl (by rw [h79]; simp only [Bool.true_and]) ?_
            refine sxo_nil ?_
            exact sxq_case (lk_cons rfl (lk_cons rfl (lk_cons rfl (lk_cons rfl (lk_cons rfl (lk_cons rfl (lk_cons rfl lk_nil)))))))
          · refine sxo_take (os := _) rfl ?_
            refine sxo_isF (k := 138) rfl h79 ?_
            refine sxo_skip rfl rfl rfl ?_
            refine sxo_skip rfl rfl rfl ?_
            refine sxo_skip rfl rfl rfl ?_
            refine sxo_pick (b := false) rfl rfl rfl rfl ?_
            refine sxo_again (d := 142) (v := .bool (((((((x72 && ((x12.2.2 : Int) == x40)) && ((x16.1 : Int) == x61)) && ((x16.2.1 : Int) == x62)) && ((x16.2.2 : Int) == x59)) && ((x17.1 : Int) == x63)) && ((x17.2.1 : Int) == x64)) && ((x17.2.2 : Int) == x60))) rfl (by rw [h79]; simp only [Bool.false_and]) ?_
            refine sxo_nil ?_
            exact sxq_case (lk_cons rfl (lk_cons rfl (lk_cons rfl (lk_cons rfl (lk_cons rfl (lk_cons rfl (lk_cons rfl lk_nil)))))))
          refine sxo_take (os := _) rfl ?_
          refine sxo_move rfl rfl rfl ?_
          refine sxo_case 5 (((((((x72 && ((x12.2.2 : Int) == x40)) && ((x16.1 : Int) == x61)) && ((x16.2.1 : Int) == x62)) && ((x16.2.2 : Int) == x59)) && ((x17.1 : Int) == x63)) && ((x17.2.1 : Int) == x64)) && ((x17.2.2 : Int) == x60)) [(18, .int .i64 x18.2.1), (19, .int .i64 x18.2.2), (20, .int .i64 x40), (22, .pointer (some ⟨g20, 0, none⟩)), (148, .bool ((((((((x72 && ((x12.2.2 : Int) == x40)) && ((x16.1 : Int) == x61)) && ((x16.2.1 : Int) == x62)) && ((x16.2.2 : Int) == x59)) && ((x17.1 : Int) == x63)) && ((x17.2.1 : Int) == x64)) && ((x17.2.2 : Int) == x60)) && ((x18.1 : Int) == x45)))] (fun h80 => ?_) (fun h80 => ?_) ?_
          · refine sxo_take (os := _) rfl ?_
            refine sxo_isT (k := 143) rfl h80 ?_
            refine sxo_move rfl rfl rfl ?_
            refine sxo_fieldAddr rfl rfl ff25_0 rfl ?_
            refine sxo_loadB (i := 1) rfl rfl tf3 rfl rfl (fun _ => rfl) rfl rfl ?_
            refine sxo_eql rfl rfl rfl rfl ?_
            refine sxo_pick (b := true) rfl rfl rfl rfl ?_
            refine sxo_again (d := 148) (v := .bool ((((((((x72 && ((x12.2.2 : Int) == x40)) && ((x16.1 : Int) == x61)) && ((x16.2.1 : Int) == x62)) && ((x16.2.2 : Int) == x59)) && ((x17.1 : Int) == x63)) && ((x17.2.1 : Int) == x64)) && ((x17.2.2 : Int) == x60)) && ((x18.1 : Int) == x45))) rfl (by rw [h80]; simp only [Bool.true_and]) ?_
            refine sxo_nil ?_
            exact sxq_case (lk_cons rfl (lk_cons rfl (lk_cons rfl (lk_cons rfl (lk_cons rfl lk_nil)))))
          · refine sxo_take (os := _) rfl ?_
            refine sxo_isF (k := 143) rfl h80 ?_
            refine sxo_skip rfl rfl rfl ?_
            refine sxo_skip rfl rfl rfl ?_
            refine sxo_skip rfl rfl rfl ?_
            refine sxo_skip rfl rfl rfl ?_
            refine sxo_pick (b := false) rfl rfl rfl rfl ?_
            refine sxo_again (d := 148) (v := .bool ((((((((x72 && ((x12.2.2 : Int) == x40)) && ((x16.1 : Int) == x61)) && ((x16.2.1 : Int) == x62)) && ((x16.2.2 : Int) == x59)) && ((x17.1 : Int) == x63)) && ((x17.2.1 : Int) == x64)) && ((x17.2.2 : Int) == x60)) && ((x18.1 : Int) == x45))) rfl (by rw [h80]; simp only [Bool.false_and]) ?_
            refine sxo_nil ?_
            exact sxq_case (lk_cons rfl (lk_cons rfl (lk_cons rfl (lk_cons rfl (lk_cons rfl lk_nil)))))
          refine sxo_take (os := _) rfl ?_
          refine sxo_move rfl rfl rfl ?_
          refine sxo_case 5 ((((((((x72 && ((x12.2.2 : Int) == x40)) && ((x16.1 : Int) == x61)) && ((x16.2.1 : Int) == x62)) && ((x16.2.2 : Int) == x59)) && ((x17.1 : Int) == x63)) && ((x17.2.1 : Int) == x64)) && ((x17.2.2 : Int) == x60)) && ((x18.1 : Int) == x45)) [(19, .int .i64 x18.2.2), (20, .int .i64 x40), (154, .bool (((((((((x72 && ((x12.2.2 : Int) == x40)) && ((x16.1 : Int) == x61)) && ((x16.2.1 : Int) == x62)) && ((x16.2.2 : Int) == x59)) && ((x17.1 : Int) == x63)) && ((x17.2.1 : Int) == x64)) && ((x17.2.2 : Int) == x60)) && ((x18.1 : Int) == x45)) && ((x18.2.1 : Int) == x41)))] (fun h81 => ?_) (fun h81 => ?_) ?_
          · refine sxo_take (os := _) rfl ?_
            refine sxo_isT (k := 149) rfl h81 ?_
            refine sxo_move rfl rfl rfl ?_
            refine sxo_fieldAddr rfl rfl ff25_0 rfl ?_
            refine sxo_loadB (i := 0) rfl rfl tf3 rfl rfl (fun _ => rfl) rfl rfl ?_
            refine sxo_eql rfl rfl rfl rfl ?_
            refine sxo_pick (b := true) rfl rfl rfl rfl ?_
            refine sxo_again (d := 154) (v := .bool (((((((((x72 && ((x12.2.2 : Int) == x40)) && ((x16.1 : Int) == x61)) && ((x16.2.1 : Int) == x62)) && ((x16.2.2 : Int) == x59)) && ((x17.1 : Int) == x63)) && ((x17.2.1 : Int) == x64)) && ((x17.2.2 : Int) == x60)) && ((x18.1 : Int) == x45)) && ((x18.2.1 : Int) == x41))) rfl (by rw [h81]; simp only [Bool.true_and]) ?_
            refine sxo_nil ?_
            exact sxq_case (lk_cons rfl (lk_cons rfl (lk_cons rfl lk_nil)))
          · refine sxo_take (os := _) rfl ?_
            refine sxo_isF (k := 149) rfl h81 ?_
            refine sxo_skip rfl rfl rfl ?_
            refine sxo_skip rfl rfl rfl ?_
            refine sxo_skip rfl rfl rfl ?_
            refine sxo_skip rfl rfl rfl ?_
            refine sxo_pick (b := false) rfl rfl rfl rfl ?_
            refine sxo_again (d := 154) (v := .bool (((((((((x72 && ((x12.2.2 : Int) == x40)) && ((x16.1 : Int) == x61)) && ((x16.2.1 : Int) == x62)) && ((x16.2.2 : Int) == x59)) && ((x17.1 : Int) == x63)) && ((x17.2.1 : Int) == x64)) && ((x17.2.2 : Int) == x60)) && ((x18.1 : Int) == x45)) && ((x18.2.1 : Int) == x41))) rfl (by rw [h81]; simp only [Bool.false_and]) ?_
            refine sxo_nil ?_
            exact sxq_case (lk_cons rfl (lk_cons rfl (lk_cons rfl lk_nil)))
          refine sxo_take (os := _) rfl ?_
          refine sxo_move rfl rfl rfl ?_
          refine sxo_case 4 (((((((((x72 && ((x12.2.2 : Int) == x40)) && ((x16.1 : Int) == x61)) && ((x16.2.1 : Int) == x62)) && ((x16.2.2 : Int) == x59)) && ((x17.1 : Int) == x63)) && ((x17.2.1 : Int) == x64)) && ((x17.2.2 : Int) == x60)) && ((x18.1 : Int) == x45)) && ((x18.2.1 : Int) == x41)) [(159, .bool ((((((((((x72 && ((x12.2.2 : Int) == x40)) && ((x16.1 : Int) == x61)) && ((x16.2.1 : Int) == x62)) && ((x16.2.2 : Int) == x59)) && ((x17.1 : Int) == x63)) && ((x17.2.1 : Int) == x64)) && ((x17.2.2 : Int) == x60)) && ((x18.1 : Int) == x45)) && ((x18.2.1 : Int) == x41)) && ((x18.2.2 : Int) == x40)))] (fun h82 => ?_) (fun h82 => ?_) ?_
          · refine sxo_take (os := _) rfl ?_
            refine sxo_isT (k := 155) rfl h82 ?_
            refine sxo_move rfl rfl rfl ?_
            refine sxo_move rfl rfl rfl ?_
            refine sxo_eql rfl rfl rfl rfl ?_
            refine sxo_pick (b := true) rfl rfl rfl rfl ?_
            refine sxo_again (d := 159) (v := .bool ((((((((((x72 && ((x12.2.2 : Int) == x40)) && ((x16.1 : Int) == x61)) && ((x16.2.1 : Int) == x62)) && ((x16.2.2 : Int) == x59)) && ((x17.1 : Int) == x63)) && ((x17.2.1 : Int) == x64)) && ((x17.2.2 : Int) == x60)) && ((x18.1 : Int) == x45)) && ((x18.2.1 : Int) == x41)) && ((x18.2.2 : Int) == x40))) rfl (by rw [h82]; simp only [Bool.true_and]) ?_
            refine sxo_nil ?_
            exact sxq_case (lk_cons rfl lk_nil)
          · refine sxo_take (os := _) rfl ?_
            refine sxo_isF (k := 155) rfl h82 ?_
            refine sxo_skip rfl rfl rfl ?_
            refine sxo_skip rfl rfl rfl ?_
            refine sxo_skip rfl rfl rfl ?_
            refine sxo_pick (b := false) rfl rfl rfl rfl ?_
            refine sxo_again (d := 159) (v := .bool ((((((((((x72 && ((x12.2.2 : Int) == x40)) && ((x16.1 : Int) == x61)) && ((x16.2.1 : Int) == x62)) && ((x16.2.2 : Int) == x59)) && ((x17.1 : Int) == x63)) && ((x17.2.1 : Int) == x64)) && ((x17.2.2 : Int) == x60)) && ((x18.1 : Int) == x45)) && ((x18.2.1 : Int) == x41)) && ((x18.2.2 : Int) == x40))) rfl (by rw [h82]; simp only [Bool.false_and]) ?_
            refine sxo_nil ?_
            exact sxq_case (lk_cons rfl lk_nil)
          refine sxo_take (os := _) rfl ?_
          refine sxo_assign rfl rfl rfl ?_
          refine sxo_nil ?_
          refine sxq_next ?_
          refine sxc_ret ?_
          exact sxq_doneP () (.inl rfl) (res1 rfl rfl) (fun h => by subst h; rfl) (fun h => by subst h; exact .nil)
end Go.Proofs.Ytjeaicfjildchaa
