/- Each Go function of this seat computes what its model says. -/
import Derived.Test.YtilaklhajonenaaRows
import Derived.Test.YtilaklhajonenaaModels
import Derived.Test.YtilaklhajonenaaShelf
namespace Go.Proofs.Ytilaklhajonenaa
open Go SX
def eN22 (p : List Int × (Option Addr × Nat)) : List Value := [.slice p.2.1 p.1.length p.2.2]
def iN22 (p : List Int × (Option Addr × Nat)) : List (World → Prop) := [Sl (eI .i64) 1 (.slice p.2.1 p.1.length p.2.2) p.1]
theorem eN22_ok : EncOk eN22 1 := ⟨fun _ => rfl, fun _ => rfl⟩
def rN22 (p : List Int × (Option Addr × Nat)) : List RowF := [FoR (eI .i64) 3 1 (.slice p.2.1 p.1.length p.2.2) p.1]
theorem rN22_in : ∀ p, iN22 p = (rN22 p).map RowF.cells := fun _ => rfl
theorem rN22_nil : ∀ f ∈ rN22 (([] : List Int), ((none, 0) : Option Addr × Nat)), f.v = .slice none 0 0 ∧ f.n = 0 ∧ f.cs = [] := by simp [rN22, FoR]
def eN25 (p : (Int × List Int) × (Option Addr × Nat)) : List Value := [.int .i64 p.1.1, .slice p.2.1 p.1.2.length p.2.2]
def iN25 (p : (Int × List Int) × (Option Addr × Nat)) : List (World → Prop) := [Sl (eI .u8) 1 (.slice p.2.1 p.1.2.length p.2.2) p.1.2]
theorem eN25_ok : EncOk eN25 2 := ⟨fun _ => rfl, fun _ => rfl⟩
def rN25 (p : (Int × List Int) × (Option Addr × Nat)) : List RowF := [FoR (eI .u8) 5 1 (.slice p.2.1 p.1.2.length p.2.2) p.1.2]
theorem rN25_in : ∀ p, iN25 p = (rN25 p).map RowF.cells := fun _ => rfl
theorem rN25_nil : ∀ f ∈ rN25 (((0 : Int), ([] : List Int)), ((none, 0) : Option Addr × Nat)), f.v = .slice none 0 0 ∧ f.n = 0 ∧ f.cs = [] := by simp [rN25, FoR]
def eN48 (p : (List Int × Int) × (Option Addr × Nat)) : List Value := [.slice p.2.1 p.1.1.length p.2.2, .int .i64 p.1.2]
def iN48 (p : (List Int × Int) × (Option Addr × Nat)) : List (World → Prop) := [Sl (eI .i64) 1 (.slice p.2.1 p.1.1.length p.2.2) p.1.1]
theorem eN48_ok : EncOk eN48 2 := ⟨fun _ => rfl, fun _ => rfl⟩
def rN48 (p : (List Int × Int) × (Option Addr × Nat)) : List RowF := [FoR (eI .i64) 3 1 (.slice p.2.1 p.1.1.length p.2.2) p.1.1]
theorem rN48_in : ∀ p, iN48 p = (rN48 p).map RowF.cells := fun _ => rfl
theorem rN48_nil : ∀ f ∈ rN48 ((([] : List Int), (0 : Int)), ((none, 0) : Option Addr × Nat)), f.v = .slice none 0 0 ∧ f.n = 0 ∧ f.cs = [] := by simp [rN48, FoR]
theorem tf3 : TyF Try.prog 3 false (.int .i64 0) 1 8 := .of (by kernel_rfl) (by kernel_rfl)
theorem tf5 : TyF Try.prog 5 false (.int .u8 0) 1 1 := .of (by kernel_rfl) (by kernel_rfl)
theorem tf22 : TyF Try.prog 22 false (.slice none 0 0) 1 24 := .of (by kernel_rfl) (by kernel_rfl)
theorem tf23 : TyF Try.prog 23 false (.slice none 0 0) 1 24 := .of (by kernel_rfl) (by kernel_rfl)
theorem tf25 : TyF Try.prog 25 true (.agg #[.int .i64 0, .slice none 0 0]) 2 32 := .of (by kernel_rfl) (by kernel_rfl)
theorem tf45 : TyF Try.prog 45 false (.slice none 0 0) 1 24 := .of (by kernel_rfl) (by kernel_rfl)
theorem tf48 : TyF Try.prog 48 true (.agg #[.slice none 0 0, .int .i64 0]) 2 32 := .of (by kernel_rfl) (by kernel_rfl)
theorem tf84 : TyF Try.prog 84 false (.pointer none) 1 8 := .of (by kernel_rfl) (by kernel_rfl)
theorem ff25_0 : FdF Try.prog 25 0 0 := .of (by kernel_rfl)
theorem ff25_1 : FdF Try.prog 25 1 1 := .of (by kernel_rfl)
theorem ff48_0 : FdF Try.prog 48 0 0 := .of (by kernel_rfl)
theorem ff48_1 : FdF Try.prog 48 1 1 := .of (by kernel_rfl)
theorem ff90_0 : FdF Try.prog 90 0 0 := .of (by kernel_rfl)
theorem st25 : StF Try.prog 25 [(0, 1), (1, 1)] (.agg #[.int .i64 0, .slice none 0 0]) := .of (by kernel_rfl) (by kernel_rfl)
theorem st48 : StF Try.prog 48 [(0, 1), (1, 1)] (.agg #[.slice none 0 0, .int .i64 0]) := .of (by kernel_rfl) (by kernel_rfl)
theorem st90 : StF Try.prog 90 [(0, 2)] (.agg #[.int .i64 0, .slice none 0 0]) := .of (by kernel_rfl) (by kernel_rfl)
theorem mixed : Try.prog.follows .mixedOrders = true := by kernel_rfl
theorem ent11 : Enters Try.prog 11 := enters_of Try.func11 rfl rfl
theorem ent12 : Enters Try.prog 12 := enters_of Try.func12 rfl rfl
theorem ent13 : Enters Try.prog 13 := enters_of Try.func13 rfl rfl
theorem ent14 : Enters Try.prog 14 := enters_of Try.func14 rfl rfl
theorem ent15 : Enters Try.prog 15 := enters_of Try.func15 rfl rfl
theorem ent16 : Enters Try.prog 16 := enters_of Try.func16 rfl rfl
theorem ent17 : Enters Try.prog 17 := enters_of Try.func17 rfl rfl
theorem ent18 : Enters Try.prog 18 := enters_of Try.func18 rfl rfl
theorem ent19 : Enters Try.prog 19 := enters_of Try.func19 rfl rfl
theorem ent20 : Enters Try.prog 20 := enters_of Try.func20 rfl rfl
theorem ent21 : Enters Try.prog 21 := enters_of Try.func21 rfl rfl
theorem ent24 : Enters Try.prog 24 := enters_of Try.func24 rfl rfl
theorem ent25 : Enters Try.prog 25 := enters_of Try.func25 rfl rfl
theorem ent26 : Enters Try.prog 26 := enters_of Try.func26 rfl rfl
theorem ent27 : Enters Try.prog 27 := enters_of Try.func27 rfl rfl
theorem ent28 : Enters Try.prog 28 := enters_of Try.func28 rfl rfl
theorem ent29 : Enters Try.prog 29 := enters_of Try.func29 rfl rfl
theorem ent30 : Enters Try.prog 30 := enters_of Try.func30 rfl rfl
theorem ent31 : Enters Try.prog 31 := enters_of Try.func31 rfl rfl
theorem ent32 : Enters Try.prog 32 := enters_of Try.func32 rfl rfl
theorem ent33 : Enters Try.prog 33 := enters_of Try.func33 rfl rfl
theorem ent34 : Enters Try.prog 34 := enters_of Try.func34 rfl rfl
theorem ent35 : Enters Try.prog 35 := enters_of Try.func35 rfl rfl
theorem ent36 : Enters Try.prog 36 := enters_of Try.func36 rfl rfl
theorem ent37 : Enters Try.prog 37 := enters_of Try.func37 rfl rfl
theorem ent38 : Enters Try.prog 38 := enters_of Try.func38 rfl rfl
theorem ent39 : Enters Try.prog 39 := enters_of Try.func39 rfl rfl
theorem ent40 : Enters Try.prog 40 := enters_of Try.func40 rfl rfl
theorem ent41 : Enters Try.prog 41 := enters_of Try.func41 rfl rfl
theorem ent42 : Enters Try.prog 42 := enters_of Try.func42 rfl rfl
theorem ent43 : Enters Try.prog 43 := enters_of Try.func43 rfl rfl
theorem ent44 : Enters Try.prog 44 := enters_of Try.func44 rfl rfl
theorem ent45 : Enters Try.prog 45 := enters_of Try.func45 rfl rfl
theorem ent48 : Enters Try.prog 48 := enters_of Try.func48 rfl rfl
theorem ent49 : Enters Try.prog 49 := enters_of Try.func49 rfl rfl
theorem ent50 : Enters Try.prog 50 := enters_of Try.func50 rfl rfl
theorem ent51 : Enters Try.prog 51 := enters_of Try.func51 rfl rfl
theorem ent52 : Enters Try.prog 52 := enters_of Try.func52 rfl rfl
theorem ent53 : Enters Try.prog 53 := enters_of Try.func53 rfl rfl
theorem ent54 : Enters Try.prog 54 := enters_of Try.func54 rfl rfl
theorem ent57 : Enters Try.prog 57 := enters_of Try.func57 rfl rfl
theorem ent58 : Enters Try.prog 58 := enters_of Try.func58 rfl rfl
theorem ent59 : Enters Try.prog 59 := enters_of Try.func59 rfl rfl
theorem ent60 : Enters Try.prog 60 := enters_of Try.func60 rfl rfl
theorem ent61 : Enters Try.prog 61 := enters_of Try.func61 rfl rfl
theorem ent62 : Enters Try.prog 62 := enters_of Try.func62 rfl rfl
theorem ent63 : Enters Try.prog 63 := enters_of Try.func63 rfl rfl
theorem ent64 : Enters Try.prog 64 := enters_of Try.func64 rfl rfl
theorem ent65 : Enters Try.prog 65 := enters_of Try.func65 rfl rfl
theorem ent66 : Enters Try.prog 66 := enters_of Try.func66 rfl rfl
theorem ent67 : Enters Try.prog 67 := enters_of Try.func67 rfl rfl
theorem ent68 : Enters Try.prog 68 := enters_of Try.func68 rfl rfl
theorem ent70 : Enters Try.prog 70 := enters_of Try.func70 rfl rfl
theorem ent71 : Enters Try.prog 71 := enters_of Try.func71 rfl rfl
theorem ent85 : Enters Try.prog 85 := enters_of Try.func85 rfl rfl
theorem ent86 : Enters Try.prog 86 := enters_of Try.func86 rfl rfl
theorem ent87 : Enters Try.prog 87 := enters_of Try.func87 rfl rfl
theorem ent88 : Enters Try.prog 88 := enters_of Try.func88 rfl rfl
theorem ent89 : Enters Try.prog 89 := enters_of Try.func89 rfl rfl
theorem ent90 : Enters Try.prog 90 := enters_of Try.func90 rfl rfl
theorem ent91 : Enters Try.prog 91 := enters_of Try.func91 rfl rfl
theorem sby85_86 (cb : Array Value) : SortsBy Try.prog 85 86 1 (fun l => l.getD 0 undef) cb :=
  sortsBy_1 fun _ _ enc h1 cf hO blk cap d w hc hH hb hsz hT => Go.Proofs.Any.slices_SortFunc_total Try.sortf85 enc h1 cf hO 86 cb blk 0 cap d w ent86 hc hH hb hsz hT

theorem C_huff_often (F : Nat) (x1 : Int) (r : Bool) (hm : M_huff_often F x1 = some r) :
    Pure Try.prog 50 [.int .i64 x1] [] Unit (fun _ => .bool r) (fun _ => []) (fun _ => []) := by
  refine pure_of Try.func50 rfl Try.ntmps50 rfl hm (fun w => ?_)
  refine sxc_env (l' := [(0, .int .i64 x1)]) rfl ?_
  refine sxc_seq ?_
  refine sxc_region ?_
  refine sxo_assign rfl rfl rfl ?_
  refine sxo_nil ?_
  refine sxq_next ?_
  refine sxc_seq ?_
  refine sxc_region ?_
  refine sxo_move rfl rfl rfl ?_
  refine sxo_geq rfl rfl rfl rfl ?_
  refine sxo_move rfl rfl rfl ?_
  refine sxo_case 3 (decide (0 ≤ x1)) [(8, .bool ((decide (0 ≤ x1)) && (decide (x1 ≤ 1048576))))] (fun h2 => ?_) (fun h2 => ?_) ?_
  · refine sxo_take (os := _) rfl ?_
    refine sxo_isT (k := 5) rfl h2 ?_
    refine sxo_move rfl rfl rfl ?_
    refine sxo_leq rfl rfl rfl rfl ?_
    refine sxo_pick (b := true) rfl rfl rfl rfl ?_
    refine sxo_again (d := 8) (v := .bool ((decide (0 ≤ x1)) && (decide (x1 ≤ 1048576)))) rfl (by rw [h2]; simp only [Bool.true_and]) ?_
    refine sxo_nil ?_
    exact sxq_case (lk_cons rfl lk_nil)
  · refine sxo_take (os := _) rfl ?_
    refine sxo_isF (k := 5) rfl h2 ?_
    refine sxo_skip rfl rfl rfl ?_
    refine sxo_skip rfl rfl rfl ?_
    refine sxo_pick (b := false) rfl rfl rfl rfl ?_
    refine sxo_again (d := 8) (v := .bool ((decide (0 ≤ x1)) && (decide (x1 ≤ 1048576)))) rfl (by rw [h2]; simp only [Bool.false_and]) ?_
    refine sxo_nil ?_
    exact sxq_case (lk_cons rfl lk_nil)
  refine sxo_take (os := _) rfl ?_
  refine sxo_assign rfl rfl rfl ?_
  refine sxo_nil ?_
  refine sxq_next ?_
  refine sxc_ret ?_
  exact sxq_doneP () (res1 rfl rfl)

theorem C_huff_check_1 (F : Nat) (x1 : Int) (r : Bool) (hm : M_huff_check_1 F x1 = some r) :
    Pure Try.prog 49 [.int .i64 x1] [] Unit (fun _ => .bool r) (fun _ => []) (fun _ => []) := by
  refine pure_of Try.func49 rfl Try.ntmps49 rfl hm (fun w => ?_)
  refine sxc_env (l' := [(0, .int .i64 x1)]) rfl ?_
  refine sxc_seq ?_
  refine sxc_region ?_
  refine sxo_assign rfl rfl rfl ?_
  refine sxo_nil ?_
  refine sxq_next ?_
  refine sxc_seq ?_
  refine sxc_region ?_
  refine sxo_move rfl rfl rfl ?_
  refine sxo_call ent50 rfl rfl rfl (fun x2 e2 => C_huff_often F x1 x2 e2) .nil (fun x2 e2 => ?_)
  intro _
  refine sxo_not rfl rfl rfl ?_
  refine sxo_assign rfl rfl rfl ?_
  refine sxo_nil ?_
  refine sxq_next ?_
  refine sxc_ret ?_
  exact sxq_doneP () (res1 rfl rfl)

theorem C_slices_IndexFunc_int_int_huff_check_1 (F : Nat) (x1 : List Int) (a2 : Option Addr) (c3 : Nat) (r : Int) (hm : M_slices_IndexFunc_int_int_huff_check_1 F x1 = some r) :
    Pure Try.prog 57 [.slice a2 x1.length c3, .func (.func 49) #[] #[]] [Sl (eI .i64) 1 (.slice a2 x1.length c3) x1] Unit (fun _ => .int .i64 r) (fun _ => []) (fun _ => []) := by
  refine pure_of Try.func57 rfl Try.ntmps57 rfl hm (fun w => ?_)
  refine sxc_env (l' := [(0, .slice a2 x1.length c3), (1, .func (.func 49) #[] #[])]) rfl ?_
  refine sxc_seq ?_
  refine sxc_region ?_
  refine sxo_assign rfl rfl rfl ?_
  refine sxo_nil ?_
  refine sxq_next ?_
  refine sxc_join (fun ((_, _) : (Unit × Unit)) => []) (fun ((_, _) : (Unit × Unit)) => []) (fun ((_, _) : (Unit × Unit)) => []) (fun ((_, _) : (Unit × Unit)) => []) (fun ((_, _) : (Unit × Unit)) => M_slices_IndexFunc_int_int_huff_check_1_j2 F) ?_ ?_
  · refine sxc_seq ?_
    refine sxc_region ?_
    refine sxo_move rfl rfl rfl ?_
    refine sxo_len rfl Try.underlying22 rfl rfl ?_
    refine sxo_move rfl rfl rfl ?_
    refine sxo_nil ?_
    refine sxq_next ?_
    refine sxc_block ?_
    refine sxc_loopP (fun ((x54, _) : (Int × Unit)) => [(0, .slice a2 x1.length c3), (1, .func (.func 49) #[] #[]), (7, .int .i64 (x1.length : Int)), (8, .int .i64 x54)]) (fun ((x54, _) : (Int × Unit)) => []) (fun ((x54, _) : (Int × Unit)) => []) (fun ((x54, _) : (Int × Unit)) => [Sl (eI .i64) 1 (.slice a2 x1.length c3) x1]) (fun k (s : (Int × Unit)) => M_slices_IndexFunc_int_int_huff_check_1_l3 F x1 k s.1) (0, ()) F ?_ (hF := (fk_cons 0 rfl fk_nil))
    intro k67
    rintro ⟨x54, _⟩
    try dsimp only
    refine sxc_meq (m' := M_slices_IndexFunc_int_int_huff_check_1_b3 F x1 (M_slices_IndexFunc_int_int_huff_check_1_l3 F x1 k67) x54) rfl ?_
    refine sxc_seq ?_
    refine sxc_region ?_
    refine sxo_lss rfl rfl rfl rfl ?_
    refine sxo_nil ?_
    refine sxq_next ?_
    refine sxc_seq ?_
    refine sxc_if rfl (fun h79 => ?_) (fun h79 => ?_)
    · refine sxc_skip ?_
      refine sxq_next ?_
      refine sxc_seq ?_
      refine sxc_block ?_
      refine sxc_seq ?_
      refine sxc_region ?_
      refine sxo_move rfl rfl rfl ?_
      refine sxo_assign rfl rfl rfl ?_
      refine sxo_nil ?_
      refine sxq_next ?_
      refine sxc_seq ?_
      refine sxc_region ?_
      refine sxo_move rfl rfl rfl ?_
      refine sxo_move rfl rfl rfl ?_
      refine sxo_move rfl rfl rfl ?_
      refine sxo_indexF (j := 0) (eI_ok .i64) (by decide) rfl Try.underlying22 tf3 rfl rfl rfl rfl (fun x74 e74 b75 o76 => ?_)
      refine sxo_loadF (j := 0) rfl rfl tf3 rfl rfl (fun _ => rfl) rfl rfl ?_
      refine sxo_callV ent49 rfl rfl rfl rfl (fun x77 e77 => C_huff_check_1 F x74 x77 e77) .nil (fun x77 e77 => ?_)
      intro _
      refine sxo_nil ?_
      refine sxq_next ?_
      refine sxc_if rfl (fun h78 => ?_) (fun h78 => ?_)
      · refine sxc_seq ?_
        refine sxc_region ?_
        refine sxo_move rfl rfl rfl ?_
        refine sxo_assign rfl rfl rfl ?_
        refine sxo_nil ?_
        refine sxq_next ?_
        refine sxc_ret ?_
        refine sxq_blkR ?_
        refine sxq_thenR ?_
        refine sxq_thenR ?_
        refine sxq_blkR ?_
        refine sxq_thenR ?_
        exact sxq_doneP () (res1 rfl rfl)
      · refine sxc_skip ?_
        refine sxq_blkN ?_
        refine sxq_next ?_
        refine sxc_region ?_
        refine sxo_add rfl rfl rfl rfl ?_
        refine sxo_move rfl rfl rfl ?_
        refine sxo_nil ?_
        exact sxq_againP (iadd .i64 x54 1, ()) (hF := (fk_cons 1 rfl fk_nil))
    · refine sxc_exit ?_
      refine sxq_thenX ?_
      refine sxq_thenX ?_
      refine sxq_blkX ?_
      exact sxq_meetP ((), ())
  · rintro ⟨_, _⟩
    try dsimp only
    refine sxc_seq ?_
    refine sxc_region ?_
    refine sxo_assign rfl rfl rfl ?_
    refine sxo_nil ?_
    refine sxq_next ?_
    refine sxc_ret ?_
    exact sxq_doneP () (res1 rfl rfl)

theorem C_slices_ContainsFunc_int_int_huff_check_1 (F : Nat) (x1 : List Int) (a2 : Option Addr) (c3 : Nat) (r : Bool) (hm : M_slices_ContainsFunc_int_int_huff_check_1 F x1 = some r) :
    Pure Try.prog 29 [.slice a2 x1.length c3, .func (.func 49) #[] #[]] [Sl (eI .i64) 1 (.slice a2 x1.length c3) x1] Unit (fun _ => .bool r) (fun _ => []) (fun _ => []) := by
  refine pure_of Try.func29 rfl Try.ntmps29 rfl hm (fun w => ?_)
  refine sxc_env (l' := [(0, .slice a2 x1.length c3), (1, .func (.func 49) #[] #[])]) rfl ?_
  refine sxc_seq ?_
  refine sxc_region ?_
  refine sxo_assign rfl rfl rfl ?_
  refine sxo_nil ?_
  refine sxq_next ?_
  refine sxc_seq ?_
  refine sxc_region ?_
  refine sxo_move rfl rfl rfl ?_
  refine sxo_move rfl rfl rfl ?_
  refine sxo_call ent57 rfl rfl rfl (fun x4 e4 => C_slices_IndexFunc_int_int_huff_check_1 F x1 a2 c3 x4 e4) (.consF 0 rfl .nil) (fun x4 e4 => ?_)
  intro _
  refine sxo_geq rfl rfl rfl rfl ?_
  refine sxo_assign rfl rfl rfl ?_
  refine sxo_nil ?_
  refine sxq_next ?_
  refine sxc_ret ?_
  exact sxq_doneP () (res1 rfl rfl)

theorem C_huff_check (F : Nat) (x1 : List Int) (a2 : Option Addr) (c3 : Nat) (r : Int) (hm : M_huff_check F x1 = some r) :
    Pure Try.prog 24 [.slice a2 x1.length c3] [Sl (eI .i64) 1 (.slice a2 x1.length c3) x1] Unit (fun _ => .int .i64 r) (fun _ => []) (fun _ => []) := by
  refine pure_of Try.func24 rfl Try.ntmps24 rfl hm (fun w => ?_)
  refine sxc_env (l' := [(0, .slice a2 x1.length c3)]) rfl ?_
  refine sxc_seq ?_
  refine sxc_region ?_
  refine sxo_assign rfl rfl rfl ?_
  refine sxo_nil ?_
  refine sxq_next ?_
  refine sxc_seq ?_
  refine sxc_block ?_
  refine sxc_seq ?_
  refine sxc_region ?_
  refine sxo_move rfl rfl rfl ?_
  refine sxo_len rfl Try.underlying22 rfl rfl ?_
  refine sxo_gtr rfl rfl rfl rfl ?_
  refine sxo_assign rfl rfl rfl ?_
  refine sxo_nil ?_
  refine sxq_next ?_
  refine sxc_if rfl (fun h9 => ?_) (fun h9 => ?_)
  · refine sxc_seq ?_
    refine sxc_region ?_
    refine sxo_assign rfl rfl rfl ?_
    refine sxo_nil ?_
    refine sxq_next ?_
    refine sxc_ret ?_
    refine sxq_blkR ?_
    refine sxq_thenR ?_
    exact sxq_doneP () (res1 rfl rfl)
  · refine sxc_seq ?_
    refine sxc_region ?_
    refine sxo_move rfl rfl rfl ?_
    refine sxo_call ent29 rfl rfl rfl (fun x7 e7 => C_slices_ContainsFunc_int_int_huff_check_1 F x1 a2 c3 x7 e7) (.consF 0 rfl .nil) (fun x7 e7 => ?_)
    intro _
    refine sxo_assign rfl rfl rfl ?_
    refine sxo_nil ?_
    refine sxq_next ?_
    refine sxc_if rfl (fun h8 => ?_) (fun h8 => ?_)
    · refine sxc_seq ?_
      refine sxc_region ?_
      refine sxo_assign rfl rfl rfl ?_
      refine sxo_nil ?_
      refine sxq_next ?_
      refine sxc_ret ?_
      refine sxq_blkR ?_
      refine sxq_thenR ?_
      exact sxq_doneP () (res1 rfl rfl)
    · refine sxc_skip ?_
      refine sxq_blkN ?_
      refine sxq_next ?_
      refine sxc_seq ?_
      refine sxc_region ?_
      refine sxo_assign rfl rfl rfl ?_
      refine sxo_nil ?_
      refine sxq_next ?_
      refine sxc_ret ?_
      exact sxq_doneP () (res1 rfl rfl)

theorem C_cmp_Or_int (F : Nat) (x1 : List Int) (a2 : Option Addr) (c3 : Nat) (r : Int) (hm : M_cmp_Or_int F x1 = some r) :
    Pure Try.prog 70 [.slice a2 x1.length c3] [Sl (eI .i64) 1 (.slice a2 x1.length c3) x1] Unit (fun _ => .int .i64 r) (fun _ => []) (fun _ => []) := by
  refine pure_of Try.func70 rfl Try.ntmps70 rfl hm (fun w => ?_)
  refine sxc_env (l' := [(0, .slice a2 x1.length c3)]) rfl ?_
  refine sxc_seq ?_
  refine sxc_region ?_
  refine sxo_assign rfl rfl rfl ?_
  refine sxo_nil ?_
  refine sxq_next ?_
  refine sxc_seq ?_
  refine sxc_region ?_
  refine sxo_assign rfl rfl rfl ?_
  refine sxo_nil ?_
  refine sxq_next ?_
  refine sxc_join (fun ((_, _) : (Unit × Unit)) => [(3, .int .i64 0)]) (fun ((_, _) : (Unit × Unit)) => []) (fun ((_, _) : (Unit × Unit)) => []) (fun ((_, _) : (Unit × Unit)) => []) (fun ((_, _) : (Unit × Unit)) => M_cmp_Or_int_j2 F) ?_ ?_
  · refine sxc_seq ?_
    refine sxc_region ?_
    refine sxo_move rfl rfl rfl ?_
    refine sxo_len rfl Try.underlying22 rfl rfl ?_
    refine sxo_move rfl rfl rfl ?_
    refine sxo_nil ?_
    refine sxq_next ?_
    refine sxc_block ?_
    refine sxc_loopP (fun ((x46, _) : (Int × Unit)) => [(3, .int .i64 0), (6, .slice a2 x1.length c3), (7, .int .i64 (x1.length : Int)), (8, .int .i64 x46)]) (fun ((x46, _) : (Int × Unit)) => []) (fun ((x46, _) : (Int × Unit)) => []) (fun ((x46, _) : (Int × Unit)) => [Sl (eI .i64) 1 (.slice a2 x1.length c3) x1]) (fun k (s : (Int × Unit)) => M_cmp_Or_int_l3 F x1 k s.1) (0, ()) F ?_ (hF := (fk_cons 0 rfl fk_nil))
    intro k57
    rintro ⟨x46, _⟩
    try dsimp only
    refine sxc_meq (m' := M_cmp_Or_int_b3 F x1 (M_cmp_Or_int_l3 F x1 k57) x46) rfl ?_
    refine sxc_seq ?_
    refine sxc_region ?_
    refine sxo_lss rfl rfl rfl rfl ?_
    refine sxo_nil ?_
    refine sxq_next ?_
    refine sxc_seq ?_
    refine sxc_if rfl (fun h67 => ?_) (fun h67 => ?_)
    · refine sxc_skip ?_
      refine sxq_next ?_
      refine sxc_seq ?_
      refine sxc_block ?_
      refine sxc_seq ?_
      refine sxc_region ?_
      refine sxo_indexF (j := 0) (eI_ok .i64) (by decide) rfl Try.underlying22 tf3 rfl rfl rfl rfl (fun x63 e63 b64 o65 => ?_)
      refine sxo_loadF (j := 0) rfl rfl tf3 rfl rfl (fun _ => rfl) rfl rfl ?_
      refine sxo_assign rfl rfl rfl ?_
      refine sxo_nil ?_
      refine sxq_next ?_
      refine sxc_seq ?_
      refine sxc_region ?_
      refine sxo_move rfl rfl rfl ?_
      refine sxo_move rfl rfl rfl ?_
      refine sxo_neq rfl rfl rfl rfl ?_
      refine sxo_nil ?_
      refine sxq_next ?_
      refine sxc_if rfl (fun h66 => ?_) (fun h66 => ?_)
      · refine sxc_seq ?_
        refine sxc_region ?_
        refine sxo_move rfl rfl rfl ?_
        refine sxo_assign rfl rfl rfl ?_
        refine sxo_nil ?_
        refine sxq_next ?_
        refine sxc_ret ?_
        refine sxq_blkR ?_
        refine sxq_thenR ?_
        refine sxq_thenR ?_
        refine sxq_blkR ?_
        refine sxq_thenR ?_
        exact sxq_doneP () (res1 rfl rfl)
      · refine sxc_skip ?_
        refine sxq_blkN ?_
        refine sxq_next ?_
        refine sxc_region ?_
        refine sxo_add rfl rfl rfl rfl ?_
        refine sxo_move rfl rfl rfl ?_
        refine sxo_nil ?_
        exact sxq_againP (iadd .i64 x46 1, ()) (hF := (fk_cons 1 rfl fk_nil))
    · refine sxc_exit ?_
      refine sxq_thenX ?_
      refine sxq_thenX ?_
      refine sxq_blkX ?_
      exact sxq_meetP ((), ())
  · rintro ⟨_, _⟩
    try dsimp only
    refine sxc_seq ?_
    refine sxc_region ?_
    refine sxo_move rfl rfl rfl ?_
    refine sxo_assign rfl rfl rfl ?_
    refine sxo_nil ?_
    refine sxq_next ?_
    refine sxc_ret ?_
    exact sxq_doneP () (res1 rfl rfl)

theorem C_cmp_isNaN_int (F : Nat) (x1 : Int) (r : Bool) (hm : M_cmp_isNaN_int F x1 = some r) :
    Pure Try.prog 91 [.int .i64 x1] [] Unit (fun _ => .bool r) (fun _ => []) (fun _ => []) := by
  refine pure_of Try.func91 rfl Try.ntmps91 rfl hm (fun w => ?_)
  refine sxc_env (l' := [(0, .int .i64 x1)]) rfl ?_
  refine sxc_seq ?_
  refine sxc_region ?_
  refine sxo_assign rfl rfl rfl ?_
  refine sxo_nil ?_
  refine sxq_next ?_
  refine sxc_seq ?_
  refine sxc_region ?_
  refine sxo_move rfl rfl rfl ?_
  refine sxo_move rfl rfl rfl ?_
  refine sxo_neq rfl rfl rfl rfl ?_
  refine sxo_assign rfl rfl rfl ?_
  refine sxo_nil ?_
  refine sxq_next ?_
  refine sxc_ret ?_
  exact sxq_doneP () (res1 rfl rfl)

theorem C_cmp_Compare_int (F : Nat) (x1 : Int) (x2 : Int) (r : Int) (hm : M_cmp_Compare_int F x1 x2 = some r) :
    Pure Try.prog 71 [.int .i64 x1, .int .i64 x2] [] Unit (fun _ => .int .i64 r) (fun _ => []) (fun _ => []) := by
  refine pure_of Try.func71 rfl Try.ntmps71 rfl hm (fun w => ?_)
  refine sxc_env (l' := [(0, .int .i64 x1), (1, .int .i64 x2)]) rfl ?_
  refine sxc_seq ?_
  refine sxc_region ?_
  refine sxo_assign rfl rfl rfl ?_
  refine sxo_nil ?_
  refine sxq_next ?_
  refine sxc_seq ?_
  refine sxc_region ?_
  refine sxo_move rfl rfl rfl ?_
  refine sxo_call ent91 rfl rfl rfl (fun x3 e3 => C_cmp_isNaN_int F x1 x3 e3) .nil (fun x3 e3 => ?_)
  intro _
  refine sxo_assign rfl rfl rfl ?_
  refine sxo_nil ?_
  refine sxq_next ?_
  refine sxc_seq ?_
  refine sxc_region ?_
  refine sxo_move rfl rfl rfl ?_
  refine sxo_call ent91 rfl rfl rfl (fun x4 e4 => C_cmp_isNaN_int F x2 x4 e4) .nil (fun x4 e4 => ?_)
  intro _
  refine sxo_assign rfl rfl rfl ?_
  refine sxo_nil ?_
  refine sxq_next ?_
  refine sxc_seq ?_
  refine sxc_seq ?_
  refine sxc_region ?_
  refine sxo_move rfl rfl rfl ?_
  refine sxo_nil ?_
  refine sxq_next ?_
  refine sxc_if rfl (fun h16 => ?_) (fun h16 => ?_)
  · refine sxc_seq ?_
    refine sxc_seq ?_
    refine sxc_region ?_
    refine sxo_move rfl rfl rfl ?_
    refine sxo_nil ?_
    refine sxq_next ?_
    refine sxc_if rfl (fun h9 => ?_) (fun h9 => ?_)
    · refine sxc_seq ?_
      refine sxc_region ?_
      refine sxo_assign rfl rfl rfl ?_
      refine sxo_nil ?_
      refine sxq_next ?_
      refine sxc_ret ?_
      refine sxq_thenR ?_
      refine sxq_thenR ?_
      exact sxq_doneP () (res1 rfl rfl)
    · refine sxc_skip ?_
      refine sxq_next ?_
      refine sxc_seq ?_
      refine sxc_region ?_
      refine sxo_assign rfl rfl rfl ?_
      refine sxo_nil ?_
      refine sxq_next ?_
      refine sxc_ret ?_
      refine sxq_thenR ?_
      exact sxq_doneP () (res1 rfl rfl)
  · refine sxc_skip ?_
    refine sxq_next ?_
    refine sxc_seq ?_
    refine sxc_seq ?_
    refine sxc_region ?_
    refine sxo_move rfl rfl rfl ?_
    refine sxo_nil ?_
    refine sxq_next ?_
    refine sxc_if rfl (fun h15 => ?_) (fun h15 => ?_)
    · refine sxc_seq ?_
      refine sxc_region ?_
      refine sxo_assign rfl rfl rfl ?_
      refine sxo_nil ?_
      refine sxq_next ?_
      refine sxc_ret ?_
      refine sxq_thenR ?_
      exact sxq_doneP () (res1 rfl rfl)
    · refine sxc_skip ?_
      refine sxq_next ?_
      refine sxc_seq ?_
      refine sxc_seq ?_
      refine sxc_region ?_
      refine sxo_move rfl rfl rfl ?_
      refine sxo_move rfl rfl rfl ?_
      refine sxo_lss rfl rfl rfl rfl ?_
      refine sxo_nil ?_
      refine sxq_next ?_
      refine sxc_if rfl (fun h14 => ?_) (fun h14 => ?_)
      · refine sxc_seq ?_
        refine sxc_region ?_
        refine sxo_assign rfl rfl rfl ?_
        refine sxo_nil ?_
        refine sxq_next ?_
        refine sxc_ret ?_
        refine sxq_thenR ?_
        exact sxq_doneP () (res1 rfl rfl)
      · refine sxc_skip ?_
        refine sxq_next ?_
        refine sxc_seq ?_
        refine sxc_seq ?_
        refine sxc_region ?_
        refine sxo_move rfl rfl rfl ?_
        refine sxo_move rfl rfl rfl ?_
        refine sxo_gtr rfl rfl rfl rfl ?_
        refine sxo_nil ?_
        refine sxq_next ?_
        refine sxc_if rfl (fun h13 => ?_) (fun h13 => ?_)
        · refine sxc_seq ?_
          refine sxc_region ?_
          refine sxo_assign rfl rfl rfl ?_
          refine sxo_nil ?_
          refine sxq_next ?_
          refine sxc_ret ?_
          refine sxq_thenR ?_
          exact sxq_doneP () (res1 rfl rfl)
        · refine sxc_skip ?_
          refine sxq_next ?_
          refine sxc_seq ?_
          refine sxc_region ?_
          refine sxo_assign rfl rfl rfl ?_
          refine sxo_nil ?_
          refine sxq_next ?_
          refine sxc_ret ?_
          exact sxq_doneP () (res1 rfl rfl)

theorem C_huff_order (F : Nat) (x1 : List Int) (a2 : Option Addr) (c3 : Nat) (x4 : Int) (x5 : List Int) (a6 : Option Addr) (c7 : Nat) (x8 : Int) (r : Int) (hm : M_huff_order F x1 x4 x5 x8 = some r) :
    Pure Try.prog 52 [.agg #[.slice a2 x1.length c3, .int .i64 x4], .agg #[.slice a6 x5.length c7, .int .i64 x8]] [Sl (eI .i64) 1 (.slice a2 x1.length c3) x1, Sl (eI .i64) 1 (.slice a6 x5.length c7) x5] Unit (fun _ => .int .i64 r) (fun _ => []) (fun _ => []) := by
  refine pure_of Try.func52 rfl Try.ntmps52 rfl hm (fun w => ?_)
  refine sxc_env (l' := [(0, .agg #[.slice a2 x1.length c3, .int .i64 x4]), (1, .agg #[.slice a6 x5.length c7, .int .i64 x8])]) rfl ?_
  refine sxc_seq ?_
  refine sxc_region ?_
  refine sxo_box rfl rfl rfl (fun g9 => ?_)
  refine sxo_box rfl rfl rfl (fun g10 => ?_)
  refine sxo_assign rfl rfl rfl ?_
  refine sxo_nil ?_
  refine sxq_next ?_
  refine sxc_seq ?_
  refine sxc_idxF (j := 0) (eI_ok .i64) (by decide) rfl (fun x24 e24 b25 o26 h27 => ?_)
  replace h27 : a2 = some ⟨b25, o26, none⟩ := h27
  refine sxc_idxF (j := 2) (eI_ok .i64) (by decide) rfl (fun x28 e28 b29 o30 h31 => ?_)
  replace h31 : a6 = some ⟨b29, o30, none⟩ := h31
  refine sxb_draw mixed [] [⟨g10, 48, [.slice a6 x5.length c7, .int .i64 x8]⟩, ⟨g9, 48, [.slice a2 x1.length c3, .int .i64 x4]⟩] [CellsAt b29 (o30 + (0 : Int).toNat * 1) ((eI .i64) x28), CellsAt b25 (o26 + (0 : Int).toNat * 1) ((eI .i64) x24), Sl (eI .i64) 1 (.slice a2 x1.length c3) x1, Sl (eI .i64) 1 (.slice a6 x5.length c7) x5] (.cons 0 rfl (.cons 0 rfl .nil)) (gk_F 0 rfl (gk_F 1 rfl (gk_F 2 rfl (gk_F 3 rfl gk_nil)))) 17 rfl ?_
  refine sxb_takeP 0 (.pointer (some ⟨g9, 1, none⟩)) rfl rfl rfl (yv_fieldAddr rfl ff48_1) ?_
  refine sxb_takeB 1 (.int .i64 x4) rfl rfl rfl (yv_loadB (i := 1) rfl tf3 rfl rfl (fun _ => rfl) rfl) ?_
  refine sxb_takeP 2 (.pointer (some ⟨g10, 1, none⟩)) rfl rfl rfl (yv_fieldAddr rfl ff48_1) ?_
  refine sxb_takeB 3 (.int .i64 x8) rfl rfl rfl (yv_loadB (i := 0) rfl tf3 rfl rfl (fun _ => rfl) rfl) ?_
  refine sxb_takeP 5 (.pointer (some ⟨g9, 0, none⟩)) rfl rfl rfl (yv_fieldAddr rfl ff48_0) ?_
  refine sxb_takeB 6 (.slice a2 x1.length c3) rfl rfl rfl (yv_loadB (i := 1) rfl tf22 rfl rfl (fun _ => rfl) rfl) ?_
  refine sxb_again (d := 11) (v := .slice (some ⟨b25, o26, none⟩) x1.length c3) rfl (by rw [h27] <;> rfl) ?_
  refine sxb_takeP 7 (.pointer (some ⟨b25, (o26 + (0 : Int).toNat * 1), none⟩)) rfl rfl rfl (yv_idx Try.underlying22 tf3 rfl rfl (idx_get e24).1 (idx_lt e24)) ?_
  refine sxb_again (d := 11) (v := .slice a2 x1.length c3) rfl (by rw [h27] <;> rfl) ?_
  refine sxb_take 8 (.int .i64 x24) [] rfl rfl rfl (yv_loadF (j := 1) rfl tf3 rfl rfl (fun _ => rfl) rfl) ?_
  refine sxb_takeP 9 (.pointer (some ⟨g10, 0, none⟩)) rfl rfl rfl (yv_fieldAddr rfl ff48_0) ?_
  refine sxb_takeB 10 (.slice a6 x5.length c7) rfl rfl rfl (yv_loadB (i := 0) rfl tf22 rfl rfl (fun _ => rfl) rfl) ?_
  refine sxb_again (d := 15) (v := .slice (some ⟨b29, o30, none⟩) x5.length c7) rfl (by rw [h31] <;> rfl) ?_
  refine sxb_takeP 11 (.pointer (some ⟨b29, (o30 + (0 : Int).toNat * 1), none⟩)) rfl rfl rfl (yv_idx Try.underlying22 tf3 rfl rfl (idx_get e28).1 (idx_lt e28)) ?_
  refine sxb_again (d := 15) (v := .slice a6 x5.length c7) rfl (by rw [h31] <;> rfl) ?_
  refine sxb_take 12 (.int .i64 x28) [] rfl rfl rfl (yv_loadF (j := 0) rfl tf3 rfl rfl (fun _ => rfl) rfl) ?_
  refine sxb_step 4 rfl (by kernel_rfl) rfl ?_
  refine sxo_call ent71 rfl rfl rfl (fun x32 e32 => C_cmp_Compare_int F x4 x8 x32 e32) .nil (fun x32 e32 => ?_)
  intro _
  refine sxo_nil ?_
  refine sxq_anyB (.cons 0 rfl (.cons 0 rfl .nil)) (gk_F 0 rfl (gk_F 1 rfl (gk_F 2 rfl (gk_F 3 rfl gk_nil)))) ?_
  refine sxb_step 13 rfl (by kernel_rfl) rfl ?_
  refine sxo_call ent71 rfl rfl rfl (fun x33 e33 => C_cmp_Compare_int F x24 x28 x33 e33) .nil (fun x33 e33 => ?_)
  intro _
  refine sxo_nil ?_
  refine sxq_anyB (.cons 0 rfl (.cons 0 rfl .nil)) (gk_F 0 rfl (gk_F 1 rfl (gk_F 2 rfl (gk_F 3 rfl gk_nil)))) ?_
  refine sxb_step 14 rfl (by kernel_rfl) rfl ?_
  refine sxo_slit (vs := [.int .i64 x32, .int .i64 x33]) (ys := ([x32, x33] : List Int)) (eI_ok .i64) (by decide) rfl Try.underlying22 tf3 rfl rfl rfl rfl rfl (by decide) (fun a34 c35 => ?_)
  refine sxo_nil ?_
  refine sxq_anyB (.cons 0 rfl (.cons 0 rfl .nil)) (gk_F 0 rfl (gk_F 1 rfl (gk_F 2 rfl (gk_F 3 rfl gk_nil)))) ?_
  refine sxb_step 15 rfl (by kernel_rfl) rfl ?_
  refine sxo_call ent70 rfl rfl rfl (fun x36 e36 => C_cmp_Or_int F ([x32, x33] : List Int) a34 c35 x36 e36) (.consR 0 (Ro (eI .i64) 3 1 (.slice a34 ([x32, x33] : List Int).length c35) ([x32, x33] : List Int)) rfl .nil) (fun x36 e36 => ?_)
  intro _
  refine sxo_nil ?_
  refine sxq_anyB (.cons 0 rfl (.cons 0 rfl .nil)) (gk_F 0 rfl (gk_F 1 rfl (gk_F 2 rfl (gk_F 3 rfl gk_nil)))) ?_
  refine sxb_takeP 16 (.int .i64 x36) rfl rfl rfl (yv_pv rfl) ?_
  refine sxb_done (by kernel_rfl) ?_
  refine sxq_np ?_ (by intro c h; cases h)
  refine sxq_next ?_
  refine sxc_ret ?_
  exact sxq_doneP () (res1 rfl rfl)

theorem C_slices_BinarySearchFunc_huff_heap_huff_group_huff_group_huff_order (F : Nat) (x1 : List (List Int × Int)) (a2 : Option Addr) (c3 : (Nat × List (Option Addr × Nat))) (x4 : List Int) (a5 : Option Addr) (c6 : Nat) (x7 : Int) (r : (Int × Bool)) (hm : M_slices_BinarySearchFunc_huff_heap_huff_group_huff_group_huff_order F x1 x4 x7 = some r) :
    Pure Try.prog 51 [.slice a2 x1.length c3.1, .agg #[.slice a5 x4.length c6, .int .i64 x7], .func (.func 52) #[] #[]] [SlN eN48 iN48 2 (.slice a2 x1.length c3.1) x1 c3.2, Sl (eI .i64) 1 (.slice a5 x4.length c6) x4] Unit (fun _ => .tuple #[.int .i64 r.1, .bool r.2]) (fun _ => []) (fun _ => []) := by
  refine pure_of Try.func51 rfl Try.ntmps51 rfl hm (fun w => ?_)
  refine sxc_env (l' := [(0, .slice a2 x1.length c3.1), (1, .agg #[.slice a5 x4.length c6, .int .i64 x7]), (2, .func (.func 52) #[] #[])]) rfl ?_
  refine sxc_seq ?_
  refine sxc_region ?_
  refine sxo_box rfl rfl rfl (fun g8 => ?_)
  refine sxo_assign rfl rfl rfl ?_
  refine sxo_assign rfl rfl rfl ?_
  refine sxo_nil ?_
  refine sxq_next ?_
  refine sxc_seq ?_
  refine sxc_region ?_
  refine sxo_move rfl rfl rfl ?_
  refine sxo_len rfl Try.underlying45 rfl rfl ?_
  refine sxo_assign rfl rfl rfl ?_
  refine sxo_nil ?_
  refine sxq_next ?_
  refine sxc_seq ?_
  refine sxc_region ?_
  refine sxo_move rfl rfl rfl ?_
  refine sxo_assign rfl rfl rfl ?_
  refine sxo_assign rfl rfl rfl ?_
  refine sxo_nil ?_
  refine sxq_next ?_
  refine sxc_join (fun ((x60, _) : (Int × Unit)) => [(0, .slice a2 x1.length c3.1), (2, .func (.func 52) #[] #[]), (4, .pointer (some ⟨g8, 0, none⟩)), (8, .int .i64 (x1.length : Int)), (9, .int .i64 x60)]) (fun ((x60, _) : (Int × Unit)) => [⟨g8, 48, [.slice a5 x4.length c6, .int .i64 x7]⟩]) (fun ((x60, _) : (Int × Unit)) => []) (fun ((x60, _) : (Int × Unit)) => [SlN eN48 iN48 2 (.slice a2 x1.length c3.1) x1 c3.2, Sl (eI .i64) 1 (.slice a5 x4.length c6) x4]) (fun ((x60, _) : (Int × Unit)) => M_slices_BinarySearchFunc_huff_heap_huff_group_huff_group_huff_order_j2 F x1 x4 x7 x60) ?_ ?_
  · refine sxc_block ?_
    refine sxc_loopP (fun (((x92, x93), _) : ((Int × Int) × Unit)) => [(0, .slice a2 x1.length c3.1), (2, .func (.func 52) #[] #[]), (4, .pointer (some ⟨g8, 0, none⟩)), (8, .int .i64 (x1.length : Int)), (9, .int .i64 x92), (10, .int .i64 x93)]) (fun (((x92, x93), _) : ((Int × Int) × Unit)) => [⟨g8, 48, [.slice a5 x4.length c6, .int .i64 x7]⟩]) (fun (((x92, x93), _) : ((Int × Int) × Unit)) => []) (fun (((x92, x93), _) : ((Int × Int) × Unit)) => [SlN eN48 iN48 2 (.slice a2 x1.length c3.1) x1 c3.2, Sl (eI .i64) 1 (.slice a5 x4.length c6) x4]) (fun k (s : ((Int × Int) × Unit)) => M_slices_BinarySearchFunc_huff_heap_huff_group_huff_group_huff_order_l4 F x1 x4 x7 k s.1) ((0, (x1.length : Int)), ()) F ?_ (hB := (.cons 0 rfl .nil)) (hF := (fk_cons 0 rfl (fk_cons 1 rfl fk_nil)))
    intro k110
    rintro ⟨⟨x92, x93⟩, _⟩
    try dsimp only
    refine sxc_meq (m' := M_slices_BinarySearchFunc_huff_heap_huff_group_huff_group_huff_order_b4 F x1 x4 x7 (M_slices_BinarySearchFunc_huff_heap_huff_group_huff_group_huff_order_l4 F x1 x4 x7 k110) x92 x93) rfl ?_
    refine sxc_seq ?_
    refine sxc_seq ?_
    refine sxc_region ?_
    refine sxo_move rfl rfl rfl ?_
    refine sxo_move rfl rfl rfl ?_
    refine sxo_lss rfl rfl rfl rfl ?_
    refine sxo_nil ?_
    refine sxq_next ?_
    refine sxc_if rfl (fun h126 => ?_) (fun h126 => ?_)
    · refine sxc_skip ?_
      refine sxq_next ?_
      refine sxc_block ?_
      refine sxc_seq ?_
      refine sxc_region ?_
      refine sxo_move rfl rfl rfl ?_
      refine sxo_move rfl rfl rfl ?_
      refine sxo_add rfl rfl rfl rfl ?_
      refine sxo_conv rfl Try.underlying3 Try.underlying79 rfl rfl ?_
      refine sxo_shr rfl rfl rfl rfl rfl ?_
      refine sxo_conv rfl Try.underlying79 Try.underlying3 rfl rfl ?_
      refine sxo_assign rfl rfl rfl ?_
      refine sxo_lett (fun x112 e112 => ?_)
      refine sxo_again (d := 11) (v := .int .i64 x112) rfl (by rw [e112] <;> rfl) ?_
      refine sxo_nil ?_
      refine sxq_next ?_
      refine sxc_seq ?_
      refine sxc_idxN (j := 0) eN48_ok (by decide) rfl (fun x119 e119 g123 b120 o121 h122 => ?_)
      replace h122 : a2 = some ⟨b120, o121, none⟩ := h122
      refine sxb_draw mixed [] [⟨g8, 48, [.slice a5 x4.length c6, .int .i64 x7]⟩] [CellsAt b120 (o121 + x112.toNat * 2) (eN48 (x119, g123)), Sl (eI .i64) 1 (.slice g123.1 x119.1.length g123.2) x119.1, SlN eN48 iN48 2 (.slice a2 x1.length c3.1) x1 c3.2, Sl (eI .i64) 1 (.slice a5 x4.length c6) x4] (.cons 0 rfl .nil) (gk_F 0 rfl (gk_F 1 rfl (gk_F 2 rfl (gk_F 3 rfl gk_nil)))) 8 rfl ?_
      refine sxb_takeP 0 (.func (.func 52) #[] #[]) rfl rfl rfl (yv_pv rfl) ?_
      refine sxb_takeP 1 (.slice a2 x1.length c3.1) rfl rfl rfl (yv_pv rfl) ?_
      refine sxb_takeP 2 (.int .i64 x112) rfl rfl rfl (yv_pv rfl) ?_
      refine sxb_again (d := 25) (v := .slice (some ⟨b120, o121, none⟩) x1.length c3.1) rfl (by rw [h122] <;> rfl) ?_
      refine sxb_takeP 3 (.pointer (some ⟨b120, (o121 + x112.toNat * 2), none⟩)) rfl rfl rfl (yv_idx Try.underlying45 tf48 rfl rfl (idx_get e119).1 (idx_lt e119)) ?_
      refine sxb_again (d := 25) (v := .slice a2 x1.length c3.1) rfl (by rw [h122] <;> rfl) ?_
      refine sxb_take 4 (.agg #[.slice g123.1 x119.1.length g123.2, .int .i64 x119.2]) [] rfl rfl rfl (yv_loadF (j := 0) rfl tf48 rfl rfl (by simp) rfl) ?_
      refine sxb_takeB 5 (.agg #[.slice a5 x4.length c6, .int .i64 x7]) rfl rfl rfl (yv_loadB (i := 0) rfl tf48 rfl rfl (by simp) rfl) ?_
      refine sxb_step 6 rfl (by kernel_rfl) rfl ?_
      refine sxo_callV ent52 rfl rfl rfl rfl (fun x124 e124 => C_huff_order F x119.1 g123.1 g123.2 x119.2 x4 a5 c6 x7 x124 e124) (.consF 1 rfl (.consF 3 rfl .nil)) (fun x124 e124 => ?_)
      intro _
      refine sxo_nil ?_
      refine sxq_anyB (.cons 0 rfl .nil) (gk_F 0 rfl (gk_F 1 rfl (gk_F 2 rfl (gk_F 3 rfl gk_nil)))) ?_
      refine sxb_takeP 7 (.bool (decide (x124 < 0))) rfl rfl rfl (yv_pv rfl) ?_
      refine sxb_done (by kernel_rfl) ?_
      refine sxq_np ?_ (by intro c h; cases h)
      refine sxq_next ?_
      refine sxc_if rfl (fun h125 => ?_) (fun h125 => ?_)
      · refine sxc_region ?_
        refine sxo_move rfl rfl rfl ?_
        refine sxo_add rfl rfl rfl rfl ?_
        refine sxo_assign rfl rfl rfl ?_
        refine sxo_nil ?_
        refine sxq_blkN ?_
        exact sxq_againP ((iadd .i64 x112 1, x93), ()) (hB := (.cons 0 rfl .nil)) (hF := (fk_cons 2 rfl (fk_cons 3 rfl fk_nil)))
      · refine sxc_region ?_
        refine sxo_move rfl rfl rfl ?_
        refine sxo_assign rfl rfl rfl ?_
        refine sxo_nil ?_
        refine sxq_blkN ?_
        exact sxq_againP ((x92, x112), ()) (hB := (.cons 0 rfl .nil)) (hF := (fk_cons 2 rfl (fk_cons 3 rfl fk_nil)))
    · refine sxc_exit ?_
      refine sxq_thenX ?_
      refine sxq_thenX ?_
      refine sxq_blkX ?_
      exact sxq_meetP (x92, ()) (hB := (.cons 0 rfl .nil)) (hF := (fk_cons 0 rfl (fk_cons 1 rfl fk_nil)))
  · rintro ⟨x60, _⟩
    try dsimp only
    refine sxc_join (fun ((x68, _) : (Bool × Unit)) => [(6, .int .i64 x60), (7, .bool x68)]) (fun ((x68, _) : (Bool × Unit)) => []) (fun ((x68, _) : (Bool × Unit)) => []) (fun ((x68, _) : (Bool × Unit)) => []) (fun ((x68, _) : (Bool × Unit)) => M_slices_BinarySearchFunc_huff_heap_huff_group_huff_group_huff_order_j3 F x60 x68) ?_ ?_
    · refine sxc_split (fun h69 => ?_) (fun h69 => ?_)
      · refine sxc_idxN (j := 0) eN48_ok (by decide) rfl (fun x70 e70 g74 b71 o72 h73 => ?_)
        replace h73 : a2 = some ⟨b71, o72, none⟩ := h73
        refine sxb_draw mixed [] [⟨g8, 48, [.slice a5 x4.length c6, .int .i64 x7]⟩] [CellsAt b71 (o72 + x60.toNat * 2) (eN48 (x70, g74)), Sl (eI .i64) 1 (.slice g74.1 x70.1.length g74.2) x70.1, SlN eN48 iN48 2 (.slice a2 x1.length c3.1) x1 c3.2, Sl (eI .i64) 1 (.slice a5 x4.length c6) x4] (.cons 0 rfl .nil) (gk_F 0 rfl (gk_F 1 rfl (gk_F 2 rfl (gk_F 3 rfl gk_nil)))) 16 rfl ?_
        refine sxb_takeP 0 (.int .i64 x60) rfl rfl rfl (yv_pv rfl) ?_
        refine sxb_takeP 1 (.int .i64 x60) rfl rfl rfl (yv_pv rfl) ?_
        refine sxb_takeP 2 (.int .i64 (x1.length : Int)) rfl rfl rfl (yv_pv rfl) ?_
        refine sxb_takeP 3 (.bool (decide (x60 < (x1.length : Int)))) rfl rfl rfl (yv_pv rfl) ?_
        refine sxb_takeP 4 (.bool (decide (x60 < (x1.length : Int)))) rfl rfl rfl (yv_pv rfl) ?_
        refine sxb_again (d := 39) (v := .bool true) rfl (by rw [h69] <;> rfl) ?_
        refine sxb_takeP 5 (.func (.func 52) #[] #[]) rfl rfl rfl (yv_pv rfl) ?_
        refine sxb_takeP 6 (.slice a2 x1.length c3.1) rfl rfl rfl (yv_pv rfl) ?_
        refine sxb_takeP 7 (.int .i64 x60) rfl rfl rfl (yv_pv rfl) ?_
        refine sxb_again (d := 41) (v := .slice (some ⟨b71, o72, none⟩) x1.length c3.1) rfl (by rw [h73] <;> rfl) ?_
        refine sxb_takeP 8 (.pointer (some ⟨b71, (o72 + x60.toNat * 2), none⟩)) rfl rfl rfl (yv_idx Try.underlying45 tf48 rfl rfl (idx_get e70).1 (idx_lt e70)) ?_
        refine sxb_again (d := 41) (v := .slice a2 x1.length c3.1) rfl (by rw [h73] <;> rfl) ?_
        refine sxb_take 9 (.agg #[.slice g74.1 x70.1.length g74.2, .int .i64 x70.2]) [] rfl rfl rfl (yv_loadF (j := 0) rfl tf48 rfl rfl (by simp) rfl) ?_
        refine sxb_takeB 10 (.agg #[.slice a5 x4.length c6, .int .i64 x7]) rfl rfl rfl (yv_loadB (i := 0) rfl tf48 rfl rfl (by simp) rfl) ?_
        refine sxb_step 11 rfl (by kernel_rfl) rfl ?_
        refine sxo_callV ent52 rfl rfl rfl rfl (fun x75 e75 => C_huff_order F x70.1 g74.1 g74.2 x70.2 x4 a5 c6 x7 x75 e75) (.consF 1 rfl (.consF 3 rfl .nil)) (fun x75 e75 => ?_)
        intro _
        refine sxo_nil ?_
        refine sxq_anyB (.cons 0 rfl .nil) (gk_F 0 rfl (gk_F 1 rfl (gk_F 2 rfl (gk_F 3 rfl gk_nil)))) ?_
        refine sxb_takeP 12 (.bool ((x75 : Int) == 0)) rfl rfl rfl (yv_pv rfl) ?_
        refine sxb_takeP 13 (.bool ((x75 : Int) == 0)) rfl rfl rfl (yv_pv rfl) ?_
        refine sxb_takeP 14 (.int .i64 x60) rfl rfl rfl (yv_pv rfl) ?_
        refine sxb_takeP 15 (.bool ((x75 : Int) == 0)) rfl rfl rfl (yv_pv rfl) ?_
        refine sxb_done (by kernel_rfl) ?_
        refine sxq_np ?_ (by intro c h; cases h)
        exact sxq_meetP (((x75 : Int) == 0), ())
      · refine sxb_draw mixed [] [⟨g8, 48, [.slice a5 x4.length c6, .int .i64 x7]⟩] [SlN eN48 iN48 2 (.slice a2 x1.length c3.1) x1 c3.2, Sl (eI .i64) 1 (.slice a5 x4.length c6) x4] (.cons 0 rfl .nil) (gk_F 0 rfl (gk_F 1 rfl gk_nil)) 16 rfl ?_
        refine sxb_takeP 0 (.int .i64 x60) rfl rfl rfl (yv_pv rfl) ?_
        refine sxb_takeP 1 (.int .i64 x60) rfl rfl rfl (yv_pv rfl) ?_
        refine sxb_takeP 2 (.int .i64 (x1.length : Int)) rfl rfl rfl (yv_pv rfl) ?_
        refine sxb_takeP 3 (.bool (decide (x60 < (x1.length : Int)))) rfl rfl rfl (yv_pv rfl) ?_
        refine sxb_takeP 4 (.bool (decide (x60 < (x1.length : Int)))) rfl rfl rfl (yv_pv rfl) ?_
        refine sxb_again (d := 39) (v := .bool false) rfl (by rw [h69] <;> rfl) ?_
        refine sxb_skip 5 rfl rfl rfl ?_
        refine sxb_skip 6 rfl rfl rfl ?_
        refine sxb_skip 7 rfl rfl rfl ?_
        refine sxb_skip 8 rfl rfl rfl ?_
        refine sxb_skip 9 rfl rfl rfl ?_
        refine sxb_skip 10 rfl rfl rfl ?_
        refine sxb_skip 11 rfl rfl rfl ?_
        refine sxb_skip 12 rfl rfl rfl ?_
        refine sxb_takeP 13 (.bool false) rfl rfl rfl (yv_pv rfl) ?_
        refine sxb_takeP 14 (.int .i64 x60) rfl rfl rfl (yv_pv rfl) ?_
        refine sxb_takeP 15 (.bool false) rfl rfl rfl (yv_pv rfl) ?_
        refine sxb_done (by kernel_rfl) ?_
        refine sxq_np ?_ (by intro c h; cases h)
        exact sxq_meetP (false, ())
    · rintro ⟨x68, _⟩
      try dsimp only
      refine sxc_ret ?_
      exact sxq_doneP () (res2 rfl rfl rfl)

set_option maxHeartbeats 4000000 in
theorem C_Ins (a : Option Addr) (c : Nat) (hs xs : List ((List Int × Int) × (Option Addr × Nat))) (i : Nat) (y : (List Int × Int) × (Option Addr × Nat)) (gv cv : Nat) (hi : i ≤ xs.length) (hl : xs.length < 100000) :
    PureM Try.prog 53 [qv a hs.length xs.length c 2, .int .i64 (i : Int), .slice (some ⟨gv, 0, none⟩) 1 cv] [] [Ro eN48 48 2 (.slice a (hs ++ xs).length c) (hs ++ xs), Ro eN48 48 2 (.slice (some ⟨gv, 0, none⟩) [y].length cv) [y]] []
      (Option Addr × Nat × List ((List Int × Int) × (Option Addr × Nat))) (fun q => qv q.1 q.2.2.length (xs.take i ++ y :: xs.drop i).length q.2.1 2) (fun _ => []) (fun q => [Ro eN48 48 2 (.slice q.1 (q.2.2 ++ (xs.take i ++ y :: xs.drop i)).length q.2.1) (q.2.2 ++ (xs.take i ++ y :: xs.drop i))]) := by
  refine pureM_of Try.func53 rfl Try.ntmps53 rfl (m := some ()) (r := ()) rfl (fun w => ?_)
  refine sxc_env (l' := [(0, qv a hs.length xs.length c 2), (1, .int .i64 (i : Int)), (2, .slice (some ⟨gv, 0, none⟩) 1 cv)]) rfl ?_
  refine sxc_qv 0 rfl (fun hc p hq hp => ?_)
  refine sxc_look (d := 0) rfl hq ?_
  refine sxc_seq ?_
  refine sxc_region ?_
  refine sxo_assign rfl rfl rfl ?_
  refine sxo_nil ?_
  refine sxq_next ?_
  refine sxc_seq ?_
  refine sxc_region ?_
  refine sxo_move rfl rfl rfl ?_
  refine sxo_move rfl rfl rfl ?_
  refine sxo_cutA rfl Try.underlying45 tf48 rfl rfl rfl hi (by omega) rfl rfl ?_
  refine sxo_nil ?_
  refine sxq_next ?_
  refine sxc_seq ?_
  refine sxc_region ?_
  refine sxo_move rfl rfl rfl ?_
  refine sxo_len rfl Try.underlying44 rfl rfl ?_
  refine sxo_assign rfl rfl rfl ?_
  refine sxo_nil ?_
  refine sxq_next ?_
  refine sxc_seq ?_
  refine sxc_seq ?_
  refine sxc_region ?_
  refine sxo_move rfl rfl rfl ?_
  refine sxo_eql rfl rfl rfl rfl ?_
  refine sxo_nil ?_
  refine sxq_next ?_
  refine sxc_cond (b := false) rfl (fun h => by cases h) (fun _ => ?_)
  refine sxc_skip ?_
  refine sxq_next ?_
  refine sxc_seq ?_
  refine sxc_region ?_
  refine sxo_move rfl rfl rfl ?_
  refine sxo_len rfl Try.underlying45 rfl rfl ?_
  refine sxo_assign rfl rfl rfl ?_
  refine sxo_nil ?_
  refine sxq_next ?_
  refine sxc_seq ?_
  refine sxc_seq ?_
  refine sxc_region ?_
  refine sxo_move rfl rfl rfl ?_
  refine sxo_move rfl rfl rfl ?_
  refine sxo_eql rfl rfl rfl rfl ?_
  refine sxo_nil ?_
  refine sxq_next ?_
  refine sxc_cond (b := ((i : Int) == (xs.length : Int))) rfl (fun hb => ?_) (fun hb => ?_)
  · have hin : i = xs.length := by have := beq_iff_eq.1 hb; omega
    refine sxc_seq ?_
    refine sxc_region ?_
    refine sxo_move rfl rfl rfl ?_
    refine sxo_move rfl rfl rfl ?_
    refine sxo_appQ2 (hs := hs) (xs := xs) (ys := [y]) (a := a) (c := c) 0 1 eN48_ok rfl Try.underlying45 Try.underlying44 tf48 rfl rfl (congrArg some hq.symm) rfl rfl rfl (by simp; omega) (by decide) (fun a' c' h' => ?_)
    refine sxo_assign rfl rfl rfl ?_
    refine sxo_nil ?_
    refine sxq_next ?_
    refine sxc_ret ?_
    refine sxq_thenR ?_
    have e : xs.take i ++ y :: xs.drop i = xs ++ [y] := by rw [hin]; simp
    rw [e]
    exact sxq_doneM (a', c', h') (res1 rfl rfl) (hB := fun _ => .nil) (hv := fun _ => rfl) (hR := fun _ => .cons 0 rfl .nil)
  have hlt : i < xs.length := by
    have : ¬ ((i : Int) = (xs.length : Int)) := by simpa using hb
    omega
  obtain ⟨g, rfl, rfl⟩ := hp (by omega)
  refine sxc_skip ?_
  refine sxq_next ?_
  refine sxc_seq ?_
  refine sxc_seq ?_
  refine sxc_region ?_
  refine sxo_move rfl rfl rfl ?_
  refine sxo_move rfl rfl rfl ?_
  refine sxo_add rfl rfl rfl rfl ?_
  refine sxo_again (d := 28) (v := .int .i64 ((xs.length + 1 : Nat) : Int)) rfl (by simp [iadd, IntKind.wrap_i64] <;> omega) ?_
  refine sxo_move rfl rfl rfl ?_
  refine sxo_capV rfl Try.underlying45 rfl rfl ?_
  refine sxo_gtr rfl rfl rfl rfl ?_
  refine sxo_nil ?_
  refine sxq_next ?_
  refine sxc_cond (b := decide (((c - hs.length : Nat) : Int) < ((xs.length + 1 : Nat) : Int))) rfl (fun hb2 => ?_) (fun hb2 => ?_)
  · have hfull : c - hs.length < xs.length + 1 := by have := of_decide_eq_true hb2; omega
    have hfull' : c - hs.length = xs.length := by omega
    refine sxc_seq ?_
    refine sxc_region ?_
    refine sxo_move rfl rfl rfl ?_
    refine sxo_move rfl rfl rfl ?_
    refine sxo_cutA (L := 0) (H := i) rfl Try.underlying45 tf48 rfl rfl rfl (by omega) (by omega) rfl rfl ?_
    refine sxo_again (d := 34) (v := .slice (some ⟨g, hs.length * 2, none⟩) i (c - hs.length)) rfl (by have h0 := cutv_lit (size := 2) (g := g) (o := hs.length * 2) (c := c - hs.length) (L := 0) (H := i) (by omega); simpa using h0) ?_
    refine sxo_move rfl rfl rfl ?_
    refine sxo_move rfl rfl rfl ?_
    refine sxo_add rfl rfl rfl rfl ?_
    refine sxo_move rfl rfl rfl ?_
    refine sxo_sub rfl rfl rfl rfl ?_
    refine sxo_again (d := 39) (v := .int .i64 ((xs.length + 1 - i : Nat) : Int)) rfl (by simp [iadd, isub, IntKind.wrap_i64] <;> omega) ?_
    refine sxo_appZg (xs := hs ++ xs) (zy := (([], 0), (none, 0))) (K0 := hs.length) (sl := i) (k := xs.length + 1 - i) (g := g) (j := 0) eN48_ok (by decide) rfl Try.underlying45 Try.underlying3 tf48 rfl rfl rfl rfl rfl (by simp; omega) (by omega) (by omega) (by omega) (by decide) (fun g' c' hc' => ?_)
    refine sxo_assign rfl rfl rfl ?_
    refine sxo_nil ?_
    have e1 : i + (xs.length + 1 - i) = xs.length + 1 := by omega
    rw [e1] at hc' ⊢
    have e2 : ((hs ++ xs).drop hs.length).take i = xs.take i := by simp
    rw [e2]
    have hl2 : (xs.take i ++ List.replicate (xs.length + 1 - i) ((([], 0), (none, 0)) : (List Int × Int) × (Option Addr × Nat))).length = xs.length + 1 := by simp; omega
    refine sxq_next ?_
    refine sxc_seq ?_
    refine sxc_region ?_
    refine sxo_move rfl rfl rfl ?_
    refine sxo_move rfl rfl rfl ?_
    refine sxo_cutA (L := i) (H := xs.length + 1) rfl Try.underlying45 tf48 rfl rfl rfl (by omega) hc' (cutv_lit (by omega)) rfl ?_
    refine sxo_again (d := 43) (v := .slice (some ⟨g', i * 2, none⟩) (xs.length + 1 - i) (c' - i)) rfl (by simp) ?_
    refine sxo_move rfl rfl rfl ?_
    refine sxo_copyG (K := i) (K0 := 0) (k := 1) (g := g') (g2 := gv) (j := 0) (j2 := 2) (ys := [y]) eN48_ok rfl Try.underlying45 tf48 rfl rfl rfl rfl rfl (by rw [hl2]; omega) (by omega) (by simp) (by omega) (fun zs hz => ?_)
    refine sxo_nil ?_
    refine sxq_next ?_
    have h1 : (xs.take i).length = i := by simp; omega
    have hz' : zs = xs.take i ++ y :: List.replicate (xs.length - i) ((([], 0), (none, 0)) : (List Int × Int) × (Option Addr × Nat)) := by
      rw [← hz, List.take_left' h1, List.drop_append, show (xs.take i).drop (i + 1) = [] from List.drop_eq_nil_of_le (by rw [h1]; omega), h1, show i + 1 - i = 1 by omega, List.drop_replicate, show xs.length + 1 - i - 1 = xs.length - i by omega]
      simp
    subst hz'
    have hl3 : (xs.take i ++ y :: List.replicate (xs.length - i) ((([], 0), (none, 0)) : (List Int × Int) × (Option Addr × Nat))).length = xs.length + 1 := by simp; omega
    refine sxc_seq ?_
    refine sxb_draw mixed [] [] [] .nil gk_nil 9 rfl ?_
    refine sxb_takeP 0 (.slice (some ⟨g', 0, none⟩) (xs.length + 1) c') rfl rfl rfl (yv_pv rfl) ?_
    refine sxb_takeP 1 (.int .i64 (i : Int)) rfl rfl rfl (yv_pv rfl) ?_
    refine sxb_takeP 2 (.int .i64 1) rfl rfl rfl (yv_pv rfl) ?_
    refine sxb_takeP 3 (.int .i64 (iadd .i64 (i : Int) 1)) rfl rfl rfl (yv_pv rfl) ?_
    refine sxb_again (d := 49) (v := .int .i64 ((i + 1 : Nat) : Int)) rfl (by simp [iadd, IntKind.wrap_i64] <;> omega) ?_
    refine sxb_takeP 4 (.slice (some ⟨g', 0 + (i + 1) * 2, none⟩) (xs.length + 1 - (i + 1)) (c' - (i + 1))) rfl rfl rfl (yv_cutA Try.underlying45 tf48 rfl rfl rfl (by omega) hc' (cutv_lit (by omega))) ?_
    refine sxb_again (d := 50) (v := .slice (some ⟨g', (i + 1) * 2, none⟩) (xs.length - i) (c' - (i + 1))) rfl (by simp) ?_
    refine sxb_takeP 5 (.slice (some ⟨g, hs.length * 2, none⟩) xs.length (c - hs.length)) rfl rfl rfl (yv_pv rfl) ?_
    refine sxb_takeP 6 (.int .i64 (i : Int)) rfl rfl rfl (yv_pv rfl) ?_
    refine sxb_takeP 7 (.slice (some ⟨g, hs.length * 2 + i * 2, none⟩) (xs.length - i) (c - hs.length - i)) rfl rfl rfl (yv_cutA Try.underlying45 tf48 rfl rfl rfl hi (by omega) (cutv_lit (by omega))) ?_
    refine sxb_again (d := 53) (v := .slice (some ⟨g, (hs.length + i) * 2, none⟩) (xs.length - i) (c - hs.length - i)) rfl (by rw [Nat.add_mul]) ?_
    refine sxb_step 8 rfl (by kernel_rfl) rfl ?_
    refine sxo_copyG (K := i + 1) (K0 := hs.length + i) (k := xs.length - i) (g := g') (g2 := g) (j := 0) (j2 := 1) (ys := hs ++ xs) eN48_ok rfl Try.underlying45 tf48 rfl rfl rfl rfl rfl (by rw [hl3]; omega) (by omega) (by simp; omega) (by omega) (fun zs hz => ?_)
    refine sxo_nil ?_
    refine sxq_anyB .nil gk_nil ?_
    refine sxb_done (by kernel_rfl) ?_
    refine sxq_np ?_ (by intro c h; cases h)
    refine sxq_next ?_
    have t1 : (xs.take i ++ y :: List.replicate (xs.length - i) ((([], 0), (none, 0)) : (List Int × Int) × (Option Addr × Nat))).take (i + 1) = xs.take i ++ [y] := by
      rw [List.take_append, List.take_of_length_le (by rw [h1]; omega), h1, show i + 1 - i = 1 by omega]; rfl
    have e3 : (hs ++ xs).drop (hs.length + i) = xs.drop i := by rw [List.drop_append, List.drop_eq_nil_of_le (by omega)]; simp
    have hz' : zs = xs.take i ++ y :: xs.drop i := by
      rw [← hz, t1, e3, show (xs.take i ++ y :: List.replicate (xs.length - i) ((([], 0), (none, 0)) : (List Int × Int) × (Option Addr × Nat))).drop (i + 1 + (xs.length - i)) = [] from List.drop_eq_nil_of_le (by rw [hl3]; omega), show (xs.drop i).take (xs.length - i) = xs.drop i from List.take_of_length_le (by simp)]
      simp
    subst hz'
    refine sxc_seq ?_
    refine sxc_region ?_
    refine sxo_move rfl rfl rfl ?_
    refine sxo_assign rfl rfl rfl ?_
    refine sxo_nil ?_
    refine sxq_next ?_
    refine sxc_ret ?_
    refine sxq_thenR ?_
    exact sxq_doneM (some ⟨g', 0, none⟩, c', []) (res1 rfl rfl) (hB := fun _ => .nil) (hR := fun _ => .cons 0 rfl .nil) (hv := fun _ => by simp [qv]; omega)
  have hroom : xs.length + 1 ≤ c - hs.length := by have := of_decide_eq_false hb2; omega
  refine sxc_skip ?_
  refine sxq_next ?_
  refine sxc_seq ?_
  refine sxc_region ?_
  refine sxo_move rfl rfl rfl ?_
  refine sxo_move rfl rfl rfl ?_
  refine sxo_move rfl rfl rfl ?_
  refine sxo_add rfl rfl rfl rfl ?_
  refine sxo_again (d := 59) (v := .int .i64 ((xs.length + 1 : Nat) : Int)) rfl (by simp [iadd, IntKind.wrap_i64] <;> omega) ?_
  refine sxo_cutA (L := 0) (H := xs.length + 1) rfl Try.underlying45 tf48 rfl rfl rfl (by omega) hroom (cutv_lit (by omega)) rfl ?_
  refine sxo_again (d := 60) (v := .slice (some ⟨g, hs.length * 2, none⟩) (xs.length + 1) (c - hs.length)) rfl (by simp) ?_
  refine sxo_assign rfl rfl rfl ?_
  refine sxo_nil ?_
  refine sxq_next ?_
  refine sxc_seq ?_
  refine sxc_seq ?_
  refine sxc_region ?_
  refine sxo_move rfl rfl rfl ?_
  refine sxo_move rfl rfl rfl ?_
  refine sxo_move rfl rfl rfl ?_
  refine sxo_move rfl rfl rfl ?_
  refine sxo_add rfl rfl rfl rfl ?_
  refine sxo_again (d := 65) (v := .int .i64 ((i + 1 : Nat) : Int)) rfl (by simp [iadd, IntKind.wrap_i64] <;> omega) ?_
  refine sxo_cutA (L := i + 1) (H := xs.length + 1) rfl Try.underlying45 tf48 rfl rfl rfl (by omega) hroom (cutv_lit (by omega)) rfl ?_
  refine sxo_overl (tR := 4) (i := 1) (j := 0) (ys := [y]) (xs := hs ++ xs) (size := 2) (fun args w => run_callFunc_extern Try.func72 (by kernel_rfl) (by kernel_rfl) (by kernel_rfl) (by kernel_rfl) args w) rfl rfl rfl Try.underlying44 tf48 rfl rfl (by decide) (by omega) rfl ?_
  refine sxo_not rfl rfl rfl ?_
  refine sxo_nil ?_
  refine sxq_next ?_
  refine sxc_cond (b := true) rfl (fun _ => ?_) (fun h => by cases h)
  refine sxc_seq ?_
  refine sxb_draw mixed [] [] [] .nil gk_nil 9 rfl ?_
  refine sxb_takeP 0 (.slice (some ⟨g, hs.length * 2, none⟩) (xs.length + 1) (c - hs.length)) rfl rfl rfl (yv_pv rfl) ?_
  refine sxb_takeP 1 (.int .i64 (i : Int)) rfl rfl rfl (yv_pv rfl) ?_
  refine sxb_takeP 2 (.int .i64 1) rfl rfl rfl (yv_pv rfl) ?_
  refine sxb_takeP 3 (.int .i64 (iadd .i64 (i : Int) 1)) rfl rfl rfl (yv_pv rfl) ?_
  refine sxb_again (d := 72) (v := .int .i64 ((i + 1 : Nat) : Int)) rfl (by simp [iadd, IntKind.wrap_i64] <;> omega) ?_
  refine sxb_takeP 4 (.slice (some ⟨g, hs.length * 2 + (i + 1) * 2, none⟩) (xs.length + 1 - (i + 1)) (c - hs.length - (i + 1))) rfl rfl rfl (yv_cutA Try.underlying45 tf48 rfl rfl rfl (by omega) hroom (cutv_lit (by omega))) ?_
  refine sxb_again (d := 73) (v := .slice (some ⟨g, (hs.length + i + 1) * 2, none⟩) (xs.length - i) (c - hs.length - (i + 1))) rfl (by simp <;> omega) ?_
  refine sxb_takeP 5 (.slice (some ⟨g, hs.length * 2, none⟩) (xs.length + 1) (c - hs.length)) rfl rfl rfl (yv_pv rfl) ?_
  refine sxb_takeP 6 (.int .i64 (i : Int)) rfl rfl rfl (yv_pv rfl) ?_
  refine sxb_takeP 7 (.slice (some ⟨g, hs.length * 2 + i * 2, none⟩) (xs.length + 1 - i) (c - hs.length - i)) rfl rfl rfl (yv_cutA Try.underlying45 tf48 rfl rfl rfl (by omega) hroom (cutv_lit (by omega))) ?_
  refine sxb_again (d := 76) (v := .slice (some ⟨g, (hs.length + i) * 2, none⟩) (xs.length + 1 - i) (c - hs.length - i)) rfl (by rw [Nat.add_mul]) ?_
  refine sxb_step 8 rfl (by kernel_rfl) rfl ?_
  refine sxo_copyG (K := hs.length + i + 1) (K0 := hs.length + i) (k := xs.length - i) (g := g) (g2 := g) (j := 0) (j2 := 0) (xs := hs ++ xs) (ys := hs ++ xs) eN48_ok rfl Try.underlying45 tf48 rfl rfl rfl rfl rfl (by simp; omega) (by omega) (by simp; omega) (by omega) (fun zs hz => ?_)
  refine sxo_nil ?_
  refine sxq_anyB .nil gk_nil ?_
  refine sxb_done (by kernel_rfl) ?_
  refine sxq_np ?_ (by intro c h; cases h)
  refine sxq_next ?_
  have hz' : zs = hs ++ (xs.take (i + 1) ++ xs.drop i) := by
    have e3 : (hs ++ xs).drop (hs.length + i) = xs.drop i := by rw [List.drop_append, List.drop_eq_nil_of_le (by omega)]; simp
    have e4 : (hs ++ xs).take (hs.length + i + 1) = hs ++ xs.take (i + 1) := by rw [List.take_append, List.take_of_length_le (by omega), show hs.length + i + 1 - hs.length = i + 1 by omega]
    rw [← hz, e3, e4, show (xs.drop i).take (xs.length - i) = xs.drop i from List.take_of_length_le (by simp), show (hs ++ xs).drop (hs.length + i + 1 + (xs.length - i)) = [] from List.drop_eq_nil_of_le (by simp; omega)]
    simp
  subst hz'
  have hl4 : (hs ++ (xs.take (i + 1) ++ xs.drop i)).length = hs.length + xs.length + 1 := by simp; omega
  refine sxc_seq ?_
  refine sxc_region ?_
  refine sxo_move rfl rfl rfl ?_
  refine sxo_move rfl rfl rfl ?_
  refine sxo_cutA (L := i) (H := xs.length + 1) rfl Try.underlying45 tf48 rfl rfl rfl (by omega) hroom (cutv_lit (by omega)) rfl ?_
  refine sxo_again (d := 80) (v := .slice (some ⟨g, (hs.length + i) * 2, none⟩) (xs.length + 1 - i) (c - hs.length - i)) rfl (by rw [Nat.add_mul]) ?_
  refine sxo_move rfl rfl rfl ?_
  refine sxo_copyG (K := hs.length + i) (K0 := 0) (k := 1) (g := g) (g2 := gv) (j := 0) (j2 := 1) (xs := hs ++ (xs.take (i + 1) ++ xs.drop i)) (ys := [y]) eN48_ok rfl Try.underlying45 tf48 rfl rfl rfl rfl rfl (by rw [hl4]; omega) (by omega) (by simp) (by omega) (fun zs hz => ?_)
  refine sxo_nil ?_
  refine sxq_next ?_
  have hz' : zs = hs ++ (xs.take i ++ y :: xs.drop i) := by
    have e5 : (hs ++ (xs.take (i + 1) ++ xs.drop i)).take (hs.length + i) = hs ++ xs.take i := by
      rw [List.take_append, List.take_of_length_le (by omega), show hs.length + i - hs.length = i by omega, List.take_append_of_le_length (by simp; omega), List.take_take, show min i (i + 1) = i by omega]
    have e6 : (hs ++ (xs.take (i + 1) ++ xs.drop i)).drop (hs.length + i + 1) = xs.drop i := by
      have hx1 : (hs ++ xs.take (i + 1)).length = hs.length + i + 1 := by simp; omega
      rw [← List.append_assoc, List.drop_left' hx1]
    rw [← hz, e5, e6]
    simp
  subst hz'
  refine sxc_seq ?_
  refine sxc_region ?_
  refine sxo_move rfl rfl rfl ?_
  refine sxo_assign rfl rfl rfl ?_
  refine sxo_nil ?_
  refine sxq_next ?_
  refine sxc_ret ?_
  refine sxq_thenR ?_
  have e7 : (xs.take i ++ y :: xs.drop i).length = xs.length + 1 := by simp; omega
  refine sxq_doneM (some ⟨g, 0, none⟩, c, hs) (res1 rfl rfl) (hB := fun _ => .nil) (hR := fun _ => .cons 0 rfl .nil) (hv := fun _ => ?_)
  have := qv_lit (g := g) (h := hs.length) (n := xs.length + 1) (c := c) (size := 2) (by omega)
  rw [e7]; exact this.symm

theorem C_push (F g : Nat) (a : Option Addr) (c : Nat) (hs zs : List ((List Int × Int) × (Option Addr × Nat))) (x : List (List Int × Int)) (ss : List Int) (sa : Option Addr) (sc : Nat) (w k : Int) (hm : M_push F x ss w = some k) :
    PureM Try.prog 25 [.pointer (some ⟨g, 0, none⟩), .agg #[.slice sa ss.length sc, .int .i64 w]] [⟨g, 45, [qv a hs.length zs.length c 2]⟩] [Ro eN48 48 2 (.slice a (hs ++ zs).length c) (hs ++ zs)] [HN iN48 x zs, Sl (eI .i64) 1 (.slice sa ss.length sc) ss]
      (Option Addr × Nat × List ((List Int × Int) × (Option Addr × Nat))) (fun _ => .tuple #[]) (fun q => [⟨g, 45, [qv q.1 q.2.2.length (insK k zs ((ss, w), (sa, sc))).length q.2.1 2]⟩]) (fun q => [Ro eN48 48 2 (.slice q.1 (q.2.2 ++ insK k zs ((ss, w), (sa, sc))).length q.2.1) (q.2.2 ++ insK k zs ((ss, w), (sa, sc)))]) := by
  unfold M_push at hm
  cases hb : M_slices_BinarySearchFunc_huff_heap_huff_group_huff_group_huff_order F x ss w with
  | none => rw [hb] at hm; simp at hm
  | some p0 =>
  rw [hb] at hm
  simp only [Option.bind_some] at hm
  split at hm
  · rename_i h
    simp only [Option.some.injEq] at hm
    subst hm
    obtain ⟨h0, h1, h2⟩ := h
    refine pureM_of Try.func25 rfl Try.ntmps25 rfl (m := (M_slices_BinarySearchFunc_huff_heap_huff_group_huff_group_huff_order F x ss w).bind fun _ => some ()) (r := ()) (by rw [hb]; rfl) (fun W => ?_)
    refine sxc_env (l' := [(0, .pointer (some ⟨g, 0, none⟩)), (1, .agg #[.slice sa ss.length sc, .int .i64 w])]) rfl ?_
    refine sxc_hn 0 rfl (fun hx => ?_)
    have hlen : x.length = zs.length := by rw [← hx, List.length_map]
    refine sxc_qv 0 rfl (fun hc p hq _ => ?_)
    refine sxc_seq ?_
    refine sxc_region ?_
    refine sxo_box rfl rfl rfl (fun g8 => ?_)
    refine sxo_nil ?_
    refine sxq_next ?_
    refine sxc_seq ?_
    refine sxb_draw mixed [] [⟨g8, 48, [.slice sa ss.length sc, .int .i64 w]⟩, ⟨g, 45, [qv a hs.length zs.length c 2]⟩] [] (.cons 0 rfl (.cons 0 rfl .nil)) gk_nil 10 rfl ?_
    refine sxb_takeP 0 (.pointer (some ⟨g, 0, none⟩)) rfl rfl rfl (yv_pv rfl) ?_
    refine sxb_takeP 1 (.pointer (some ⟨g, 0, none⟩)) rfl rfl rfl (yv_pv rfl) ?_
    refine sxb_takeB 2 (qv a hs.length zs.length c 2) rfl rfl rfl (yv_loadB (i := 1) rfl tf45 rfl rfl (fun _ => rfl) rfl) ?_
    refine sxb_takeB 3 (.agg #[.slice sa ss.length sc, .int .i64 w]) rfl rfl rfl (yv_loadB (i := 0) rfl tf48 rfl rfl (by simp) rfl) ?_
    refine sxb_again (d := 9) (v := .slice p x.length (c - hs.length)) rfl (by rw [hq, hlen]) ?_
    refine sxb_step 4 rfl (by kernel_rfl) rfl ?_
    refine sxo_callX ent51 rfl rfl rfl (fun y ey => C_slices_BinarySearchFunc_huff_heap_huff_group_huff_group_huff_order F x p (c - hs.length, zs.map (·.2)) ss sa sc w y ey) (fun w2 hp2 φ hφ => ?_) (fun y ey => ?_)
    · rcases List.mem_cons.1 hφ with rfl | hφ
      · have h3 := hn_sln (f := 0) (j := 0) eN48_ok hp2 rfl rfl
        rw [hq] at h3
        rw [hlen]
        exact h3
      · rw [List.mem_singleton] at hφ
        subst hφ
        exact (hp2.per _ (List.mem_of_getElem? (i := 1) rfl)).here
    intro _
    have hy : y = p0 := by
      rw [hb] at ey
      simpa using ey.symm
    subst hy
    refine sxo_nil ?_
    refine sxq_anyB (.cons 0 rfl (.cons 0 rfl .nil)) gk_nil ?_
    refine sxb_takeP 5 (.tuple #[.int .i64 y.1, .bool y.2]) rfl rfl rfl (yv_pv rfl) ?_
    refine sxb_takeP 6 (.int .i64 y.1) rfl rfl rfl (yv_pv rfl) ?_
    refine sxb_takeP 7 (.bool y.2) rfl rfl rfl (yv_pv rfl) ?_
    refine sxb_takeP 8 (.int .i64 y.1) rfl rfl rfl (yv_pv rfl) ?_
    refine sxb_takeP 9 (.bool y.2) rfl rfl rfl (yv_pv rfl) ?_
    refine sxb_done (by kernel_rfl) ?_
    refine sxq_np ?_ (by intro c h; cases h)
    refine sxq_next ?_
    refine sxb_draw mixed [9] [⟨g8, 48, [.slice sa ss.length sc, .int .i64 w]⟩] [BlkD.is ⟨g, 45, [qv a hs.length zs.length c 2]⟩] (.cons 0 rfl .nil) (gk_B 1 rfl gk_nil) 10 rfl ?_
    refine sxb_takeP 0 (.pointer (some ⟨g, 0, none⟩)) rfl rfl rfl (yv_pv rfl) ?_
    refine sxb_takeP 1 (.pointer (some ⟨g, 0, none⟩)) rfl rfl rfl (yv_pv rfl) ?_
    refine sxb_takeP 2 (.pointer (some ⟨g, 0, none⟩)) rfl rfl rfl (yv_pv rfl) ?_
    refine sxb_take 3 (qv a hs.length zs.length c 2) [[9]] rfl rfl rfl (yv_loadG (j := 0) rfl tf45 rfl rfl (fun _ => rfl) rfl) ?_
    refine sxb_takeP 4 (.int .i64 y.1) rfl rfl rfl (yv_pv rfl) ?_
    refine sxb_again (d := 18) (v := .int .i64 (y.1.toNat : Int)) rfl (by rw [Int.toNat_of_nonneg h0]) ?_
    refine sxb_takeB 5 (.agg #[.slice sa ss.length sc, .int .i64 w]) rfl rfl rfl (yv_loadB (i := 0) rfl tf48 rfl rfl (by simp) rfl) ?_
    refine sxb_step 6 rfl (by kernel_rfl) rfl ?_
    refine sxo_slit (vs := [.agg #[.slice sa ss.length sc, .int .i64 w]]) (ys := [((ss, w), (sa, sc))]) eN48_ok (by decide) rfl Try.underlying44 tf48 rfl rfl rfl rfl rfl (by decide) (fun a34 c35 => ?_)
    refine sxo_rowlit 0 rfl (by simp) (fun gv hgv => ?_)
    subst hgv
    refine sxo_nil ?_
    refine sxq_anyB (.cons 0 rfl .nil) (gk_B 1 rfl gk_nil) ?_
    refine sxb_step 7 rfl (by kernel_rfl) rfl ?_
    refine sxo_callM (mg := some ()) (k := fun _ => some ()) ent53 rfl rfl rfl (fun _ _ => C_Ins a c hs zs y.1.toNat ((ss, w), (sa, sc)) gv c35 (by omega) (by omega)) .nil (.cons 1 rfl (.cons 0 rfl .nil)) .nil (fun _ _ q => ?_)
    obtain ⟨p2, q2, hq2⟩ := qv_slice q.1 q.2.2.length (insK y.1 zs ((ss, w), (sa, sc))).length q.2.1 2
    refine sxo_again (d := 21) (v := .slice p2 (insK y.1 zs ((ss, w), (sa, sc))).length q2) rfl hq2 ?_
    refine sxo_nil ?_
    refine sxq_anyB (.cons 0 rfl .nil) (gk_B 1 rfl gk_nil) ?_
    refine sxb_takeP 8 (.pointer (some ⟨g, 0, none⟩)) rfl rfl rfl (yv_pv rfl) ?_
    refine sxb_step 9 rfl (by kernel_rfl) rfl ?_
    refine sxo_storeB (i := 1) rfl rfl rfl tf45 rfl rfl rfl rfl rfl ?_
    refine sxo_nil ?_
    refine sxq_anyW 9 rfl (by kernel_rfl) (.cons 0 rfl .nil) ?_
    refine sxb_done (by kernel_rfl) ?_
    refine sxq_np ?_ (by intro c h; cases h)
    exact sxq_doneM q (res0 rfl) (hB := fun _ => by rw [hq2]; exact .cons 1 rfl .nil) (hR := fun _ => .cons 0 rfl .nil) (hv := fun _ => rfl)
  · simp at hm

theorem C_pop (g : Nat) (a : Option Addr) (c : Nat) (hs zs : List ((List Int × Int) × (Option Addr × Nat))) (q : (List Int × Int) × (Option Addr × Nat)) :
    PureM Try.prog 26 [.pointer (some ⟨g, 0, none⟩)] [⟨g, 45, [qv a hs.length (q :: zs).length c 2]⟩] [Ro eN48 48 2 (.slice a (hs ++ q :: zs).length c) (hs ++ q :: zs)] []
      (List ((List Int × Int) × (Option Addr × Nat))) (fun _ => .agg #[.slice q.2.1 q.1.1.length q.2.2, .int .i64 q.1.2]) (fun h' => [⟨g, 45, [qv a h'.length zs.length c 2]⟩]) (fun h' => [Ro eN48 48 2 (.slice a (h' ++ zs).length c) (h' ++ zs)]) := by
  have q1 : idx (q :: zs) 0 = some q := by simp [idx]
  have q2 : sub (q :: zs) 1 ((q :: zs).length : Int) = some zs := by
    unfold sub
    rw [if_pos (by simp only [List.length_cons]; omega), Int.toNat_natCast, List.take_of_length_le (Nat.le_refl _)]
    rfl
  refine pureM_of Try.func26 rfl Try.ntmps26 rfl (m := (idx (q :: zs) 0).bind fun y => (sub (q :: zs) 1 ((q :: zs).length : Int)).bind fun t => some (y, t)) (r := (q, zs)) (by rw [q1, Option.bind_some, q2]; rfl) (fun W => ?_)
  refine sxc_env (l' := [(0, .pointer (some ⟨g, 0, none⟩))]) rfl ?_
  refine sxc_seq ?_
  refine sxc_region ?_
  refine sxo_alloc rfl tf48 rfl (fun g2 => ?_)
  refine sxo_nil ?_
  refine sxq_next ?_
  refine sxc_seq ?_
  refine sxc_region ?_
  refine sxo_move rfl rfl rfl ?_
  refine sxo_nilCheck rfl rfl rfl ?_
  refine sxo_loadB (i := 1) rfl rfl tf45 rfl rfl (fun _ => rfl) rfl rfl ?_
  refine sxo_indexQ (hs := hs) (xs := q :: zs) (j := 0) rfl Try.underlying45 tf48 rfl rfl rfl rfl (fun y hy g' hg => ?_)
  refine sxo_loadR (j := 0) (y := y) eN48_ok rfl rfl tf48 rfl hg (que_get hy) (by simp) rfl rfl ?_
  refine sxo_alloc rfl tf48 rfl (fun g3 => ?_)
  refine sxo_storeB (i := 0) rfl rfl rfl tf48 rfl rfl rfl rfl rfl ?_
  refine sxo_nil ?_
  refine sxq_next ?_
  refine sxc_seq ?_
  refine sxc_region ?_
  refine sxo_move rfl rfl rfl ?_
  refine sxo_move rfl rfl rfl ?_
  refine sxo_nilCheck rfl rfl rfl ?_
  refine sxo_loadB (i := 2) rfl rfl tf45 rfl rfl (fun _ => rfl) rfl rfl ?_
  refine sxo_cutQ (hs := hs) (xs := q :: zs) (j := 0) rfl Try.underlying45 tf48 rfl rfl rfl rfl (fun t ht h' => ?_)
  obtain ⟨p2, q2, hq2⟩ := qv_slice a h'.length t.length c 2
  refine sxo_again (d := 13) (v := .slice p2 t.length q2) rfl hq2 ?_
  refine sxo_nilCheck rfl rfl rfl ?_
  refine sxo_storeB (i := 2) rfl rfl rfl tf45 rfl rfl rfl rfl rfl ?_
  refine sxo_nil ?_
  refine sxq_next ?_
  refine sxc_seq ?_
  refine sxc_region ?_
  refine sxo_loadB (i := 0) rfl rfl tf48 rfl rfl (by simp) rfl rfl ?_
  refine sxo_storeB (i := 1) rfl rfl rfl tf48 rfl rfl rfl rfl rfl ?_
  refine sxo_nil ?_
  refine sxq_next ?_
  refine sxc_ret ?_
  have e1 : y = q := by simpa [idx] using hy.symm
  have e2 : t = zs := by
    have := (sub_spec ht).2.2.2
    simpa using this
  subst e1
  subst e2
  exact sxq_doneM h' (resL (rs := [.cell 2 48]) rfl (.cell (i := 1) rfl tf48 rfl rfl (by simp) rfl .nil) rfl) (hB := fun _ => by rw [hq2]; exact .cons 2 rfl .nil) (hR := fun _ => .cons 0 rfl .nil) (hv := fun _ => rfl)

theorem C_slices_Grow_int_int (F : Nat) (x1 : List Int) (a2 : Option Addr) (c3 : Nat) (x4 : Int) (r : List Int) (hm : M_slices_Grow_int_int F x1 c3 x4 = some r) :
    PureM Try.prog 54 [.slice a2 x1.length c3, .int .i64 x4] [] [Ro (eI .i64) 3 1 (.slice a2 x1.length c3) x1] [] (Option Addr × Nat) (fun g => .slice g.1 r.length g.2) (fun _ => []) (fun g => [Ro (eI .i64) 3 1 (.slice g.1 r.length g.2) r]) := by
  refine pureM_of Try.func54 rfl Try.ntmps54 rfl hm (fun w => ?_)
  refine sxc_env (l' := [(0, .slice a2 x1.length c3), (1, .int .i64 x4)]) rfl ?_
  refine sxc_seq ?_
  refine sxc_region ?_
  refine sxo_assign rfl rfl rfl ?_
  refine sxo_nil ?_
  refine sxq_next ?_
  refine sxc_seq ?_
  refine sxc_seq ?_
  refine sxc_region ?_
  refine sxo_move rfl rfl rfl ?_
  refine sxo_lss rfl rfl rfl rfl ?_
  refine sxo_nil ?_
  refine sxq_next ?_
  refine sxc_if rfl (fun h23 => ?_) (fun h23 => ?_)
  · exact sxc_none
  · refine sxc_skip ?_
    refine sxq_next ?_
    refine sxc_join (fun ((x15, (a13, c14)) : (List Int × (Option Addr × Nat))) => [(0, .slice a13 x15.length c14)]) (fun ((x15, (a13, c14)) : (List Int × (Option Addr × Nat))) => []) (fun ((x15, (a13, c14)) : (List Int × (Option Addr × Nat))) => [Ro (eI .i64) 3 1 (.slice a13 x15.length c14) x15]) (fun ((x15, (a13, c14)) : (List Int × (Option Addr × Nat))) => []) (fun ((x15, _) : (List Int × (Option Addr × Nat))) => M_slices_Grow_int_int_j1 F x15) ?_ ?_
    · refine sxc_seq ?_
      refine sxc_region ?_
      refine sxo_move rfl rfl rfl ?_
      refine sxo_move rfl rfl rfl ?_
      refine sxo_cap rfl Try.underlying22 rfl rfl ?_
      refine sxo_move rfl rfl rfl ?_
      refine sxo_len rfl Try.underlying22 rfl rfl ?_
      refine sxo_sub rfl rfl rfl rfl ?_
      refine sxo_sub rfl rfl rfl rfl ?_
      refine sxo_assign rfl rfl rfl ?_
      refine sxo_lett (fun x16 e16 => ?_)
      refine sxo_again (d := 1) (v := .int .i64 x16) rfl (by rw [e16] <;> rfl) ?_
      refine sxo_nil ?_
      refine sxq_next ?_
      refine sxc_seq ?_
      refine sxc_region ?_
      refine sxo_move rfl rfl rfl ?_
      refine sxo_gtr rfl rfl rfl rfl ?_
      refine sxo_nil ?_
      refine sxq_next ?_
      refine sxc_if rfl (fun h22 => ?_) (fun h22 => ?_)
      · refine sxc_region ?_
        refine sxo_move rfl rfl rfl ?_
        refine sxo_move rfl rfl rfl ?_
        refine sxo_cap rfl Try.underlying22 rfl rfl ?_
        refine sxo_cutR (i := 0) (eI_ok .i64) rfl Try.underlying22 tf3 rfl rfl rfl rfl (fun x17 e17 => ?_)
        refine sxo_move rfl rfl rfl ?_
        refine sxo_appZ (y := (0 : Int)) 0 (eI_ok .i64) rfl Try.underlying22 Try.underlying3 tf3 rfl rfl rfl rfl rfl rfl rfl rfl rfl (fun x18 e18 a19 c20 => ?_)
        refine sxo_move rfl rfl rfl ?_
        refine sxo_len rfl Try.underlying22 rfl rfl ?_
        refine sxo_cutR (i := 0) (eI_ok .i64) rfl Try.underlying22 tf3 rfl rfl rfl rfl (fun x21 e21 => ?_)
        refine sxo_assign rfl rfl rfl ?_
        refine sxo_nil ?_
        exact sxq_meetP (x21, (a19, c20)) (hR := (.cons 0 rfl .nil))
      · refine sxc_skip ?_
        exact sxq_meetP (x1, (a2, c3)) (hR := (.cons 0 rfl .nil))
    · rintro ⟨x15, ⟨a13, c14⟩⟩
      try dsimp only
      refine sxc_seq ?_
      refine sxc_region ?_
      refine sxo_move rfl rfl rfl ?_
      refine sxo_assign rfl rfl rfl ?_
      refine sxo_nil ?_
      refine sxq_next ?_
      refine sxc_ret ?_
      exact sxq_doneM (a13, c14) (res1 rfl rfl) (hR := fun h => by subst h; exact (.cons 0 rfl .nil))

theorem C_slices_Concat_int_int (F : Nat) (x1 : List (List Int)) (a2 : Option Addr) (c3 : (Nat × List (Option Addr × Nat))) (r : List Int) (hm : M_slices_Concat_int_int F x1 = some r) :
    Pure Try.prog 27 [.slice a2 x1.length c3.1] [SlN eN22 iN22 1 (.slice a2 x1.length c3.1) x1 c3.2] (Option Addr × Nat) (fun g => .slice g.1 r.length g.2) (fun g => [Ro (eI .i64) 3 1 (.slice g.1 r.length g.2) r]) (fun _ => []) := by
  refine pure_of Try.func27 rfl Try.ntmps27 rfl hm (fun w => ?_)
  refine sxc_env (l' := [(0, .slice a2 x1.length c3.1)]) rfl ?_
  refine sxc_seq ?_
  refine sxc_region ?_
  refine sxo_assign rfl rfl rfl ?_
  refine sxo_nil ?_
  refine sxq_next ?_
  refine sxc_seq ?_
  refine sxc_region ?_
  refine sxo_assign rfl rfl rfl ?_
  refine sxo_nil ?_
  refine sxq_next ?_
  refine sxc_join (fun ((x43, _) : (Int × Unit)) => [(0, .slice a2 x1.length c3.1), (3, .int .i64 x43)]) (fun ((x43, _) : (Int × Unit)) => []) (fun ((x43, _) : (Int × Unit)) => []) (fun ((x43, _) : (Int × Unit)) => [SlN eN22 iN22 1 (.slice a2 x1.length c3.1) x1 c3.2]) (fun ((x43, _) : (Int × Unit)) => M_slices_Concat_int_int_j2 F x1 x43) ?_ ?_
  · refine sxc_seq ?_
    refine sxc_region ?_
    refine sxo_move rfl rfl rfl ?_
    refine sxo_len rfl Try.underlying75 rfl rfl ?_
    refine sxo_move rfl rfl rfl ?_
    refine sxo_nil ?_
    refine sxq_next ?_
    refine sxc_block ?_
    refine sxc_loopP (fun (((x168, x169), _) : ((Int × Int) × Unit)) => [(0, .slice a2 x1.length c3.1), (3, .int .i64 x168), (9, .slice a2 x1.length c3.1), (10, .int .i64 (x1.length : Int)), (11, .int .i64 x169)]) (fun (((x168, x169), _) : ((Int × Int) × Unit)) => []) (fun (((x168, x169), _) : ((Int × Int) × Unit)) => []) (fun (((x168, x169), _) : ((Int × Int) × Unit)) => [SlN eN22 iN22 1 (.slice a2 x1.length c3.1) x1 c3.2]) (fun k (s : ((Int × Int) × Unit)) => M_slices_Concat_int_int_l6 F x1 k s.1) ((0, 0), ()) F ?_ (hF := (fk_cons 0 rfl fk_nil))
    intro k182
    rintro ⟨⟨x168, x169⟩, _⟩
    try dsimp only
    refine sxc_meq (m' := M_slices_Concat_int_int_b6 F x1 (M_slices_Concat_int_int_l6 F x1 k182) x168 x169) rfl ?_
    refine sxc_seq ?_
    refine sxc_region ?_
    refine sxo_lss rfl rfl rfl rfl ?_
    refine sxo_nil ?_
    refine sxq_next ?_
    refine sxc_seq ?_
    refine sxc_if rfl (fun h194 => ?_) (fun h194 => ?_)
    · refine sxc_skip ?_
      refine sxq_next ?_
      refine sxc_seq ?_
      refine sxc_block ?_
      refine sxc_seq ?_
      refine sxc_region ?_
      refine sxo_indexN (j := 0) eN22_ok (by decide) rfl Try.underlying75 tf22 rfl rfl rfl rfl (fun x189 e189 g192 b190 o191 => ?_)
      refine sxo_loadF (j := 0) rfl rfl tf22 rfl rfl (fun _ => rfl) rfl rfl ?_
      refine sxo_assign rfl rfl rfl ?_
      refine sxo_nil ?_
      refine sxq_next ?_
      refine sxc_seq ?_
      refine sxc_region ?_
      refine sxo_move rfl rfl rfl ?_
      refine sxo_move rfl rfl rfl ?_
      refine sxo_len rfl Try.underlying22 rfl rfl ?_
      refine sxo_add rfl rfl rfl rfl ?_
      refine sxo_assign rfl rfl rfl ?_
      refine sxo_nil ?_
      refine sxq_next ?_
      refine sxc_seq ?_
      refine sxc_region ?_
      refine sxo_move rfl rfl rfl ?_
      refine sxo_lss rfl rfl rfl rfl ?_
      refine sxo_nil ?_
      refine sxq_next ?_
      refine sxc_if rfl (fun h193 => ?_) (fun h193 => ?_)
      · exact sxc_none
      · refine sxc_skip ?_
        refine sxq_blkN ?_
        refine sxq_next ?_
        refine sxc_region ?_
        refine sxo_add rfl rfl rfl rfl ?_
        refine sxo_move rfl rfl rfl ?_
        refine sxo_nil ?_
        exact sxq_againP ((iadd .i64 x168 (x189.length : Int), iadd .i64 x169 1), ()) (hF := (fk_cons 2 rfl fk_nil))
    · refine sxc_exit ?_
      refine sxq_thenX ?_
      refine sxq_thenX ?_
      refine sxq_blkX ?_
      exact sxq_meetP (x168, ()) (hF := (fk_cons 0 rfl fk_nil))
  · rintro ⟨x43, _⟩
    try dsimp only
    refine sxc_seq ?_
    refine sxc_region ?_
    refine sxo_move rfl rfl rfl ?_
    refine sxo_nilrow' Int (eI .i64) 3 1 ?_
    refine sxo_callM ent54 rfl rfl rfl (fun x44 e44 => C_slices_Grow_int_int F ([] : List Int) none 0 x43 x44 e44) .nil (.cons 0 rfl .nil) .nil (fun x44 e44 => ?_)
    rintro ⟨a45, c46⟩
    refine sxo_assign rfl rfl rfl ?_
    refine sxo_nil ?_
    refine sxq_next ?_
    refine sxc_join (fun ((x102, (a100, c101)) : (List Int × (Option Addr × Nat))) => [(6, .slice a100 x102.length c101)]) (fun ((x102, (a100, c101)) : (List Int × (Option Addr × Nat))) => []) (fun ((x102, (a100, c101)) : (List Int × (Option Addr × Nat))) => [Ro (eI .i64) 3 1 (.slice a100 x102.length c101) x102]) (fun ((x102, (a100, c101)) : (List Int × (Option Addr × Nat))) => []) (fun ((x102, _) : (List Int × (Option Addr × Nat))) => M_slices_Concat_int_int_j4 F x102) ?_ ?_
    · refine sxc_seq ?_
      refine sxc_region ?_
      refine sxo_move rfl rfl rfl ?_
      refine sxo_len rfl Try.underlying75 rfl rfl ?_
      refine sxo_move rfl rfl rfl ?_
      refine sxo_nil ?_
      refine sxq_next ?_
      refine sxc_block ?_
      refine sxc_loopP (fun (((x121, x122), (a119, c120)) : ((List Int × Int) × (Option Addr × Nat))) => [(6, .slice a119 x121.length c120), (25, .slice a2 x1.length c3.1), (26, .int .i64 (x1.length : Int)), (27, .int .i64 x122)]) (fun (((x121, x122), (a119, c120)) : ((List Int × Int) × (Option Addr × Nat))) => []) (fun (((x121, x122), (a119, c120)) : ((List Int × Int) × (Option Addr × Nat))) => [Ro (eI .i64) 3 1 (.slice a119 x121.length c120) x121]) (fun (((x121, x122), (a119, c120)) : ((List Int × Int) × (Option Addr × Nat))) => [SlN eN22 iN22 1 (.slice a2 x1.length c3.1) x1 c3.2]) (fun k (s : ((List Int × Int) × (Option Addr × Nat))) => M_slices_Concat_int_int_l5 F x1 k s.1) ((x44, 0), (a45, c46)) F ?_ (hR := (.cons 0 rfl .nil)) (hF := (fk_cons 0 rfl fk_nil))
      intro k139
      rintro ⟨⟨x121, x122⟩, ⟨a119, c120⟩⟩
      try dsimp only
      refine sxc_meq (m' := M_slices_Concat_int_int_b5 F x1 (M_slices_Concat_int_int_l5 F x1 k139) x121 x122) rfl ?_
      refine sxc_seq ?_
      refine sxc_region ?_
      refine sxo_lss rfl rfl rfl rfl ?_
      refine sxo_nil ?_
      refine sxq_next ?_
      refine sxc_seq ?_
      refine sxc_if rfl (fun h155 => ?_) (fun h155 => ?_)
      · refine sxc_skip ?_
        refine sxq_next ?_
        refine sxc_seq ?_
        refine sxc_block ?_
        refine sxc_seq ?_
        refine sxc_region ?_
        refine sxo_indexN (j := 0) eN22_ok (by decide) rfl Try.underlying75 tf22 rfl rfl rfl rfl (fun x148 e148 g151 b149 o150 => ?_)
        refine sxo_loadF (j := 0) rfl rfl tf22 rfl rfl (fun _ => rfl) rfl rfl ?_
        refine sxo_assign rfl rfl rfl ?_
        refine sxo_nil ?_
        refine sxq_next ?_
        refine sxc_region ?_
        refine sxo_move rfl rfl rfl ?_
        refine sxo_move rfl rfl rfl ?_
        refine sxo_app 0 (eI_ok .i64) rfl Try.underlying22 tf3 rfl rfl rfl rfl rfl (.inr ⟨1, rfl⟩) rfl rfl (fun x152 e152 a153 c154 => ?_)
        refine sxo_assign rfl rfl rfl ?_
        refine sxo_nil ?_
        refine sxq_blkN ?_
        refine sxq_next ?_
        refine sxc_region ?_
        refine sxo_add rfl rfl rfl rfl ?_
        refine sxo_move rfl rfl rfl ?_
        refine sxo_nil ?_
        exact sxq_againP ((x152, iadd .i64 x122 1), (a153, c154)) (hR := (.cons 0 rfl .nil)) (hF := (fk_cons 2 rfl fk_nil))
      · refine sxc_exit ?_
        refine sxq_thenX ?_
        refine sxq_thenX ?_
        refine sxq_blkX ?_
        exact sxq_meetP (x121, (a119, c120)) (hR := (.cons 0 rfl .nil))
    · rintro ⟨x102, ⟨a100, c101⟩⟩
      try dsimp only
      refine sxc_seq ?_
      refine sxc_region ?_
      refine sxo_move rfl rfl rfl ?_
      refine sxo_assign rfl rfl rfl ?_
      refine sxo_nil ?_
      refine sxq_next ?_
      refine sxc_ret ?_
      exact sxq_doneP (a100, c101) (res1 rfl rfl) (fun h => by subst h; exact (.cons 0 rfl .nil))

theorem C_slices_Sort_int_int (F : Nat) (x1 : List Int) (a2 : Option Addr) (c3 : Nat) (r : List Int) (hm : M_slices_Sort_int_int F x1 = some r) :
    PureM Try.prog 28 [.slice a2 x1.length c3] [] [Ro (eI .i64) 3 1 (.slice a2 x1.length c3) x1] [] Unit (fun _ => .tuple #[]) (fun _ => []) (fun _ => [Ro (eI .i64) 3 1 (.slice a2 r.length c3) r]) := by
  unfold M_slices_Sort_int_int at hm
  split at hm
  · cases hm
    exact sort_pureM Try.slices_Sort_int Try.slices_Sort_int_none (by assumption)
  · simp at hm

theorem C_huff_Lengths_1 (F : Nat) (x1 : Int) (r : Bool) (hm : M_huff_Lengths_1 F x1 = some r) :
    Pure Try.prog 30 [.int .i64 x1] [] Unit (fun _ => .bool r) (fun _ => []) (fun _ => []) := by
  refine pure_of Try.func30 rfl Try.ntmps30 rfl hm (fun w => ?_)
  refine sxc_env (l' := [(0, .int .i64 x1)]) rfl ?_
  refine sxc_seq ?_
  refine sxc_region ?_
  refine sxo_assign rfl rfl rfl ?_
  refine sxo_nil ?_
  refine sxq_next ?_
  refine sxc_seq ?_
  refine sxc_region ?_
  refine sxo_move rfl rfl rfl ?_
  refine sxo_gtr rfl rfl rfl rfl ?_
  refine sxo_assign rfl rfl rfl ?_
  refine sxo_nil ?_
  refine sxq_next ?_
  refine sxc_ret ?_
  exact sxq_doneP () (res1 rfl rfl)

theorem C_slices_IndexFunc_int_int_huff_Lengths_1 (F : Nat) (x1 : List Int) (a2 : Option Addr) (c3 : Nat) (r : Int) (hm : M_slices_IndexFunc_int_int_huff_Lengths_1 F x1 = some r) :
    Pure Try.prog 57 [.slice a2 x1.length c3, .func (.func 30) #[] #[]] [Sl (eI .i64) 1 (.slice a2 x1.length c3) x1] Unit (fun _ => .int .i64 r) (fun _ => []) (fun _ => []) := by
  refine pure_of Try.func57 rfl Try.ntmps57 rfl hm (fun w => ?_)
  refine sxc_env (l' := [(0, .slice a2 x1.length c3), (1, .func (.func 30) #[] #[])]) rfl ?_
  refine sxc_seq ?_
  refine sxc_region ?_
  refine sxo_assign rfl rfl rfl ?_
  refine sxo_nil ?_
  refine sxq_next ?_
  refine sxc_join (fun ((_, _) : (Unit × Unit)) => []) (fun ((_, _) : (Unit × Unit)) => []) (fun ((_, _) : (Unit × Unit)) => []) (fun ((_, _) : (Unit × Unit)) => []) (fun ((_, _) : (Unit × Unit)) => M_slices_IndexFunc_int_int_huff_Lengths_1_j2 F) ?_ ?_
  · refine sxc_seq ?_
    refine sxc_region ?_
    refine sxo_move rfl rfl rfl ?_
    refine sxo_len rfl Try.underlying22 rfl rfl ?_
    refine sxo_move rfl rfl rfl ?_
    refine sxo_nil ?_
    refine sxq_next ?_
    refine sxc_block ?_
    refine sxc_loopP (fun ((x54, _) : (Int × Unit)) => [(0, .slice a2 x1.length c3), (1, .func (.func 30) #[] #[]), (7, .int .i64 (x1.length : Int)), (8, .int .i64 x54)]) (fun ((x54, _) : (Int × Unit)) => []) (fun ((x54, _) : (Int × Unit)) => []) (fun ((x54, _) : (Int × Unit)) => [Sl (eI .i64) 1 (.slice a2 x1.length c3) x1]) (fun k (s : (Int × Unit)) => M_slices_IndexFunc_int_int_huff_Lengths_1_l3 F x1 k s.1) (0, ()) F ?_ (hF := (fk_cons 0 rfl fk_nil))
    intro k67
    rintro ⟨x54, _⟩
    try dsimp only
    refine sxc_meq (m' := M_slices_IndexFunc_int_int_huff_Lengths_1_b3 F x1 (M_slices_IndexFunc_int_int_huff_Lengths_1_l3 F x1 k67) x54) rfl ?_
    refine sxc_seq ?_
    refine sxc_region ?_
    refine sxo_lss rfl rfl rfl rfl ?_
    refine sxo_nil ?_
    refine sxq_next ?_
    refine sxc_seq ?_
    refine sxc_if rfl (fun h79 => ?_) (fun h79 => ?_)
    · refine sxc_skip ?_
      refine sxq_next ?_
      refine sxc_seq ?_
      refine sxc_block ?_
      refine sxc_seq ?_
      refine sxc_region ?_
      refine sxo_move rfl rfl rfl ?_
      refine sxo_assign rfl rfl rfl ?_
      refine sxo_nil ?_
      refine sxq_next ?_
      refine sxc_seq ?_
      refine sxc_region ?_
      refine sxo_move rfl rfl rfl ?_
      refine sxo_move rfl rfl rfl ?_
      refine sxo_move rfl rfl rfl ?_
      refine sxo_indexF (j := 0) (eI_ok .i64) (by decide) rfl Try.underlying22 tf3 rfl rfl rfl rfl (fun x74 e74 b75 o76 => ?_)
      refine sxo_loadF (j := 0) rfl rfl tf3 rfl rfl (fun _ => rfl) rfl rfl ?_
      refine sxo_callV ent30 rfl rfl rfl rfl (fun x77 e77 => C_huff_Lengths_1 F x74 x77 e77) .nil (fun x77 e77 => ?_)
      intro _
      refine sxo_nil ?_
      refine sxq_next ?_
      refine sxc_if rfl (fun h78 => ?_) (fun h78 => ?_)
      · refine sxc_seq ?_
        refine sxc_region ?_
        refine sxo_move rfl rfl rfl ?_
        refine sxo_assign rfl rfl rfl ?_
        refine sxo_nil ?_
        refine sxq_next ?_
        refine sxc_ret ?_
        refine sxq_blkR ?_
        refine sxq_thenR ?_
        refine sxq_thenR ?_
        refine sxq_blkR ?_
        refine sxq_thenR ?_
        exact sxq_doneP () (res1 rfl rfl)
      · refine sxc_skip ?_
        refine sxq_blkN ?_
        refine sxq_next ?_
        refine sxc_region ?_
        refine sxo_add rfl rfl rfl rfl ?_
        refine sxo_move rfl rfl rfl ?_
        refine sxo_nil ?_
        exact sxq_againP (iadd .i64 x54 1, ()) (hF := (fk_cons 1 rfl fk_nil))
    · refine sxc_exit ?_
      refine sxq_thenX ?_
      refine sxq_thenX ?_
      refine sxq_blkX ?_
      exact sxq_meetP ((), ())
  · rintro ⟨_, _⟩
    try dsimp only
    refine sxc_seq ?_
    refine sxc_region ?_
    refine sxo_assign rfl rfl rfl ?_
    refine sxo_nil ?_
    refine sxq_next ?_
    refine sxc_ret ?_
    exact sxq_doneP () (res1 rfl rfl)

theorem C_slices_ContainsFunc_int_int_huff_Lengths_1 (F : Nat) (x1 : List Int) (a2 : Option Addr) (c3 : Nat) (r : Bool) (hm : M_slices_ContainsFunc_int_int_huff_Lengths_1 F x1 = some r) :
    Pure Try.prog 29 [.slice a2 x1.length c3, .func (.func 30) #[] #[]] [Sl (eI .i64) 1 (.slice a2 x1.length c3) x1] Unit (fun _ => .bool r) (fun _ => []) (fun _ => []) := by
  refine pure_of Try.func29 rfl Try.ntmps29 rfl hm (fun w => ?_)
  refine sxc_env (l' := [(0, .slice a2 x1.length c3), (1, .func (.func 30) #[] #[])]) rfl ?_
  refine sxc_seq ?_
  refine sxc_region ?_
  refine sxo_assign rfl rfl rfl ?_
  refine sxo_nil ?_
  refine sxq_next ?_
  refine sxc_seq ?_
  refine sxc_region ?_
  refine sxo_move rfl rfl rfl ?_
  refine sxo_move rfl rfl rfl ?_
  refine sxo_call ent57 rfl rfl rfl (fun x4 e4 => C_slices_IndexFunc_int_int_huff_Lengths_1 F x1 a2 c3 x4 e4) (.consF 0 rfl .nil) (fun x4 e4 => ?_)
  intro _
  refine sxo_geq rfl rfl rfl rfl ?_
  refine sxo_assign rfl rfl rfl ?_
  refine sxo_nil ?_
  refine sxq_next ?_
  refine sxc_ret ?_
  exact sxq_doneP () (res1 rfl rfl)

set_option maxHeartbeats 4000000 in
theorem C_huff_Lengths (F : Nat) (x1 : List Int) (a2 : Option Addr) (c3 : Nat) (r : (List Int × Int)) (hm : M_huff_Lengths F x1 = some r) :
    Pure Try.prog 11 [.slice a2 x1.length c3] [Sl (eI .i64) 1 (.slice a2 x1.length c3) x1] (Option Addr × Nat) (fun g => .tuple #[.slice g.1 r.1.length g.2, .int .i64 r.2]) (fun g => [Ro (eI .i64) 3 1 (.slice g.1 r.1.length g.2) r.1]) (fun _ => []) := by
  refine pure_of Try.func11 rfl Try.ntmps11 rfl hm (fun w => ?_)
  refine sxc_env (l' := [(0, .slice a2 x1.length c3)]) rfl ?_
  refine sxc_seq ?_
  refine sxc_region ?_
  refine sxo_assign rfl rfl rfl ?_
  refine sxo_assign rfl rfl rfl ?_
  refine sxo_nil ?_
  refine sxq_next ?_
  refine sxc_seq ?_
  refine sxc_seq ?_
  refine sxc_region ?_
  refine sxo_move rfl rfl rfl ?_
  refine sxo_call ent24 rfl rfl rfl (fun x6 e6 => C_huff_check F x1 a2 c3 x6 e6) (.consF 0 rfl .nil) (fun x6 e6 => ?_)
  intro _
  refine sxo_assign rfl rfl rfl ?_
  refine sxo_nil ?_
  refine sxq_next ?_
  refine sxc_seq ?_
  refine sxc_region ?_
  refine sxo_move rfl rfl rfl ?_
  refine sxo_neq rfl rfl rfl rfl ?_
  refine sxo_nil ?_
  refine sxq_next ?_
  refine sxc_if rfl (fun h1508 => ?_) (fun h1508 => ?_)
  · refine sxc_seq ?_
    refine sxc_region ?_
    refine sxo_move rfl rfl rfl ?_
    refine sxo_assign rfl rfl rfl ?_
    refine sxo_assign rfl rfl rfl ?_
    refine sxo_nil ?_
    refine sxq_next ?_
    refine sxc_ret ?_
    refine sxq_thenR ?_
    refine sxq_nilrow Int (eI .i64) 3 1 ?_
    exact sxq_doneP (none, 0) (res2 rfl rfl rfl) (fun h => by subst h; exact (.cons 0 rfl .nil))
  · refine sxc_skip ?_
    refine sxq_next ?_
    refine sxc_seq ?_
    refine sxc_region ?_
    refine sxo_alloc rfl tf45 rfl (fun g7 => ?_)
    refine sxo_nilrow' ((List Int × Int) × (Option Addr × Nat)) eN48 48 2 ?_
    refine sxo_hnNil (List Int × Int) (Option Addr × Nat) iN48 ?_
    refine sxo_nil ?_
    refine sxq_next ?_
    refine sxc_join (fun ((x88, (a84, c85, g86, g87)) : (List (List Int × Int) × (Option Addr × Nat × List ((List Int × Int) × (Option Addr × Nat)) × List ((List Int × Int) × (Option Addr × Nat))))) => [(0, .slice a2 x1.length c3), (5, .pointer (some ⟨g7, 0, none⟩))]) (fun ((x88, (a84, c85, g86, g87)) : (List (List Int × Int) × (Option Addr × Nat × List ((List Int × Int) × (Option Addr × Nat)) × List ((List Int × Int) × (Option Addr × Nat))))) => [⟨g7, 45, [(qv a84 g86.length g87.length c85 2)]⟩]) (fun ((x88, (a84, c85, g86, g87)) : (List (List Int × Int) × (Option Addr × Nat × List ((List Int × Int) × (Option Addr × Nat)) × List ((List Int × Int) × (Option Addr × Nat))))) => [Ro eN48 48 2 (.slice a84 (g86 ++ g87).length c85) (g86 ++ g87)]) (fun ((x88, (a84, c85, g86, g87)) : (List (List Int × Int) × (Option Addr × Nat × List ((List Int × Int) × (Option Addr × Nat)) × List ((List Int × Int) × (Option Addr × Nat))))) => [Sl (eI .i64) 1 (.slice a2 x1.length c3) x1, HN iN48 x88 g87]) (fun ((x88, _) : (List (List Int × Int) × (Option Addr × Nat × List ((List Int × Int) × (Option Addr × Nat)) × List ((List Int × Int) × (Option Addr × Nat))))) => M_huff_Lengths_j5 F x1 x88) ?_ ?_
    · refine sxc_seq ?_
      refine sxc_region ?_
      refine sxo_move rfl rfl rfl ?_
      refine sxo_len rfl Try.underlying22 rfl rfl ?_
      refine sxo_move rfl rfl rfl ?_
      refine sxo_nil ?_
      refine sxq_next ?_
      refine sxc_block ?_
      refine sxc_loopP (fun (((x1455, x1460), (a1456, c1457, g1458, g1459)) : ((Int × List (List Int × Int)) × (Option Addr × Nat × List ((List Int × Int) × (Option Addr × Nat)) × List ((List Int × Int) × (Option Addr × Nat))))) => [(0, .slice a2 x1.length c3), (5, .pointer (some ⟨g7, 0, none⟩)), (19, .slice a2 x1.length c3), (20, .int .i64 (x1.length : Int)), (21, .int .i64 x1455)]) (fun (((x1455, x1460), (a1456, c1457, g1458, g1459)) : ((Int × List (List Int × Int)) × (Option Addr × Nat × List ((List Int × Int) × (Option Addr × Nat)) × List ((List Int × Int) × (Option Addr × Nat))))) => [⟨g7, 45, [(qv a1456 g1458.length g1459.length c1457 2)]⟩]) (fun (((x1455, x1460), (a1456, c1457, g1458, g1459)) : ((Int × List (List Int × Int)) × (Option Addr × Nat × List ((List Int × Int) × (Option Addr × Nat)) × List ((List Int × Int) × (Option Addr × Nat))))) => [Ro eN48 48 2 (.slice a1456 (g1458 ++ g1459).length c1457) (g1458 ++ g1459)]) (fun (((x1455, x1460), (a1456, c1457, g1458, g1459)) : ((Int × List (List Int × Int)) × (Option Addr × Nat × List ((List Int × Int) × (Option Addr × Nat)) × List ((List Int × Int) × (Option Addr × Nat))))) => [Sl (eI .i64) 1 (.slice a2 x1.length c3) x1, HN iN48 x1460 g1459]) (fun k (s : ((Int × List (List Int × Int)) × (Option Addr × Nat × List ((List Int × Int) × (Option Addr × Nat)) × List ((List Int × Int) × (Option Addr × Nat))))) => M_huff_Lengths_l36 F x1 k s.1) ((0, ([] : List (List Int × Int))), (none, 0, ([] : List ((List Int × Int) × (Option Addr × Nat))), ([] : List ((List Int × Int) × (Option Addr × Nat))))) F ?_ (hB := (.cons 0 rfl .nil)) (hR := (.cons 0 rfl .nil)) (hF := (fk_cons 1 rfl (fk_cons 0 rfl fk_nil)))
      intro k1484
      rintro ⟨⟨x1455, x1460⟩, ⟨a1456, c1457, g1458, g1459⟩⟩
      try dsimp only
      refine sxc_meq (m' := M_huff_Lengths_b36 F x1 (M_huff_Lengths_l36 F x1 k1484) x1455 x1460) rfl ?_
      refine sxc_seq ?_
      refine sxc_region ?_
      refine sxo_lss rfl rfl rfl rfl ?_
      refine sxo_nil ?_
      refine sxq_next ?_
      refine sxc_seq ?_
      refine sxc_if rfl (fun h1507 => ?_) (fun h1507 => ?_)
      · refine sxc_skip ?_
        refine sxq_next ?_
        refine sxc_join (fun ((x1498, (a1494, c1495, g1496, g1497)) : (List (List Int × Int) × (Option Addr × Nat × List ((List Int × Int) × (Option Addr × Nat)) × List ((List Int × Int) × (Option Addr × Nat))))) => [(0, .slice a2 x1.length c3), (5, .pointer (some ⟨g7, 0, none⟩)), (19, .slice a2 x1.length c3), (20, .int .i64 (x1.length : Int)), (21, .int .i64 x1455)]) (fun ((x1498, (a1494, c1495, g1496, g1497)) : (List (List Int × Int) × (Option Addr × Nat × List ((List Int × Int) × (Option Addr × Nat)) × List ((List Int × Int) × (Option Addr × Nat))))) => [⟨g7, 45, [(qv a1494 g1496.length g1497.length c1495 2)]⟩]) (fun ((x1498, (a1494, c1495, g1496, g1497)) : (List (List Int × Int) × (Option Addr × Nat × List ((List Int × Int) × (Option Addr × Nat)) × List ((List Int × Int) × (Option Addr × Nat))))) => [Ro eN48 48 2 (.slice a1494 (g1496 ++ g1497).length c1495) (g1496 ++ g1497)]) (fun ((x1498, (a1494, c1495, g1496, g1497)) : (List (List Int × Int) × (Option Addr × Nat × List ((List Int × Int) × (Option Addr × Nat)) × List ((List Int × Int) × (Option Addr × Nat))))) => [Sl (eI .i64) 1 (.slice a2 x1.length c3) x1, HN iN48 x1498 g1497]) (fun ((x1498, _) : (List (List Int × Int) × (Option Addr × Nat × List ((List Int × Int) × (Option Addr × Nat)) × List ((List Int × Int) × (Option Addr × Nat))))) => M_huff_Lengths_j37 F (M_huff_Lengths_l36 F x1 k1484) x1455 x1498) ?_ ?_
        · refine sxc_block ?_
          refine sxc_seq ?_
          refine sxc_region ?_
          refine sxo_move rfl rfl rfl ?_
          refine sxo_indexF (j := 0) (eI_ok .i64) (by decide) rfl Try.underlying22 tf3 rfl rfl rfl rfl (fun x1499 e1499 b1500 o1501 => ?_)
          refine sxo_loadF (j := 0) rfl rfl tf3 rfl rfl (fun _ => rfl) rfl rfl ?_
          refine sxo_assign rfl rfl rfl ?_
          refine sxo_assign rfl rfl rfl ?_
          refine sxo_nil ?_
          refine sxq_next ?_
          refine sxc_seq ?_
          refine sxc_region ?_
          refine sxo_move rfl rfl rfl ?_
          refine sxo_gtr rfl rfl rfl rfl ?_
          refine sxo_nil ?_
          refine sxq_next ?_
          refine sxc_if rfl (fun h1506 => ?_) (fun h1506 => ?_)
          · refine sxc_region ?_
            refine sxo_move rfl rfl rfl ?_
            refine sxo_slit (vs := [.int .i64 x1455]) (ys := ([x1455] : List Int)) (eI_ok .i64) (by decide) rfl Try.underlying22 tf3 rfl rfl rfl rfl rfl (by decide) (fun a1502 c1503 => ?_)
            refine sxo_move rfl rfl rfl ?_
            refine sxo_build (cells := [.slice a1502 ([x1455] : List Int).length c1503, .int .i64 x1499]) rfl st48 rfl (by kernel_rfl) rfl ?_
            refine sxo_freeze 0 rfl ?_
            refine sxo_callM ent25 rfl rfl rfl (fun x1504 e1504 => C_push F g7 a1456 c1457 g1458 g1459 x1460 ([x1455] : List Int) a1502 c1503 x1499 x1504 e1504) (.cons 0 rfl .nil) (.cons 0 rfl .nil) (.consF 3 rfl (.consF 0 rfl .nil)) (fun x1504 e1504 g1505 => ?_)
            refine sxo_hnIns (k := x1504) (q := ((([x1455] : List Int), x1499), (a1502, c1503))) 3 0 rfl rfl rfl ?_
            refine sxo_nil ?_
            refine sxq_blkN ?_
            exact sxq_meetP ((insK x1504 x1460 (([x1455] : List Int), x1499)), (g1505.1, g1505.2.1, g1505.2.2, (insK x1504 g1459 ((([x1455] : List Int), x1499), (a1502, c1503))))) (hB := (.cons 0 rfl .nil)) (hR := (.cons 0 rfl .nil)) (hF := (fk_cons 3 rfl (fk_cons 0 rfl fk_nil)))
          · refine sxc_skip ?_
            refine sxq_blkN ?_
            exact sxq_meetP (x1460, (a1456, c1457, g1458, g1459)) (hB := (.cons 0 rfl .nil)) (hR := (.cons 0 rfl .nil)) (hF := (fk_cons 1 rfl (fk_cons 2 rfl fk_nil)))
        · rintro ⟨x1498, ⟨a1494, c1495, g1496, g1497⟩⟩
          try dsimp only
          refine sxc_region ?_
          refine sxo_add rfl rfl rfl rfl ?_
          refine sxo_move rfl rfl rfl ?_
          refine sxo_nil ?_
          exact sxq_againP ((iadd .i64 x1455 1, x1498), (a1494, c1495, g1496, g1497)) (hB := (.cons 0 rfl .nil)) (hR := (.cons 0 rfl .nil)) (hF := (fk_cons 0 rfl (fk_cons 1 rfl fk_nil)))
      · refine sxc_exit ?_
        refine sxq_thenX ?_
        refine sxq_thenX ?_
        refine sxq_blkX ?_
        exact sxq_meetP (x1460, (a1456, c1457, g1458, g1459)) (hB := (.cons 0 rfl .nil)) (hR := (.cons 0 rfl .nil)) (hF := (fk_cons 0 rfl (fk_cons 1 rfl fk_nil)))
    · rintro ⟨x88, ⟨a84, c85, g86, g87⟩⟩
      try dsimp only
      refine sxc_seq ?_
      refine sxc_region ?_
      refine sxo_move rfl rfl rfl ?_
      refine sxo_len rfl Try.underlying22 rfl rfl ?_
      refine sxo_mk (eI_ok .i64) rfl Try.underlying22 tf3 rfl rfl rfl rfl rfl rfl rfl (fun x89 e89 a90 c91 => ?_)
      refine sxo_assign rfl rfl rfl ?_
      refine sxo_nil ?_
      refine sxq_next ?_
      refine sxc_join (fun ((x107, _) : (List Int × Unit)) => [(5, .pointer (some ⟨g7, 0, none⟩)), (8, .slice a90 x107.length c91)]) (fun ((x107, _) : (List Int × Unit)) => [⟨g7, 45, [(qv a84 g86.length g87.length c85 2)]⟩]) (fun ((x107, _) : (List Int × Unit)) => [Ro (eI .i64) 3 1 (.slice a90 x107.length c91) x107, Ro eN48 48 2 (.slice a84 (g86 ++ g87).length c85) (g86 ++ g87)]) (fun ((x107, _) : (List Int × Unit)) => [HN iN48 x88 g87]) (fun ((x107, _) : (List Int × Unit)) => M_huff_Lengths_j6 F x88 x107) ?_ ?_
      · refine sxc_seq ?_
        refine sxc_region ?_
        refine sxo_loadB (i := 0) rfl rfl tf45 rfl rfl (fun _ => rfl) rfl rfl ?_
        refine sxo_lenH 1 rfl rfl Try.underlying45 rfl rfl ?_
        refine sxo_eql rfl rfl rfl rfl ?_
        refine sxo_nil ?_
        refine sxq_next ?_
        refine sxc_if rfl (fun h1431 => ?_) (fun h1431 => ?_)
        · refine sxc_region ?_
          refine sxo_move rfl rfl rfl ?_
          refine sxo_loadB (i := 0) rfl rfl tf45 rfl rfl (fun _ => rfl) rfl rfl ?_
          refine sxo_idxH (f := 1) (j := 1) (hs := g86) rfl rfl Try.underlying45 tf48 rfl rfl rfl rfl (fun x1417 e1417 g1418 h1419 g1420 h1421 => ?_)
          refine sxo_fieldAddr rfl rfl ff48_0 rfl ?_
          refine sxo_loadRo (j := 1) (y := (x1417, g1418)) (off := 0) eN48_ok rfl rfl tf22 rfl h1421 h1419 rfl (fun _ => rfl) rfl rfl ?_
          refine sxo_indexF (j := 0) (eI_ok .i64) (by decide) rfl Try.underlying22 tf3 rfl rfl rfl rfl (fun x1422 e1422 b1423 o1424 => ?_)
          refine sxo_loadF (j := 0) rfl rfl tf3 rfl rfl (fun _ => rfl) rfl rfl ?_
          refine sxo_indexR (j := 0) rfl Try.underlying22 tf3 rfl rfl rfl rfl (fun x1425 e1425 g1426 h1427 => ?_)
          refine sxo_storeL (j := 0) (y' := 1) (eI_ok .i64) rfl rfl rfl tf3 rfl h1427 (idx_get e1425).2.1 rfl (fun x1428 e1428 h1429 => ?_)
          have h1430 : x1428.length = x89.length := by rw [← e1428, List.length_set]
          refine sxo_again (d := 8) (v := .slice a90 x1428.length c91) rfl h1429 ?_
          refine sxo_again (d := 36) (v := .slice a90 x1428.length c91) rfl h1429 ?_
          refine sxo_again (d := 40) (v := .slice a90 x1428.length c91) rfl h1429 ?_
          refine sxo_nil ?_
          exact sxq_meetP (x1428, ()) (hB := (.cons 0 rfl .nil)) (hR := (.cons 0 rfl (.cons 0 rfl .nil))) (hF := (fk_cons 3 rfl fk_nil))
        · refine sxc_skip ?_
          exact sxq_meetP (x89, ()) (hB := (.cons 0 rfl .nil)) (hR := (.cons 0 rfl (.cons 0 rfl .nil))) (hF := (fk_cons 1 rfl fk_nil))
      · rintro ⟨x107, _⟩
        try dsimp only
        refine sxc_join (fun ((x760, _) : (List Int × Unit)) => [(8, .slice a90 x760.length c91)]) (fun ((x760, _) : (List Int × Unit)) => []) (fun ((x760, _) : (List Int × Unit)) => [Ro (eI .i64) 3 1 (.slice a90 x760.length c91) x760]) (fun ((x760, _) : (List Int × Unit)) => []) (fun ((x760, _) : (List Int × Unit)) => M_huff_Lengths_j20 F x760) ?_ ?_
        · refine sxc_block ?_
          refine sxc_loopP (fun (((x980, x985), (a981, c982, g983, g984)) : ((List Int × List (List Int × Int)) × (Option Addr × Nat × List ((List Int × Int) × (Option Addr × Nat)) × List ((List Int × Int) × (Option Addr × Nat))))) => [(5, .pointer (some ⟨g7, 0, none⟩)), (8, .slice a90 x980.length c91)]) (fun (((x980, x985), (a981, c982, g983, g984)) : ((List Int × List (List Int × Int)) × (Option Addr × Nat × List ((List Int × Int) × (Option Addr × Nat)) × List ((List Int × Int) × (Option Addr × Nat))))) => [⟨g7, 45, [(qv a981 g983.length g984.length c982 2)]⟩]) (fun (((x980, x985), (a981, c982, g983, g984)) : ((List Int × List (List Int × Int)) × (Option Addr × Nat × List ((List Int × Int) × (Option Addr × Nat)) × List ((List Int × Int) × (Option Addr × Nat))))) => [Ro (eI .i64) 3 1 (.slice a90 x980.length c91) x980, Ro eN48 48 2 (.slice a981 (g983 ++ g984).length c982) (g983 ++ g984)]) (fun (((x980, x985), (a981, c982, g983, g984)) : ((List Int × List (List Int × Int)) × (Option Addr × Nat × List ((List Int × Int) × (Option Addr × Nat)) × List ((List Int × Int) × (Option Addr × Nat))))) => [HN iN48 x985 g984]) (fun k (s : ((List Int × List (List Int × Int)) × (Option Addr × Nat × List ((List Int × Int) × (Option Addr × Nat)) × List ((List Int × Int) × (Option Addr × Nat))))) => M_huff_Lengths_l29 F k s.1) ((x107, x88), (a84, c85, g86, g87)) F ?_ (hB := (.cons 0 rfl .nil)) (hR := (.cons 0 rfl (.cons 0 rfl .nil))) (hF := (fk_cons 0 rfl fk_nil))
          intro k1201
          rintro ⟨⟨x980, x985⟩, ⟨a981, c982, g983, g984⟩⟩
          try dsimp only
          refine sxc_meq (m' := M_huff_Lengths_b29 F (M_huff_Lengths_l29 F k1201) x980 x985) rfl ?_
          refine sxc_seq ?_
          refine sxc_seq ?_
          refine sxc_region ?_
          refine sxo_loadB (i := 0) rfl rfl tf45 rfl rfl (fun _ => rfl) rfl rfl ?_
          refine sxo_lenH 0 rfl rfl Try.underlying45 rfl rfl ?_
          refine sxo_gtr rfl rfl rfl rfl ?_
          refine sxo_nil ?_
          refine sxq_next ?_
          refine sxc_if rfl (fun h1416 => ?_) (fun h1416 => ?_)
          · refine sxc_skip ?_
            refine sxq_next ?_
            refine sxc_block ?_
            refine sxc_seq ?_
            refine sxc_region ?_
            refine sxo_callPop (hs := g983) (i := 0) (j := 1) (p := 0) ent26 rfl rfl rfl (fun q zs => C_pop g7 a981 c982 g983 zs q) rfl rfl rfl (fun x1203 _ g1204 g1205 g1206 => ?_)
            refine sxo_callPop (hs := g1206) (i := 0) (j := 0) (p := 0) ent26 rfl rfl rfl (fun q zs => C_pop g7 a981 c982 g1206 zs q) rfl rfl rfl (fun x1207 _ g1208 g1209 g1210 => ?_)
            refine sxo_alloc rfl tf48 rfl (fun g1211 => ?_)
            refine sxo_alloc rfl tf48 rfl (fun g1212 => ?_)
            refine sxo_storeB (i := 1) rfl rfl rfl tf48 rfl rfl rfl rfl rfl ?_
            refine sxo_storeB (i := 0) rfl rfl rfl tf48 rfl rfl rfl rfl rfl ?_
            refine sxo_nil ?_
            refine sxq_next ?_
            refine sxc_join (fun ((x1232, (g1229, a1230, c1231)) : (List Int × (Nat × Option Addr × Nat))) => [(5, .pointer (some ⟨g7, 0, none⟩)), (8, .slice a90 x980.length c91), (11, .pointer (some ⟨g1229, 0, none⟩))]) (fun ((x1232, (g1229, a1230, c1231)) : (List Int × (Nat × Option Addr × Nat))) => [⟨g7, 45, [(qv a981 g1210.length g1209.length c982 2)]⟩, ⟨g1229, 48, [.slice a1230 x1232.length c1231, .int .i64 (iadd .i64 x1203.1.2 x1207.1.2)]⟩]) (fun ((x1232, (g1229, a1230, c1231)) : (List Int × (Nat × Option Addr × Nat))) => [Ro (eI .i64) 3 1 (.slice a90 x980.length c91) x980, Ro eN48 48 2 (.slice a981 (g1210 ++ g1209).length c982) (g1210 ++ g1209), Ro (eI .i64) 3 1 (.slice a1230 x1232.length c1231) x1232]) (fun ((x1232, (g1229, a1230, c1231)) : (List Int × (Nat × Option Addr × Nat))) => [HN iN48 x1207.2 g1209]) (fun ((x1232, _) : (List Int × (Nat × Option Addr × Nat))) => M_huff_Lengths_j30 F (M_huff_Lengths_l29 F k1201) x980 x1203 x1207 x1232) ?_ ?_
            · refine sxb_draw mixed [] [⟨g1212, 48, [.slice g1208.1 x1207.1.1.length g1208.2, .int .i64 x1207.1.2]⟩, ⟨g1211, 48, [.slice g1204.1 x1203.1.1.length g1204.2, .int .i64 x1203.1.2]⟩, ⟨g7, 45, [(qv a981 g1210.length g1209.length c982 2)]⟩] [HN iN48 x1207.2 g1209, Sl (eI .i64) 1 (.slice g1208.1 x1207.1.1.length g1208.2) x1207.1.1, HN iN48 x1203.2 g1205, Sl (eI .i64) 1 (.slice g1204.1 x1203.1.1.length g1204.2) x1203.1.1, HN iN48 x985 g984] (.cons 0 rfl (.cons 0 rfl (.cons 0 rfl .nil))) (gk_F 0 rfl (gk_F 1 rfl (gk_F 2 rfl (gk_F 3 rfl (gk_F 4 rfl gk_nil))))) 14 rfl ?_
              refine sxb_takeP 0 (.pointer (some ⟨g1211, 0, none⟩)) rfl rfl rfl (yv_fieldAddr rfl ff48_0) ?_
              refine sxb_takeB 1 (.slice g1204.1 x1203.1.1.length g1204.2) rfl rfl rfl (yv_loadB (i := 1) rfl tf22 rfl rfl (fun _ => rfl) rfl) ?_
              refine sxb_takeP 2 (.pointer (some ⟨g1212, 0, none⟩)) rfl rfl rfl (yv_fieldAddr rfl ff48_0) ?_
              refine sxb_takeB 3 (.slice g1208.1 x1207.1.1.length g1208.2) rfl rfl rfl (yv_loadB (i := 0) rfl tf22 rfl rfl (fun _ => rfl) rfl) ?_
              refine sxb_takeP 6 (.pointer (some ⟨g1211, 1, none⟩)) rfl rfl rfl (yv_fieldAddr rfl ff48_1) ?_
              refine sxb_takeB 7 (.int .i64 x1203.1.2) rfl rfl rfl (yv_loadB (i := 1) rfl tf3 rfl rfl (fun _ => rfl) rfl) ?_
              refine sxb_takeP 8 (.pointer (some ⟨g1212, 1, none⟩)) rfl rfl rfl (yv_fieldAddr rfl ff48_1) ?_
              refine sxb_takeB 9 (.int .i64 x1207.1.2) rfl rfl rfl (yv_loadB (i := 0) rfl tf3 rfl rfl (fun _ => rfl) rfl) ?_
              refine sxb_takeP 10 (.int .i64 (iadd .i64 x1203.1.2 x1207.1.2)) rfl rfl rfl (yv_pv rfl) ?_
              refine sxb_two 4 12 rfl rfl (by kernel_rfl) rfl rfl ?_ ?_
              · refine sxo_slit (vs := [.slice g1204.1 x1203.1.1.length g1204.2, .slice g1208.1 x1207.1.1.length g1208.2]) (ys := ([(x1203.1.1, (g1204.1, g1204.2)), (x1207.1.1, (g1208.1, g1208.2))] : List (List Int × (Option Addr × Nat)))) eN22_ok (by decide) rfl Try.underlying75 tf22 rfl rfl rfl rfl rfl (by decide) (fun a1400 c1401 => ?_)
                refine sxo_nestF (inn := iN22) ([x1203.1.1, x1207.1.1] : List (List Int)) ([(g1204.1, g1204.2), (g1208.1, g1208.2)] : List (Option Addr × Nat)) 0 rfl rfl (fk_cons 3 rfl (fk_cons 1 rfl fk_nil)) ?_
                refine sxo_nil ?_
                refine sxq_anyB (.cons 0 rfl (.cons 0 rfl (.cons 0 rfl .nil))) (gk_F 1 rfl (gk_F 2 rfl (gk_F 3 rfl (gk_F 4 rfl (gk_F 5 rfl gk_nil))))) ?_
                refine sxb_two 5 12 rfl rfl (by kernel_rfl) rfl rfl ?_ ?_
                · refine sxo_call ent27 rfl rfl rfl (fun x1402 e1402 => C_slices_Concat_int_int F ([x1203.1.1, x1207.1.1] : List (List Int)) a1400 (c1401, ([(g1204.1, g1204.2), (g1208.1, g1208.2)] : List (Option Addr × Nat))) x1402 e1402) (.consF 0 rfl .nil) (fun x1402 e1402 => ?_)
                  rintro ⟨a1403, c1404⟩
                  refine sxo_nil ?_
                  refine sxq_anyB (.cons 0 rfl (.cons 0 rfl (.cons 0 rfl .nil))) (gk_F 1 rfl (gk_F 2 rfl (gk_F 3 rfl (gk_F 4 rfl (gk_F 5 rfl gk_nil))))) ?_
                  refine sxb_takeP 11 (.agg #[.slice a1403 x1402.length c1404, .int .i64 (iadd .i64 x1203.1.2 x1207.1.2)]) rfl rfl rfl (yv_build (cells := [.slice a1403 x1402.length c1404, .int .i64 (iadd .i64 x1203.1.2 x1207.1.2)]) st48 rfl (by kernel_rfl)) ?_
                  refine sxb_step 12 rfl (by kernel_rfl) rfl ?_
                  refine sxo_alloc rfl tf48 rfl (fun g1405 => ?_)
                  refine sxo_nil ?_
                  refine sxq_anyB (.cons 1 rfl (.cons 1 rfl (.cons 1 rfl .nil))) (gk_F 1 rfl (gk_F 2 rfl (gk_F 3 rfl (gk_F 4 rfl (gk_F 5 rfl gk_nil))))) ?_
                  refine sxb_step 13 rfl (by kernel_rfl) rfl ?_
                  refine sxo_storeB (i := 0) rfl rfl rfl tf48 rfl rfl rfl rfl rfl ?_
                  refine sxo_nil ?_
                  refine sxq_anyB (.cons 1 rfl (.cons 1 rfl (.cons 1 rfl .nil))) (gk_F 1 rfl (gk_F 2 rfl (gk_F 3 rfl (gk_F 4 rfl (gk_F 5 rfl gk_nil))))) ?_
                  refine sxb_done (by kernel_rfl) ?_
                  refine sxq_np ?_ (by intro c h; cases h)
                  exact sxq_meetP (x1402, (g1405, a1403, c1404)) (hB := (.cons 3 rfl (.cons 0 rfl .nil))) (hR := (.cons 2 rfl (.cons 1 rfl (.cons 0 rfl .nil)))) (hF := (fk_cons 1 rfl fk_nil))
                · refine sxo_meq (m' := ((M_slices_Concat_int_int F ([x1203.1.1, x1207.1.1] : List (List Int))).bind fun x1407 => M_huff_Lengths_j30 F (M_huff_Lengths_l29 F k1201) x980 x1203 x1207 x1407)) (rfl) ?_
                  refine sxo_alloc rfl tf48 rfl (fun g1406 => ?_)
                  refine sxo_nil ?_
                  refine sxq_anyB (.cons 1 rfl (.cons 1 rfl (.cons 1 rfl .nil))) (gk_F 1 rfl (gk_F 2 rfl (gk_F 3 rfl (gk_F 4 rfl (gk_F 5 rfl gk_nil))))) ?_
                  refine sxb_step 5 rfl (by kernel_rfl) rfl ?_
                  refine sxo_call ent27 rfl rfl rfl (fun x1407 e1407 => C_slices_Concat_int_int F ([x1203.1.1, x1207.1.1] : List (List Int)) a1400 (c1401, ([(g1204.1, g1204.2), (g1208.1, g1208.2)] : List (Option Addr × Nat))) x1407 e1407) (.consF 0 rfl .nil) (fun x1407 e1407 => ?_)
                  rintro ⟨a1408, c1409⟩
                  refine sxo_nil ?_
                  refine sxq_anyB (.cons 1 rfl (.cons 1 rfl (.cons 1 rfl .nil))) (gk_F 1 rfl (gk_F 2 rfl (gk_F 3 rfl (gk_F 4 rfl (gk_F 5 rfl gk_nil))))) ?_
                  refine sxb_takeP 11 (.agg #[.slice a1408 x1407.length c1409, .int .i64 (iadd .i64 x1203.1.2 x1207.1.2)]) rfl rfl rfl (yv_build (cells := [.slice a1408 x1407.length c1409, .int .i64 (iadd .i64 x1203.1.2 x1207.1.2)]) st48 rfl (by kernel_rfl)) ?_
                  refine sxb_step 13 rfl (by kernel_rfl) rfl ?_
                  refine sxo_storeB (i := 0) rfl rfl rfl tf48 rfl rfl rfl rfl rfl ?_
                  refine sxo_nil ?_
                  refine sxq_anyB (.cons 1 rfl (.cons 1 rfl (.cons 1 rfl .nil))) (gk_F 1 rfl (gk_F 2 rfl (gk_F 3 rfl (gk_F 4 rfl (gk_F 5 rfl gk_nil))))) ?_
                  refine sxb_done (by kernel_rfl) ?_
                  refine sxq_np ?_ (by intro c h; cases h)
                  exact sxq_meetP (x1407, (g1406, a1408, c1409)) (hB := (.cons 3 rfl (.cons 0 rfl .nil))) (hR := (.cons 2 rfl (.cons 1 rfl (.cons 0 rfl .nil)))) (hF := (fk_cons 1 rfl fk_nil))
              · refine sxo_meq (m' := ((M_slices_Concat_int_int F ([x1203.1.1, x1207.1.1] : List (List Int))).bind fun x1413 => M_huff_Lengths_j30 F (M_huff_Lengths_l29 F k1201) x980 x1203 x1207 x1413)) (rfl) ?_
                refine sxo_alloc rfl tf48 rfl (fun g1410 => ?_)
                refine sxo_nil ?_
                refine sxq_anyB (.cons 1 rfl (.cons 1 rfl (.cons 1 rfl .nil))) (gk_F 0 rfl (gk_F 1 rfl (gk_F 2 rfl (gk_F 3 rfl (gk_F 4 rfl gk_nil))))) ?_
                refine sxb_step 4 rfl (by kernel_rfl) rfl ?_
                refine sxo_slit (vs := [.slice g1204.1 x1203.1.1.length g1204.2, .slice g1208.1 x1207.1.1.length g1208.2]) (ys := ([(x1203.1.1, (g1204.1, g1204.2)), (x1207.1.1, (g1208.1, g1208.2))] : List (List Int × (Option Addr × Nat)))) eN22_ok (by decide) rfl Try.underlying75 tf22 rfl rfl rfl rfl rfl (by decide) (fun a1411 c1412 => ?_)
                refine sxo_nestF (inn := iN22) ([x1203.1.1, x1207.1.1] : List (List Int)) ([(g1204.1, g1204.2), (g1208.1, g1208.2)] : List (Option Addr × Nat)) 0 rfl rfl (fk_cons 3 rfl (fk_cons 1 rfl fk_nil)) ?_
                refine sxo_nil ?_
                refine sxq_anyB (.cons 1 rfl (.cons 1 rfl (.cons 1 rfl .nil))) (gk_F 1 rfl (gk_F 2 rfl (gk_F 3 rfl (gk_F 4 rfl (gk_F 5 rfl gk_nil))))) ?_
                refine sxb_step 5 rfl (by kernel_rfl) rfl ?_
                refine sxo_call ent27 rfl rfl rfl (fun x1413 e1413 => C_slices_Concat_int_int F ([x1203.1.1, x1207.1.1] : List (List Int)) a1411 (c1412, ([(g1204.1, g1204.2), (g1208.1, g1208.2)] : List (Option Addr × Nat))) x1413 e1413) (.consF 0 rfl .nil) (fun x1413 e1413 => ?_)
                rintro ⟨a1414, c1415⟩
                refine sxo_nil ?_
                refine sxq_anyB (.cons 1 rfl (.cons 1 rfl (.cons 1 rfl .nil))) (gk_F 1 rfl (gk_F 2 rfl (gk_F 3 rfl (gk_F 4 rfl (gk_F 5 rfl gk_nil))))) ?_
                refine sxb_takeP 11 (.agg #[.slice a1414 x1413.length c1415, .int .i64 (iadd .i64 x1203.1.2 x1207.1.2)]) rfl rfl rfl (yv_build (cells := [.slice a1414 x1413.length c1415, .int .i64 (iadd .i64 x1203.1.2 x1207.1.2)]) st48 rfl (by kernel_rfl)) ?_
                refine sxb_step 13 rfl (by kernel_rfl) rfl ?_
                refine sxo_storeB (i := 0) rfl rfl rfl tf48 rfl rfl rfl rfl rfl ?_
                refine sxo_nil ?_
                refine sxq_anyB (.cons 1 rfl (.cons 1 rfl (.cons 1 rfl .nil))) (gk_F 1 rfl (gk_F 2 rfl (gk_F 3 rfl (gk_F 4 rfl (gk_F 5 rfl gk_nil))))) ?_
                refine sxb_done (by kernel_rfl) ?_
                refine sxq_np ?_ (by intro c h; cases h)
                exact sxq_meetP (x1413, (g1410, a1414, c1415)) (hB := (.cons 3 rfl (.cons 0 rfl .nil))) (hR := (.cons 2 rfl (.cons 1 rfl (.cons 0 rfl .nil)))) (hF := (fk_cons 1 rfl fk_nil))
            · rintro ⟨x1232, ⟨g1229, a1230, c1231⟩⟩
              try dsimp only
              refine sxc_seq ?_
              refine sxc_region ?_
              refine sxo_fieldAddr rfl rfl ff48_0 rfl ?_
              refine sxo_loadB (i := 1) rfl rfl tf22 rfl rfl (fun _ => rfl) rfl rfl ?_
              refine sxo_callM ent28 rfl rfl rfl (fun x1233 e1233 => C_slices_Sort_int_int F x1232 a1230 c1231 x1233 e1233) .nil (.cons 2 rfl .nil) .nil (fun x1233 e1233 => ?_)
              intro _
              refine sxo_chk (fun h1234 => ?_)
              replace h1234 := of_decide_eq_true h1234
              refine sxo_again (d := 66) (v := .slice a1230 x1233.length c1231) rfl (by rw [h1234] <;> rfl) ?_
              refine sxo_blkAgain (i := 1) (cs' := [.slice a1230 x1233.length c1231, .int .i64 (iadd .i64 x1203.1.2 x1207.1.2)]) rfl (by rw [h1234] <;> rfl) ?_
              refine sxo_nil ?_
              refine sxq_next ?_
              refine sxc_join (fun ((x1316, _) : (List Int × Unit)) => [(5, .pointer (some ⟨g7, 0, none⟩)), (8, .slice a90 x1316.length c91), (11, .pointer (some ⟨g1229, 0, none⟩))]) (fun ((x1316, _) : (List Int × Unit)) => [⟨g7, 45, [(qv a981 g1210.length g1209.length c982 2)]⟩, ⟨g1229, 48, [.slice a1230 x1233.length c1231, .int .i64 (iadd .i64 x1203.1.2 x1207.1.2)]⟩]) (fun ((x1316, _) : (List Int × Unit)) => [Ro (eI .i64) 3 1 (.slice a90 x1316.length c91) x1316, Ro eN48 48 2 (.slice a981 (g1210 ++ g1209).length c982) (g1210 ++ g1209), Ro (eI .i64) 3 1 (.slice a1230 x1233.length c1231) x1233]) (fun ((x1316, _) : (List Int × Unit)) => [HN iN48 x1207.2 g1209]) (fun ((x1316, _) : (List Int × Unit)) => M_huff_Lengths_j32 F (M_huff_Lengths_l29 F k1201) x1203 x1207 x1233 x1316) ?_ ?_
              · refine sxc_seq ?_
                refine sxc_region ?_
                refine sxo_fieldAddr rfl rfl ff48_0 rfl ?_
                refine sxo_loadB (i := 1) rfl rfl tf22 rfl rfl (fun _ => rfl) rfl rfl ?_
                refine sxo_len rfl Try.underlying22 rfl rfl ?_
                refine sxo_move rfl rfl rfl ?_
                refine sxo_nil ?_
                refine sxq_next ?_
                refine sxc_block ?_
                refine sxc_loopP (fun (((x1345, x1346), _) : ((List Int × Int) × Unit)) => [(5, .pointer (some ⟨g7, 0, none⟩)), (8, .slice a90 x1345.length c91), (11, .pointer (some ⟨g1229, 0, none⟩)), (69, .slice a1230 x1233.length c1231), (70, .int .i64 (x1233.length : Int)), (71, .int .i64 x1346)]) (fun (((x1345, x1346), _) : ((List Int × Int) × Unit)) => [⟨g7, 45, [(qv a981 g1210.length g1209.length c982 2)]⟩, ⟨g1229, 48, [.slice a1230 x1233.length c1231, .int .i64 (iadd .i64 x1203.1.2 x1207.1.2)]⟩]) (fun (((x1345, x1346), _) : ((List Int × Int) × Unit)) => [Ro (eI .i64) 3 1 (.slice a90 x1345.length c91) x1345, Ro (eI .i64) 3 1 (.slice a1230 x1233.length c1231) x1233, Ro eN48 48 2 (.slice a981 (g1210 ++ g1209).length c982) (g1210 ++ g1209)]) (fun (((x1345, x1346), _) : ((List Int × Int) × Unit)) => [HN iN48 x1207.2 g1209]) (fun k (s : ((List Int × Int) × Unit)) => M_huff_Lengths_l33 F (M_huff_Lengths_l29 F k1201) x1203 x1207 x1233 k s.1) ((x980, 0), ()) F ?_ (hB := (.cons 0 rfl (.cons 0 rfl .nil))) (hR := (.cons 1 rfl (.cons 0 rfl (.cons 0 rfl .nil)))) (hF := (fk_cons 0 rfl fk_nil))
                intro k1373
                rintro ⟨⟨x1345, x1346⟩, _⟩
                try dsimp only
                refine sxc_meq (m' := M_huff_Lengths_b33 F (M_huff_Lengths_l29 F k1201) x1203 x1207 x1233 (M_huff_Lengths_l33 F (M_huff_Lengths_l29 F k1201) x1203 x1207 x1233 k1373) x1345 x1346) rfl ?_
                refine sxc_seq ?_
                refine sxc_region ?_
                refine sxo_lss rfl rfl rfl rfl ?_
                refine sxo_nil ?_
                refine sxq_next ?_
                refine sxc_seq ?_
                refine sxc_if rfl (fun h1399 => ?_) (fun h1399 => ?_)
                · refine sxc_skip ?_
                  refine sxq_next ?_
                  refine sxc_seq ?_
                  refine sxc_block ?_
                  refine sxc_seq ?_
                  refine sxc_region ?_
                  refine sxo_indexR (j := 1) rfl Try.underlying22 tf3 rfl rfl rfl rfl (fun x1387 e1387 g1388 h1389 => ?_)
                  refine sxo_loadR (j := 1) (y := x1387) (eI_ok .i64) rfl rfl tf3 rfl h1389 (idx_get e1387).2.2 (fun _ => rfl) rfl rfl ?_
                  refine sxo_assign rfl rfl rfl ?_
                  refine sxo_nil ?_
                  refine sxq_next ?_
                  refine sxc_region ?_
                  refine sxo_move rfl rfl rfl ?_
                  refine sxo_move rfl rfl rfl ?_
                  refine sxo_indexR (j := 0) rfl Try.underlying22 tf3 rfl rfl rfl rfl (fun x1390 e1390 g1391 h1392 => ?_)
                  refine sxo_loadR (j := 0) (y := x1390) (eI_ok .i64) rfl rfl tf3 rfl h1392 (idx_get e1390).2.2 (fun _ => rfl) rfl rfl ?_
                  refine sxo_add rfl rfl rfl rfl ?_
                  refine sxo_indexR (j := 0) rfl Try.underlying22 tf3 rfl rfl rfl rfl (fun x1393 e1393 g1394 h1395 => ?_)
                  refine sxo_storeL (j := 0) (y' := iadd .i64 x1390 1) (eI_ok .i64) rfl rfl rfl tf3 rfl h1395 (idx_get e1393).2.1 rfl (fun x1396 e1396 h1397 => ?_)
                  have h1398 : x1396.length = x1345.length := by rw [← e1396, List.length_set]
                  refine sxo_again (d := 8) (v := .slice a90 x1396.length c91) rfl h1397 ?_
                  refine sxo_again (d := 75) (v := .slice a90 x1396.length c91) rfl h1397 ?_
                  refine sxo_nil ?_
                  refine sxq_blkN ?_
                  refine sxq_next ?_
                  refine sxc_region ?_
                  refine sxo_add rfl rfl rfl rfl ?_
                  refine sxo_move rfl rfl rfl ?_
                  refine sxo_nil ?_
                  exact sxq_againP ((x1396, iadd .i64 x1346 1), ()) (hB := (.cons 0 rfl (.cons 0 rfl .nil))) (hR := (.cons 0 rfl (.cons 0 rfl (.cons 0 rfl .nil)))) (hF := (fk_cons 0 rfl fk_nil))
                · refine sxc_exit ?_
                  refine sxq_thenX ?_
                  refine sxq_thenX ?_
                  refine sxq_blkX ?_
                  exact sxq_meetP (x1345, ()) (hB := (.cons 0 rfl (.cons 0 rfl .nil))) (hR := (.cons 0 rfl (.cons 1 rfl (.cons 0 rfl .nil)))) (hF := (fk_cons 0 rfl fk_nil))
              · rintro ⟨x1316, _⟩
                try dsimp only
                refine sxc_region ?_
                refine sxo_loadB (i := 1) rfl rfl tf48 rfl rfl (by simp) rfl rfl ?_
                refine sxo_freeze 2 rfl ?_
                refine sxo_callM ent25 rfl rfl rfl (fun x1317 e1317 => C_push F g7 a981 c982 g1210 g1209 x1207.2 x1233 a1230 c1231 (iadd .i64 x1203.1.2 x1207.1.2) x1317 e1317) (.cons 0 rfl .nil) (.cons 1 rfl .nil) (.consF 1 rfl (.consF 0 rfl .nil)) (fun x1317 e1317 g1318 => ?_)
                refine sxo_hnIns (k := x1317) (q := ((x1233, iadd .i64 x1203.1.2 x1207.1.2), (a1230, c1231))) 1 0 rfl rfl rfl ?_
                refine sxo_nil ?_
                refine sxq_blkN ?_
                exact sxq_againP ((x1316, (insK x1317 x1207.2 (x1233, iadd .i64 x1203.1.2 x1207.1.2))), (g1318.1, g1318.2.1, g1318.2.2, (insK x1317 g1209 ((x1233, iadd .i64 x1203.1.2 x1207.1.2), (a1230, c1231))))) (hB := (.cons 0 rfl .nil)) (hR := (.cons 1 rfl (.cons 0 rfl .nil))) (hF := (fk_cons 0 rfl fk_nil))
          · refine sxc_exit ?_
            refine sxq_thenX ?_
            refine sxq_thenX ?_
            refine sxq_blkX ?_
            exact sxq_meetP (x980, ()) (hR := (.cons 0 rfl .nil))
        · rintro ⟨x760, _⟩
          try dsimp only
          refine sxc_seq ?_
          refine sxc_seq ?_
          refine sxc_region ?_
          refine sxo_move rfl rfl rfl ?_
          refine sxo_call ent29 rfl rfl rfl (fun x763 e763 => C_slices_ContainsFunc_int_int_huff_Lengths_1 F x760 a90 c91 x763 e763) (.consR 0 (Ro (eI .i64) 3 1 (.slice a90 x760.length c91) x760) rfl .nil) (fun x763 e763 => ?_)
          intro _
          refine sxo_nil ?_
          refine sxq_next ?_
          refine sxc_if rfl (fun h764 => ?_) (fun h764 => ?_)
          · refine sxc_seq ?_
            refine sxc_region ?_
            refine sxo_assign rfl rfl rfl ?_
            refine sxo_assign rfl rfl rfl ?_
            refine sxo_nil ?_
            refine sxq_next ?_
            refine sxc_ret ?_
            refine sxq_thenR ?_
            refine sxq_nilrow Int (eI .i64) 3 1 ?_
            exact sxq_doneP (none, 0) (res2 rfl rfl rfl) (fun h => by subst h; exact (.cons 0 rfl .nil))
          · refine sxc_skip ?_
            refine sxq_next ?_
            refine sxc_seq ?_
            refine sxc_region ?_
            refine sxo_move rfl rfl rfl ?_
            refine sxo_assign rfl rfl rfl ?_
            refine sxo_assign rfl rfl rfl ?_
            refine sxo_nil ?_
            refine sxq_next ?_
            refine sxc_ret ?_
            exact sxq_doneP (a90, c91) (res2 rfl rfl rfl) (fun h => by subst h; exact (.cons 0 rfl .nil))

theorem C_kraft_Check_1 (F : Nat) (x1 : Int) (r : Bool) (hm : M_kraft_Check_1 F x1 = some r) :
    Pure Try.prog 58 [.int .i64 x1] [] Unit (fun _ => .bool r) (fun _ => []) (fun _ => []) := by
  refine pure_of Try.func58 rfl Try.ntmps58 rfl hm (fun w => ?_)
  refine sxc_env (l' := [(0, .int .i64 x1)]) rfl ?_
  refine sxc_seq ?_
  refine sxc_region ?_
  refine sxo_assign rfl rfl rfl ?_
  refine sxo_nil ?_
  refine sxq_next ?_
  refine sxc_seq ?_
  refine sxc_region ?_
  refine sxo_move rfl rfl rfl ?_
  refine sxo_lss rfl rfl rfl rfl ?_
  refine sxo_move rfl rfl rfl ?_
  refine sxo_case 3 (decide (x1 < 0)) [(8, .bool ((decide (x1 < 0)) || (decide (24 < x1))))] (fun h2 => ?_) (fun h2 => ?_) ?_
  · refine sxo_take (os := _) rfl ?_
    refine sxo_isT (k := 5) rfl h2 ?_
    refine sxo_skip rfl rfl rfl ?_
    refine sxo_skip rfl rfl rfl ?_
    refine sxo_pick (b := true) rfl rfl rfl rfl ?_
    refine sxo_again (d := 8) (v := .bool ((decide (x1 < 0)) || (decide (24 < x1)))) rfl (by rw [h2]; simp only [Bool.true_or]) ?_
    refine sxo_nil ?_
    exact sxq_case (lk_cons rfl lk_nil)
  · refine sxo_take (os := _) rfl ?_
    refine sxo_isF (k := 5) rfl h2 ?_
    refine sxo_move rfl rfl rfl ?_
    refine sxo_gtr rfl rfl rfl rfl ?_
    refine sxo_pick (b := false) rfl rfl rfl rfl ?_
    refine sxo_again (d := 8) (v := .bool ((decide (x1 < 0)) || (decide (24 < x1)))) rfl (by rw [h2]; simp only [Bool.false_or]) ?_
    refine sxo_nil ?_
    exact sxq_case (lk_cons rfl lk_nil)
  refine sxo_take (os := _) rfl ?_
  refine sxo_assign rfl rfl rfl ?_
  refine sxo_nil ?_
  refine sxq_next ?_
  refine sxc_ret ?_
  exact sxq_doneP () (res1 rfl rfl)

theorem C_slices_IndexFunc_int_int_kraft_Check_1 (F : Nat) (x1 : List Int) (a2 : Option Addr) (c3 : Nat) (r : Int) (hm : M_slices_IndexFunc_int_int_kraft_Check_1 F x1 = some r) :
    Pure Try.prog 57 [.slice a2 x1.length c3, .func (.func 58) #[] #[]] [Sl (eI .i64) 1 (.slice a2 x1.length c3) x1] Unit (fun _ => .int .i64 r) (fun _ => []) (fun _ => []) := by
  refine pure_of Try.func57 rfl Try.ntmps57 rfl hm (fun w => ?_)
  refine sxc_env (l' := [(0, .slice a2 x1.length c3), (1, .func (.func 58) #[] #[])]) rfl ?_
  refine sxc_seq ?_
  refine sxc_region ?_
  refine sxo_assign rfl rfl rfl ?_
  refine sxo_nil ?_
  refine sxq_next ?_
  refine sxc_join (fun ((_, _) : (Unit × Unit)) => []) (fun ((_, _) : (Unit × Unit)) => []) (fun ((_, _) : (Unit × Unit)) => []) (fun ((_, _) : (Unit × Unit)) => []) (fun ((_, _) : (Unit × Unit)) => M_slices_IndexFunc_int_int_kraft_Check_1_j2 F) ?_ ?_
  · refine sxc_seq ?_
    refine sxc_region ?_
    refine sxo_move rfl rfl rfl ?_
    refine sxo_len rfl Try.underlying22 rfl rfl ?_
    refine sxo_move rfl rfl rfl ?_
    refine sxo_nil ?_
    refine sxq_next ?_
    refine sxc_block ?_
    refine sxc_loopP (fun ((x54, _) : (Int × Unit)) => [(0, .slice a2 x1.length c3), (1, .func (.func 58) #[] #[]), (7, .int .i64 (x1.length : Int)), (8, .int .i64 x54)]) (fun ((x54, _) : (Int × Unit)) => []) (fun ((x54, _) : (Int × Unit)) => []) (fun ((x54, _) : (Int × Unit)) => [Sl (eI .i64) 1 (.slice a2 x1.length c3) x1]) (fun k (s : (Int × Unit)) => M_slices_IndexFunc_int_int_kraft_Check_1_l3 F x1 k s.1) (0, ()) F ?_ (hF := (fk_cons 0 rfl fk_nil))
    intro k67
    rintro ⟨x54, _⟩
    try dsimp only
    refine sxc_meq (m' := M_slices_IndexFunc_int_int_kraft_Check_1_b3 F x1 (M_slices_IndexFunc_int_int_kraft_Check_1_l3 F x1 k67) x54) rfl ?_
    refine sxc_seq ?_
    refine sxc_region ?_
    refine sxo_lss rfl rfl rfl rfl ?_
    refine sxo_nil ?_
    refine sxq_next ?_
    refine sxc_seq ?_
    refine sxc_if rfl (fun h79 => ?_) (fun h79 => ?_)
    · refine sxc_skip ?_
      refine sxq_next ?_
      refine sxc_seq ?_
      refine sxc_block ?_
      refine sxc_seq ?_
      refine sxc_region ?_
      refine sxo_move rfl rfl rfl ?_
      refine sxo_assign rfl rfl rfl ?_
      refine sxo_nil ?_
      refine sxq_next ?_
      refine sxc_seq ?_
      refine sxc_region ?_
      refine sxo_move rfl rfl rfl ?_
      refine sxo_move rfl rfl rfl ?_
      refine sxo_move rfl rfl rfl ?_
      refine sxo_indexF (j := 0) (eI_ok .i64) (by decide) rfl Try.underlying22 tf3 rfl rfl rfl rfl (fun x74 e74 b75 o76 => ?_)
      refine sxo_loadF (j := 0) rfl rfl tf3 rfl rfl (fun _ => rfl) rfl rfl ?_
      refine sxo_callV ent58 rfl rfl rfl rfl (fun x77 e77 => C_kraft_Check_1 F x74 x77 e77) .nil (fun x77 e77 => ?_)
      intro _
      refine sxo_nil ?_
      refine sxq_next ?_
      refine sxc_if rfl (fun h78 => ?_) (fun h78 => ?_)
      · refine sxc_seq ?_
        refine sxc_region ?_
        refine sxo_move rfl rfl rfl ?_
        refine sxo_assign rfl rfl rfl ?_
        refine sxo_nil ?_
        refine sxq_next ?_
        refine sxc_ret ?_
        refine sxq_blkR ?_
        refine sxq_thenR ?_
        refine sxq_thenR ?_
        refine sxq_blkR ?_
        refine sxq_thenR ?_
        exact sxq_doneP () (res1 rfl rfl)
      · refine sxc_skip ?_
        refine sxq_blkN ?_
        refine sxq_next ?_
        refine sxc_region ?_
        refine sxo_add rfl rfl rfl rfl ?_
        refine sxo_move rfl rfl rfl ?_
        refine sxo_nil ?_
        exact sxq_againP (iadd .i64 x54 1, ()) (hF := (fk_cons 1 rfl fk_nil))
    · refine sxc_exit ?_
      refine sxq_thenX ?_
      refine sxq_thenX ?_
      refine sxq_blkX ?_
      exact sxq_meetP ((), ())
  · rintro ⟨_, _⟩
    try dsimp only
    refine sxc_seq ?_
    refine sxc_region ?_
    refine sxo_assign rfl rfl rfl ?_
    refine sxo_nil ?_
    refine sxq_next ?_
    refine sxc_ret ?_
    exact sxq_doneP () (res1 rfl rfl)

theorem C_slices_ContainsFunc_int_int_kraft_Check_1 (F : Nat) (x1 : List Int) (a2 : Option Addr) (c3 : Nat) (r : Bool) (hm : M_slices_ContainsFunc_int_int_kraft_Check_1 F x1 = some r) :
    Pure Try.prog 29 [.slice a2 x1.length c3, .func (.func 58) #[] #[]] [Sl (eI .i64) 1 (.slice a2 x1.length c3) x1] Unit (fun _ => .bool r) (fun _ => []) (fun _ => []) := by
  refine pure_of Try.func29 rfl Try.ntmps29 rfl hm (fun w => ?_)
  refine sxc_env (l' := [(0, .slice a2 x1.length c3), (1, .func (.func 58) #[] #[])]) rfl ?_
  refine sxc_seq ?_
  refine sxc_region ?_
  refine sxo_assign rfl rfl rfl ?_
  refine sxo_nil ?_
  refine sxq_next ?_
  refine sxc_seq ?_
  refine sxc_region ?_
  refine sxo_move rfl rfl rfl ?_
  refine sxo_move rfl rfl rfl ?_
  refine sxo_call ent57 rfl rfl rfl (fun x4 e4 => C_slices_IndexFunc_int_int_kraft_Check_1 F x1 a2 c3 x4 e4) (.consF 0 rfl .nil) (fun x4 e4 => ?_)
  intro _
  refine sxo_geq rfl rfl rfl rfl ?_
  refine sxo_assign rfl rfl rfl ?_
  refine sxo_nil ?_
  refine sxq_next ?_
  refine sxc_ret ?_
  exact sxq_doneP () (res1 rfl rfl)

theorem C_kraft_Check (F : Nat) (x1 : List Int) (a2 : Option Addr) (c3 : Nat) (r : Int) (hm : M_kraft_Check F x1 = some r) :
    Pure Try.prog 31 [.slice a2 x1.length c3] [Sl (eI .i64) 1 (.slice a2 x1.length c3) x1] Unit (fun _ => .int .i64 r) (fun _ => []) (fun _ => []) := by
  refine pure_of Try.func31 rfl Try.ntmps31 rfl hm (fun w => ?_)
  refine sxc_env (l' := [(0, .slice a2 x1.length c3)]) rfl ?_
  refine sxc_seq ?_
  refine sxc_region ?_
  refine sxo_assign rfl rfl rfl ?_
  refine sxo_nil ?_
  refine sxq_next ?_
  refine sxc_seq ?_
  refine sxc_block ?_
  refine sxc_seq ?_
  refine sxc_region ?_
  refine sxo_move rfl rfl rfl ?_
  refine sxo_len rfl Try.underlying22 rfl rfl ?_
  refine sxo_gtr rfl rfl rfl rfl ?_
  refine sxo_assign rfl rfl rfl ?_
  refine sxo_nil ?_
  refine sxq_next ?_
  refine sxc_if rfl (fun h9 => ?_) (fun h9 => ?_)
  · refine sxc_seq ?_
    refine sxc_region ?_
    refine sxo_assign rfl rfl rfl ?_
    refine sxo_nil ?_
    refine sxq_next ?_
    refine sxc_ret ?_
    refine sxq_blkR ?_
    refine sxq_thenR ?_
    exact sxq_doneP () (res1 rfl rfl)
  · refine sxc_seq ?_
    refine sxc_region ?_
    refine sxo_move rfl rfl rfl ?_
    refine sxo_call ent29 rfl rfl rfl (fun x7 e7 => C_slices_ContainsFunc_int_int_kraft_Check_1 F x1 a2 c3 x7 e7) (.consF 0 rfl .nil) (fun x7 e7 => ?_)
    intro _
    refine sxo_assign rfl rfl rfl ?_
    refine sxo_nil ?_
    refine sxq_next ?_
    refine sxc_if rfl (fun h8 => ?_) (fun h8 => ?_)
    · refine sxc_seq ?_
      refine sxc_region ?_
      refine sxo_assign rfl rfl rfl ?_
      refine sxo_nil ?_
      refine sxq_next ?_
      refine sxc_ret ?_
      refine sxq_blkR ?_
      refine sxq_thenR ?_
      exact sxq_doneP () (res1 rfl rfl)
    · refine sxc_skip ?_
      refine sxq_blkN ?_
      refine sxq_next ?_
      refine sxc_seq ?_
      refine sxc_region ?_
      refine sxo_assign rfl rfl rfl ?_
      refine sxo_nil ?_
      refine sxq_next ?_
      refine sxc_ret ?_
      exact sxq_doneP () (res1 rfl rfl)

set_option maxHeartbeats 4000000 in
theorem C_huff_Cost (F : Nat) (x1 : List Int) (a2 : Option Addr) (c3 : Nat) (x4 : List Int) (a5 : Option Addr) (c6 : Nat) (r : (Int × Int)) (hm : M_huff_Cost F x1 x4 = some r) :
    Pure Try.prog 12 [.slice a2 x1.length c3, .slice a5 x4.length c6] [Sl (eI .i64) 1 (.slice a2 x1.length c3) x1, Sl (eI .i64) 1 (.slice a5 x4.length c6) x4] Unit (fun _ => .tuple #[.int .i64 r.1, .int .i64 r.2]) (fun _ => []) (fun _ => []) := by
  refine pure_of Try.func12 rfl Try.ntmps12 rfl hm (fun w => ?_)
  refine sxc_env (l' := [(0, .slice a2 x1.length c3), (1, .slice a5 x4.length c6)]) rfl ?_
  refine sxc_seq ?_
  refine sxc_region ?_
  refine sxo_assign rfl rfl rfl ?_
  refine sxo_assign rfl rfl rfl ?_
  refine sxo_nil ?_
  refine sxq_next ?_
  refine sxc_seq ?_
  refine sxc_region ?_
  refine sxo_move rfl rfl rfl ?_
  refine sxo_call ent31 rfl rfl rfl (fun x7 e7 => C_kraft_Check F x4 a5 c6 x7 e7) (.consF 1 rfl .nil) (fun x7 e7 => ?_)
  intro _
  refine sxo_assign rfl rfl rfl ?_
  refine sxo_nil ?_
  refine sxq_next ?_
  refine sxc_join (fun ((x10, _) : (Int × Unit)) => [(0, .slice a2 x1.length c3), (1, .slice a5 x4.length c6), (4, .int .i64 0), (5, .int .i64 x10)]) (fun ((x10, _) : (Int × Unit)) => []) (fun ((x10, _) : (Int × Unit)) => []) (fun ((x10, _) : (Int × Unit)) => [Sl (eI .i64) 1 (.slice a2 x1.length c3) x1, Sl (eI .i64) 1 (.slice a5 x4.length c6) x4]) (fun ((x10, _) : (Int × Unit)) => M_huff_Cost_j1 F x1 x4 x10) ?_ ?_
  · refine sxc_seq ?_
    refine sxc_region ?_
    refine sxo_move rfl rfl rfl ?_
    refine sxo_eql rfl rfl rfl rfl ?_
    refine sxo_move rfl rfl rfl ?_
    refine sxo_case 6 ((x7 : Int) == 0) [(0, .slice a2 x1.length c3), (1, .slice a5 x4.length c6), (4, .int .i64 0), (5, .int .i64 x7), (18, .bool (((x7 : Int) == 0) && (((x1.length : Int) : Int) != (x4.length : Int))))] (fun h325 => ?_) (fun h325 => ?_) ?_
    · refine sxo_take (os := _) rfl ?_
      refine sxo_isT (k := 12) rfl h325 ?_
      refine sxo_move rfl rfl rfl ?_
      refine sxo_len rfl Try.underlying22 rfl rfl ?_
      refine sxo_move rfl rfl rfl ?_
      refine sxo_len rfl Try.underlying22 rfl rfl ?_
      refine sxo_neq rfl rfl rfl rfl ?_
      refine sxo_pick (b := true) rfl rfl rfl rfl ?_
      refine sxo_again (d := 18) (v := .bool (((x7 : Int) == 0) && (((x1.length : Int) : Int) != (x4.length : Int)))) rfl (by rw [h325]; simp only [Bool.true_and]) ?_
      refine sxo_nil ?_
      exact sxq_case (lk_cons rfl (lk_cons rfl (lk_cons rfl (lk_cons rfl (lk_cons rfl lk_nil)))))
    · refine sxo_take (os := _) rfl ?_
      refine sxo_isF (k := 12) rfl h325 ?_
      refine sxo_skip rfl rfl rfl ?_
      refine sxo_skip rfl rfl rfl ?_
      refine sxo_skip rfl rfl rfl ?_
      refine sxo_skip rfl rfl rfl ?_
      refine sxo_skip rfl rfl rfl ?_
      refine sxo_pick (b := false) rfl rfl rfl rfl ?_
      refine sxo_again (d := 18) (v := .bool (((x7 : Int) == 0) && (((x1.length : Int) : Int) != (x4.length : Int)))) rfl (by rw [h325]; simp only [Bool.false_and]) ?_
      refine sxo_nil ?_
      exact sxq_case (lk_cons rfl (lk_cons rfl (lk_cons rfl (lk_cons rfl (lk_cons rfl lk_nil)))))
    refine sxo_take (os := _) rfl ?_
    refine sxo_nil ?_
    refine sxq_next ?_
    refine sxc_if rfl (fun h326 => ?_) (fun h326 => ?_)
    · refine sxc_region ?_
      refine sxo_assign rfl rfl rfl ?_
      refine sxo_nil ?_
      exact sxq_meetP (1, ()) (hF := (fk_cons 0 rfl (fk_cons 1 rfl fk_nil)))
    · refine sxc_skip ?_
      exact sxq_meetP (x7, ()) (hF := (fk_cons 0 rfl (fk_cons 1 rfl fk_nil)))
  · rintro ⟨x10, _⟩
    try dsimp only
    refine sxc_join (fun ((x13, _) : (Int × Unit)) => [(0, .slice a2 x1.length c3), (1, .slice a5 x4.length c6), (4, .int .i64 0), (5, .int .i64 x13)]) (fun ((x13, _) : (Int × Unit)) => []) (fun ((x13, _) : (Int × Unit)) => []) (fun ((x13, _) : (Int × Unit)) => [Sl (eI .i64) 1 (.slice a2 x1.length c3) x1, Sl (eI .i64) 1 (.slice a5 x4.length c6) x4]) (fun ((x13, _) : (Int × Unit)) => M_huff_Cost_j2 F x1 x4 x13) ?_ ?_
    · refine sxc_seq ?_
      refine sxc_region ?_
      refine sxo_move rfl rfl rfl ?_
      refine sxo_eql rfl rfl rfl rfl ?_
      refine sxo_nil ?_
      refine sxq_next ?_
      refine sxc_if rfl (fun h324 => ?_) (fun h324 => ?_)
      · refine sxc_region ?_
        refine sxo_move rfl rfl rfl ?_
        refine sxo_call ent24 rfl rfl rfl (fun x323 e323 => C_huff_check F x1 a2 c3 x323 e323) (.consF 0 rfl .nil) (fun x323 e323 => ?_)
        intro _
        refine sxo_assign rfl rfl rfl ?_
        refine sxo_nil ?_
        exact sxq_meetP (x323, ()) (hF := (fk_cons 0 rfl (fk_cons 1 rfl fk_nil)))
      · refine sxc_skip ?_
        exact sxq_meetP (x10, ()) (hF := (fk_cons 0 rfl (fk_cons 1 rfl fk_nil)))
    · rintro ⟨x13, _⟩
      try dsimp only
      refine sxc_seq ?_
      refine sxc_seq ?_
      refine sxc_region ?_
      refine sxo_move rfl rfl rfl ?_
      refine sxo_neq rfl rfl rfl rfl ?_
      refine sxo_nil ?_
      refine sxq_next ?_
      refine sxc_if rfl (fun h322 => ?_) (fun h322 => ?_)
      · refine sxc_seq ?_
        refine sxc_region ?_
        refine sxo_move rfl rfl rfl ?_
        refine sxo_assign rfl rfl rfl ?_
        refine sxo_assign rfl rfl rfl ?_
        refine sxo_nil ?_
        refine sxq_next ?_
        refine sxc_ret ?_
        refine sxq_thenR ?_
        exact sxq_doneP () (res2 rfl rfl rfl)
      · refine sxc_skip ?_
        refine sxq_next ?_
        refine sxc_join (fun ((x168, _) : (Int × Unit)) => [(4, .int .i64 x168)]) (fun ((x168, _) : (Int × Unit)) => []) (fun ((x168, _) : (Int × Unit)) => []) (fun ((x168, _) : (Int × Unit)) => []) (fun ((x168, _) : (Int × Unit)) => M_huff_Cost_j16 F x168) ?_ ?_
        · refine sxc_seq ?_
          refine sxc_region ?_
          refine sxo_move rfl rfl rfl ?_
          refine sxo_len rfl Try.underlying22 rfl rfl ?_
          refine sxo_move rfl rfl rfl ?_
          refine sxo_nil ?_
          refine sxq_next ?_
          refine sxc_block ?_
          refine sxc_loopP (fun (((x219, x220), _) : ((Int × Int) × Unit)) => [(1, .slice a5 x4.length c6), (4, .int .i64 x219), (26, .slice a2 x1.length c3), (27, .int .i64 (x1.length : Int)), (28, .int .i64 x220)]) (fun (((x219, x220), _) : ((Int × Int) × Unit)) => []) (fun (((x219, x220), _) : ((Int × Int) × Unit)) => []) (fun (((x219, x220), _) : ((Int × Int) × Unit)) => [Sl (eI .i64) 1 (.slice a5 x4.length c6) x4, Sl (eI .i64) 1 (.slice a2 x1.length c3) x1]) (fun k (s : ((Int × Int) × Unit)) => M_huff_Cost_l25 F x1 x4 k s.1) ((0, 0), ()) F ?_ (hF := (fk_cons 1 rfl (fk_cons 0 rfl fk_nil)))
          intro k271
          rintro ⟨⟨x219, x220⟩, _⟩
          try dsimp only
          refine sxc_meq (m' := M_huff_Cost_b25 F x1 x4 (M_huff_Cost_l25 F x1 x4 k271) x219 x220) rfl ?_
          refine sxc_seq ?_
          refine sxc_region ?_
          refine sxo_lss rfl rfl rfl rfl ?_
          refine sxo_nil ?_
          refine sxq_next ?_
          refine sxc_seq ?_
          refine sxc_if rfl (fun h321 => ?_) (fun h321 => ?_)
          · refine sxc_skip ?_
            refine sxq_next ?_
            refine sxc_seq ?_
            refine sxc_block ?_
            refine sxc_seq ?_
            refine sxc_region ?_
            refine sxo_move rfl rfl rfl ?_
            refine sxo_indexF (j := 1) (eI_ok .i64) (by decide) rfl Try.underlying22 tf3 rfl rfl rfl rfl (fun x297 e297 b298 o299 => ?_)
            refine sxo_loadF (j := 0) rfl rfl tf3 rfl rfl (fun _ => rfl) rfl rfl ?_
            refine sxo_assign rfl rfl rfl ?_
            refine sxo_assign rfl rfl rfl ?_
            refine sxo_nil ?_
            refine sxq_next ?_
            refine sxc_seq ?_
            refine sxc_seq ?_
            refine sxc_region ?_
            refine sxo_move rfl rfl rfl ?_
            refine sxo_gtr rfl rfl rfl rfl ?_
            refine sxo_move rfl rfl rfl ?_
            refine sxo_join 6 (fun ((x313, _) : (Bool × Unit)) => [(1, .slice a5 x4.length c6), (4, .int .i64 x219), (6, .int .i64 x220), (7, .int .i64 x297), (26, .slice a2 x1.length c3), (27, .int .i64 (x1.length : Int)), (28, .int .i64 x220), (41, .bool x313)]) (fun ((x313, _) : (Bool × Unit)) => []) (fun ((x313, _) : (Bool × Unit)) => []) (fun ((x313, _) : (Bool × Unit)) => [Sl (eI .i64) 1 (.slice a5 x4.length c6) x4, Sl (eI .i64) 1 (.slice a2 x1.length c3) x1]) (fun ((x313, _) : (Bool × Unit)) => M_huff_Cost_j29 F (M_huff_Cost_l25 F x1 x4 k271) x4 x219 x220 x297 x313) ?_ ?_
            · refine sxo_take (os := _) rfl ?_
              refine sxo_if (fun h309 => ?_) (fun h309 => ?_)
              · refine sxo_isT (k := 35) rfl h309 ?_
                refine sxo_move rfl rfl rfl ?_
                refine sxo_move rfl rfl rfl ?_
                refine sxo_indexF (j := 1) (eI_ok .i64) (by decide) rfl Try.underlying22 tf3 rfl rfl rfl rfl (fun x318 e318 b319 o320 => ?_)
                refine sxo_loadF (j := 0) rfl rfl tf3 rfl rfl (fun _ => rfl) rfl rfl ?_
                refine sxo_eql rfl rfl rfl rfl ?_
                refine sxo_pick (b := true) rfl rfl rfl rfl ?_
                refine sxo_nil ?_
                exact sxq_meetP (((x318 : Int) == 0), ()) (hF := (fk_cons 2 rfl (fk_cons 3 rfl fk_nil)))
              · refine sxo_isF (k := 35) rfl h309 ?_
                refine sxo_skip rfl rfl rfl ?_
                refine sxo_skip rfl rfl rfl ?_
                refine sxo_skip rfl rfl rfl ?_
                refine sxo_skip rfl rfl rfl ?_
                refine sxo_skip rfl rfl rfl ?_
                refine sxo_pick (b := false) rfl rfl rfl rfl ?_
                refine sxo_nil ?_
                exact sxq_meetP (false, ()) (hF := (fk_cons 1 rfl (fk_cons 2 rfl fk_nil)))
            · rintro ⟨x313, _⟩
              try dsimp only
              refine sxo_take (os := _) rfl ?_
              refine sxo_nil ?_
              refine sxq_next ?_
              refine sxc_if rfl (fun h317 => ?_) (fun h317 => ?_)
              · refine sxc_seq ?_
                refine sxc_region ?_
                refine sxo_assign rfl rfl rfl ?_
                refine sxo_assign rfl rfl rfl ?_
                refine sxo_nil ?_
                refine sxq_next ?_
                refine sxc_ret ?_
                refine sxq_thenR ?_
                refine sxq_blkR ?_
                refine sxq_thenR ?_
                refine sxq_thenR ?_
                refine sxq_blkR ?_
                refine sxq_thenR ?_
                exact sxq_doneP () (res2 rfl rfl rfl)
              · refine sxc_skip ?_
                refine sxq_next ?_
                refine sxc_region ?_
                refine sxo_move rfl rfl rfl ?_
                refine sxo_move rfl rfl rfl ?_
                refine sxo_move rfl rfl rfl ?_
                refine sxo_move rfl rfl rfl ?_
                refine sxo_indexF (j := 0) (eI_ok .i64) (by decide) rfl Try.underlying22 tf3 rfl rfl rfl rfl (fun x314 e314 b315 o316 => ?_)
                refine sxo_loadF (j := 0) rfl rfl tf3 rfl rfl (fun _ => rfl) rfl rfl ?_
                refine sxo_mul rfl rfl rfl rfl ?_
                refine sxo_add rfl rfl rfl rfl ?_
                refine sxo_assign rfl rfl rfl ?_
                refine sxo_nil ?_
                refine sxq_blkN ?_
                refine sxq_next ?_
                refine sxc_region ?_
                refine sxo_add rfl rfl rfl rfl ?_
                refine sxo_move rfl rfl rfl ?_
                refine sxo_nil ?_
                exact sxq_againP ((iadd .i64 x219 (imul .i64 x297 x314), iadd .i64 x220 1), ()) (hF := (fk_cons 1 rfl (fk_cons 2 rfl fk_nil)))
          · refine sxc_exit ?_
            refine sxq_thenX ?_
            refine sxq_thenX ?_
            refine sxq_blkX ?_
            exact sxq_meetP (x219, ())
        · rintro ⟨x168, _⟩
          try dsimp only
          refine sxc_seq ?_
          refine sxc_region ?_
          refine sxo_move rfl rfl rfl ?_
          refine sxo_assign rfl rfl rfl ?_
          refine sxo_assign rfl rfl rfl ?_
          refine sxo_nil ?_
          refine sxq_next ?_
          refine sxc_ret ?_
          exact sxq_doneP () (res2 rfl rfl rfl)

theorem C_huff_counted (F : Nat) (x1 : List Int) (a2 : Option Addr) (c3 : Nat) (x4 : Int) (r : (List Int × Int)) (hm : M_huff_counted F x1 x4 = some r) :
    Pure Try.prog 32 [.slice a2 x1.length c3, .int .i64 x4] [Sl (eI .i64) 1 (.slice a2 x1.length c3) x1] (Option Addr × Nat) (fun g => .tuple #[.slice g.1 r.1.length g.2, .int .i64 r.2]) (fun g => [Ro (eI .i64) 3 1 (.slice g.1 r.1.length g.2) r.1]) (fun _ => []) := by
  refine pure_of Try.func32 rfl Try.ntmps32 rfl hm (fun w => ?_)
  refine sxc_env (l' := [(0, .slice a2 x1.length c3), (1, .int .i64 x4)]) rfl ?_
  refine sxc_seq ?_
  refine sxc_region ?_
  refine sxo_assign rfl rfl rfl ?_
  refine sxo_assign rfl rfl rfl ?_
  refine sxo_nil ?_
  refine sxq_next ?_
  refine sxc_seq ?_
  refine sxc_seq ?_
  refine sxc_region ?_
  refine sxo_move rfl rfl rfl ?_
  refine sxo_lss rfl rfl rfl rfl ?_
  refine sxo_move rfl rfl rfl ?_
  refine sxo_case 3 (decide (x4 < 0)) [(0, .slice a2 x1.length c3), (1, .int .i64 x4), (14, .bool ((decide (x4 < 0)) || (decide (64 < x4))))] (fun h7 => ?_) (fun h7 => ?_) ?_
  · refine sxo_take (os := _) rfl ?_
    refine sxo_isT (k := 11) rfl h7 ?_
    refine sxo_skip rfl rfl rfl ?_
    refine sxo_skip rfl rfl rfl ?_
    refine sxo_pick (b := true) rfl rfl rfl rfl ?_
    refine sxo_again (d := 14) (v := .bool ((decide (x4 < 0)) || (decide (64 < x4)))) rfl (by rw [h7]; simp only [Bool.true_or]) ?_
    refine sxo_nil ?_
    exact sxq_case (lk_cons rfl (lk_cons rfl (lk_cons rfl lk_nil)))
  · refine sxo_take (os := _) rfl ?_
    refine sxo_isF (k := 11) rfl h7 ?_
    refine sxo_move rfl rfl rfl ?_
    refine sxo_gtr rfl rfl rfl rfl ?_
    refine sxo_pick (b := false) rfl rfl rfl rfl ?_
    refine sxo_again (d := 14) (v := .bool ((decide (x4 < 0)) || (decide (64 < x4)))) rfl (by rw [h7]; simp only [Bool.false_or]) ?_
    refine sxo_nil ?_
    exact sxq_case (lk_cons rfl (lk_cons rfl (lk_cons rfl lk_nil)))
  refine sxo_take (os := _) rfl ?_
  refine sxo_nil ?_
  refine sxq_next ?_
  refine sxc_if rfl (fun h224 => ?_) (fun h224 => ?_)
  · refine sxc_seq ?_
    refine sxc_region ?_
    refine sxo_assign rfl rfl rfl ?_
    refine sxo_assign rfl rfl rfl ?_
    refine sxo_nil ?_
    refine sxq_next ?_
    refine sxc_ret ?_
    refine sxq_thenR ?_
    refine sxq_nilrow Int (eI .i64) 3 1 ?_
    exact sxq_doneP (none, 0) (res2 rfl rfl rfl) (fun h => by subst h; exact (.cons 0 rfl .nil))
  · refine sxc_skip ?_
    refine sxq_next ?_
    refine sxc_seq ?_
    refine sxc_region ?_
    refine sxo_move rfl rfl rfl ?_
    refine sxo_mk (eI_ok .i64) rfl Try.underlying22 tf3 rfl rfl rfl rfl rfl rfl rfl (fun x8 e8 a9 c10 => ?_)
    refine sxo_assign rfl rfl rfl ?_
    refine sxo_nil ?_
    refine sxq_next ?_
    refine sxc_join (fun ((x116, _) : (List Int × Unit)) => [(0, .slice a2 x1.length c3), (6, .slice a9 x116.length c10)]) (fun ((x116, _) : (List Int × Unit)) => []) (fun ((x116, _) : (List Int × Unit)) => [Ro (eI .i64) 3 1 (.slice a9 x116.length c10) x116]) (fun ((x116, _) : (List Int × Unit)) => [Sl (eI .i64) 1 (.slice a2 x1.length c3) x1]) (fun ((x116, _) : (List Int × Unit)) => M_huff_counted_j2 F x1 x116) ?_ ?_
    · refine sxc_seq ?_
      refine sxc_region ?_
      refine sxo_move rfl rfl rfl ?_
      refine sxo_len rfl Try.underlying22 rfl rfl ?_
      refine sxo_move rfl rfl rfl ?_
      refine sxo_nil ?_
      refine sxq_next ?_
      refine sxc_block ?_
      refine sxc_loopP (fun (((x153, x154), _) : ((List Int × Int) × Unit)) => [(0, .slice a2 x1.length c3), (1, .int .i64 x4), (6, .slice a9 x153.length c10), (17, .slice a2 x1.length c3), (18, .int .i64 (x1.length : Int)), (19, .int .i64 x154)]) (fun (((x153, x154), _) : ((List Int × Int) × Unit)) => []) (fun (((x153, x154), _) : ((List Int × Int) × Unit)) => [Ro (eI .i64) 3 1 (.slice a9 x153.length c10) x153]) (fun (((x153, x154), _) : ((List Int × Int) × Unit)) => [Sl (eI .i64) 1 (.slice a2 x1.length c3) x1]) (fun k (s : ((List Int × Int) × Unit)) => M_huff_counted_l3 F x1 x4 k s.1) ((x8, 0), ()) F ?_ (hR := (.cons 0 rfl .nil)) (hF := (fk_cons 0 rfl fk_nil))
      intro k189
      rintro ⟨⟨x153, x154⟩, _⟩
      try dsimp only
      refine sxc_meq (m' := M_huff_counted_b3 F x1 x4 (M_huff_counted_l3 F x1 x4 k189) x153 x154) rfl ?_
      refine sxc_seq ?_
      refine sxc_region ?_
      refine sxo_lss rfl rfl rfl rfl ?_
      refine sxo_nil ?_
      refine sxq_next ?_
      refine sxc_seq ?_
      refine sxc_if rfl (fun h223 => ?_) (fun h223 => ?_)
      · refine sxc_skip ?_
        refine sxq_next ?_
        refine sxc_seq ?_
        refine sxc_block ?_
        refine sxc_seq ?_
        refine sxc_region ?_
        refine sxo_indexF (j := 0) (eI_ok .i64) (by decide) rfl Try.underlying22 tf3 rfl rfl rfl rfl (fun x207 e207 b208 o209 => ?_)
        refine sxo_loadF (j := 0) rfl rfl tf3 rfl rfl (fun _ => rfl) rfl rfl ?_
        refine sxo_assign rfl rfl rfl ?_
        refine sxo_nil ?_
        refine sxq_next ?_
        refine sxc_seq ?_
        refine sxc_seq ?_
        refine sxc_region ?_
        refine sxo_move rfl rfl rfl ?_
        refine sxo_lss rfl rfl rfl rfl ?_
        refine sxo_move rfl rfl rfl ?_
        refine sxo_case 4 (decide (x207 < 0)) [(0, .slice a2 x1.length c3), (1, .int .i64 x4), (6, .slice a9 x153.length c10), (17, .slice a2 x1.length c3), (18, .int .i64 (x1.length : Int)), (19, .int .i64 x154), (8, .int .i64 x207), (29, .bool ((decide (x207 < 0)) || (decide (x4 ≤ x207))))] (fun h212 => ?_) (fun h212 => ?_) ?_
        · refine sxo_take (os := _) rfl ?_
          refine sxo_isT (k := 25) rfl h212 ?_
          refine sxo_skip rfl rfl rfl ?_
          refine sxo_skip rfl rfl rfl ?_
          refine sxo_skip rfl rfl rfl ?_
          refine sxo_pick (b := true) rfl rfl rfl rfl ?_
          refine sxo_again (d := 29) (v := .bool ((decide (x207 < 0)) || (decide (x4 ≤ x207)))) rfl (by rw [h212]; simp only [Bool.true_or]) ?_
          refine sxo_nil ?_
          exact sxq_case (lk_cons rfl (lk_cons rfl (lk_cons rfl (lk_cons rfl (lk_cons rfl (lk_cons rfl (lk_cons rfl (lk_cons rfl lk_nil))))))))
        · refine sxo_take (os := _) rfl ?_
          refine sxo_isF (k := 25) rfl h212 ?_
          refine sxo_move rfl rfl rfl ?_
          refine sxo_move rfl rfl rfl ?_
          refine sxo_geq rfl rfl rfl rfl ?_
          refine sxo_pick (b := false) rfl rfl rfl rfl ?_
          refine sxo_again (d := 29) (v := .bool ((decide (x207 < 0)) || (decide (x4 ≤ x207)))) rfl (by rw [h212]; simp only [Bool.false_or]) ?_
          refine sxo_nil ?_
          exact sxq_case (lk_cons rfl (lk_cons rfl (lk_cons rfl (lk_cons rfl (lk_cons rfl (lk_cons rfl (lk_cons rfl (lk_cons rfl lk_nil))))))))
        refine sxo_take (os := _) rfl ?_
        refine sxo_nil ?_
        refine sxq_next ?_
        refine sxc_if rfl (fun h222 => ?_) (fun h222 => ?_)
        · refine sxc_seq ?_
          refine sxc_region ?_
          refine sxo_assign rfl rfl rfl ?_
          refine sxo_assign rfl rfl rfl ?_
          refine sxo_nil ?_
          refine sxq_next ?_
          refine sxc_ret ?_
          refine sxq_thenR ?_
          refine sxq_blkR ?_
          refine sxq_thenR ?_
          refine sxq_thenR ?_
          refine sxq_blkR ?_
          refine sxq_thenR ?_
          refine sxq_nilrow Int (eI .i64) 3 1 ?_
          exact sxq_doneP (none, 0) (res2 rfl rfl rfl) (fun h => by subst h; exact (.cons 0 rfl .nil))
        · refine sxc_skip ?_
          refine sxq_next ?_
          refine sxc_region ?_
          refine sxo_move rfl rfl rfl ?_
          refine sxo_move rfl rfl rfl ?_
          refine sxo_indexR (j := 0) rfl Try.underlying22 tf3 rfl rfl rfl rfl (fun x213 e213 g214 h215 => ?_)
          refine sxo_loadR (j := 0) (y := x213) (eI_ok .i64) rfl rfl tf3 rfl h215 (idx_get e213).2.2 (fun _ => rfl) rfl rfl ?_
          refine sxo_add rfl rfl rfl rfl ?_
          refine sxo_indexR (j := 0) rfl Try.underlying22 tf3 rfl rfl rfl rfl (fun x216 e216 g217 h218 => ?_)
          refine sxo_storeL (j := 0) (y' := iadd .i64 x213 1) (eI_ok .i64) rfl rfl rfl tf3 rfl h218 (idx_get e216).2.1 rfl (fun x219 e219 h220 => ?_)
          have h221 : x219.length = x153.length := by rw [← e219, List.length_set]
          refine sxo_again (d := 6) (v := .slice a9 x219.length c10) rfl h220 ?_
          refine sxo_again (d := 30) (v := .slice a9 x219.length c10) rfl h220 ?_
          refine sxo_nil ?_
          refine sxq_blkN ?_
          refine sxq_next ?_
          refine sxc_region ?_
          refine sxo_add rfl rfl rfl rfl ?_
          refine sxo_move rfl rfl rfl ?_
          refine sxo_nil ?_
          exact sxq_againP ((x219, iadd .i64 x154 1), ()) (hR := (.cons 0 rfl .nil)) (hF := (fk_cons 1 rfl fk_nil))
      · refine sxc_exit ?_
        refine sxq_thenX ?_
        refine sxq_thenX ?_
        refine sxq_blkX ?_
        exact sxq_meetP (x153, ()) (hR := (.cons 0 rfl .nil)) (hF := (fk_cons 0 rfl fk_nil))
    · rintro ⟨x116, _⟩
      try dsimp only
      refine sxc_seq ?_
      refine sxc_seq ?_
      refine sxc_region ?_
      refine sxo_move rfl rfl rfl ?_
      refine sxo_len rfl Try.underlying22 rfl rfl ?_
      refine sxo_gtr rfl rfl rfl rfl ?_
      refine sxo_nil ?_
      refine sxq_next ?_
      refine sxc_if rfl (fun h118 => ?_) (fun h118 => ?_)
      · refine sxc_seq ?_
        refine sxc_region ?_
        refine sxo_assign rfl rfl rfl ?_
        refine sxo_assign rfl rfl rfl ?_
        refine sxo_nil ?_
        refine sxq_next ?_
        refine sxc_ret ?_
        refine sxq_thenR ?_
        refine sxq_nilrow Int (eI .i64) 3 1 ?_
        exact sxq_doneP (none, 0) (res2 rfl rfl rfl) (fun h => by subst h; exact (.cons 0 rfl .nil))
      · refine sxc_skip ?_
        refine sxq_next ?_
        refine sxc_seq ?_
        refine sxc_region ?_
        refine sxo_move rfl rfl rfl ?_
        refine sxo_assign rfl rfl rfl ?_
        refine sxo_assign rfl rfl rfl ?_
        refine sxo_nil ?_
        refine sxq_next ?_
        refine sxc_ret ?_
        exact sxq_doneP (a9, c10) (res2 rfl rfl rfl) (fun h => by subst h; exact (.cons 0 rfl .nil))

theorem C_kraft_room (F : Nat) (x1 : List Int) (a2 : Option Addr) (c3 : Nat) (r : Int) (hm : M_kraft_room F x1 = some r) :
    Pure Try.prog 48 [.slice a2 x1.length c3] [Sl (eI .i64) 1 (.slice a2 x1.length c3) x1] Unit (fun _ => .int .i64 r) (fun _ => []) (fun _ => []) := by
  refine pure_of Try.func48 rfl Try.ntmps48 rfl hm (fun w => ?_)
  refine sxc_env (l' := [(0, .slice a2 x1.length c3)]) rfl ?_
  refine sxc_seq ?_
  refine sxc_region ?_
  refine sxo_assign rfl rfl rfl ?_
  refine sxo_nil ?_
  refine sxq_next ?_
  refine sxc_seq ?_
  refine sxc_region ?_
  refine sxo_assign rfl rfl rfl ?_
  refine sxo_nil ?_
  refine sxq_next ?_
  refine sxc_join (fun ((x52, _) : (Int × Unit)) => [(3, .int .i64 x52)]) (fun ((x52, _) : (Int × Unit)) => []) (fun ((x52, _) : (Int × Unit)) => []) (fun ((x52, _) : (Int × Unit)) => []) (fun ((x52, _) : (Int × Unit)) => M_kraft_room_j5 F x52) ?_ ?_
  · refine sxc_seq ?_
    refine sxc_region ?_
    refine sxo_move rfl rfl rfl ?_
    refine sxo_len rfl Try.underlying22 rfl rfl ?_
    refine sxo_move rfl rfl rfl ?_
    refine sxo_nil ?_
    refine sxq_next ?_
    refine sxc_block ?_
    refine sxc_loopP (fun (((x68, x69), _) : ((Int × Int) × Unit)) => [(3, .int .i64 x68), (6, .slice a2 x1.length c3), (7, .int .i64 (x1.length : Int)), (8, .int .i64 x69)]) (fun (((x68, x69), _) : ((Int × Int) × Unit)) => []) (fun (((x68, x69), _) : ((Int × Int) × Unit)) => []) (fun (((x68, x69), _) : ((Int × Int) × Unit)) => [Sl (eI .i64) 1 (.slice a2 x1.length c3) x1]) (fun k (s : ((Int × Int) × Unit)) => M_kraft_room_l8 F x1 k s.1) ((16777216, 0), ()) F ?_ (hF := (fk_cons 0 rfl fk_nil))
    intro k85
    rintro ⟨⟨x68, x69⟩, _⟩
    try dsimp only
    refine sxc_meq (m' := M_kraft_room_b8 F x1 (M_kraft_room_l8 F x1 k85) x68 x69) rfl ?_
    refine sxc_seq ?_
    refine sxc_region ?_
    refine sxo_lss rfl rfl rfl rfl ?_
    refine sxo_nil ?_
    refine sxq_next ?_
    refine sxc_seq ?_
    refine sxc_if rfl (fun h100 => ?_) (fun h100 => ?_)
    · refine sxc_skip ?_
      refine sxq_next ?_
      refine sxc_join (fun ((x93, _) : (Int × Unit)) => [(3, .int .i64 x93), (6, .slice a2 x1.length c3), (7, .int .i64 (x1.length : Int)), (8, .int .i64 x69)]) (fun ((x93, _) : (Int × Unit)) => []) (fun ((x93, _) : (Int × Unit)) => []) (fun ((x93, _) : (Int × Unit)) => [Sl (eI .i64) 1 (.slice a2 x1.length c3) x1]) (fun ((x93, _) : (Int × Unit)) => M_kraft_room_j9 F (M_kraft_room_l8 F x1 k85) x69 x93) ?_ ?_
      · refine sxc_block ?_
        refine sxc_seq ?_
        refine sxc_region ?_
        refine sxo_indexF (j := 0) (eI_ok .i64) (by decide) rfl Try.underlying22 tf3 rfl rfl rfl rfl (fun x94 e94 b95 o96 => ?_)
        refine sxo_loadF (j := 0) rfl rfl tf3 rfl rfl (fun _ => rfl) rfl rfl ?_
        refine sxo_assign rfl rfl rfl ?_
        refine sxo_nil ?_
        refine sxq_next ?_
        refine sxc_seq ?_
        refine sxc_region ?_
        refine sxo_move rfl rfl rfl ?_
        refine sxo_gtr rfl rfl rfl rfl ?_
        refine sxo_nil ?_
        refine sxq_next ?_
        refine sxc_if rfl (fun h99 => ?_) (fun h99 => ?_)
        · refine sxc_region ?_
          refine sxo_move rfl rfl rfl ?_
          refine sxo_move rfl rfl rfl ?_
          refine sxo_sub rfl rfl rfl rfl ?_
          refine sxo_chk (fun h97 => ?_)
          refine sxo_shl rfl rfl rfl rfl h97 ?_
          refine sxo_sub rfl rfl rfl rfl ?_
          refine sxo_assign rfl rfl rfl ?_
          refine sxo_lett (fun x98 e98 => ?_)
          refine sxo_again (d := 3) (v := .int .i64 x98) rfl (by rw [e98] <;> rfl) ?_
          refine sxo_nil ?_
          refine sxq_blkN ?_
          exact sxq_meetP (x98, ()) (hF := (fk_cons 1 rfl fk_nil))
        · refine sxc_skip ?_
          refine sxq_blkN ?_
          exact sxq_meetP (x68, ()) (hF := (fk_cons 1 rfl fk_nil))
      · rintro ⟨x93, _⟩
        try dsimp only
        refine sxc_region ?_
        refine sxo_add rfl rfl rfl rfl ?_
        refine sxo_move rfl rfl rfl ?_
        refine sxo_nil ?_
        exact sxq_againP ((x93, iadd .i64 x69 1), ()) (hF := (fk_cons 0 rfl fk_nil))
    · refine sxc_exit ?_
      refine sxq_thenX ?_
      refine sxq_thenX ?_
      refine sxq_blkX ?_
      exact sxq_meetP (x68, ())
  · rintro ⟨x52, _⟩
    try dsimp only
    refine sxc_seq ?_
    refine sxc_region ?_
    refine sxo_move rfl rfl rfl ?_
    refine sxo_assign rfl rfl rfl ?_
    refine sxo_nil ?_
    refine sxq_next ?_
    refine sxc_ret ?_
    exact sxq_doneP () (res1 rfl rfl)

theorem C_kraft_used_1 (F : Nat) (x1 : Int) (x2 : Int) (g3 : Nat) (x4 : List Int) (a5 : Option Addr) (c6 : Nat) (r : Int) (hm : M_kraft_used_1 F x1 x2 x4 = some r) :
    PureM Try.prog 86 [.int .i64 x1, .int .i64 x2, .pointer (some ⟨g3, 0, none⟩)] [⟨g3, 22, [.slice a5 x4.length c6]⟩] [] [Sl (eI .i64) 1 (.slice a5 x4.length c6) x4] Unit (fun _ => .int .i64 r) (fun _ => [⟨g3, 22, [.slice a5 x4.length c6]⟩]) (fun _ => []) := by
  refine pureM_of Try.func86 rfl Try.ntmps86 rfl hm (fun w => ?_)
  refine sxc_env (l' := [(0, .int .i64 x1), (1, .int .i64 x2), (2, .pointer (some ⟨g3, 0, none⟩))]) rfl ?_
  refine sxc_seq ?_
  refine sxc_region ?_
  refine sxo_assign rfl rfl rfl ?_
  refine sxo_nil ?_
  refine sxq_next ?_
  refine sxc_seq ?_
  refine sxc_idxF (j := 0) (eI_ok .i64) (by decide) rfl (fun x20 e20 b21 o22 h23 => ?_)
  replace h23 : a5 = some ⟨b21, o22, none⟩ := h23
  refine sxc_idxF (j := 1) (eI_ok .i64) (by decide) rfl (fun x24 e24 b25 o26 h27 => ?_)
  replace h27 : a5 = some ⟨b25, o26, none⟩ := h27
  refine sxb_draw mixed [] [⟨g3, 22, [.slice a5 x4.length c6]⟩] [CellsAt b25 (o26 + x2.toNat * 1) ((eI .i64) x24), CellsAt b21 (o22 + x1.toNat * 1) ((eI .i64) x20), Sl (eI .i64) 1 (.slice a5 x4.length c6) x4] (.cons 0 rfl .nil) (gk_F 0 rfl (gk_F 1 rfl (gk_F 2 rfl gk_nil))) 15 rfl ?_
  refine sxb_takeB 0 (.slice a5 x4.length c6) rfl rfl rfl (yv_loadB (i := 0) rfl tf22 rfl rfl (fun _ => rfl) rfl) ?_
  refine sxb_takeP 1 (.int .i64 x1) rfl rfl rfl (yv_pv rfl) ?_
  refine sxb_again (d := 6) (v := .slice (some ⟨b21, o22, none⟩) x4.length c6) rfl (by rw [h23] <;> rfl) ?_
  refine sxb_takeP 2 (.pointer (some ⟨b21, (o22 + x1.toNat * 1), none⟩)) rfl rfl rfl (yv_idx Try.underlying22 tf3 rfl rfl (idx_get e20).1 (idx_lt e20)) ?_
  refine sxb_again (d := 6) (v := .slice a5 x4.length c6) rfl (by rw [h23] <;> rfl) ?_
  refine sxb_take 3 (.int .i64 x20) [] rfl rfl rfl (yv_loadF (j := 1) rfl tf3 rfl rfl (fun _ => rfl) rfl) ?_
  refine sxb_takeB 4 (.slice a5 x4.length c6) rfl rfl rfl (yv_loadB (i := 0) rfl tf22 rfl rfl (fun _ => rfl) rfl) ?_
  refine sxb_takeP 5 (.int .i64 x2) rfl rfl rfl (yv_pv rfl) ?_
  refine sxb_again (d := 10) (v := .slice (some ⟨b25, o26, none⟩) x4.length c6) rfl (by rw [h27] <;> rfl) ?_
  refine sxb_takeP 6 (.pointer (some ⟨b25, (o26 + x2.toNat * 1), none⟩)) rfl rfl rfl (yv_idx Try.underlying22 tf3 rfl rfl (idx_get e24).1 (idx_lt e24)) ?_
  refine sxb_again (d := 10) (v := .slice a5 x4.length c6) rfl (by rw [h27] <;> rfl) ?_
  refine sxb_take 7 (.int .i64 x24) [] rfl rfl rfl (yv_loadF (j := 0) rfl tf3 rfl rfl (fun _ => rfl) rfl) ?_
  refine sxb_takeP 9 (.int .i64 x1) rfl rfl rfl (yv_pv rfl) ?_
  refine sxb_takeP 10 (.int .i64 x2) rfl rfl rfl (yv_pv rfl) ?_
  refine sxb_step 8 rfl (by kernel_rfl) rfl ?_
  refine sxo_call ent71 rfl rfl rfl (fun x28 e28 => C_cmp_Compare_int F x20 x24 x28 e28) .nil (fun x28 e28 => ?_)
  intro _
  refine sxo_nil ?_
  refine sxq_anyB (.cons 0 rfl .nil) (gk_F 0 rfl (gk_F 1 rfl (gk_F 2 rfl gk_nil))) ?_
  refine sxb_step 11 rfl (by kernel_rfl) rfl ?_
  refine sxo_call ent71 rfl rfl rfl (fun x29 e29 => C_cmp_Compare_int F x1 x2 x29 e29) .nil (fun x29 e29 => ?_)
  intro _
  refine sxo_nil ?_
  refine sxq_anyB (.cons 0 rfl .nil) (gk_F 0 rfl (gk_F 1 rfl (gk_F 2 rfl gk_nil))) ?_
  refine sxb_step 12 rfl (by kernel_rfl) rfl ?_
  refine sxo_slit (vs := [.int .i64 x28, .int .i64 x29]) (ys := ([x28, x29] : List Int)) (eI_ok .i64) (by decide) rfl Try.underlying22 tf3 rfl rfl rfl rfl rfl (by decide) (fun a30 c31 => ?_)
  refine sxo_nil ?_
  refine sxq_anyB (.cons 0 rfl .nil) (gk_F 0 rfl (gk_F 1 rfl (gk_F 2 rfl gk_nil))) ?_
  refine sxb_step 13 rfl (by kernel_rfl) rfl ?_
  refine sxo_call ent70 rfl rfl rfl (fun x32 e32 => C_cmp_Or_int F ([x28, x29] : List Int) a30 c31 x32 e32) (.consR 0 (Ro (eI .i64) 3 1 (.slice a30 ([x28, x29] : List Int).length c31) ([x28, x29] : List Int)) rfl .nil) (fun x32 e32 => ?_)
  intro _
  refine sxo_nil ?_
  refine sxq_anyB (.cons 0 rfl .nil) (gk_F 0 rfl (gk_F 1 rfl (gk_F 2 rfl gk_nil))) ?_
  refine sxb_takeP 14 (.int .i64 x32) rfl rfl rfl (yv_pv rfl) ?_
  refine sxb_done (by kernel_rfl) ?_
  refine sxq_np ?_ (by intro c h; cases h)
  refine sxq_next ?_
  refine sxc_ret ?_
  exact sxq_doneM () (res1 rfl rfl) (hB := fun h => by subst h; exact (.cons 0 rfl .nil))

theorem C_slices_SortFunc_int_int_kraft_used_1 (F : Nat) (x1 : List Int) (a2 : Option Addr) (c3 : Nat) (g4 : Nat) (x5 : List Int) (a6 : Option Addr) (c7 : Nat) (r : List Int) (hm : M_slices_SortFunc_int_int_kraft_used_1 F x1 x5 = some r) :
    PureM Try.prog 85 [.slice a2 x1.length c3, .func (.func 86) #[] #[.pointer (some ⟨g4, 0, none⟩)]] [⟨g4, 22, [.slice a6 x5.length c7]⟩] [Ro (eI .i64) 3 1 (.slice a2 x1.length c3) x1] [Sl (eI .i64) 1 (.slice a6 x5.length c7) x5] Unit (fun _ => .tuple #[]) (fun _ => [⟨g4, 22, [.slice a6 x5.length c7]⟩]) (fun _ => [Ro (eI .i64) 3 1 (.slice a2 r.length c3) r]) :=
  sortf_pureM (cb := [.pointer (some ⟨g4, 0, none⟩)]) (BC := [⟨g4, 22, [.slice a6 x5.length c7]⟩]) (Φ := [Sl (eI .i64) 1 (.slice a6 x5.length c7) x5]) (eI_ok .i64) (by decide) (sby85_86 _) (fun p cap w => Try.sortn85 p cap _ w) (fun a b z h => C_kraft_used_1 F a b g4 x5 a6 c7 z h) hm

theorem C_kraft_used (F : Nat) (x1 : List Int) (a2 : Option Addr) (c3 : Nat) (r : List Int) (hm : M_kraft_used F x1 = some r) :
    Pure Try.prog 59 [.slice a2 x1.length c3] [Sl (eI .i64) 1 (.slice a2 x1.length c3) x1] (Option Addr × Nat) (fun g => .slice g.1 r.length g.2) (fun g => [Ro (eI .i64) 3 1 (.slice g.1 r.length g.2) r]) (fun _ => []) := by
  refine pure_of Try.func59 rfl Try.ntmps59 rfl hm (fun w => ?_)
  refine sxc_env (l' := [(0, .slice a2 x1.length c3)]) rfl ?_
  refine sxc_seq ?_
  refine sxc_region ?_
  refine sxo_box rfl rfl rfl (fun g4 => ?_)
  refine sxo_assign rfl rfl rfl ?_
  refine sxo_nil ?_
  refine sxq_next ?_
  refine sxc_seq ?_
  refine sxc_region ?_
  refine sxo_assign rfl rfl rfl ?_
  refine sxo_nil ?_
  refine sxq_next ?_
  refine sxc_join (fun ((x81, (a79, c80)) : (List Int × (Option Addr × Nat))) => [(1, .pointer (some ⟨g4, 0, none⟩)), (3, .slice a79 x81.length c80)]) (fun ((x81, (a79, c80)) : (List Int × (Option Addr × Nat))) => [⟨g4, 22, [.slice a2 x1.length c3]⟩]) (fun ((x81, (a79, c80)) : (List Int × (Option Addr × Nat))) => [Ro (eI .i64) 3 1 (.slice a79 x81.length c80) x81]) (fun ((x81, (a79, c80)) : (List Int × (Option Addr × Nat))) => [Sl (eI .i64) 1 (.slice a2 x1.length c3) x1]) (fun ((x81, _) : (List Int × (Option Addr × Nat))) => M_kraft_used_j5 F x1 x81) ?_ ?_
  · refine sxc_seq ?_
    refine sxc_region ?_
    refine sxo_loadB (i := 0) rfl rfl tf22 rfl rfl (fun _ => rfl) rfl rfl ?_
    refine sxo_len rfl Try.underlying22 rfl rfl ?_
    refine sxo_move rfl rfl rfl ?_
    refine sxo_nil ?_
    refine sxq_next ?_
    refine sxc_block ?_
    refine sxc_nilrow Int (eI .i64) 3 1 ?_
    refine sxc_loopP (fun (((x109, x110), (a107, c108)) : ((List Int × Int) × (Option Addr × Nat))) => [(1, .pointer (some ⟨g4, 0, none⟩)), (3, .slice a107 x109.length c108), (6, .slice a2 x1.length c3), (7, .int .i64 (x1.length : Int)), (8, .int .i64 x110)]) (fun (((x109, x110), (a107, c108)) : ((List Int × Int) × (Option Addr × Nat))) => [⟨g4, 22, [.slice a2 x1.length c3]⟩]) (fun (((x109, x110), (a107, c108)) : ((List Int × Int) × (Option Addr × Nat))) => [Ro (eI .i64) 3 1 (.slice a107 x109.length c108) x109]) (fun (((x109, x110), (a107, c108)) : ((List Int × Int) × (Option Addr × Nat))) => [Sl (eI .i64) 1 (.slice a2 x1.length c3) x1]) (fun k (s : ((List Int × Int) × (Option Addr × Nat))) => M_kraft_used_l8 F x1 k s.1) ((([] : List Int), 0), (none, 0)) F ?_ (hB := (.cons 0 rfl .nil)) (hR := (.cons 0 rfl .nil)) (hF := (fk_cons 0 rfl fk_nil))
    intro k134
    rintro ⟨⟨x109, x110⟩, ⟨a107, c108⟩⟩
    try dsimp only
    refine sxc_meq (m' := M_kraft_used_b8 F x1 (M_kraft_used_l8 F x1 k134) x109 x110) rfl ?_
    refine sxc_seq ?_
    refine sxc_region ?_
    refine sxo_lss rfl rfl rfl rfl ?_
    refine sxo_nil ?_
    refine sxq_next ?_
    refine sxc_seq ?_
    refine sxc_if rfl (fun h157 => ?_) (fun h157 => ?_)
    · refine sxc_skip ?_
      refine sxq_next ?_
      refine sxc_join (fun ((x147, (a145, c146)) : (List Int × (Option Addr × Nat))) => [(1, .pointer (some ⟨g4, 0, none⟩)), (3, .slice a145 x147.length c146), (6, .slice a2 x1.length c3), (7, .int .i64 (x1.length : Int)), (8, .int .i64 x110)]) (fun ((x147, (a145, c146)) : (List Int × (Option Addr × Nat))) => [⟨g4, 22, [.slice a2 x1.length c3]⟩]) (fun ((x147, (a145, c146)) : (List Int × (Option Addr × Nat))) => [Ro (eI .i64) 3 1 (.slice a145 x147.length c146) x147]) (fun ((x147, (a145, c146)) : (List Int × (Option Addr × Nat))) => [Sl (eI .i64) 1 (.slice a2 x1.length c3) x1]) (fun ((x147, _) : (List Int × (Option Addr × Nat))) => M_kraft_used_j9 F (M_kraft_used_l8 F x1 k134) x110 x147) ?_ ?_
      · refine sxc_block ?_
        refine sxc_seq ?_
        refine sxc_region ?_
        refine sxo_move rfl rfl rfl ?_
        refine sxo_indexF (j := 0) (eI_ok .i64) (by decide) rfl Try.underlying22 tf3 rfl rfl rfl rfl (fun x148 e148 b149 o150 => ?_)
        refine sxo_loadF (j := 0) rfl rfl tf3 rfl rfl (fun _ => rfl) rfl rfl ?_
        refine sxo_assign rfl rfl rfl ?_
        refine sxo_assign rfl rfl rfl ?_
        refine sxo_nil ?_
        refine sxq_next ?_
        refine sxc_seq ?_
        refine sxc_region ?_
        refine sxo_move rfl rfl rfl ?_
        refine sxo_gtr rfl rfl rfl rfl ?_
        refine sxo_nil ?_
        refine sxq_next ?_
        refine sxc_if rfl (fun h156 => ?_) (fun h156 => ?_)
        · refine sxc_region ?_
          refine sxo_move rfl rfl rfl ?_
          refine sxo_move rfl rfl rfl ?_
          refine sxo_slit (vs := [.int .i64 x110]) (ys := ([x110] : List Int)) (eI_ok .i64) (by decide) rfl Try.underlying22 tf3 rfl rfl rfl rfl rfl (by decide) (fun a151 c152 => ?_)
          refine sxo_app 1 (eI_ok .i64) rfl Try.underlying22 tf3 rfl rfl rfl rfl rfl (.inl ⟨0, _, rfl⟩) rfl rfl (fun x153 e153 a154 c155 => ?_)
          refine sxo_assign rfl rfl rfl ?_
          refine sxo_nil ?_
          refine sxq_blkN ?_
          exact sxq_meetP (x153, (a154, c155)) (hB := (.cons 0 rfl .nil)) (hR := (.cons 0 rfl .nil)) (hF := (fk_cons 1 rfl fk_nil))
        · refine sxc_skip ?_
          refine sxq_blkN ?_
          exact sxq_meetP (x109, (a107, c108)) (hB := (.cons 0 rfl .nil)) (hR := (.cons 0 rfl .nil)) (hF := (fk_cons 1 rfl fk_nil))
      · rintro ⟨x147, ⟨a145, c146⟩⟩
        try dsimp only
        refine sxc_region ?_
        refine sxo_add rfl rfl rfl rfl ?_
        refine sxo_move rfl rfl rfl ?_
        refine sxo_nil ?_
        exact sxq_againP ((x147, iadd .i64 x110 1), (a145, c146)) (hB := (.cons 0 rfl .nil)) (hR := (.cons 0 rfl .nil)) (hF := (fk_cons 0 rfl fk_nil))
    · refine sxc_exit ?_
      refine sxq_thenX ?_
      refine sxq_thenX ?_
      refine sxq_blkX ?_
      exact sxq_meetP (x109, (a107, c108)) (hB := (.cons 0 rfl .nil)) (hR := (.cons 0 rfl .nil)) (hF := (fk_cons 0 rfl fk_nil))
  · rintro ⟨x81, ⟨a79, c80⟩⟩
    try dsimp only
    refine sxc_seq ?_
    refine sxc_region ?_
    refine sxo_move rfl rfl rfl ?_
    refine sxo_makeFunc rfl rfl rfl ?_
    refine sxo_callM ent85 rfl rfl rfl (fun x82 e82 => C_slices_SortFunc_int_int_kraft_used_1 F x81 a79 c80 g4 x1 a2 c3 x82 e82) (.cons 0 rfl .nil) (.cons 0 rfl .nil) (.consF 0 rfl .nil) (fun x82 e82 => ?_)
    intro _
    refine sxo_chk (fun h83 => ?_)
    replace h83 := of_decide_eq_true h83
    refine sxo_again (d := 3) (v := .slice a79 x82.length c80) rfl (by rw [h83] <;> rfl) ?_
    refine sxo_again (d := 20) (v := .slice a79 x82.length c80) rfl (by rw [h83] <;> rfl) ?_
    refine sxo_nil ?_
    refine sxq_next ?_
    refine sxc_seq ?_
    refine sxc_region ?_
    refine sxo_move rfl rfl rfl ?_
    refine sxo_assign rfl rfl rfl ?_
    refine sxo_nil ?_
    refine sxq_next ?_
    refine sxc_ret ?_
    exact sxq_doneP (a79, c80) (res1 rfl rfl) (fun h => by subst h; exact (.cons 0 rfl .nil))

theorem C_slices_Clone_byte_byte (F : Nat) (x1 : List Int) (a2 : Option Addr) (c3 : Nat) (r : List Int) (hm : M_slices_Clone_byte_byte F x1 = some r) :
    Pure Try.prog 88 [.slice a2 x1.length c3] [Sl (eI .u8) 1 (.slice a2 x1.length c3) x1] (Option Addr × Nat) (fun g => .slice g.1 r.length g.2) (fun g => [Ro (eI .u8) 5 1 (.slice g.1 r.length g.2) r]) (fun _ => []) := by
  refine pure_of Try.func88 rfl Try.ntmps88 rfl hm (fun w => ?_)
  refine sxc_env (l' := [(0, .slice a2 x1.length c3)]) rfl ?_
  refine sxc_seq ?_
  refine sxc_region ?_
  refine sxo_assign rfl rfl rfl ?_
  refine sxo_nil ?_
  refine sxq_next ?_
  refine sxc_seq ?_
  refine sxc_seq ?_
  refine sxc_region ?_
  refine sxo_move rfl rfl rfl ?_
  refine sxo_eqnil rfl Try.underlying23 rfl rfl rfl ?_
  refine sxo_nil ?_
  refine sxq_next ?_
  refine sxc_cond rfl (fun h11 => ?_) (fun h11 => ?_)
  · refine sxc_nilx 0 (eI_ok .u8) (by decide) rfl h11 (fun h12 => ?_)
    subst h12
    refine sxc_meq (m' := some ([] : List Int)) rfl ?_
    refine sxc_seq ?_
    refine sxc_region ?_
    refine sxo_assign rfl rfl rfl ?_
    refine sxo_nil ?_
    refine sxq_next ?_
    refine sxc_ret ?_
    refine sxq_thenR ?_
    refine sxq_nilrow Int (eI .u8) 5 1 ?_
    exact sxq_doneP (none, 0) (res1 rfl rfl) (fun h => by subst h; exact (.cons 0 rfl .nil))
  · refine sxc_skip ?_
    refine sxq_next ?_
    refine sxc_seq ?_
    refine sxc_region ?_
    refine sxo_slit (vs := []) (ys := ([] : List Int)) (eI_ok .u8) (by decide) rfl Try.underlying23 tf5 rfl rfl rfl rfl rfl (by decide) (fun a6 c7 => ?_)
    refine sxo_move rfl rfl rfl ?_
    refine sxo_app 0 (eI_ok .u8) rfl Try.underlying23 tf5 rfl rfl rfl rfl rfl (.inr ⟨0, rfl⟩) rfl rfl (fun x8 e8 a9 c10 => ?_)
    refine sxo_assign rfl rfl rfl ?_
    refine sxo_nil ?_
    refine sxq_next ?_
    refine sxc_ret ?_
    exact sxq_doneP (a9, c10) (res1 rfl rfl) (fun h => by subst h; exact (.cons 0 rfl .nil))

theorem C_bits_own (F : Nat) (x1 : Int) (x2 : List Int) (a3 : Option Addr) (c4 : Nat) (r : (Int × List Int)) (hm : M_bits_own F x1 x2 = some r) :
    PureM Try.prog 61 [.agg #[.int .i64 x1, .slice a3 x2.length c4]] [] [] [Sl (eI .u8) 1 (.slice a3 x2.length c4) x2] ((Option Addr × Nat) × Nat) (fun g => .pointer (some ⟨g.2, 0, none⟩)) (fun g => [⟨g.2, 90, [.int .i64 r.1, .slice g.1.1 r.2.length g.1.2]⟩]) (fun g => [Ro (eI .u8) 5 1 (.slice g.1.1 r.2.length g.1.2) r.2]) := by
  refine pureM_of Try.func61 rfl Try.ntmps61 rfl hm (fun w => ?_)
  refine sxc_env (l' := [(0, .agg #[.int .i64 x1, .slice a3 x2.length c4])]) rfl ?_
  refine sxc_seq ?_
  refine sxc_region ?_
  refine sxo_box rfl rfl rfl (fun g5 => ?_)
  refine sxo_assign rfl rfl rfl ?_
  refine sxo_nil ?_
  refine sxq_next ?_
  refine sxc_seq ?_
  refine sxb_draw mixed [] [⟨g5, 25, [.int .i64 x1, .slice a3 x2.length c4]⟩] [Sl (eI .u8) 1 (.slice a3 x2.length c4) x2] (.cons 0 rfl .nil) (gk_F 0 rfl gk_nil) 9 rfl ?_
  refine sxb_takeP 0 (.pointer (some ⟨g5, 0, none⟩)) rfl rfl rfl (yv_fieldAddr rfl ff25_0) ?_
  refine sxb_takeB 1 (.int .i64 x1) rfl rfl rfl (yv_loadB (i := 0) rfl tf3 rfl rfl (fun _ => rfl) rfl) ?_
  refine sxb_takeP 2 (.pointer (some ⟨g5, 1, none⟩)) rfl rfl rfl (yv_fieldAddr rfl ff25_1) ?_
  refine sxb_takeB 3 (.slice a3 x2.length c4) rfl rfl rfl (yv_loadB (i := 0) rfl tf23 rfl rfl (fun _ => rfl) rfl) ?_
  refine sxb_step 4 rfl (by kernel_rfl) rfl ?_
  refine sxo_call ent88 rfl rfl rfl (fun x10 e10 => C_slices_Clone_byte_byte F x2 a3 c4 x10 e10) (.consF 0 rfl .nil) (fun x10 e10 => ?_)
  rintro ⟨a11, c12⟩
  refine sxo_nil ?_
  refine sxq_anyB (.cons 0 rfl .nil) (gk_F 0 rfl gk_nil) ?_
  refine sxb_takeP 5 (.agg #[.int .i64 x1, .slice a11 x10.length c12]) rfl rfl rfl (yv_build (cells := [.int .i64 x1, .slice a11 x10.length c12]) st25 rfl (by kernel_rfl)) ?_
  refine sxb_takeP 6 (.agg #[.int .i64 x1, .slice a11 x10.length c12]) rfl rfl rfl (yv_build (cells := [.int .i64 x1, .slice a11 x10.length c12]) st90 rfl (by kernel_rfl)) ?_
  refine sxb_step 7 rfl (by kernel_rfl) rfl ?_
  refine sxo_box rfl rfl rfl (fun g13 => ?_)
  refine sxo_nil ?_
  refine sxq_anyB (.cons 1 rfl .nil) (gk_F 0 rfl gk_nil) ?_
  refine sxb_takeP 8 (.pointer (some ⟨g13, 0, none⟩)) rfl rfl rfl (yv_pv rfl) ?_
  refine sxb_done (by kernel_rfl) ?_
  refine sxq_np ?_ (by intro c h; cases h)
  refine sxq_next ?_
  refine sxc_ret ?_
  exact sxq_doneM ((a11, c12), g13) (res1 rfl rfl) (hB := fun h => by subst h; exact (.cons 0 rfl .nil)) (hR := fun h => by subst h; exact (.cons 0 rfl .nil))

theorem C_bits_writer_bit (F : Nat) (g1 : Nat) (x2 : Int) (x3 : List Int) (a4 : Option Addr) (c5 : Nat) (x6 : Int) (r : (Int × List Int)) (hm : M_bits_writer_bit F x2 x3 x6 = some r) :
    PureM Try.prog 63 [.pointer (some ⟨g1, 0, none⟩), .int .u64 x6] [⟨g1, 90, [.int .i64 x2, .slice a4 x3.length c5]⟩] [Ro (eI .u8) 5 1 (.slice a4 x3.length c5) x3] [] (Option Addr × Nat) (fun _ => .tuple #[]) (fun g => [⟨g1, 90, [.int .i64 r.1, .slice g.1 r.2.length g.2]⟩]) (fun g => [Ro (eI .u8) 5 1 (.slice g.1 r.2.length g.2) r.2]) := by
  refine pureM_of Try.func63 rfl Try.ntmps63 rfl hm (fun w => ?_)
  refine sxc_env (l' := [(0, .pointer (some ⟨g1, 0, none⟩)), (1, .int .u64 x6)]) rfl ?_
  refine sxc_join (fun ((x15, (a13, c14)) : (List Int × (Option Addr × Nat))) => [(0, .pointer (some ⟨g1, 0, none⟩)), (1, .int .u64 x6)]) (fun ((x15, (a13, c14)) : (List Int × (Option Addr × Nat))) => [⟨g1, 90, [.int .i64 x2, .slice a13 x15.length c14]⟩]) (fun ((x15, (a13, c14)) : (List Int × (Option Addr × Nat))) => [Ro (eI .u8) 5 1 (.slice a13 x15.length c14) x15]) (fun ((x15, (a13, c14)) : (List Int × (Option Addr × Nat))) => []) (fun ((x15, _) : (List Int × (Option Addr × Nat))) => M_bits_writer_bit_j1 F x2 x6 x15) ?_ ?_
  · refine sxc_seq ?_
    refine sxc_region ?_
    refine sxo_move rfl rfl rfl ?_
    refine sxo_nilCheck rfl rfl rfl ?_
    refine sxo_fieldAddr rfl rfl ff90_0 rfl ?_
    refine sxo_fieldAddr rfl rfl ff25_0 rfl ?_
    refine sxo_loadB (i := 0) rfl rfl tf3 rfl rfl (fun _ => rfl) rfl rfl ?_
    refine sxo_rem rfl rfl rfl rfl rfl ?_
    refine sxo_eql rfl rfl rfl rfl ?_
    refine sxo_nil ?_
    refine sxq_next ?_
    refine sxc_if rfl (fun h49 => ?_) (fun h49 => ?_)
    · refine sxc_region ?_
      refine sxo_move rfl rfl rfl ?_
      refine sxo_move rfl rfl rfl ?_
      refine sxo_nilCheck rfl rfl rfl ?_
      refine sxo_fieldAddr rfl rfl ff90_0 rfl ?_
      refine sxo_fieldAddr rfl rfl ff25_1 rfl ?_
      refine sxo_loadB (i := 0) rfl rfl tf23 rfl rfl (fun _ => rfl) rfl rfl ?_
      refine sxo_slit (vs := [.int .u8 0]) (ys := ([0] : List Int)) (eI_ok .u8) (by decide) rfl Try.underlying23 tf5 rfl rfl rfl rfl rfl (by decide) (fun a44 c45 => ?_)
      refine sxo_app 1 (eI_ok .u8) rfl Try.underlying23 tf5 rfl rfl rfl rfl rfl (.inl ⟨0, _, rfl⟩) rfl rfl (fun x46 e46 a47 c48 => ?_)
      refine sxo_nilCheck rfl rfl rfl ?_
      refine sxo_fieldAddr rfl rfl ff90_0 rfl ?_
      refine sxo_fieldAddr rfl rfl ff25_1 rfl ?_
      refine sxo_storeB (i := 0) rfl rfl rfl tf23 rfl rfl rfl rfl rfl ?_
      refine sxo_nil ?_
      exact sxq_meetP (x46, (a47, c48)) (hB := (.cons 0 rfl .nil)) (hR := (.cons 0 rfl .nil))
    · refine sxc_skip ?_
      exact sxq_meetP (x3, (a4, c5)) (hB := (.cons 0 rfl .nil)) (hR := (.cons 0 rfl .nil))
  · rintro ⟨x15, ⟨a13, c14⟩⟩
    try dsimp only
    refine sxc_seq ?_
    refine sxc_idxO (j := 0) rfl (fun x30 e30 g31 h32 => ?_)
    replace h32 : a13 = some ⟨g31, 0, none⟩ := h32
    have h33 := own_of (k := x15.length) (c := c14) h32
    refine sxc_chk (fun h34 => ?_)
    refine sxc_idxO (j := 0) rfl (fun x36 e36 g37 h38 => ?_)
    replace h38 : a13 = some ⟨g37, 0, none⟩ := h38
    have h39 := own_of (k := x15.length) (c := c14) h38
    refine sxb_draw mixed [25] [⟨g1, 90, [.int .i64 x2, .slice a13 x15.length c14]⟩] [CellsAt g31 ((iquo .i64 x2 8).toNat * 1) ((eI .u8) x30), CellsAt g37 ((iquo .i64 x2 8).toNat * 1) ((eI .u8) x36)] (.cons 0 rfl .nil) (gk_R 0 rfl (at_row (eI_ok .u8) e30 h32) (gk_R 0 rfl (at_row (eI_ok .u8) e36 h38) gk_nil)) 26 rfl ?_
    refine sxb_takeP 0 (.pointer (some ⟨g1, 0, none⟩)) rfl rfl rfl (yv_pv rfl) ?_
    refine sxb_takeP 1 (.pointer (some ⟨g1, 0, none⟩)) rfl rfl rfl (yv_pv rfl) ?_
    refine sxb_takeP 2 (.pointer (some ⟨g1, 0, none⟩)) rfl rfl rfl (yv_fieldAddr rfl ff90_0) ?_
    refine sxb_takeP 3 (.pointer (some ⟨g1, 1, none⟩)) rfl rfl rfl (yv_fieldAddr rfl ff25_1) ?_
    refine sxb_takeB 4 (.slice a13 x15.length c14) rfl rfl rfl (yv_loadB (i := 0) rfl tf23 rfl rfl (fun _ => rfl) rfl) ?_
    refine sxb_takeP 5 (.pointer (some ⟨g1, 0, none⟩)) rfl rfl rfl (yv_pv rfl) ?_
    refine sxb_takeP 6 (.pointer (some ⟨g1, 0, none⟩)) rfl rfl rfl (yv_pv rfl) ?_
    refine sxb_takeP 7 (.pointer (some ⟨g1, 0, none⟩)) rfl rfl rfl (yv_fieldAddr rfl ff90_0) ?_
    refine sxb_takeP 8 (.pointer (some ⟨g1, 0, none⟩)) rfl rfl rfl (yv_fieldAddr rfl ff25_0) ?_
    refine sxb_takeB 9 (.int .i64 x2) rfl rfl rfl (yv_loadB (i := 0) rfl tf3 rfl rfl (fun _ => rfl) rfl) ?_
    refine sxb_takeP 10 (.int .i64 (iquo .i64 x2 8)) rfl rfl rfl (yv_quo rfl rfl rfl) ?_
    refine sxb_again (d := 26) (v := .slice (some ⟨g31, 0, none⟩) x15.length c14) rfl (by rw [h32] <;> rfl) ?_
    refine sxb_takeP 11 (.pointer (some ⟨g31, (iquo .i64 x2 8).toNat * 1, none⟩)) rfl rfl rfl (yv_idxO Try.underlying23 tf5 rfl rfl (idx_get e30).1 (idx_lt e30)) ?_
    refine sxb_again (d := 26) (v := .slice a13 x15.length c14) rfl (by rw [h32] <;> rfl) ?_
    refine sxb_take 12 (.int .u8 x30) [[25]] rfl rfl rfl (yv_loadF (j := 0) rfl tf5 rfl rfl (fun _ => rfl) rfl) ?_
    refine sxb_takeP 13 (.int .u64 x6) rfl rfl rfl (yv_pv rfl) ?_
    refine sxb_takeP 14 (.int .u64 (ishl .u64 x6 7)) rfl rfl rfl (yv_shl rfl rfl rfl) ?_
    refine sxb_takeP 15 (.int .u8 (iconv .u8 (ishl .u64 x6 7))) rfl rfl rfl (yv_conv Try.underlying81 Try.underlying5 rfl) ?_
    refine sxb_takeP 16 (.pointer (some ⟨g1, 0, none⟩)) rfl rfl rfl (yv_pv rfl) ?_
    refine sxb_takeP 17 (.pointer (some ⟨g1, 0, none⟩)) rfl rfl rfl (yv_pv rfl) ?_
    refine sxb_takeP 18 (.pointer (some ⟨g1, 0, none⟩)) rfl rfl rfl (yv_fieldAddr rfl ff90_0) ?_
    refine sxb_takeP 19 (.pointer (some ⟨g1, 0, none⟩)) rfl rfl rfl (yv_fieldAddr rfl ff25_0) ?_
    refine sxb_takeB 20 (.int .i64 x2) rfl rfl rfl (yv_loadB (i := 0) rfl tf3 rfl rfl (fun _ => rfl) rfl) ?_
    refine sxb_takeP 21 (.int .i64 (irem x2 8)) rfl rfl rfl (yv_rem rfl rfl rfl) ?_
    refine sxb_takeP 22 (.int .u8 (ishr .u8 (iconv .u8 (ishl .u64 x6 7)) (irem x2 8))) rfl rfl rfl (yv_shr rfl rfl h34) ?_
    refine sxb_takeP 23 (.int .u8 (ior .u8 x30 (ishr .u8 (iconv .u8 (ishl .u64 x6 7)) (irem x2 8)))) rfl rfl rfl (yv_pv rfl) ?_
    refine sxb_again (d := 26) (v := .slice (some ⟨g37, 0, none⟩) x15.length c14) rfl (by rw [h38] <;> rfl) ?_
    refine sxb_takeP 24 (.pointer (some ⟨g37, (iquo .i64 x2 8).toNat * 1, none⟩)) rfl rfl rfl (yv_idxO Try.underlying23 tf5 rfl rfl (idx_get e36).1 (idx_lt e36)) ?_
    refine sxb_again (d := 26) (v := .slice a13 x15.length c14) rfl (by rw [h38] <;> rfl) ?_
    refine sxb_step 25 rfl (by kernel_rfl) rfl ?_
    refine sxo_storeL (j := 0) (y' := ior .u8 x30 (ishr .u8 (iconv .u8 (ishl .u64 x6 7)) (irem x2 8))) (eI_ok .u8) rfl rfl rfl tf5 rfl (own_of h38) (idx_get e36).2.1 rfl (fun x41 e41 h42 => ?_)
    have h43 : x41.length = x15.length := by rw [← e41, List.length_set]
    refine sxo_again (d := 26) (v := .slice a13 x41.length c14) rfl h42 ?_
    refine sxo_blkAgain (i := 0) (cs' := [.int .i64 x2, .slice a13 x41.length c14]) rfl (by rw [h42] <;> rfl) ?_
    refine sxo_nil ?_
    refine sxq_anyW 25 rfl (by kernel_rfl) (.cons 0 (by rw [h43]; rfl) .nil) ?_
    refine sxb_done (by kernel_rfl) ?_
    refine sxq_np ?_ (by intro c h; cases h)
    refine sxq_next ?_
    refine sxc_region ?_
    refine sxo_move rfl rfl rfl ?_
    refine sxo_nilCheck rfl rfl rfl ?_
    refine sxo_fieldAddr rfl rfl ff90_0 rfl ?_
    refine sxo_fieldAddr rfl rfl ff25_0 rfl ?_
    refine sxo_loadB (i := 0) rfl rfl tf3 rfl rfl (fun _ => rfl) rfl rfl ?_
    refine sxo_add rfl rfl rfl rfl ?_
    refine sxo_nilCheck rfl rfl rfl ?_
    refine sxo_fieldAddr rfl rfl ff90_0 rfl ?_
    refine sxo_fieldAddr rfl rfl ff25_0 rfl ?_
    refine sxo_storeB (i := 0) rfl rfl rfl tf3 rfl rfl rfl rfl rfl ?_
    refine sxo_nil ?_
    exact sxq_doneM (a13, c14) (res0 rfl) (hB := fun h => by subst h; exact (.cons 0 rfl .nil)) (hR := fun h => by subst h; exact (.cons 0 rfl .nil))

theorem C_bits_writer_number (F : Nat) (g1 : Nat) (x2 : Int) (x3 : List Int) (a4 : Option Addr) (c5 : Nat) (x6 : Int) (x7 : Int) (r : (Int × List Int)) (hm : M_bits_writer_number F x2 x3 x6 x7 = some r) :
    PureM Try.prog 87 [.pointer (some ⟨g1, 0, none⟩), .int .u64 x6, .int .i64 x7] [⟨g1, 90, [.int .i64 x2, .slice a4 x3.length c5]⟩] [Ro (eI .u8) 5 1 (.slice a4 x3.length c5) x3] [] (Option Addr × Nat) (fun _ => .tuple #[]) (fun g => [⟨g1, 90, [.int .i64 r.1, .slice g.1 r.2.length g.2]⟩]) (fun g => [Ro (eI .u8) 5 1 (.slice g.1 r.2.length g.2) r.2]) := by
  refine pureM_of Try.func87 rfl Try.ntmps87 rfl hm (fun w => ?_)
  refine sxc_env (l' := [(0, .pointer (some ⟨g1, 0, none⟩)), (1, .int .u64 x6), (2, .int .i64 x7)]) rfl ?_
  refine sxc_seq ?_
  refine sxc_region ?_
  refine sxo_move rfl rfl rfl ?_
  refine sxo_sub rfl rfl rfl rfl ?_
  refine sxo_assign rfl rfl rfl ?_
  refine sxo_nil ?_
  refine sxq_next ?_
  refine sxc_block ?_
  refine sxc_loopP (fun (((x18, x19, x22), (a20, c21)) : ((Int × Int × List Int) × (Option Addr × Nat))) => [(0, .pointer (some ⟨g1, 0, none⟩)), (1, .int .u64 x6), (6, .int .i64 x18)]) (fun (((x18, x19, x22), (a20, c21)) : ((Int × Int × List Int) × (Option Addr × Nat))) => [⟨g1, 90, [.int .i64 x19, .slice a20 x22.length c21]⟩]) (fun (((x18, x19, x22), (a20, c21)) : ((Int × Int × List Int) × (Option Addr × Nat))) => [Ro (eI .u8) 5 1 (.slice a20 x22.length c21) x22]) (fun (((x18, x19, x22), (a20, c21)) : ((Int × Int × List Int) × (Option Addr × Nat))) => []) (fun k (s : ((Int × Int × List Int) × (Option Addr × Nat))) => M_bits_writer_number_l1 F x6 k s.1) ((isub .i64 x7 1, x2, x3), (a4, c5)) F ?_ (hB := (.cons 0 rfl .nil)) (hR := (.cons 0 rfl .nil))
  intro k33
  rintro ⟨⟨x18, x19, x22⟩, ⟨a20, c21⟩⟩
  try dsimp only
  refine sxc_meq (m' := M_bits_writer_number_b1 F x6 (M_bits_writer_number_l1 F x6 k33) x18 x19 x22) rfl ?_
  refine sxc_seq ?_
  refine sxc_seq ?_
  refine sxc_region ?_
  refine sxo_move rfl rfl rfl ?_
  refine sxo_geq rfl rfl rfl rfl ?_
  refine sxo_nil ?_
  refine sxq_next ?_
  refine sxc_if rfl (fun h43 => ?_) (fun h43 => ?_)
  · refine sxc_skip ?_
    refine sxq_next ?_
    refine sxc_seq ?_
    refine sxc_block ?_
    refine sxc_region ?_
    refine sxo_move rfl rfl rfl ?_
    refine sxo_move rfl rfl rfl ?_
    refine sxo_move rfl rfl rfl ?_
    refine sxo_chk (fun h39 => ?_)
    refine sxo_shr rfl rfl rfl rfl h39 ?_
    refine sxo_and rfl rfl rfl rfl ?_
    refine sxo_callM ent63 rfl rfl rfl (fun x40 e40 => C_bits_writer_bit F g1 x19 x22 a20 c21 (iand .u64 (ishr .u64 x6 x18) 1) x40 e40) (.cons 0 rfl .nil) (.cons 0 rfl .nil) .nil (fun x40 e40 => ?_)
    rintro ⟨a41, c42⟩
    refine sxo_nil ?_
    refine sxq_blkN ?_
    refine sxq_next ?_
    refine sxc_region ?_
    refine sxo_move rfl rfl rfl ?_
    refine sxo_sub rfl rfl rfl rfl ?_
    refine sxo_assign rfl rfl rfl ?_
    refine sxo_nil ?_
    exact sxq_againP ((isub .i64 x18 1, x40.1, x40.2), (a41, c42)) (hB := (.cons 0 rfl .nil)) (hR := (.cons 0 rfl .nil))
  · refine sxc_exit ?_
    refine sxq_thenX ?_
    refine sxq_thenX ?_
    refine sxq_blkX ?_
    exact sxq_doneM (a20, c21) (res0 rfl) (hB := fun h => by subst h; exact (.cons 0 rfl .nil)) (hR := fun h => by subst h; exact (.cons 0 rfl .nil))

theorem C_bits_Add (F : Nat) (x1 : Int) (x2 : List Int) (a3 : Option Addr) (c4 : Nat) (x5 : Int) (x6 : Int) (r : (Int × List Int)) (hm : M_bits_Add F x1 x2 x5 x6 = some r) :
    Pure Try.prog 60 [.agg #[.int .i64 x1, .slice a3 x2.length c4], .int .u64 x5, .int .i64 x6] [Sl (eI .u8) 1 (.slice a3 x2.length c4) x2] (Option Addr × Nat) (fun g => .agg #[.int .i64 r.1, .slice g.1 r.2.length g.2]) (fun g => [Ro (eI .u8) 5 1 (.slice g.1 r.2.length g.2) r.2]) (fun _ => []) := by
  refine pure_of Try.func60 rfl Try.ntmps60 rfl hm (fun w => ?_)
  refine sxc_env (l' := [(0, .agg #[.int .i64 x1, .slice a3 x2.length c4]), (1, .int .u64 x5), (2, .int .i64 x6)]) rfl ?_
  refine sxc_seq ?_
  refine sxc_region ?_
  refine sxo_box rfl rfl rfl (fun g7 => ?_)
  refine sxo_alloc rfl tf25 rfl (fun g8 => ?_)
  refine sxo_nil ?_
  refine sxq_next ?_
  refine sxc_seq ?_
  refine sxc_region ?_
  refine sxo_loadB (i := 1) rfl rfl tf25 rfl rfl (by simp) rfl rfl ?_
  refine sxo_callM ent61 rfl rfl rfl (fun x9 e9 => C_bits_own F x1 x2 a3 c4 x9 e9) .nil .nil (.consF 0 rfl .nil) (fun x9 e9 => ?_)
  rintro ⟨⟨a10, c11⟩, g12⟩
  refine sxo_assign rfl rfl rfl ?_
  refine sxo_nil ?_
  refine sxq_next ?_
  refine sxc_seq ?_
  refine sxc_region ?_
  refine sxo_move rfl rfl rfl ?_
  refine sxo_move rfl rfl rfl ?_
  refine sxo_move rfl rfl rfl ?_
  refine sxo_callM ent87 rfl rfl rfl (fun x13 e13 => C_bits_writer_number F g12 x9.1 x9.2 a10 c11 x5 x6 x13 e13) (.cons 0 rfl .nil) (.cons 0 rfl .nil) .nil (fun x13 e13 => ?_)
  rintro ⟨a14, c15⟩
  refine sxo_nil ?_
  refine sxq_next ?_
  refine sxc_seq ?_
  refine sxc_region ?_
  refine sxo_move rfl rfl rfl ?_
  refine sxo_nilCheck rfl rfl rfl ?_
  refine sxo_fieldAddr rfl rfl ff90_0 rfl ?_
  refine sxo_loadB (i := 0) rfl rfl tf25 rfl rfl (by simp) rfl rfl ?_
  refine sxo_storeB (i := 1) rfl rfl rfl tf25 rfl rfl rfl rfl rfl ?_
  refine sxo_nil ?_
  refine sxq_next ?_
  refine sxc_ret ?_
  exact sxq_doneP (a14, c15) (resL (rs := [.cell 6 25]) rfl (.cell (i := 1) rfl tf25 rfl rfl (by simp) rfl ResOk.nil) rfl) (fun h => by subst h; exact (.cons 0 rfl .nil))

set_option maxHeartbeats 4000000 in
theorem C_kraft_Codes (F : Nat) (x1 : List Int) (a2 : Option Addr) (c3 : Nat) (r : (List (Int × List Int) × Int)) (hm : M_kraft_Codes F x1 = some r) :
    Pure Try.prog 33 [.slice a2 x1.length c3] [Sl (eI .i64) 1 (.slice a2 x1.length c3) x1] (Option Addr × (Nat × List (Option Addr × Nat))) (fun g => .tuple #[.slice g.1 r.1.length g.2.1, .int .i64 r.2]) (fun g => [RoN eN25 rN25 25 2 (.slice g.1 r.1.length g.2.1) r.1 g.2.2 []]) (fun _ => []) := by
  refine pure_of Try.func33 rfl Try.ntmps33 rfl hm (fun w => ?_)
  refine sxc_env (l' := [(0, .slice a2 x1.length c3)]) rfl ?_
  refine sxc_seq ?_
  refine sxc_region ?_
  refine sxo_assign rfl rfl rfl ?_
  refine sxo_assign rfl rfl rfl ?_
  refine sxo_nil ?_
  refine sxq_next ?_
  refine sxc_seq ?_
  refine sxc_region ?_
  refine sxo_move rfl rfl rfl ?_
  refine sxo_call ent31 rfl rfl rfl (fun x4 e4 => C_kraft_Check F x1 a2 c3 x4 e4) (.consF 0 rfl .nil) (fun x4 e4 => ?_)
  intro _
  refine sxo_assign rfl rfl rfl ?_
  refine sxo_nil ?_
  refine sxq_next ?_
  refine sxc_join (fun ((x10, _) : (Int × Unit)) => [(0, .slice a2 x1.length c3), (4, .int .i64 x10)]) (fun ((x10, _) : (Int × Unit)) => []) (fun ((x10, _) : (Int × Unit)) => []) (fun ((x10, _) : (Int × Unit)) => [Sl (eI .i64) 1 (.slice a2 x1.length c3) x1]) (fun ((x10, _) : (Int × Unit)) => M_kraft_Codes_j2 F x1 x10) ?_ ?_
  · refine sxc_seq ?_
    refine sxc_region ?_
    refine sxo_move rfl rfl rfl ?_
    refine sxo_eql rfl rfl rfl rfl ?_
    refine sxo_move rfl rfl rfl ?_
    refine sxo_join 4 (fun ((x650, _) : (Bool × Unit)) => [(0, .slice a2 x1.length c3), (4, .int .i64 x4), (18, .bool x650)]) (fun ((x650, _) : (Bool × Unit)) => []) (fun ((x650, _) : (Bool × Unit)) => []) (fun ((x650, _) : (Bool × Unit)) => [Sl (eI .i64) 1 (.slice a2 x1.length c3) x1]) (fun ((x650, _) : (Bool × Unit)) => M_kraft_Codes_j6 F x1 x4 x650) ?_ ?_
    · refine sxo_take (os := _) rfl ?_
      refine sxo_if (fun h648 => ?_) (fun h648 => ?_)
      · refine sxo_isT (k := 14) rfl h648 ?_
        refine sxo_move rfl rfl rfl ?_
        refine sxo_call ent48 rfl rfl rfl (fun x652 e652 => C_kraft_room F x1 a2 c3 x652 e652) (.consF 0 rfl .nil) (fun x652 e652 => ?_)
        intro _
        refine sxo_lss rfl rfl rfl rfl ?_
        refine sxo_pick (b := true) rfl rfl rfl rfl ?_
        refine sxo_nil ?_
        exact sxq_meetP ((decide (x652 < 0)), ()) (hF := (fk_cons 0 rfl fk_nil))
      · refine sxo_isF (k := 14) rfl h648 ?_
        refine sxo_skip rfl rfl rfl ?_
        refine sxo_skip rfl rfl rfl ?_
        refine sxo_skip rfl rfl rfl ?_
        refine sxo_pick (b := false) rfl rfl rfl rfl ?_
        refine sxo_nil ?_
        exact sxq_meetP (false, ()) (hF := (fk_cons 0 rfl fk_nil))
    · rintro ⟨x650, _⟩
      try dsimp only
      refine sxo_take (os := _) rfl ?_
      refine sxo_nil ?_
      refine sxq_next ?_
      refine sxc_if rfl (fun h651 => ?_) (fun h651 => ?_)
      · refine sxc_region ?_
        refine sxo_assign rfl rfl rfl ?_
        refine sxo_nil ?_
        exact sxq_meetP (8, ()) (hF := (fk_cons 0 rfl fk_nil))
      · refine sxc_skip ?_
        exact sxq_meetP (x4, ()) (hF := (fk_cons 0 rfl fk_nil))
  · rintro ⟨x10, _⟩
    try dsimp only
    refine sxc_seq ?_
    refine sxc_seq ?_
    refine sxc_region ?_
    refine sxo_move rfl rfl rfl ?_
    refine sxo_neq rfl rfl rfl rfl ?_
    refine sxo_nil ?_
    refine sxq_next ?_
    refine sxc_if rfl (fun h647 => ?_) (fun h647 => ?_)
    · refine sxc_seq ?_
      refine sxc_region ?_
      refine sxo_move rfl rfl rfl ?_
      refine sxo_assign rfl rfl rfl ?_
      refine sxo_assign rfl rfl rfl ?_
      refine sxo_nil ?_
      refine sxq_next ?_
      refine sxc_ret ?_
      refine sxq_thenR ?_
      refine sxq_nilN (Int × List Int) (Option Addr × Nat) eN25 rN25 25 2 ?_
      exact sxq_doneP (none, (0, ([] : List (Option Addr × Nat)))) (res2 rfl rfl rfl) (fun h => by subst h; exact (.cons 0 rfl .nil))
    · refine sxc_skip ?_
      refine sxq_next ?_
      refine sxc_seq ?_
      refine sxc_region ?_
      refine sxo_move rfl rfl rfl ?_
      refine sxo_len rfl Try.underlying22 rfl rfl ?_
      refine sxo_mkN (rin := rN25) (y := ((0 : Int), ([] : List Int))) (q := ((none, 0) : Option Addr × Nat)) eN25_ok (by decide) rN25_nil rfl Try.underlying55 tf25 rfl rfl rfl rfl rfl rfl (fun x12 e12 a13 c14 => ?_)
      refine sxo_assign rfl rfl rfl ?_
      refine sxo_nil ?_
      refine sxq_next ?_
      refine sxc_seq ?_
      refine sxc_region ?_
      refine sxo_assign rfl rfl rfl ?_
      refine sxo_assign rfl rfl rfl ?_
      refine sxo_nil ?_
      refine sxq_next ?_
      refine sxc_join (fun ((x331, g330) : (List (Int × List Int) × List (Option Addr × Nat))) => [(5, .slice a13 x331.length c14)]) (fun ((x331, g330) : (List (Int × List Int) × List (Option Addr × Nat))) => []) (fun ((x331, g330) : (List (Int × List Int) × List (Option Addr × Nat))) => [RoN eN25 rN25 25 2 (.slice a13 x331.length c14) x331 g330 []]) (fun ((x331, g330) : (List (Int × List Int) × List (Option Addr × Nat))) => []) (fun ((x331, _) : (List (Int × List Int) × List (Option Addr × Nat))) => M_kraft_Codes_j4 F x331) ?_ ?_
      · refine sxc_seq ?_
        refine sxc_region ?_
        refine sxo_move rfl rfl rfl ?_
        refine sxo_call ent59 rfl rfl rfl (fun x332 e332 => C_kraft_used F x1 a2 c3 x332 e332) (.consF 0 rfl .nil) (fun x332 e332 => ?_)
        rintro ⟨a333, c334⟩
        refine sxo_len rfl Try.underlying22 rfl rfl ?_
        refine sxo_move rfl rfl rfl ?_
        refine sxo_nil ?_
        refine sxq_next ?_
        refine sxc_block ?_
        refine sxc_loopP (fun (((x438, x439, x440, x441), g437) : ((List (Int × List Int) × Int × Int × Int) × List (Option Addr × Nat))) => [(0, .slice a2 x1.length c3), (5, .slice a13 x438.length c14), (6, .int .u64 x439), (7, .int .i64 x440), (26, .slice a333 x332.length c334), (27, .int .i64 (x332.length : Int)), (28, .int .i64 x441)]) (fun (((x438, x439, x440, x441), g437) : ((List (Int × List Int) × Int × Int × Int) × List (Option Addr × Nat))) => []) (fun (((x438, x439, x440, x441), g437) : ((List (Int × List Int) × Int × Int × Int) × List (Option Addr × Nat))) => [RoN eN25 rN25 25 2 (.slice a13 x438.length c14) x438 g437 [], Ro (eI .i64) 3 1 (.slice a333 x332.length c334) x332]) (fun (((x438, x439, x440, x441), g437) : ((List (Int × List Int) × Int × Int × Int) × List (Option Addr × Nat))) => [Sl (eI .i64) 1 (.slice a2 x1.length c3) x1]) (fun k (s : ((List (Int × List Int) × Int × Int × Int) × List (Option Addr × Nat))) => M_kraft_Codes_l5 F x1 x332 k s.1) ((x12, 0, 0, 0), (List.replicate x12.length ((none, 0) : Option Addr × Nat))) F ?_ (hR := (.cons 1 rfl (.cons 0 rfl .nil))) (hF := (fk_cons 0 rfl fk_nil))
        intro k544
        rintro ⟨⟨x438, x439, x440, x441⟩, g437⟩
        try dsimp only
        refine sxc_meq (m' := M_kraft_Codes_b5 F x1 x332 (M_kraft_Codes_l5 F x1 x332 k544) x438 x439 x440 x441) rfl ?_
        refine sxc_seq ?_
        refine sxc_region ?_
        refine sxo_lss rfl rfl rfl rfl ?_
        refine sxo_nil ?_
        refine sxq_next ?_
        refine sxc_seq ?_
        refine sxc_if rfl (fun h646 => ?_) (fun h646 => ?_)
        · refine sxc_skip ?_
          refine sxq_next ?_
          refine sxc_seq ?_
          refine sxc_block ?_
          refine sxc_seq ?_
          refine sxc_region ?_
          refine sxo_indexR (j := 1) rfl Try.underlying22 tf3 rfl rfl rfl rfl (fun x596 e596 g597 h598 => ?_)
          refine sxo_loadR (j := 1) (y := x596) (eI_ok .i64) rfl rfl tf3 rfl h598 (idx_get e596).2.2 (fun _ => rfl) rfl rfl ?_
          refine sxo_assign rfl rfl rfl ?_
          refine sxo_nil ?_
          refine sxq_next ?_
          refine sxc_seq ?_
          refine sxc_region ?_
          refine sxo_move rfl rfl rfl ?_
          refine sxo_move rfl rfl rfl ?_
          refine sxo_move rfl rfl rfl ?_
          refine sxo_indexF (j := 0) (eI_ok .i64) (by decide) rfl Try.underlying22 tf3 rfl rfl rfl rfl (fun x599 e599 b600 o601 => ?_)
          refine sxo_loadF (j := 0) rfl rfl tf3 rfl rfl (fun _ => rfl) rfl rfl ?_
          refine sxo_move rfl rfl rfl ?_
          refine sxo_sub rfl rfl rfl rfl ?_
          refine sxo_chk (fun h602 => ?_)
          refine sxo_shl rfl rfl rfl rfl h602 ?_
          refine sxo_assign rfl rfl rfl ?_
          refine sxo_nil ?_
          refine sxq_next ?_
          refine sxc_seq ?_
          refine sxc_idxF (j := 1) (eI_ok .i64) (by decide) rfl (fun x624 e624 b625 o626 h627 => ?_)
          replace h627 : a2 = some ⟨b625, o626, none⟩ := h627
          refine sxc_idxF (j := 2) (eI_ok .i64) (by decide) rfl (fun x628 e628 b629 o630 h631 => ?_)
          replace h631 : a2 = some ⟨b629, o630, none⟩ := h631
          refine sxc_idxP (j := 0) rfl (fun x632 e632 g633 h634 g635 h636 => ?_)
          replace h636 : a13 = some ⟨g635, 0, none⟩ := h636
          have h637 := own_of (k := x438.length) (c := c14) h636
          refine sxc_openN (i := 0) rfl h634 (List.not_mem_nil) ?_
          refine sxb_draw mixed [] [] [CellsAt b629 (o630 + x596.toNat * 1) ((eI .i64) x628), CellsAt b625 (o626 + x596.toNat * 1) ((eI .i64) x624), CellsAt b600 o601 ((eI .i64) x599), Sl (eI .i64) 1 (.slice a2 x1.length c3) x1] .nil (gk_F 0 rfl (gk_F 1 rfl (gk_F 2 rfl (gk_F 3 rfl gk_nil)))) 16 rfl ?_
          refine sxb_takeP 0 (.slice a13 x438.length c14) rfl rfl rfl (yv_pv rfl) ?_
          refine sxb_takeP 1 (.int .i64 x596) rfl rfl rfl (yv_pv rfl) ?_
          refine sxb_takeP 2 (.agg #[.int .i64 0, .slice none 0 0]) rfl rfl rfl (yv_build (cells := [.int .i64 0, .slice none 0 0]) st25 rfl (by kernel_rfl)) ?_
          refine sxb_takeP 3 (.int .u64 (ishl .u64 x439 (isub .i64 x599 x440))) rfl rfl rfl (yv_pv rfl) ?_
          refine sxb_takeP 4 (.slice a2 x1.length c3) rfl rfl rfl (yv_pv rfl) ?_
          refine sxb_takeP 5 (.int .i64 x596) rfl rfl rfl (yv_pv rfl) ?_
          refine sxb_again (d := 44) (v := .slice (some ⟨b625, o626, none⟩) x1.length c3) rfl (by rw [h627] <;> rfl) ?_
          refine sxb_takeP 6 (.pointer (some ⟨b625, (o626 + x596.toNat * 1), none⟩)) rfl rfl rfl (yv_idx Try.underlying22 tf3 rfl rfl (idx_get e624).1 (idx_lt e624)) ?_
          refine sxb_again (d := 44) (v := .slice a2 x1.length c3) rfl (by rw [h627] <;> rfl) ?_
          refine sxb_take 7 (.int .i64 x624) [] rfl rfl rfl (yv_loadF (j := 1) rfl tf3 rfl rfl (fun _ => rfl) rfl) ?_
          refine sxb_takeP 9 (.slice a2 x1.length c3) rfl rfl rfl (yv_pv rfl) ?_
          refine sxb_takeP 10 (.int .i64 x596) rfl rfl rfl (yv_pv rfl) ?_
          refine sxb_again (d := 49) (v := .slice (some ⟨b629, o630, none⟩) x1.length c3) rfl (by rw [h631] <;> rfl) ?_
          refine sxb_takeP 11 (.pointer (some ⟨b629, (o630 + x596.toNat * 1), none⟩)) rfl rfl rfl (yv_idx Try.underlying22 tf3 rfl rfl (idx_get e628).1 (idx_lt e628)) ?_
          refine sxb_again (d := 49) (v := .slice a2 x1.length c3) rfl (by rw [h631] <;> rfl) ?_
          refine sxb_take 12 (.int .i64 x628) [] rfl rfl rfl (yv_loadF (j := 0) rfl tf3 rfl rfl (fun _ => rfl) rfl) ?_
          refine sxb_step 8 rfl (by kernel_rfl) rfl ?_
          refine sxo_nilrow' Int (eI .u8) 5 1 ?_
          refine sxo_call ent60 rfl rfl rfl (fun x638 e638 => C_bits_Add F 0 ([] : List Int) none 0 (ishl .u64 x439 (isub .i64 x599 x440)) x624 x638 e638) (.consR 0 (Ro (eI .u8) 5 1 (.slice none ([] : List Int).length 0) ([] : List Int)) rfl .nil) (fun x638 e638 => ?_)
          rintro ⟨a639, c640⟩
          refine sxo_nil ?_
          refine sxq_anyB .nil (gk_F 0 rfl (gk_F 1 rfl (gk_F 2 rfl (gk_F 3 rfl gk_nil)))) ?_
          refine sxb_again (d := 40) (v := .slice (some ⟨g635, 0, none⟩) x438.length c14) rfl (by rw [h636] <;> rfl) ?_
          refine sxb_takeP 13 (.pointer (some ⟨g635, x596.toNat * 2, none⟩)) rfl rfl rfl (yv_idxO Try.underlying55 tf25 rfl rfl (idx_get e632).1 (idx_lt e632)) ?_
          refine sxb_again (d := 40) (v := .slice a13 x438.length c14) rfl (by rw [h636] <;> rfl) ?_
          refine sxb_step 14 rfl (by kernel_rfl) rfl ?_
          refine sxo_storeC (j := 3) (kh := 0) (y' := (x638.1, x638.2)) (q' := (a639, c640)) eN25_ok rfl rfl rfl tf25 rfl (own_of h636) rfl (idx_get e632).2.1 rfl (.cons 0 rfl .nil) (fun x641 e641 h642 g644 => ?_)
          have h643 : x641.length = x438.length := by rw [← e641, List.length_set]
          refine sxo_again (d := 5) (v := .slice a13 x641.length c14) rfl (by rw [h642] <;> rfl) ?_
          refine sxo_again (d := 40) (v := .slice a13 x641.length c14) rfl (by rw [h642] <;> rfl) ?_
          refine sxo_nil ?_
          refine sxq_anyB .nil (gk_F 0 rfl (gk_F 1 rfl (gk_F 2 rfl (gk_F 3 rfl gk_nil)))) ?_
          refine sxb_takeP 15 (.int .i64 x628) rfl rfl rfl (yv_pv rfl) ?_
          refine sxb_done (by kernel_rfl) ?_
          refine sxq_np ?_ (by intro c h; cases h)
          refine sxq_next ?_
          refine sxc_region ?_
          refine sxo_move rfl rfl rfl ?_
          refine sxo_add rfl rfl rfl rfl ?_
          refine sxo_assign rfl rfl rfl ?_
          refine sxo_lett (fun x645 e645 => ?_)
          refine sxo_again (d := 6) (v := .int .u64 x645) rfl (by rw [e645] <;> rfl) ?_
          refine sxo_nil ?_
          refine sxq_blkN ?_
          refine sxq_next ?_
          refine sxc_region ?_
          refine sxo_add rfl rfl rfl rfl ?_
          refine sxo_move rfl rfl rfl ?_
          refine sxo_nil ?_
          exact sxq_againP ((x641, x645, x628, iadd .i64 x441 1), g644) (hR := (.cons 0 rfl (.cons 2 rfl .nil))) (hF := (fk_cons 3 rfl fk_nil))
        · refine sxc_exit ?_
          refine sxq_thenX ?_
          refine sxq_thenX ?_
          refine sxq_blkX ?_
          exact sxq_meetP (x438, g437) (hR := (.cons 0 rfl .nil))
      · rintro ⟨x331, g330⟩
        try dsimp only
        refine sxc_seq ?_
        refine sxc_region ?_
        refine sxo_move rfl rfl rfl ?_
        refine sxo_assign rfl rfl rfl ?_
        refine sxo_assign rfl rfl rfl ?_
        refine sxo_nil ?_
        refine sxq_next ?_
        refine sxc_ret ?_
        exact sxq_doneP (a13, (c14, g330)) (res2 rfl rfl rfl) (fun h => by subst h; exact (.cons 0 rfl .nil))

theorem C_bits_places (F : Nat) (x1 : Int) (x2 : List Int) (a3 : Option Addr) (c4 : Nat) (x5 : Int) (x6 : Int) (r : Unit) (hm : M_bits_places F x1 x2 x5 x6 = some r) :
    PureM Try.prog 62 [.agg #[.int .i64 x1, .slice a3 x2.length c4], .int .i64 x5, .int .i64 x6] [] [] [Sl (eI .u8) 1 (.slice a3 x2.length c4) x2] (Nat × Nat × Nat) (fun g => .func (.func 89) #[] #[.pointer (some ⟨g.1, 0, none⟩), .pointer (some ⟨g.2.1, 0, none⟩), .pointer (some ⟨g.2.2, 0, none⟩)]) (fun g => [⟨g.1, 3, [.int .i64 x5]⟩, ⟨g.2.1, 3, [.int .i64 x6]⟩, ⟨g.2.2, 25, [.int .i64 x1, .slice a3 x2.length c4]⟩]) (fun _ => []) := by
  refine pureM_of Try.func62 rfl Try.ntmps62 rfl hm (fun w => ?_)
  refine sxc_env (l' := [(0, .agg #[.int .i64 x1, .slice a3 x2.length c4]), (1, .int .i64 x5), (2, .int .i64 x6)]) rfl ?_
  refine sxc_seq ?_
  refine sxc_region ?_
  refine sxo_box rfl rfl rfl (fun g7 => ?_)
  refine sxo_box rfl rfl rfl (fun g8 => ?_)
  refine sxo_box rfl rfl rfl (fun g9 => ?_)
  refine sxo_assign rfl rfl rfl ?_
  refine sxo_nil ?_
  refine sxq_next ?_
  refine sxc_seq ?_
  refine sxc_region ?_
  refine sxo_makeFunc rfl rfl rfl ?_
  refine sxo_assign rfl rfl rfl ?_
  refine sxo_nil ?_
  refine sxq_next ?_
  refine sxc_ret ?_
  exact sxq_doneM (g8, g9, g7) (res1 rfl rfl) (hB := fun h => by subst h; exact (.cons 1 rfl (.cons 0 rfl (.cons 0 rfl .nil))))

theorem C_bits_At (F : Nat) (x1 : Int) (x2 : List Int) (a3 : Option Addr) (c4 : Nat) (x5 : Int) (r : Int) (hm : M_bits_At F x1 x2 x5 = some r) :
    Pure Try.prog 90 [.agg #[.int .i64 x1, .slice a3 x2.length c4], .int .i64 x5] [Sl (eI .u8) 1 (.slice a3 x2.length c4) x2] Unit (fun _ => .int .u64 r) (fun _ => []) (fun _ => []) := by
  refine pure_of Try.func90 rfl Try.ntmps90 rfl hm (fun w => ?_)
  refine sxc_env (l' := [(0, .agg #[.int .i64 x1, .slice a3 x2.length c4]), (1, .int .i64 x5)]) rfl ?_
  refine sxc_seq ?_
  refine sxc_region ?_
  refine sxo_box rfl rfl rfl (fun g6 => ?_)
  refine sxo_assign rfl rfl rfl ?_
  refine sxo_nil ?_
  refine sxq_next ?_
  refine sxc_seq ?_
  refine sxc_region ?_
  refine sxo_fieldAddr rfl rfl ff25_1 rfl ?_
  refine sxo_loadB (i := 0) rfl rfl tf23 rfl rfl (fun _ => rfl) rfl rfl ?_
  refine sxo_move rfl rfl rfl ?_
  refine sxo_quo rfl rfl rfl rfl rfl ?_
  refine sxo_indexF (j := 0) (eI_ok .u8) (by decide) rfl Try.underlying23 tf5 rfl rfl rfl rfl (fun x7 e7 b8 o9 => ?_)
  refine sxo_loadF (j := 0) rfl rfl tf5 rfl rfl (fun _ => rfl) rfl rfl ?_
  refine sxo_move rfl rfl rfl ?_
  refine sxo_rem rfl rfl rfl rfl rfl ?_
  refine sxo_sub rfl rfl rfl rfl ?_
  refine sxo_chk (fun h10 => ?_)
  refine sxo_shr rfl rfl rfl rfl h10 ?_
  refine sxo_conv rfl Try.underlying5 Try.underlying81 rfl rfl ?_
  refine sxo_and rfl rfl rfl rfl ?_
  refine sxo_assign rfl rfl rfl ?_
  refine sxo_lett (fun x11 e11 => ?_)
  refine sxo_again (d := 4) (v := .int .u64 x11) rfl (by rw [e11] <;> rfl) ?_
  refine sxo_nil ?_
  refine sxq_next ?_
  refine sxc_ret ?_
  exact sxq_doneP () (res1 rfl rfl)

theorem C_bits_places_1 (F : Nat) {σ τ : Type} {J : Rounds σ τ} {yy : σ → Int → Option (σ ⊕ τ)} {L : Nat} (hY : YieldC Try.prog L (fun (p : Int) => [.int .u64 p]) J yy) (s0 : σ) (gs0 : J.γ) (g1 : Nat) (x2 : Int) (g3 : Nat) (x4 : Int) (g5 : Nat) (x6 : Int) (x7 : List Int) (a8 : Option Addr) (c9 : Nat) (r : σ ⊕ τ) (hm : M_bits_places_1 F yy x2 x4 x6 x7 s0 = some r) :
    PureM Try.prog 89 ([.func (.yield L) #[] #[], .pointer (some ⟨g1, 0, none⟩), .pointer (some ⟨g3, 0, none⟩), .pointer (some ⟨g5, 0, none⟩)]) ([⟨g1, 3, [.int .i64 x2]⟩, ⟨g3, 3, [.int .i64 x4]⟩, ⟨g5, 25, [.int .i64 x6, .slice a8 x7.length c9]⟩] ++ J.IB s0 gs0) (J.IR s0 gs0) [J.F, Sl (eI .u8) 1 (.slice a8 x7.length c9) x7] (J.G r) (fun _ => .tuple #[]) (fun g => [⟨g1, 3, [.int .i64 x2]⟩, ⟨g3, 3, [.int .i64 x4]⟩, ⟨g5, 25, [.int .i64 x6, .slice a8 x7.length c9]⟩] ++ J.bs r g) (fun g => J.rs r g) := by
  refine pureM_of Try.func89 rfl Try.ntmps89 rfl hm (fun w => ?_)
  refine sxc_env (l' := [(0, .func (.yield L) #[] #[]), (1, .pointer (some ⟨g1, 0, none⟩)), (2, .pointer (some ⟨g3, 0, none⟩)), (3, .pointer (some ⟨g5, 0, none⟩))]) rfl ?_
  refine sxc_seq ?_
  refine sxc_region ?_
  refine sxo_loadB (i := 0) rfl rfl tf3 rfl rfl (fun _ => rfl) rfl rfl ?_
  refine sxo_assign rfl rfl rfl ?_
  refine sxo_nil ?_
  refine sxq_next ?_
  refine sxc_block ?_
  refine sxc_loopP (fun (((x22, x23), g24) : ((Int × σ) × J.γ)) => [(0, .func (.yield L) #[] #[]), (2, .pointer (some ⟨g3, 0, none⟩)), (3, .pointer (some ⟨g5, 0, none⟩)), (5, .int .i64 x22)]) (fun (((x22, x23), g24) : ((Int × σ) × J.γ)) => [⟨g1, 3, [.int .i64 x2]⟩, ⟨g3, 3, [.int .i64 x4]⟩, ⟨g5, 25, [.int .i64 x6, .slice a8 x7.length c9]⟩] ++ J.IB x23 g24) (fun (((x22, x23), g24) : ((Int × σ) × J.γ)) => [] ++ J.IR x23 g24) (fun (((x22, x23), g24) : ((Int × σ) × J.γ)) => [Sl (eI .u8) 1 (.slice a8 x7.length c9) x7, J.F]) (fun k (s : ((Int × σ) × J.γ)) => M_bits_places_1_l1 F yy x4 x6 x7 k s.1) ((x2, s0), gs0) F ?_ (hB := (.cons 0 rfl (.cons 0 rfl (.cons 0 rfl (pick_rest 0 rfl))))) (hR := (pick_rest 0 rfl)) (hF := (fk_cons 1 rfl (fk_cons 0 rfl fk_nil)))
  intro k37
  rintro ⟨⟨x22, x23⟩, g24⟩
  try dsimp only
  refine sxc_meq (m' := M_bits_places_1_b1 F yy x4 x6 x7 (M_bits_places_1_l1 F yy x4 x6 x7 k37) x22 x23) rfl ?_
  refine sxc_seq ?_
  refine sxc_seq ?_
  refine sxc_region ?_
  refine sxo_move rfl rfl rfl ?_
  refine sxo_loadB (i := 1) rfl rfl tf3 rfl rfl (fun _ => rfl) rfl rfl ?_
  refine sxo_lss rfl rfl rfl rfl ?_
  refine sxo_nil ?_
  refine sxq_next ?_
  refine sxc_if rfl (fun h49 => ?_) (fun h49 => ?_)
  · refine sxc_skip ?_
    refine sxq_next ?_
    refine sxc_seq ?_
    refine sxc_block ?_
    refine sxc_seq ?_
    refine sxc_region ?_
    refine sxo_move rfl rfl rfl ?_
    refine sxo_loadB (i := 2) rfl rfl tf25 rfl rfl (by simp) rfl rfl ?_
    refine sxo_move rfl rfl rfl ?_
    refine sxo_call ent90 rfl rfl rfl (fun x44 e44 => C_bits_At F x6 x7 a8 c9 x22 x44 e44) (.consF 0 rfl .nil) (fun x44 e44 => ?_)
    intro _
    refine sxo_yield hY x23 x44 g24 (B1 := [⟨g1, 3, [.int .i64 x2]⟩, ⟨g3, 3, [.int .i64 x4]⟩, ⟨g5, 25, [.int .i64 x6, .slice a8 x7.length c9]⟩]) (R1 := []) (j := 1) rfl rfl rfl rfl rfl rfl rfl (fun x45 _ g47 => ?_) (fun x46 _ g47 => ?_)
    · refine sxo_not rfl rfl rfl ?_
      refine sxo_nil ?_
      refine sxq_next ?_
      refine sxc_cond (b := false) rfl (fun h => by cases h) (fun _ => ?_)
      refine sxc_skip ?_
      refine sxq_blkN ?_
      refine sxq_next ?_
      refine sxc_region ?_
      refine sxo_move rfl rfl rfl ?_
      refine sxo_add rfl rfl rfl rfl ?_
      refine sxo_assign rfl rfl rfl ?_
      refine sxo_nil ?_
      exact sxq_againP ((iadd .i64 x22 1, x45), g47) (hB := (.cons 0 rfl (.cons 0 rfl (.cons 0 rfl (pick_rest 0 rfl))))) (hR := (pick_rest 0 rfl)) (hF := (fk_cons 0 rfl (fk_cons 1 rfl fk_nil)))
    · refine sxo_not rfl rfl rfl ?_
      refine sxo_nil ?_
      refine sxq_next ?_
      refine sxc_cond (b := true) rfl (fun _ => ?_) (fun h => by cases h)
      refine sxc_ret ?_
      refine sxq_blkR ?_
      refine sxq_thenR ?_
      refine sxq_thenR ?_
      refine sxq_blkR ?_
      exact sxq_doneI (B0 := [⟨g1, 3, [.int .i64 x2]⟩, ⟨g3, 3, [.int .i64 x4]⟩, ⟨g5, 25, [.int .i64 x6, .slice a8 x7.length c9]⟩]) (x := .inr x46) g47 (.inl rfl) (res0 rfl) (.cons 0 rfl (.cons 0 rfl (.cons 0 rfl (pick_rest 0 rfl)))) (pick_rest 0 rfl)
  · refine sxc_exit ?_
    refine sxq_thenX ?_
    refine sxq_thenX ?_
    refine sxq_blkX ?_
    exact sxq_doneI (B0 := [⟨g1, 3, [.int .i64 x2]⟩, ⟨g3, 3, [.int .i64 x4]⟩, ⟨g5, 25, [.int .i64 x6, .slice a8 x7.length c9]⟩]) (x := .inl x23) g24 (.inr rfl) (res0 rfl) (.cons 0 rfl (.cons 0 rfl (.cons 0 rfl (pick_rest 0 rfl)))) (pick_rest 0 rfl)

theorem C_bits_Both (F : Nat) (x1 : Int) (x2 : List Int) (a3 : Option Addr) (c4 : Nat) (x5 : Int) (x6 : List Int) (a7 : Option Addr) (c8 : Nat) (r : (Int × List Int)) (hm : M_bits_Both F x1 x2 x5 x6 = some r) :
    PureM Try.prog 34 [.agg #[.int .i64 x1, .slice a3 x2.length c4], .agg #[.int .i64 x5, .slice a7 x6.length c8]] [] [] [Sl (eI .u8) 1 (.slice a3 x2.length c4) x2, Sl (eI .u8) 1 (.slice a7 x6.length c8) x6] (Option Addr × Nat) (fun g => .agg #[.int .i64 r.1, .slice g.1 r.2.length g.2]) (fun _ => []) (fun g => [Ro (eI .u8) 5 1 (.slice g.1 r.2.length g.2) r.2]) := by
  refine pureX_of Try.func34 rfl Try.ntmps34 rfl hm (fun w => ?_)
  refine sxc_env (l' := [(0, .agg #[.int .i64 x1, .slice a3 x2.length c4]), (1, .agg #[.int .i64 x5, .slice a7 x6.length c8])]) rfl ?_
  refine sxc_seq ?_
  refine sxc_region ?_
  refine sxo_box rfl rfl rfl (fun g9 => ?_)
  refine sxo_box rfl rfl rfl (fun g10 => ?_)
  refine sxo_alloc rfl tf25 rfl (fun g11 => ?_)
  refine sxo_nil ?_
  refine sxq_next ?_
  refine sxc_seq ?_
  refine sxc_region ?_
  refine sxo_loadB (i := 2) rfl rfl tf25 rfl rfl (by simp) rfl rfl ?_
  refine sxo_callM ent61 rfl rfl rfl (fun x12 e12 => C_bits_own F x1 x2 a3 c4 x12 e12) .nil .nil (.consF 0 rfl .nil) (fun x12 e12 => ?_)
  rintro ⟨⟨a13, c14⟩, g15⟩
  refine sxo_alloc rfl tf84 rfl (fun g16 => ?_)
  refine sxo_storeB (i := 0) rfl rfl rfl tf84 rfl rfl rfl rfl rfl ?_
  refine sxo_nil ?_
  refine sxq_next ?_
  refine sxc_seq ?_
  refine sxc_seq ?_
  refine sxc_region ?_
  refine sxo_loadB (i := 3) rfl rfl tf25 rfl rfl (by simp) rfl rfl ?_
  refine sxo_fieldAddr rfl rfl ff25_0 rfl ?_
  refine sxo_loadB (i := 3) rfl rfl tf3 rfl rfl (fun _ => rfl) rfl rfl ?_
  refine sxo_callM ent62 rfl rfl rfl (fun x37 e37 => C_bits_places F x5 x6 a7 c8 0 x5 x37 e37) .nil .nil (.consF 1 rfl .nil) (fun x37 e37 => ?_)
  rintro ⟨g38, g39, g40⟩
  refine sxo_nil ?_
  refine sxq_next ?_
  refine sxc_block ?_
  refine sxc_range (encs := (fun (p : Int) => [.int .u64 p])) (y := (fun ((x45, x48) : (Int × List Int)) (x53 : Int) => M_bits_Both_r2 F x45 x48 x53)) (lb := [.pointer (some ⟨g38, 0, none⟩), .pointer (some ⟨g39, 0, none⟩), .pointer (some ⟨g40, 0, none⟩)]) (fun ((x45, x48) : (Int × List Int)) ((a46, c47) : (Option Addr × Nat)) => [⟨g16, 84, [.pointer (some ⟨g15, 0, none⟩)]⟩, ⟨g15, 90, [.int .i64 x45, .slice a46 x48.length c47]⟩, ⟨g11, 25, [.int .i64 0, .slice none 0 0]⟩, ⟨g10, 25, [.int .i64 x5, .slice a7 x6.length c8]⟩, ⟨g9, 25, [.int .i64 x1, .slice a3 x2.length c4]⟩]) (fun ((x45, x48) : (Int × List Int)) ((a46, c47) : (Option Addr × Nat)) => [Ro (eI .u8) 5 1 (.slice a46 x48.length c47) x48]) (fun (_ : Empty) (_ : Unit) => []) (fun (_ : Empty) (_ : Unit) => []) (fun _ => .skip) (x12.1, x12.2) (a13, c14) rfl ent89 (fun _ => rfl) rfl (.cons 0 rfl (.cons 0 rfl (.cons 0 rfl .nil))) (.cons 0 rfl (.cons 0 rfl (.cons 0 rfl (.cons 0 rfl (.cons 0 rfl .nil))))) (.cons 0 rfl .nil) (.consF 1 rfl .nil) (fun z hz _ _ _ hY => C_bits_places_1 F hY (x12.1, x12.2) (a13, c14) g38 0 g39 x5 g40 x5 x6 a7 c8 z hz) ?_ ?_ ?_
  · rintro rc1 L1 D1 ⟨x45, x48⟩ ⟨a46, c47⟩ x53 z w M _
    try dsimp only
    refine sxc_less [(0, .agg #[.int .i64 x1, .slice a3 x2.length c4]), (1, .agg #[.int .i64 x5, .slice a7 x6.length c8]), (2, .pointer (some ⟨g9, 0, none⟩)), (3, .pointer (some ⟨g10, 0, none⟩)), (4, .pointer (some ⟨g11, 0, none⟩)), (5, .pointer (some ⟨g16, 0, none⟩)), (7, .agg #[.int .i64 x1, .slice a3 x2.length c4]), (8, .pointer (some ⟨g15, 0, none⟩)), (9, .agg #[.int .i64 x5, .slice a7 x6.length c8]), (10, .pointer (some ⟨g10, 0, none⟩)), (11, .int .i64 x5), (12, .func (.func 89) #[] #[.pointer (some ⟨g38, 0, none⟩), .pointer (some ⟨g39, 0, none⟩), .pointer (some ⟨g40, 0, none⟩)]), (13, .int .u64 x53)] (lk_cons rfl (lk_cons rfl (lk_cons rfl (lk_cons rfl (lk_cons rfl (lk_cons rfl (lk_cons rfl (lk_cons rfl (lk_cons rfl (lk_cons rfl (lk_cons rfl (lk_cons rfl (lk_cons rfl lk_nil))))))))))))) ?_
    refine sxc_region ?_
    refine sxo_assign rfl rfl rfl ?_
    refine sxo_nil ?_
    refine sxq_begin (i := 5) rfl ?_
    refine sxc_block ?_
    refine sxc_region ?_
    refine sxo_loadB (i := 0) rfl rfl tf84 rfl rfl (fun _ => rfl) rfl rfl ?_
    refine sxo_move rfl rfl rfl ?_
    refine sxo_callM ent63 rfl rfl rfl (fun x54 e54 => C_bits_writer_bit F g15 x45 x48 a46 c47 x53 x54 e54) (.cons 1 rfl .nil) (.cons 0 rfl .nil) .nil (fun x54 e54 => ?_)
    rintro ⟨a55, c56⟩
    refine sxo_nil ?_
    refine sxq_blkN ?_
    exact sxq_round (rc := rc1) rfl (.cons 5 rfl .nil) rfl (a55, c56) (.cons 2 rfl (.cons 1 rfl (.cons 1 rfl (.cons 1 rfl (.cons 1 rfl (.cons 0 rfl (.cons 0 rfl .nil))))))) (.cons 0 rfl .nil)
  · rintro ⟨x45, x48⟩ _ ⟨a46, c47⟩ D1
    try dsimp only
    refine sxq_blkN ?_
    refine sxq_next ?_
    refine sxc_seq ?_
    refine sxc_region ?_
    refine sxo_loadB (i := 4) rfl rfl tf84 rfl rfl (fun _ => rfl) rfl rfl ?_
    refine sxo_nilCheck rfl rfl rfl ?_
    refine sxo_fieldAddr rfl rfl ff90_0 rfl ?_
    refine sxo_loadB (i := 5) rfl rfl tf25 rfl rfl (by simp) rfl rfl ?_
    refine sxo_storeB (i := 6) rfl rfl rfl tf25 rfl rfl rfl rfl rfl ?_
    refine sxo_nil ?_
    refine sxq_next ?_
    refine sxc_ret ?_
    exact sxq_doneX [D1] (a46, c47) (.inl rfl) rfl (.cons 0 rfl .nil) (resL (rs := [.cell 4 25]) rfl (.cell (i := 5) rfl tf25 rfl rfl (by simp) rfl ResOk.nil) rfl) (fun h => by subst h; rfl) (fun h => by subst h; exact .nil) (fun h => by subst h; exact (.cons 0 rfl .nil))
  · intro t; exact t.elim

set_option maxHeartbeats 4000000 in
theorem C_huff_Pack (F : Nat) (x1 : List Int) (a2 : Option Addr) (c3 : Nat) (x4 : Int) (r : (List Int × Int × List Int × Int)) (hm : M_huff_Pack F x1 x4 = some r) :
    Pure Try.prog 13 [.slice a2 x1.length c3, .int .i64 x4] [Sl (eI .i64) 1 (.slice a2 x1.length c3) x1] ((Option Addr × Nat) × (Option Addr × Nat)) (fun g => .tuple #[.slice g.1.1 r.1.length g.1.2, .agg #[.int .i64 r.2.1, .slice g.2.1 r.2.2.1.length g.2.2], .int .i64 r.2.2.2]) (fun g => [Ro (eI .i64) 3 1 (.slice g.1.1 r.1.length g.1.2) r.1, Ro (eI .u8) 5 1 (.slice g.2.1 r.2.2.1.length g.2.2) r.2.2.1]) (fun _ => []) := by
  refine pure_of Try.func13 rfl Try.ntmps13 rfl hm (fun w => ?_)
  refine sxc_env (l' := [(0, .slice a2 x1.length c3), (1, .int .i64 x4)]) rfl ?_
  refine sxc_seq ?_
  refine sxc_region ?_
  refine sxo_assign rfl rfl rfl ?_
  refine sxo_alloc rfl tf25 rfl (fun g5 => ?_)
  refine sxo_assign rfl rfl rfl ?_
  refine sxo_nil ?_
  refine sxq_next ?_
  refine sxc_seq ?_
  refine sxc_region ?_
  refine sxo_move rfl rfl rfl ?_
  refine sxo_move rfl rfl rfl ?_
  refine sxo_call ent32 rfl rfl rfl (fun x6 e6 => C_huff_counted F x1 a2 c3 x4 x6 e6) (.consF 0 rfl .nil) (fun x6 e6 => ?_)
  rintro ⟨a7, c8⟩
  refine sxo_move rfl rfl rfl ?_
  refine sxo_extract rfl rfl rfl rfl ?_
  refine sxo_extract rfl rfl rfl rfl ?_
  refine sxo_assign rfl rfl rfl ?_
  refine sxo_assign rfl rfl rfl ?_
  refine sxo_nil ?_
  refine sxq_next ?_
  refine sxc_seq ?_
  refine sxc_seq ?_
  refine sxc_region ?_
  refine sxo_move rfl rfl rfl ?_
  refine sxo_neq rfl rfl rfl rfl ?_
  refine sxo_nil ?_
  refine sxq_next ?_
  refine sxc_if rfl (fun h505 => ?_) (fun h505 => ?_)
  · refine sxc_seq ?_
    refine sxc_region ?_
    refine sxo_build (cells := [.int .i64 0, .slice none 0 0]) rfl st25 rfl (by kernel_rfl) rfl ?_
    refine sxo_move rfl rfl rfl ?_
    refine sxo_assign rfl rfl rfl ?_
    refine sxo_storeB (i := 0) rfl rfl rfl tf25 rfl rfl rfl rfl rfl ?_
    refine sxo_assign rfl rfl rfl ?_
    refine sxo_nil ?_
    refine sxq_next ?_
    refine sxc_ret ?_
    refine sxq_thenR ?_
    refine sxq_nilrow Int (eI .i64) 3 1 ?_
    refine sxq_nilrow Int (eI .u8) 5 1 ?_
    exact sxq_doneP ((none, 0), (none, 0)) (resL (rs := [.tmp 4, .cell 5 25, .tmp 6]) rfl (.tmp rfl (.cell (i := 0) rfl tf25 rfl rfl (by simp) rfl (.tmp rfl ResOk.nil))) rfl) (fun h => by subst h; exact (.cons 1 rfl (.cons 0 rfl .nil)))
  · refine sxc_skip ?_
    refine sxq_next ?_
    refine sxc_seq ?_
    refine sxc_region ?_
    refine sxo_move rfl rfl rfl ?_
    refine sxo_call ent11 rfl rfl rfl (fun x10 e10 => C_huff_Lengths F x6.1 a7 c8 x10 e10) (.consR 0 (Ro (eI .i64) 3 1 (.slice a7 x6.1.length c8) x6.1) rfl .nil) (fun x10 e10 => ?_)
    rintro ⟨a11, c12⟩
    refine sxo_move rfl rfl rfl ?_
    refine sxo_extract rfl rfl rfl rfl ?_
    refine sxo_extract rfl rfl rfl rfl ?_
    refine sxo_assign rfl rfl rfl ?_
    refine sxo_assign rfl rfl rfl ?_
    refine sxo_nil ?_
    refine sxq_next ?_
    refine sxc_seq ?_
    refine sxc_seq ?_
    refine sxc_region ?_
    refine sxo_move rfl rfl rfl ?_
    refine sxo_neq rfl rfl rfl rfl ?_
    refine sxo_nil ?_
    refine sxq_next ?_
    refine sxc_if rfl (fun h504 => ?_) (fun h504 => ?_)
    · refine sxc_seq ?_
      refine sxc_region ?_
      refine sxo_build (cells := [.int .i64 0, .slice none 0 0]) rfl st25 rfl (by kernel_rfl) rfl ?_
      refine sxo_move rfl rfl rfl ?_
      refine sxo_assign rfl rfl rfl ?_
      refine sxo_storeB (i := 0) rfl rfl rfl tf25 rfl rfl rfl rfl rfl ?_
      refine sxo_assign rfl rfl rfl ?_
      refine sxo_nil ?_
      refine sxq_next ?_
      refine sxc_ret ?_
      refine sxq_thenR ?_
      refine sxq_nilrow Int (eI .i64) 3 1 ?_
      refine sxq_nilrow Int (eI .u8) 5 1 ?_
      exact sxq_doneP ((none, 0), (none, 0)) (resL (rs := [.tmp 4, .cell 5 25, .tmp 6]) rfl (.tmp rfl (.cell (i := 0) rfl tf25 rfl rfl (by simp) rfl (.tmp rfl ResOk.nil))) rfl) (fun h => by subst h; exact (.cons 1 rfl (.cons 0 rfl .nil)))
    · refine sxc_skip ?_
      refine sxq_next ?_
      refine sxc_seq ?_
      refine sxc_region ?_
      refine sxo_move rfl rfl rfl ?_
      refine sxo_call ent33 rfl rfl rfl (fun x14 e14 => C_kraft_Codes F x10.1 a11 c12 x14 e14) (.consR 0 (Ro (eI .i64) 3 1 (.slice a11 x10.1.length c12) x10.1) rfl .nil) (fun x14 e14 => ?_)
      rintro ⟨a15, c16⟩
      refine sxo_move rfl rfl rfl ?_
      refine sxo_extract rfl rfl rfl rfl ?_
      refine sxo_extract rfl rfl rfl rfl ?_
      refine sxo_assign rfl rfl rfl ?_
      refine sxo_assign rfl rfl rfl ?_
      refine sxo_nil ?_
      refine sxq_next ?_
      refine sxc_seq ?_
      refine sxc_region ?_
      refine sxo_build (cells := [.int .i64 0, .slice none 0 0]) rfl st25 rfl (by kernel_rfl) rfl ?_
      refine sxo_alloc rfl tf25 rfl (fun g17 => ?_)
      refine sxo_storeB (i := 0) rfl rfl rfl tf25 rfl rfl rfl rfl rfl ?_
      refine sxo_nil ?_
      refine sxq_next ?_
      refine sxc_join (fun (((x259, x262), (a260, c261)) : ((Int × List Int) × (Option Addr × Nat))) => [(5, .pointer (some ⟨g5, 0, none⟩)), (9, .slice a11 x10.1.length c12), (12, .pointer (some ⟨g17, 0, none⟩))]) (fun (((x259, x262), (a260, c261)) : ((Int × List Int) × (Option Addr × Nat))) => [⟨g17, 25, [.int .i64 x259, .slice a260 x262.length c261]⟩, ⟨g5, 25, [.int .i64 0, .slice none 0 0]⟩]) (fun (((x259, x262), (a260, c261)) : ((Int × List Int) × (Option Addr × Nat))) => [Ro (eI .i64) 3 1 (.slice a11 x10.1.length c12) x10.1, Ro (eI .u8) 5 1 (.slice a260 x262.length c261) x262]) (fun (((x259, x262), (a260, c261)) : ((Int × List Int) × (Option Addr × Nat))) => []) (fun (((x259, x262), _) : ((Int × List Int) × (Option Addr × Nat))) => M_huff_Pack_j2 F x10 x259 x262) ?_ ?_
      · refine sxc_seq ?_
        refine sxc_region ?_
        refine sxo_move rfl rfl rfl ?_
        refine sxo_len rfl Try.underlying22 rfl rfl ?_
        refine sxo_move rfl rfl rfl ?_
        refine sxo_nil ?_
        refine sxq_next ?_
        refine sxc_block ?_
        refine sxc_nilrow Int (eI .u8) 5 1 ?_
        refine sxc_loopP (fun (((x342, x343, x346), (a344, c345)) : ((Int × Int × List Int) × (Option Addr × Nat))) => [(5, .pointer (some ⟨g5, 0, none⟩)), (9, .slice a11 x10.1.length c12), (10, .slice a15 x14.1.length c16.1), (12, .pointer (some ⟨g17, 0, none⟩)), (40, .slice a2 x1.length c3), (41, .int .i64 (x1.length : Int)), (42, .int .i64 x342)]) (fun (((x342, x343, x346), (a344, c345)) : ((Int × Int × List Int) × (Option Addr × Nat))) => [⟨g17, 25, [.int .i64 x343, .slice a344 x346.length c345]⟩, ⟨g5, 25, [.int .i64 0, .slice none 0 0]⟩]) (fun (((x342, x343, x346), (a344, c345)) : ((Int × Int × List Int) × (Option Addr × Nat))) => [Ro (eI .i64) 3 1 (.slice a11 x10.1.length c12) x10.1, RoN eN25 rN25 25 2 (.slice a15 x14.1.length c16.1) x14.1 c16.2 [], Ro (eI .u8) 5 1 (.slice a344 x346.length c345) x346]) (fun (((x342, x343, x346), (a344, c345)) : ((Int × Int × List Int) × (Option Addr × Nat))) => [Sl (eI .i64) 1 (.slice a2 x1.length c3) x1]) (fun k (s : ((Int × Int × List Int) × (Option Addr × Nat))) => M_huff_Pack_l3 F x1 x10 x14 k s.1) ((0, 0, ([] : List Int)), (none, 0)) F ?_ (hB := (.cons 0 rfl (.cons 0 rfl .nil))) (hR := (.cons 2 rfl (.cons 1 rfl (.cons 0 rfl .nil)))) (hF := (fk_cons 0 rfl fk_nil))
        intro k425
        rintro ⟨⟨x342, x343, x346⟩, ⟨a344, c345⟩⟩
        try dsimp only
        refine sxc_meq (m' := M_huff_Pack_b3 F x1 x10 x14 (M_huff_Pack_l3 F x1 x10 x14 k425) x342 x343 x346) rfl ?_
        refine sxc_seq ?_
        refine sxc_region ?_
        refine sxo_lss rfl rfl rfl rfl ?_
        refine sxo_nil ?_
        refine sxq_next ?_
        refine sxc_seq ?_
        refine sxc_if rfl (fun h503 => ?_) (fun h503 => ?_)
        · refine sxc_skip ?_
          refine sxq_next ?_
          refine sxc_seq ?_
          refine sxc_block ?_
          refine sxc_seq ?_
          refine sxc_region ?_
          refine sxo_indexF (j := 0) (eI_ok .i64) (by decide) rfl Try.underlying22 tf3 rfl rfl rfl rfl (fun x465 e465 b466 o467 => ?_)
          refine sxo_loadF (j := 0) rfl rfl tf3 rfl rfl (fun _ => rfl) rfl rfl ?_
          refine sxo_assign rfl rfl rfl ?_
          refine sxo_nil ?_
          refine sxq_next ?_
          refine sxc_seq ?_
          refine sxc_seq ?_
          refine sxc_idxP (j := 1) rfl (fun x487 e487 g488 h489 g490 h491 => ?_)
          replace h491 : a15 = some ⟨g490, 0, none⟩ := h491
          have h492 := own_of (k := x14.1.length) (c := c16.1) h491
          refine sxc_openN (i := 1) rfl h489 (List.not_mem_nil) ?_
          refine sxb_draw mixed [] [⟨g17, 25, [.int .i64 x343, .slice a344 x346.length c345]⟩, ⟨g5, 25, [.int .i64 0, .slice none 0 0]⟩] [CellsAt b466 o467 ((eI .i64) x465), Sl (eI .i64) 1 (.slice a2 x1.length c3) x1, CellsAt g490 (x465.toNat * 2) (eN25 (x487, g488))] (.cons 0 rfl (.cons 0 rfl .nil)) (gk_F 0 rfl (gk_F 1 rfl (gk_R 1 rfl (at_rowN eN25_ok h489 h491) gk_nil))) 9 rfl ?_
          refine sxb_takeP 0 (.pointer (some ⟨g17, 0, none⟩)) rfl rfl rfl (yv_fieldAddr rfl ff25_0) ?_
          refine sxb_takeB 1 (.int .i64 x343) rfl rfl rfl (yv_loadB (i := 0) rfl tf3 rfl rfl (fun _ => rfl) rfl) ?_
          refine sxb_takeP 2 (.slice a15 x14.1.length c16.1) rfl rfl rfl (yv_pv rfl) ?_
          refine sxb_takeP 3 (.int .i64 x465) rfl rfl rfl (yv_pv rfl) ?_
          refine sxb_again (d := 48) (v := .slice (some ⟨g490, 0, none⟩) x14.1.length c16.1) rfl (by rw [h491] <;> rfl) ?_
          refine sxb_takeP 4 (.pointer (some ⟨g490, x465.toNat * 2, none⟩)) rfl rfl rfl (yv_idxO Try.underlying55 tf25 rfl rfl (idx_get e487).1 (idx_lt e487)) ?_
          refine sxb_again (d := 48) (v := .slice a15 x14.1.length c16.1) rfl (by rw [h491] <;> rfl) ?_
          refine sxb_takeP 5 (.pointer (some ⟨g490, x465.toNat * 2 + 0, none⟩)) rfl rfl rfl (yv_fieldAddr rfl ff25_0) ?_
          refine sxb_take 6 (.int .i64 x487.1) [] rfl rfl rfl (yv_loadFo (j := 2) (off := 0) rfl tf3 rfl rfl (fun _ => rfl) rfl) ?_
          refine sxb_takeP 7 (.int .i64 (iadd .i64 x343 x487.1)) rfl rfl rfl (yv_pv rfl) ?_
          refine sxb_takeP 8 (.bool (decide (8192 < (iadd .i64 x343 x487.1)))) rfl rfl rfl (yv_pv rfl) ?_
          refine sxb_done (by kernel_rfl) ?_
          refine sxq_np ?_ (by intro c h; cases h)
          refine sxq_next ?_
          refine sxc_if rfl (fun h502 => ?_) (fun h502 => ?_)
          · refine sxc_seq ?_
            refine sxc_closeN (rin := rN25) (p := (x487, g488)) (i := 0) (k := 0) (.cons 0 rfl .nil) rfl rfl h489 ?_
            refine sxc_region ?_
            refine sxo_build (cells := [.int .i64 0, .slice none 0 0]) rfl st25 rfl (by kernel_rfl) rfl ?_
            refine sxo_assign rfl rfl rfl ?_
            refine sxo_storeB (i := 1) rfl rfl rfl tf25 rfl rfl rfl rfl rfl ?_
            refine sxo_assign rfl rfl rfl ?_
            refine sxo_nil ?_
            refine sxq_next ?_
            refine sxc_ret ?_
            refine sxq_thenR ?_
            refine sxq_blkR ?_
            refine sxq_thenR ?_
            refine sxq_thenR ?_
            refine sxq_blkR ?_
            refine sxq_thenR ?_
            refine sxq_nilrow Int (eI .i64) 3 1 ?_
            refine sxq_nilrow Int (eI .u8) 5 1 ?_
            exact sxq_doneP ((none, 0), (none, 0)) (resL (rs := [.tmp 4, .cell 5 25, .tmp 6]) rfl (.tmp rfl (.cell (i := 1) rfl tf25 rfl rfl (by simp) rfl (.tmp rfl ResOk.nil))) rfl) (fun h => by subst h; exact (.cons 1 rfl (.cons 0 rfl .nil)))
          · refine sxc_skip ?_
            refine sxq_next ?_
            refine sxc_closeN (rin := rN25) (p := (x487, g488)) (i := 0) (k := 0) (.cons 0 rfl .nil) rfl rfl h489 ?_
            refine sxc_idxP (j := 0) rfl (fun x493 e493 g494 h495 g496 h497 => ?_)
            replace h497 : a15 = some ⟨g496, 0, none⟩ := h497
            have h498 := own_of (k := x14.1.length) (c := c16.1) h497
            refine sxc_openN (i := 0) rfl h495 (List.not_mem_nil) ?_
            refine sxb_draw mixed [6] [⟨g5, 25, [.int .i64 0, .slice none 0 0]⟩] [CellsAt b466 o467 ((eI .i64) x465), Sl (eI .i64) 1 (.slice a2 x1.length c3) x1, CellsAt g496 (x465.toNat * 2) (eN25 (x493, g494)), (BlkD.is ⟨g17, 25, [.int .i64 x343, .slice a344 x346.length c345]⟩)] (.cons 1 rfl .nil) (gk_F 0 rfl (gk_F 1 rfl (gk_R 1 rfl (at_rowN eN25_ok h495 h497) (gk_B 0 rfl gk_nil)))) 7 rfl ?_
            refine sxb_take 0 (.agg #[.int .i64 x343, .slice a344 x346.length c345]) [[6]] rfl rfl rfl (yv_loadG (j := 3) rfl tf25 rfl rfl (by simp) rfl) ?_
            refine sxb_takeP 1 (.slice a15 x14.1.length c16.1) rfl rfl rfl (yv_pv rfl) ?_
            refine sxb_takeP 2 (.int .i64 x465) rfl rfl rfl (yv_pv rfl) ?_
            refine sxb_again (d := 57) (v := .slice (some ⟨g496, 0, none⟩) x14.1.length c16.1) rfl (by rw [h497] <;> rfl) ?_
            refine sxb_takeP 3 (.pointer (some ⟨g496, x465.toNat * 2, none⟩)) rfl rfl rfl (yv_idxO Try.underlying55 tf25 rfl rfl (idx_get e493).1 (idx_lt e493)) ?_
            refine sxb_again (d := 57) (v := .slice a15 x14.1.length c16.1) rfl (by rw [h497] <;> rfl) ?_
            refine sxb_take 4 (.agg #[.int .i64 x493.1, .slice g494.1 x493.2.length g494.2]) [[6]] rfl rfl rfl (yv_loadF (j := 2) rfl tf25 rfl rfl (by simp) rfl) ?_
            refine sxb_step 5 rfl (by kernel_rfl) rfl ?_
            refine sxo_callM ent34 rfl rfl rfl (fun x499 e499 => C_bits_Both F x343 x346 a344 c345 x493.1 x493.2 g494.1 g494.2 x499 e499) .nil .nil (.consR 3 (Ro (eI .u8) 5 1 (.slice a344 x346.length c345) x346) rfl (.consR 0 (Ro (eI .u8) 5 1 (.slice g494.1 x493.2.length g494.2) x493.2) rfl .nil)) (fun x499 e499 => ?_)
            rintro ⟨a500, c501⟩
            refine sxo_nil ?_
            refine sxq_anyB (.cons 1 rfl .nil) (gk_F 0 rfl (gk_F 1 rfl (gk_R 2 rfl (at_rowN eN25_ok h495 h497) (gk_B 0 rfl gk_nil)))) ?_
            refine sxb_step 6 rfl (by kernel_rfl) rfl ?_
            refine sxo_storeB (i := 0) rfl rfl rfl tf25 rfl rfl rfl rfl rfl ?_
            refine sxo_nil ?_
            refine sxq_anyW 6 rfl (by kernel_rfl) (.cons 1 rfl .nil) ?_
            refine sxb_done (by kernel_rfl) ?_
            refine sxq_np ?_ (by intro c h; cases h)
            refine sxq_blkN ?_
            refine sxq_next ?_
            refine sxc_closeN (rin := rN25) (p := (x493, g494)) (i := 1) (k := 0) (.cons 1 rfl .nil) rfl rfl h495 ?_
            refine sxc_region ?_
            refine sxo_add rfl rfl rfl rfl ?_
            refine sxo_move rfl rfl rfl ?_
            refine sxo_nil ?_
            exact sxq_againP ((iadd .i64 x342 1, x499.1, x499.2), (a500, c501)) (hB := (.cons 0 rfl (.cons 0 rfl .nil))) (hR := (.cons 2 rfl (.cons 0 rfl (.cons 0 rfl .nil)))) (hF := (fk_cons 1 rfl fk_nil))
        · refine sxc_exit ?_
          refine sxq_thenX ?_
          refine sxq_thenX ?_
          refine sxq_blkX ?_
          exact sxq_meetP ((x343, x346), (a344, c345)) (hB := (.cons 0 rfl (.cons 0 rfl .nil))) (hR := (.cons 0 rfl (.cons 1 rfl .nil)))
      · rintro ⟨⟨x259, x262⟩, ⟨a260, c261⟩⟩
        try dsimp only
        refine sxc_seq ?_
        refine sxb_draw mixed [] [⟨g17, 25, [.int .i64 x259, .slice a260 x262.length c261]⟩] [] (.cons 0 rfl .nil) gk_nil 5 rfl ?_
        refine sxb_takeP 0 (.slice a11 x10.1.length c12) rfl rfl rfl (yv_pv rfl) ?_
        refine sxb_takeB 1 (.agg #[.int .i64 x259, .slice a260 x262.length c261]) rfl rfl rfl (yv_loadB (i := 0) rfl tf25 rfl rfl (by simp) rfl) ?_
        refine sxb_takeP 2 (.slice a11 x10.1.length c12) rfl rfl rfl (yv_pv rfl) ?_
        refine sxb_step 3 rfl (by kernel_rfl) rfl ?_
        refine sxo_storeB (i := 1) rfl rfl rfl tf25 rfl rfl rfl rfl rfl ?_
        refine sxo_nil ?_
        refine sxq_anyB (.cons 0 rfl .nil) gk_nil ?_
        refine sxb_takeP 4 (.int .i64 0) rfl rfl rfl (yv_pv rfl) ?_
        refine sxb_done (by kernel_rfl) ?_
        refine sxq_np ?_ (by intro c h; cases h)
        refine sxq_next ?_
        refine sxc_ret ?_
        exact sxq_doneP ((a11, c12), (a260, c261)) (resL (rs := [.tmp 4, .cell 5 25, .tmp 6]) rfl (.tmp rfl (.cell (i := 1) rfl tf25 rfl rfl (by simp) rfl (.tmp rfl ResOk.nil))) rfl) (fun h => by subst h; exact (.cons 0 rfl (.cons 0 rfl .nil)))

theorem C_bits_Check (F : Nat) (x1 : Int) (x2 : List Int) (a3 : Option Addr) (c4 : Nat) (r : Int) (hm : M_bits_Check F x1 x2 = some r) :
    Pure Try.prog 35 [.agg #[.int .i64 x1, .slice a3 x2.length c4]] [Sl (eI .u8) 1 (.slice a3 x2.length c4) x2] Unit (fun _ => .int .i64 r) (fun _ => []) (fun _ => []) := by
  refine pure_of Try.func35 rfl Try.ntmps35 rfl hm (fun w => ?_)
  refine sxc_env (l' := [(0, .agg #[.int .i64 x1, .slice a3 x2.length c4])]) rfl ?_
  refine sxc_seq ?_
  refine sxc_region ?_
  refine sxo_box rfl rfl rfl (fun g5 => ?_)
  refine sxo_assign rfl rfl rfl ?_
  refine sxo_nil ?_
  refine sxq_next ?_
  refine sxc_seq ?_
  refine sxc_block ?_
  refine sxc_seq ?_
  refine sxc_region ?_
  refine sxo_fieldAddr rfl rfl ff25_0 rfl ?_
  refine sxo_loadB (i := 0) rfl rfl tf3 rfl rfl (fun _ => rfl) rfl rfl ?_
  refine sxo_lss rfl rfl rfl rfl ?_
  refine sxo_move rfl rfl rfl ?_
  refine sxo_case 4 (decide (x1 < 0)) [(1, .pointer (some ⟨g5, 0, none⟩)), (11, .bool ((decide (x1 < 0)) || (decide (8192 < x1))))] (fun h27 => ?_) (fun h27 => ?_) ?_
  · refine sxo_take (os := _) rfl ?_
    refine sxo_isT (k := 7) rfl h27 ?_
    refine sxo_skip rfl rfl rfl ?_
    refine sxo_skip rfl rfl rfl ?_
    refine sxo_skip rfl rfl rfl ?_
    refine sxo_pick (b := true) rfl rfl rfl rfl ?_
    refine sxo_again (d := 11) (v := .bool ((decide (x1 < 0)) || (decide (8192 < x1)))) rfl (by rw [h27]; simp only [Bool.true_or]) ?_
    refine sxo_nil ?_
    exact sxq_case (lk_cons rfl (lk_cons rfl lk_nil))
  · refine sxo_take (os := _) rfl ?_
    refine sxo_isF (k := 7) rfl h27 ?_
    refine sxo_fieldAddr rfl rfl ff25_0 rfl ?_
    refine sxo_loadB (i := 0) rfl rfl tf3 rfl rfl (fun _ => rfl) rfl rfl ?_
    refine sxo_gtr rfl rfl rfl rfl ?_
    refine sxo_pick (b := false) rfl rfl rfl rfl ?_
    refine sxo_again (d := 11) (v := .bool ((decide (x1 < 0)) || (decide (8192 < x1)))) rfl (by rw [h27]; simp only [Bool.false_or]) ?_
    refine sxo_nil ?_
    exact sxq_case (lk_cons rfl (lk_cons rfl lk_nil))
  refine sxo_take (os := _) rfl ?_
  refine sxo_assign rfl rfl rfl ?_
  refine sxo_nil ?_
  refine sxq_next ?_
  refine sxc_if rfl (fun h47 => ?_) (fun h47 => ?_)
  · refine sxc_seq ?_
    refine sxc_region ?_
    refine sxo_assign rfl rfl rfl ?_
    refine sxo_nil ?_
    refine sxq_next ?_
    refine sxc_ret ?_
    refine sxq_blkR ?_
    refine sxq_thenR ?_
    exact sxq_doneP () (res1 rfl rfl)
  · refine sxc_seq ?_
    refine sxc_region ?_
    refine sxo_fieldAddr rfl rfl ff25_1 rfl ?_
    refine sxo_loadB (i := 0) rfl rfl tf23 rfl rfl (fun _ => rfl) rfl rfl ?_
    refine sxo_len rfl Try.underlying23 rfl rfl ?_
    refine sxo_fieldAddr rfl rfl ff25_0 rfl ?_
    refine sxo_loadB (i := 0) rfl rfl tf3 rfl rfl (fun _ => rfl) rfl rfl ?_
    refine sxo_add rfl rfl rfl rfl ?_
    refine sxo_quo rfl rfl rfl rfl rfl ?_
    refine sxo_neq rfl rfl rfl rfl ?_
    refine sxo_assign rfl rfl rfl ?_
    refine sxo_nil ?_
    refine sxq_next ?_
    refine sxc_if rfl (fun h46 => ?_) (fun h46 => ?_)
    · refine sxc_seq ?_
      refine sxc_region ?_
      refine sxo_assign rfl rfl rfl ?_
      refine sxo_nil ?_
      refine sxq_next ?_
      refine sxc_ret ?_
      refine sxq_blkR ?_
      refine sxq_thenR ?_
      exact sxq_doneP () (res1 rfl rfl)
    · refine sxc_join (fun ((x36, _) : (Bool × Unit)) => [(21, .bool x36)]) (fun ((x36, _) : (Bool × Unit)) => []) (fun ((x36, _) : (Bool × Unit)) => []) (fun ((x36, _) : (Bool × Unit)) => []) (fun ((x36, _) : (Bool × Unit)) => M_bits_Check_j2 F x36) ?_ ?_
      · refine sxc_split (fun h38 => ?_) (fun h38 => ?_)
        · refine sxc_idxF (j := 0) (eI_ok .u8) (by decide) rfl (fun x39 e39 b40 o41 h42 => ?_)
          replace h42 : a3 = some ⟨b40, o41, none⟩ := h42
          refine sxc_chk (fun h43 => ?_)
          refine sxb_draw mixed [] [⟨g5, 25, [.int .i64 x1, .slice a3 x2.length c4]⟩] [CellsAt b40 (o41 + (isub .i64 (x2.length : Int) 1).toNat * 1) ((eI .u8) x39), Sl (eI .u8) 1 (.slice a3 x2.length c4) x2] (.cons 0 rfl .nil) (gk_F 0 rfl (gk_F 1 rfl gk_nil)) 20 rfl ?_
          refine sxb_takeP 0 (.pointer (some ⟨g5, 0, none⟩)) rfl rfl rfl (yv_fieldAddr rfl ff25_0) ?_
          refine sxb_takeB 1 (.int .i64 x1) rfl rfl rfl (yv_loadB (i := 0) rfl tf3 rfl rfl (fun _ => rfl) rfl) ?_
          refine sxb_takeP 2 (.int .i64 (irem x1 8)) rfl rfl rfl (yv_rem rfl rfl rfl) ?_
          refine sxb_takeP 3 (.bool (((irem x1 8) : Int) != 0)) rfl rfl rfl (yv_pv rfl) ?_
          refine sxb_takeP 4 (.bool (((irem x1 8) : Int) != 0)) rfl rfl rfl (yv_pv rfl) ?_
          refine sxb_again (d := 26) (v := .bool true) rfl (by rw [h38] <;> rfl) ?_
          refine sxb_takeP 5 (.pointer (some ⟨g5, 1, none⟩)) rfl rfl rfl (yv_fieldAddr rfl ff25_1) ?_
          refine sxb_takeB 6 (.slice a3 x2.length c4) rfl rfl rfl (yv_loadB (i := 0) rfl tf23 rfl rfl (fun _ => rfl) rfl) ?_
          refine sxb_takeP 7 (.pointer (some ⟨g5, 1, none⟩)) rfl rfl rfl (yv_fieldAddr rfl ff25_1) ?_
          refine sxb_takeB 8 (.slice a3 x2.length c4) rfl rfl rfl (yv_loadB (i := 0) rfl tf23 rfl rfl (fun _ => rfl) rfl) ?_
          refine sxb_takeP 9 (.int .i64 (x2.length : Int)) rfl rfl rfl (yv_len Try.underlying23 rfl) ?_
          refine sxb_takeP 10 (.int .i64 (isub .i64 (x2.length : Int) 1)) rfl rfl rfl (yv_pv rfl) ?_
          refine sxb_again (d := 28) (v := .slice (some ⟨b40, o41, none⟩) x2.length c4) rfl (by rw [h42] <;> rfl) ?_
          refine sxb_takeP 11 (.pointer (some ⟨b40, (o41 + (isub .i64 (x2.length : Int) 1).toNat * 1), none⟩)) rfl rfl rfl (yv_idx Try.underlying23 tf5 rfl rfl (idx_get e39).1 (idx_lt e39)) ?_
          refine sxb_again (d := 28) (v := .slice a3 x2.length c4) rfl (by rw [h42] <;> rfl) ?_
          refine sxb_take 12 (.int .u8 x39) [] rfl rfl rfl (yv_loadF (j := 0) rfl tf5 rfl rfl (fun _ => rfl) rfl) ?_
          refine sxb_takeP 13 (.pointer (some ⟨g5, 0, none⟩)) rfl rfl rfl (yv_fieldAddr rfl ff25_0) ?_
          refine sxb_takeB 14 (.int .i64 x1) rfl rfl rfl (yv_loadB (i := 0) rfl tf3 rfl rfl (fun _ => rfl) rfl) ?_
          refine sxb_takeP 15 (.int .i64 (irem x1 8)) rfl rfl rfl (yv_rem rfl rfl rfl) ?_
          refine sxb_takeP 16 (.int .u8 (ishl .u8 x39 (irem x1 8))) rfl rfl rfl (yv_shl rfl rfl h43) ?_
          refine sxb_takeP 17 (.bool (((ishl .u8 x39 (irem x1 8)) : Int) != 0)) rfl rfl rfl (yv_pv rfl) ?_
          refine sxb_takeP 18 (.bool (((ishl .u8 x39 (irem x1 8)) : Int) != 0)) rfl rfl rfl (yv_pv rfl) ?_
          refine sxb_takeP 19 (.bool (((ishl .u8 x39 (irem x1 8)) : Int) != 0)) rfl rfl rfl (yv_pv rfl) ?_
          refine sxb_done (by kernel_rfl) ?_
          refine sxq_np ?_ (by intro c h; cases h)
          exact sxq_meetP ((((ishl .u8 x39 (irem x1 8)) : Int) != 0), ())
        · refine sxb_draw mixed [] [⟨g5, 25, [.int .i64 x1, .slice a3 x2.length c4]⟩] [Sl (eI .u8) 1 (.slice a3 x2.length c4) x2] (.cons 0 rfl .nil) (gk_F 0 rfl gk_nil) 20 rfl ?_
          refine sxb_takeP 0 (.pointer (some ⟨g5, 0, none⟩)) rfl rfl rfl (yv_fieldAddr rfl ff25_0) ?_
          refine sxb_takeB 1 (.int .i64 x1) rfl rfl rfl (yv_loadB (i := 0) rfl tf3 rfl rfl (fun _ => rfl) rfl) ?_
          refine sxb_takeP 2 (.int .i64 (irem x1 8)) rfl rfl rfl (yv_rem rfl rfl rfl) ?_
          refine sxb_takeP 3 (.bool (((irem x1 8) : Int) != 0)) rfl rfl rfl (yv_pv rfl) ?_
          refine sxb_takeP 4 (.bool (((irem x1 8) : Int) != 0)) rfl rfl rfl (yv_pv rfl) ?_
          refine sxb_again (d := 26) (v := .bool false) rfl (by rw [h38] <;> rfl) ?_
          refine sxb_skip 5 rfl rfl rfl ?_
          refine sxb_skip 6 rfl rfl rfl ?_
          refine sxb_skip 7 rfl rfl rfl ?_
          refine sxb_skip 8 rfl rfl rfl ?_
          refine sxb_skip 9 rfl rfl rfl ?_
          refine sxb_skip 10 rfl rfl rfl ?_
          refine sxb_skip 11 rfl rfl rfl ?_
          refine sxb_skip 12 rfl rfl rfl ?_
          refine sxb_skip 13 rfl rfl rfl ?_
          refine sxb_skip 14 rfl rfl rfl ?_
          refine sxb_skip 15 rfl rfl rfl ?_
          refine sxb_skip 16 rfl rfl rfl ?_
          refine sxb_skip 17 rfl rfl rfl ?_
          refine sxb_takeP 18 (.bool false) rfl rfl rfl (yv_pv rfl) ?_
          refine sxb_takeP 19 (.bool false) rfl rfl rfl (yv_pv rfl) ?_
          refine sxb_done (by kernel_rfl) ?_
          refine sxq_np ?_ (by intro c h; cases h)
          exact sxq_meetP (false, ())
      · rintro ⟨x36, _⟩
        try dsimp only
        refine sxc_if rfl (fun h37 => ?_) (fun h37 => ?_)
        · refine sxc_seq ?_
          refine sxc_region ?_
          refine sxo_assign rfl rfl rfl ?_
          refine sxo_nil ?_
          refine sxq_next ?_
          refine sxc_ret ?_
          refine sxq_blkR ?_
          refine sxq_thenR ?_
          exact sxq_doneP () (res1 rfl rfl)
        · refine sxc_skip ?_
          refine sxq_blkN ?_
          refine sxq_next ?_
          refine sxc_seq ?_
          refine sxc_region ?_
          refine sxo_assign rfl rfl rfl ?_
          refine sxo_nil ?_
          refine sxq_next ?_
          refine sxc_ret ?_
          exact sxq_doneP () (res1 rfl rfl)

theorem C_kraft_begins (F : Nat) (x1 : Int) (x2 : List Int) (a3 : Option Addr) (c4 : Nat) (x5 : Int) (x6 : Int) (x7 : List Int) (a8 : Option Addr) (c9 : Nat) (r : Bool) (hm : M_kraft_begins F x1 x2 x5 x6 x7 = some r) :
    Pure Try.prog 64 [.agg #[.int .i64 x1, .slice a3 x2.length c4], .int .i64 x5, .agg #[.int .i64 x6, .slice a8 x7.length c9]] [Sl (eI .u8) 1 (.slice a3 x2.length c4) x2, Sl (eI .u8) 1 (.slice a8 x7.length c9) x7] Unit (fun _ => .bool r) (fun _ => []) (fun _ => []) := by
  refine pure_of Try.func64 rfl Try.ntmps64 rfl hm (fun w => ?_)
  refine sxc_env (l' := [(0, .agg #[.int .i64 x1, .slice a3 x2.length c4]), (1, .int .i64 x5), (2, .agg #[.int .i64 x6, .slice a8 x7.length c9])]) rfl ?_
  refine sxc_seq ?_
  refine sxc_region ?_
  refine sxo_box rfl rfl rfl (fun g10 => ?_)
  refine sxo_box rfl rfl rfl (fun g11 => ?_)
  refine sxo_assign rfl rfl rfl ?_
  refine sxo_nil ?_
  refine sxq_next ?_
  refine sxc_join (fun ((_, _) : (Unit × Unit)) => []) (fun ((_, _) : (Unit × Unit)) => []) (fun ((_, _) : (Unit × Unit)) => []) (fun ((_, _) : (Unit × Unit)) => []) (fun ((_, _) : (Unit × Unit)) => M_kraft_begins_j2 F) ?_ ?_
  · refine sxc_seq ?_
    refine sxc_region ?_
    refine sxo_fieldAddr rfl rfl ff25_0 rfl ?_
    refine sxo_loadB (i := 0) rfl rfl tf3 rfl rfl (fun _ => rfl) rfl rfl ?_
    refine sxo_fieldAddr rfl rfl ff25_0 rfl ?_
    refine sxo_loadB (i := 1) rfl rfl tf3 rfl rfl (fun _ => rfl) rfl rfl ?_
    refine sxo_move rfl rfl rfl ?_
    refine sxo_sub rfl rfl rfl rfl ?_
    refine sxo_min rfl rfl rfl rfl ?_
    refine sxo_move rfl rfl rfl ?_
    refine sxo_nil ?_
    refine sxq_next ?_
    refine sxc_block ?_
    refine sxc_loopP (fun ((x62, _) : (Int × Unit)) => [(1, .int .i64 x5), (3, .pointer (some ⟨g10, 0, none⟩)), (5, .pointer (some ⟨g11, 0, none⟩)), (14, .int .i64 (imin x6 (isub .i64 x1 x5))), (15, .int .i64 x62)]) (fun ((x62, _) : (Int × Unit)) => [⟨g11, 25, [.int .i64 x6, .slice a8 x7.length c9]⟩, ⟨g10, 25, [.int .i64 x1, .slice a3 x2.length c4]⟩]) (fun ((x62, _) : (Int × Unit)) => []) (fun ((x62, _) : (Int × Unit)) => [Sl (eI .u8) 1 (.slice a8 x7.length c9) x7, Sl (eI .u8) 1 (.slice a3 x2.length c4) x2]) (fun k (s : (Int × Unit)) => M_kraft_begins_l3 F x1 x2 x5 x6 x7 k s.1) (0, ()) F ?_ (hB := (.cons 0 rfl (.cons 0 rfl .nil))) (hF := (fk_cons 1 rfl (fk_cons 0 rfl fk_nil)))
    intro k75
    rintro ⟨x62, _⟩
    try dsimp only
    refine sxc_meq (m' := M_kraft_begins_b3 F x1 x2 x5 x6 x7 (M_kraft_begins_l3 F x1 x2 x5 x6 x7 k75) x62) rfl ?_
    refine sxc_seq ?_
    refine sxc_region ?_
    refine sxo_lss rfl rfl rfl rfl ?_
    refine sxo_nil ?_
    refine sxq_next ?_
    refine sxc_seq ?_
    refine sxc_if rfl (fun h87 => ?_) (fun h87 => ?_)
    · refine sxc_skip ?_
      refine sxq_next ?_
      refine sxc_seq ?_
      refine sxc_block ?_
      refine sxc_seq ?_
      refine sxc_region ?_
      refine sxo_move rfl rfl rfl ?_
      refine sxo_assign rfl rfl rfl ?_
      refine sxo_nil ?_
      refine sxq_next ?_
      refine sxc_seq ?_
      refine sxb_draw mixed [] [⟨g11, 25, [.int .i64 x6, .slice a8 x7.length c9]⟩, ⟨g10, 25, [.int .i64 x1, .slice a3 x2.length c4]⟩] [Sl (eI .u8) 1 (.slice a8 x7.length c9) x7, Sl (eI .u8) 1 (.slice a3 x2.length c4) x2] (.cons 0 rfl (.cons 0 rfl .nil)) (gk_F 0 rfl (gk_F 1 rfl gk_nil)) 9 rfl ?_
      refine sxb_takeB 0 (.agg #[.int .i64 x1, .slice a3 x2.length c4]) rfl rfl rfl (yv_loadB (i := 1) rfl tf25 rfl rfl (by simp) rfl) ?_
      refine sxb_takeP 1 (.int .i64 x5) rfl rfl rfl (yv_pv rfl) ?_
      refine sxb_takeP 2 (.int .i64 x62) rfl rfl rfl (yv_pv rfl) ?_
      refine sxb_takeP 3 (.int .i64 (iadd .i64 x5 x62)) rfl rfl rfl (yv_pv rfl) ?_
      refine sxb_takeB 5 (.agg #[.int .i64 x6, .slice a8 x7.length c9]) rfl rfl rfl (yv_loadB (i := 0) rfl tf25 rfl rfl (by simp) rfl) ?_
      refine sxb_takeP 6 (.int .i64 x62) rfl rfl rfl (yv_pv rfl) ?_
      refine sxb_step 4 rfl (by kernel_rfl) rfl ?_
      refine sxo_call ent90 rfl rfl rfl (fun x84 e84 => C_bits_At F x1 x2 a3 c4 (iadd .i64 x5 x62) x84 e84) (.consF 1 rfl .nil) (fun x84 e84 => ?_)
      intro _
      refine sxo_nil ?_
      refine sxq_anyB (.cons 0 rfl (.cons 0 rfl .nil)) (gk_F 0 rfl (gk_F 1 rfl gk_nil)) ?_
      refine sxb_step 7 rfl (by kernel_rfl) rfl ?_
      refine sxo_call ent90 rfl rfl rfl (fun x85 e85 => C_bits_At F x6 x7 a8 c9 x62 x85 e85) (.consF 0 rfl .nil) (fun x85 e85 => ?_)
      intro _
      refine sxo_nil ?_
      refine sxq_anyB (.cons 0 rfl (.cons 0 rfl .nil)) (gk_F 0 rfl (gk_F 1 rfl gk_nil)) ?_
      refine sxb_takeP 8 (.bool ((x84 : Int) != x85)) rfl rfl rfl (yv_pv rfl) ?_
      refine sxb_done (by kernel_rfl) ?_
      refine sxq_np ?_ (by intro c h; cases h)
      refine sxq_next ?_
      refine sxc_if rfl (fun h86 => ?_) (fun h86 => ?_)
      · refine sxc_seq ?_
        refine sxc_region ?_
        refine sxo_assign rfl rfl rfl ?_
        refine sxo_nil ?_
        refine sxq_next ?_
        refine sxc_ret ?_
        refine sxq_blkR ?_
        refine sxq_thenR ?_
        refine sxq_thenR ?_
        refine sxq_blkR ?_
        refine sxq_thenR ?_
        exact sxq_doneP () (res1 rfl rfl)
      · refine sxc_skip ?_
        refine sxq_blkN ?_
        refine sxq_next ?_
        refine sxc_region ?_
        refine sxo_add rfl rfl rfl rfl ?_
        refine sxo_move rfl rfl rfl ?_
        refine sxo_nil ?_
        exact sxq_againP (iadd .i64 x62 1, ()) (hB := (.cons 0 rfl (.cons 0 rfl .nil))) (hF := (fk_cons 0 rfl (fk_cons 1 rfl fk_nil)))
    · refine sxc_exit ?_
      refine sxq_thenX ?_
      refine sxq_thenX ?_
      refine sxq_blkX ?_
      exact sxq_meetP ((), ())
  · rintro ⟨_, _⟩
    try dsimp only
    refine sxc_seq ?_
    refine sxc_region ?_
    refine sxo_assign rfl rfl rfl ?_
    refine sxo_nil ?_
    refine sxq_next ?_
    refine sxc_ret ?_
    exact sxq_doneP () (res1 rfl rfl)

theorem C_kraft_Found (F : Nat) (x1 : List (Int × List Int)) (a2 : Option Addr) (c3 : (Nat × List (Option Addr × Nat))) (x4 : Int) (x5 : List Int) (a6 : Option Addr) (c7 : Nat) (x8 : Int) (r : (Int × Int × Int)) (hm : M_kraft_Found F x1 x4 x5 x8 = some r) :
    Pure Try.prog 36 [.slice a2 x1.length c3.1, .agg #[.int .i64 x4, .slice a6 x5.length c7], .int .i64 x8] [SlN eN25 iN25 2 (.slice a2 x1.length c3.1) x1 c3.2, Sl (eI .u8) 1 (.slice a6 x5.length c7) x5] Unit (fun _ => .tuple #[.int .i64 r.1, .int .i64 r.2.1, .int .i64 r.2.2]) (fun _ => []) (fun _ => []) := by
  refine pure_of Try.func36 rfl Try.ntmps36 rfl hm (fun w => ?_)
  refine sxc_env (l' := [(0, .slice a2 x1.length c3.1), (1, .agg #[.int .i64 x4, .slice a6 x5.length c7]), (2, .int .i64 x8)]) rfl ?_
  refine sxc_seq ?_
  refine sxc_region ?_
  refine sxo_box rfl rfl rfl (fun g9 => ?_)
  refine sxo_assign rfl rfl rfl ?_
  refine sxo_assign rfl rfl rfl ?_
  refine sxo_assign rfl rfl rfl ?_
  refine sxo_nil ?_
  refine sxq_next ?_
  refine sxc_seq ?_
  refine sxc_region ?_
  refine sxo_assign rfl rfl rfl ?_
  refine sxo_nil ?_
  refine sxq_next ?_
  refine sxc_join (fun ((x88, _) : (Int × Unit)) => [(9, .int .i64 x88)]) (fun ((x88, _) : (Int × Unit)) => []) (fun ((x88, _) : (Int × Unit)) => []) (fun ((x88, _) : (Int × Unit)) => []) (fun ((x88, _) : (Int × Unit)) => M_kraft_Found_j11 F x88) ?_ ?_
  · refine sxc_seq ?_
    refine sxc_region ?_
    refine sxo_move rfl rfl rfl ?_
    refine sxo_len rfl Try.underlying55 rfl rfl ?_
    refine sxo_move rfl rfl rfl ?_
    refine sxo_nil ?_
    refine sxq_next ?_
    refine sxc_block ?_
    refine sxc_loopP (fun (((x114, x115), _) : ((Int × Int) × Unit)) => [(2, .int .i64 x8), (4, .pointer (some ⟨g9, 0, none⟩)), (9, .int .i64 x114), (12, .slice a2 x1.length c3.1), (13, .int .i64 (x1.length : Int)), (14, .int .i64 x115)]) (fun (((x114, x115), _) : ((Int × Int) × Unit)) => [⟨g9, 25, [.int .i64 x4, .slice a6 x5.length c7]⟩]) (fun (((x114, x115), _) : ((Int × Int) × Unit)) => []) (fun (((x114, x115), _) : ((Int × Int) × Unit)) => [SlN eN25 iN25 2 (.slice a2 x1.length c3.1) x1 c3.2, Sl (eI .u8) 1 (.slice a6 x5.length c7) x5]) (fun k (s : ((Int × Int) × Unit)) => M_kraft_Found_l18 F x1 x4 x5 x8 k s.1) ((5, 0), ()) F ?_ (hB := (.cons 0 rfl .nil)) (hF := (fk_cons 0 rfl (fk_cons 1 rfl fk_nil)))
    intro k141
    rintro ⟨⟨x114, x115⟩, _⟩
    try dsimp only
    refine sxc_meq (m' := M_kraft_Found_b18 F x1 x4 x5 x8 (M_kraft_Found_l18 F x1 x4 x5 x8 k141) x114 x115) rfl ?_
    refine sxc_seq ?_
    refine sxc_region ?_
    refine sxo_lss rfl rfl rfl rfl ?_
    refine sxo_nil ?_
    refine sxq_next ?_
    refine sxc_seq ?_
    refine sxc_if rfl (fun h166 => ?_) (fun h166 => ?_)
    · refine sxc_skip ?_
      refine sxq_next ?_
      refine sxc_join (fun ((x154, _) : (Int × Unit)) => [(2, .int .i64 x8), (4, .pointer (some ⟨g9, 0, none⟩)), (9, .int .i64 x154), (12, .slice a2 x1.length c3.1), (13, .int .i64 (x1.length : Int)), (14, .int .i64 x115)]) (fun ((x154, _) : (Int × Unit)) => [⟨g9, 25, [.int .i64 x4, .slice a6 x5.length c7]⟩]) (fun ((x154, _) : (Int × Unit)) => []) (fun ((x154, _) : (Int × Unit)) => [SlN eN25 iN25 2 (.slice a2 x1.length c3.1) x1 c3.2, Sl (eI .u8) 1 (.slice a6 x5.length c7) x5]) (fun ((x154, _) : (Int × Unit)) => M_kraft_Found_j20 F (M_kraft_Found_l18 F x1 x4 x5 x8 k141) x115 x154) ?_ ?_
      · refine sxc_block ?_
        refine sxc_seq ?_
        refine sxc_region ?_
        refine sxo_move rfl rfl rfl ?_
        refine sxo_indexN (j := 0) eN25_ok (by decide) rfl Try.underlying55 tf25 rfl rfl rfl rfl (fun x155 e155 g158 b156 o157 => ?_)
        refine sxo_loadF (j := 0) rfl rfl tf25 rfl rfl (by simp) rfl rfl ?_
        refine sxo_alloc rfl tf25 rfl (fun g159 => ?_)
        refine sxo_assign rfl rfl rfl ?_
        refine sxo_storeB (i := 0) rfl rfl rfl tf25 rfl rfl rfl rfl rfl ?_
        refine sxo_nil ?_
        refine sxq_next ?_
        refine sxc_block ?_
        refine sxc_seq ?_
        refine sxc_region ?_
        refine sxo_fieldAddr rfl rfl ff25_0 rfl ?_
        refine sxo_loadB (i := 0) rfl rfl tf3 rfl rfl (fun _ => rfl) rfl rfl ?_
        refine sxo_eql rfl rfl rfl rfl ?_
        refine sxo_move rfl rfl rfl ?_
        refine sxo_join 6 (fun ((x162, _) : (Bool × Unit)) => [(2, .int .i64 x8), (4, .pointer (some ⟨g9, 0, none⟩)), (9, .int .i64 x114), (10, .int .i64 x115), (11, .pointer (some ⟨g159, 0, none⟩)), (12, .slice a2 x1.length c3.1), (13, .int .i64 (x1.length : Int)), (14, .int .i64 x115), (34, .bool x162)]) (fun ((x162, _) : (Bool × Unit)) => [⟨g159, 25, [.int .i64 x155.1, .slice g158.1 x155.2.length g158.2]⟩, ⟨g9, 25, [.int .i64 x4, .slice a6 x5.length c7]⟩]) (fun ((x162, _) : (Bool × Unit)) => []) (fun ((x162, _) : (Bool × Unit)) => [SlN eN25 iN25 2 (.slice a2 x1.length c3.1) x1 c3.2, Sl (eI .u8) 1 (.slice g158.1 x155.2.length g158.2) x155.2, Sl (eI .u8) 1 (.slice a6 x5.length c7) x5]) (fun ((x162, _) : (Bool × Unit)) => M_kraft_Found_j21 F (M_kraft_Found_l18 F x1 x4 x5 x8 k141) x4 x8 x114 x115 x155 x162) ?_ ?_
        · refine sxo_take (os := _) rfl ?_
          refine sxo_if (fun h160 => ?_) (fun h160 => ?_)
          · refine sxo_isT (k := 28) rfl h160 ?_
            refine sxo_skip rfl rfl rfl ?_
            refine sxo_skip rfl rfl rfl ?_
            refine sxo_skip rfl rfl rfl ?_
            refine sxo_skip rfl rfl rfl ?_
            refine sxo_skip rfl rfl rfl ?_
            refine sxo_pick (b := true) rfl rfl rfl rfl ?_
            refine sxo_nil ?_
            exact sxq_meetP (true, ()) (hB := (.cons 0 rfl (.cons 0 rfl .nil))) (hF := (fk_cons 2 rfl (fk_cons 1 rfl (fk_cons 3 rfl fk_nil))))
          · refine sxo_isF (k := 28) rfl h160 ?_
            refine sxo_loadB (i := 1) rfl rfl tf25 rfl rfl (by simp) rfl rfl ?_
            refine sxo_move rfl rfl rfl ?_
            refine sxo_loadB (i := 0) rfl rfl tf25 rfl rfl (by simp) rfl rfl ?_
            refine sxo_call ent64 rfl rfl rfl (fun x165 e165 => C_kraft_begins F x4 x5 a6 c7 x8 x155.1 x155.2 g158.1 g158.2 x165 e165) (.consF 3 rfl (.consF 1 rfl .nil)) (fun x165 e165 => ?_)
            intro _
            refine sxo_not rfl rfl rfl ?_
            refine sxo_pick (b := false) rfl rfl rfl rfl ?_
            refine sxo_nil ?_
            exact sxq_meetP ((!x165), ()) (hB := (.cons 0 rfl (.cons 0 rfl .nil))) (hF := (fk_cons 2 rfl (fk_cons 1 rfl (fk_cons 3 rfl fk_nil))))
        · rintro ⟨x162, _⟩
          try dsimp only
          refine sxo_take (os := _) rfl ?_
          refine sxo_assign rfl rfl rfl ?_
          refine sxo_nil ?_
          refine sxq_next ?_
          refine sxc_if rfl (fun h164 => ?_) (fun h164 => ?_)
          · refine sxc_skip ?_
            refine sxq_blkN ?_
            refine sxq_blkN ?_
            exact sxq_meetP (x114, ()) (hB := (.cons 1 rfl .nil)) (hF := (fk_cons 0 rfl (fk_cons 2 rfl fk_nil)))
          · refine sxc_seq ?_
            refine sxc_region ?_
            refine sxo_fieldAddr rfl rfl ff25_0 rfl ?_
            refine sxo_loadB (i := 1) rfl rfl tf3 rfl rfl (fun _ => rfl) rfl rfl ?_
            refine sxo_move rfl rfl rfl ?_
            refine sxo_sub rfl rfl rfl rfl ?_
            refine sxo_fieldAddr rfl rfl ff25_0 rfl ?_
            refine sxo_loadB (i := 0) rfl rfl tf3 rfl rfl (fun _ => rfl) rfl rfl ?_
            refine sxo_lss rfl rfl rfl rfl ?_
            refine sxo_assign rfl rfl rfl ?_
            refine sxo_nil ?_
            refine sxq_next ?_
            refine sxc_if rfl (fun h163 => ?_) (fun h163 => ?_)
            · refine sxc_region ?_
              refine sxo_assign rfl rfl rfl ?_
              refine sxo_nil ?_
              refine sxq_blkN ?_
              refine sxq_blkN ?_
              exact sxq_meetP (7, ()) (hB := (.cons 1 rfl .nil)) (hF := (fk_cons 0 rfl (fk_cons 2 rfl fk_nil)))
            · refine sxc_seq ?_
              refine sxb_draw mixed [] [⟨g159, 25, [.int .i64 x155.1, .slice g158.1 x155.2.length g158.2]⟩, ⟨g9, 25, [.int .i64 x4, .slice a6 x5.length c7]⟩] [SlN eN25 iN25 2 (.slice a2 x1.length c3.1) x1 c3.2, Sl (eI .u8) 1 (.slice g158.1 x155.2.length g158.2) x155.2, Sl (eI .u8) 1 (.slice a6 x5.length c7) x5] (.cons 0 rfl (.cons 0 rfl .nil)) (gk_F 0 rfl (gk_F 1 rfl (gk_F 2 rfl gk_nil))) 8 rfl ?_
              refine sxb_takeP 0 (.int .i64 x115) rfl rfl rfl (yv_pv rfl) ?_
              refine sxb_takeP 1 (.int .i64 x8) rfl rfl rfl (yv_pv rfl) ?_
              refine sxb_takeP 2 (.pointer (some ⟨g159, 0, none⟩)) rfl rfl rfl (yv_fieldAddr rfl ff25_0) ?_
              refine sxb_takeB 3 (.int .i64 x155.1) rfl rfl rfl (yv_loadB (i := 0) rfl tf3 rfl rfl (fun _ => rfl) rfl) ?_
              refine sxb_takeP 4 (.int .i64 (iadd .i64 x8 x155.1)) rfl rfl rfl (yv_pv rfl) ?_
              refine sxb_takeP 5 (.int .i64 x115) rfl rfl rfl (yv_pv rfl) ?_
              refine sxb_takeP 6 (.int .i64 (iadd .i64 x8 x155.1)) rfl rfl rfl (yv_pv rfl) ?_
              refine sxb_takeP 7 (.int .i64 0) rfl rfl rfl (yv_pv rfl) ?_
              refine sxb_done (by kernel_rfl) ?_
              refine sxq_np ?_ (by intro c h; cases h)
              refine sxq_next ?_
              refine sxc_ret ?_
              refine sxq_blkR ?_
              refine sxq_blkR ?_
              refine sxq_thenR ?_
              refine sxq_thenR ?_
              refine sxq_blkR ?_
              refine sxq_thenR ?_
              exact sxq_doneP () (res3 rfl rfl rfl rfl)
      · rintro ⟨x154, _⟩
        try dsimp only
        refine sxc_region ?_
        refine sxo_add rfl rfl rfl rfl ?_
        refine sxo_move rfl rfl rfl ?_
        refine sxo_nil ?_
        exact sxq_againP ((x154, iadd .i64 x115 1), ()) (hB := (.cons 0 rfl .nil)) (hF := (fk_cons 0 rfl (fk_cons 1 rfl fk_nil)))
    · refine sxc_exit ?_
      refine sxq_thenX ?_
      refine sxq_thenX ?_
      refine sxq_blkX ?_
      exact sxq_meetP (x114, ())
  · rintro ⟨x88, _⟩
    try dsimp only
    refine sxc_seq ?_
    refine sxc_region ?_
    refine sxo_move rfl rfl rfl ?_
    refine sxo_assign rfl rfl rfl ?_
    refine sxo_assign rfl rfl rfl ?_
    refine sxo_assign rfl rfl rfl ?_
    refine sxo_nil ?_
    refine sxq_next ?_
    refine sxc_ret ?_
    exact sxq_doneP () (res3 rfl rfl rfl rfl)

set_option maxHeartbeats 4000000 in
theorem C_huff_Unpack (F : Nat) (x1 : List Int) (a2 : Option Addr) (c3 : Nat) (x4 : Int) (x5 : List Int) (a6 : Option Addr) (c7 : Nat) (x8 : Int) (r : (List Int × Int)) (hm : M_huff_Unpack F x1 x4 x5 x8 = some r) :
    Pure Try.prog 14 [.slice a2 x1.length c3, .agg #[.int .i64 x4, .slice a6 x5.length c7], .int .i64 x8] [Sl (eI .i64) 1 (.slice a2 x1.length c3) x1, Sl (eI .u8) 1 (.slice a6 x5.length c7) x5] (Option Addr × Nat) (fun g => .tuple #[.slice g.1 r.1.length g.2, .int .i64 r.2]) (fun g => [Ro (eI .i64) 3 1 (.slice g.1 r.1.length g.2) r.1]) (fun _ => []) := by
  refine pure_of Try.func14 rfl Try.ntmps14 rfl hm (fun w => ?_)
  refine sxc_env (l' := [(0, .slice a2 x1.length c3), (1, .agg #[.int .i64 x4, .slice a6 x5.length c7]), (2, .int .i64 x8)]) rfl ?_
  refine sxc_seq ?_
  refine sxc_region ?_
  refine sxo_box rfl rfl rfl (fun g9 => ?_)
  refine sxo_assign rfl rfl rfl ?_
  refine sxo_assign rfl rfl rfl ?_
  refine sxo_nil ?_
  refine sxq_next ?_
  refine sxc_seq ?_
  refine sxc_region ?_
  refine sxo_move rfl rfl rfl ?_
  refine sxo_call ent33 rfl rfl rfl (fun x10 e10 => C_kraft_Codes F x1 a2 c3 x10 e10) (.consF 0 rfl .nil) (fun x10 e10 => ?_)
  rintro ⟨a11, c12⟩
  refine sxo_move rfl rfl rfl ?_
  refine sxo_extract rfl rfl rfl rfl ?_
  refine sxo_extract rfl rfl rfl rfl ?_
  refine sxo_assign rfl rfl rfl ?_
  refine sxo_assign rfl rfl rfl ?_
  refine sxo_nil ?_
  refine sxq_next ?_
  refine sxc_join (fun ((x15, _) : (Int × Unit)) => [(2, .int .i64 x8), (4, .pointer (some ⟨g9, 0, none⟩)), (8, .slice a11 x10.1.length c12.1), (9, .int .i64 x15)]) (fun ((x15, _) : (Int × Unit)) => [⟨g9, 25, [.int .i64 x4, .slice a6 x5.length c7]⟩]) (fun ((x15, _) : (Int × Unit)) => [RoN eN25 rN25 25 2 (.slice a11 x10.1.length c12.1) x10.1 c12.2 []]) (fun ((x15, _) : (Int × Unit)) => [Sl (eI .u8) 1 (.slice a6 x5.length c7) x5]) (fun ((x15, _) : (Int × Unit)) => M_huff_Unpack_j1 F x4 x5 x8 x10 x15) ?_ ?_
  · refine sxc_seq ?_
    refine sxc_region ?_
    refine sxo_move rfl rfl rfl ?_
    refine sxo_eql rfl rfl rfl rfl ?_
    refine sxo_nil ?_
    refine sxq_next ?_
    refine sxc_if rfl (fun h115 => ?_) (fun h115 => ?_)
    · refine sxc_region ?_
      refine sxo_loadB (i := 0) rfl rfl tf25 rfl rfl (by simp) rfl rfl ?_
      refine sxo_call ent35 rfl rfl rfl (fun x114 e114 => C_bits_Check F x4 x5 a6 c7 x114 e114) (.consF 1 rfl .nil) (fun x114 e114 => ?_)
      intro _
      refine sxo_assign rfl rfl rfl ?_
      refine sxo_nil ?_
      exact sxq_meetP (x114, ()) (hB := (.cons 0 rfl .nil)) (hR := (.cons 0 rfl .nil)) (hF := (fk_cons 1 rfl fk_nil))
    · refine sxc_skip ?_
      exact sxq_meetP (x10.2, ()) (hB := (.cons 0 rfl .nil)) (hR := (.cons 0 rfl .nil)) (hF := (fk_cons 1 rfl fk_nil))
  · rintro ⟨x15, _⟩
    try dsimp only
    refine sxc_join (fun ((x21, _) : (Int × Unit)) => [(2, .int .i64 x8), (4, .pointer (some ⟨g9, 0, none⟩)), (8, .slice a11 x10.1.length c12.1), (9, .int .i64 x21)]) (fun ((x21, _) : (Int × Unit)) => [⟨g9, 25, [.int .i64 x4, .slice a6 x5.length c7]⟩]) (fun ((x21, _) : (Int × Unit)) => [RoN eN25 rN25 25 2 (.slice a11 x10.1.length c12.1) x10.1 c12.2 []]) (fun ((x21, _) : (Int × Unit)) => [Sl (eI .u8) 1 (.slice a6 x5.length c7) x5]) (fun ((x21, _) : (Int × Unit)) => M_huff_Unpack_j3 F x4 x5 x8 x10 x21) ?_ ?_
    · refine sxc_seq ?_
      refine sxc_region ?_
      refine sxo_move rfl rfl rfl ?_
      refine sxo_eql rfl rfl rfl rfl ?_
      refine sxo_move rfl rfl rfl ?_
      refine sxo_join 7 (fun ((x111, _) : (Bool × Unit)) => [(2, .int .i64 x8), (4, .pointer (some ⟨g9, 0, none⟩)), (8, .slice a11 x10.1.length c12.1), (9, .int .i64 x15), (31, .bool x111)]) (fun ((x111, _) : (Bool × Unit)) => [⟨g9, 25, [.int .i64 x4, .slice a6 x5.length c7]⟩]) (fun ((x111, _) : (Bool × Unit)) => [RoN eN25 rN25 25 2 (.slice a11 x10.1.length c12.1) x10.1 c12.2 []]) (fun ((x111, _) : (Bool × Unit)) => [Sl (eI .u8) 1 (.slice a6 x5.length c7) x5]) (fun ((x111, _) : (Bool × Unit)) => M_huff_Unpack_j8 F x4 x5 x8 x10 x15 x111) ?_ ?_
      · refine sxo_take (os := _) rfl ?_
        refine sxo_if (fun h109 => ?_) (fun h109 => ?_)
        · refine sxo_isT (k := 24) rfl h109 ?_
          refine sxo_move rfl rfl rfl ?_
          refine sxo_lss rfl rfl rfl rfl ?_
          refine sxo_move rfl rfl rfl ?_
          refine sxo_case 3 (decide (x8 < 0)) [(2, .int .i64 x8), (4, .pointer (some ⟨g9, 0, none⟩)), (8, .slice a11 x10.1.length c12.1), (9, .int .i64 x15), (24, .bool true), (30, .bool ((decide (x8 < 0)) || (decide (1000 < x8))))] (fun h113 => ?_) (fun h113 => ?_) ?_
          · refine sxo_take (os := _) rfl ?_
            refine sxo_isT (k := 27) rfl h113 ?_
            refine sxo_skip rfl rfl rfl ?_
            refine sxo_skip rfl rfl rfl ?_
            refine sxo_pick (b := true) rfl rfl rfl rfl ?_
            refine sxo_again (d := 30) (v := .bool ((decide (x8 < 0)) || (decide (1000 < x8)))) rfl (by rw [h113]; simp only [Bool.true_or]) ?_
            refine sxo_nil ?_
            exact sxq_case (lk_cons rfl (lk_cons rfl (lk_cons rfl (lk_cons rfl (lk_cons rfl (lk_cons rfl lk_nil))))))
          · refine sxo_take (os := _) rfl ?_
            refine sxo_isF (k := 27) rfl h113 ?_
            refine sxo_move rfl rfl rfl ?_
            refine sxo_gtr rfl rfl rfl rfl ?_
            refine sxo_pick (b := false) rfl rfl rfl rfl ?_
            refine sxo_again (d := 30) (v := .bool ((decide (x8 < 0)) || (decide (1000 < x8)))) rfl (by rw [h113]; simp only [Bool.false_or]) ?_
            refine sxo_nil ?_
            exact sxq_case (lk_cons rfl (lk_cons rfl (lk_cons rfl (lk_cons rfl (lk_cons rfl (lk_cons rfl lk_nil))))))
          refine sxo_take (os := _) rfl ?_
          refine sxo_pick (b := true) rfl rfl rfl rfl ?_
          refine sxo_nil ?_
          exact sxq_meetP (((decide (x8 < 0)) || (decide (1000 < x8))), ()) (hB := (.cons 0 rfl .nil)) (hR := (.cons 0 rfl .nil)) (hF := (fk_cons 0 rfl fk_nil))
        · refine sxo_isF (k := 24) rfl h109 ?_
          refine sxo_skip rfl rfl rfl ?_
          refine sxo_skip rfl rfl rfl ?_
          refine sxo_skip rfl rfl rfl ?_
          refine sxo_skip rfl rfl rfl ?_
          refine sxo_skip rfl rfl rfl ?_
          refine sxo_skip rfl rfl rfl ?_
          refine sxo_pick (b := false) rfl rfl rfl rfl ?_
          refine sxo_nil ?_
          exact sxq_meetP (false, ()) (hB := (.cons 0 rfl .nil)) (hR := (.cons 0 rfl .nil)) (hF := (fk_cons 0 rfl fk_nil))
      · rintro ⟨x111, _⟩
        try dsimp only
        refine sxo_take (os := _) rfl ?_
        refine sxo_nil ?_
        refine sxq_next ?_
        refine sxc_if rfl (fun h112 => ?_) (fun h112 => ?_)
        · refine sxc_region ?_
          refine sxo_assign rfl rfl rfl ?_
          refine sxo_nil ?_
          exact sxq_meetP (3, ()) (hB := (.cons 0 rfl .nil)) (hR := (.cons 0 rfl .nil)) (hF := (fk_cons 0 rfl fk_nil))
        · refine sxc_skip ?_
          exact sxq_meetP (x15, ()) (hB := (.cons 0 rfl .nil)) (hR := (.cons 0 rfl .nil)) (hF := (fk_cons 0 rfl fk_nil))
    · rintro ⟨x21, _⟩
      try dsimp only
      refine sxc_seq ?_
      refine sxc_region ?_
      refine sxo_assign rfl rfl rfl ?_
      refine sxo_nil ?_
      refine sxq_next ?_
      refine sxc_seq ?_
      refine sxc_region ?_
      refine sxo_assign rfl rfl rfl ?_
      refine sxo_nil ?_
      refine sxq_next ?_
      refine sxc_join (fun (((x60, x63, x64), (a61, c62)) : ((Int × List Int × Int) × (Option Addr × Nat))) => [(4, .pointer (some ⟨g9, 0, none⟩)), (9, .int .i64 x60), (10, .slice a61 x63.length c62), (11, .int .i64 x64)]) (fun (((x60, x63, x64), (a61, c62)) : ((Int × List Int × Int) × (Option Addr × Nat))) => [⟨g9, 25, [.int .i64 x4, .slice a6 x5.length c7]⟩]) (fun (((x60, x63, x64), (a61, c62)) : ((Int × List Int × Int) × (Option Addr × Nat))) => [Ro (eI .i64) 3 1 (.slice a61 x63.length c62) x63]) (fun (((x60, x63, x64), (a61, c62)) : ((Int × List Int × Int) × (Option Addr × Nat))) => [Sl (eI .u8) 1 (.slice a6 x5.length c7) x5]) (fun (((x60, x63, x64), _) : ((Int × List Int × Int) × (Option Addr × Nat))) => M_huff_Unpack_j5 F x4 x60 x63 x64) ?_ ?_
      · refine sxc_block ?_
        refine sxc_nilrow Int (eI .i64) 3 1 ?_
        refine sxc_loopP (fun (((x83, x86, x87), (a84, c85)) : ((Int × List Int × Int) × (Option Addr × Nat))) => [(2, .int .i64 x8), (4, .pointer (some ⟨g9, 0, none⟩)), (8, .slice a11 x10.1.length c12.1), (9, .int .i64 x83), (10, .slice a84 x86.length c85), (11, .int .i64 x87)]) (fun (((x83, x86, x87), (a84, c85)) : ((Int × List Int × Int) × (Option Addr × Nat))) => [⟨g9, 25, [.int .i64 x4, .slice a6 x5.length c7]⟩]) (fun (((x83, x86, x87), (a84, c85)) : ((Int × List Int × Int) × (Option Addr × Nat))) => [RoN eN25 rN25 25 2 (.slice a11 x10.1.length c12.1) x10.1 c12.2 [], Ro (eI .i64) 3 1 (.slice a84 x86.length c85) x86]) (fun (((x83, x86, x87), (a84, c85)) : ((Int × List Int × Int) × (Option Addr × Nat))) => [Sl (eI .u8) 1 (.slice a6 x5.length c7) x5]) (fun k (s : ((Int × List Int × Int) × (Option Addr × Nat))) => M_huff_Unpack_l7 F x4 x5 x8 x10 k s.1) ((x21, ([] : List Int), 0), (none, 0)) F ?_ (hB := (.cons 0 rfl .nil)) (hR := (.cons 1 rfl (.cons 0 rfl .nil))) (hF := (fk_cons 0 rfl fk_nil))
        intro k98
        rintro ⟨⟨x83, x86, x87⟩, ⟨a84, c85⟩⟩
        try dsimp only
        refine sxc_meq (m' := M_huff_Unpack_b7 F x4 x5 x8 x10 (M_huff_Unpack_l7 F x4 x5 x8 x10 k98) x83 x86 x87) rfl ?_
        refine sxc_seq ?_
        refine sxc_seq ?_
        refine sxc_region ?_
        refine sxo_move rfl rfl rfl ?_
        refine sxo_eql rfl rfl rfl rfl ?_
        refine sxo_move rfl rfl rfl ?_
        refine sxo_case 5 ((x83 : Int) == 0) [(2, .int .i64 x8), (4, .pointer (some ⟨g9, 0, none⟩)), (8, .slice a11 x10.1.length c12.1), (9, .int .i64 x83), (10, .slice a84 x86.length c85), (11, .int .i64 x87), (39, .bool (((x83 : Int) == 0) && (decide ((x86.length : Int) < x8))))] (fun h101 => ?_) (fun h101 => ?_) ?_
        · refine sxo_take (os := _) rfl ?_
          refine sxo_isT (k := 34) rfl h101 ?_
          refine sxo_move rfl rfl rfl ?_
          refine sxo_len rfl Try.underlying22 rfl rfl ?_
          refine sxo_move rfl rfl rfl ?_
          refine sxo_lss rfl rfl rfl rfl ?_
          refine sxo_pick (b := true) rfl rfl rfl rfl ?_
          refine sxo_again (d := 39) (v := .bool (((x83 : Int) == 0) && (decide ((x86.length : Int) < x8)))) rfl (by rw [h101]; simp only [Bool.true_and]) ?_
          refine sxo_nil ?_
          exact sxq_case (lk_cons rfl (lk_cons rfl (lk_cons rfl (lk_cons rfl (lk_cons rfl (lk_cons rfl (lk_cons rfl lk_nil)))))))
        · refine sxo_take (os := _) rfl ?_
          refine sxo_isF (k := 34) rfl h101 ?_
          refine sxo_skip rfl rfl rfl ?_
          refine sxo_skip rfl rfl rfl ?_
          refine sxo_skip rfl rfl rfl ?_
          refine sxo_skip rfl rfl rfl ?_
          refine sxo_pick (b := false) rfl rfl rfl rfl ?_
          refine sxo_again (d := 39) (v := .bool (((x83 : Int) == 0) && (decide ((x86.length : Int) < x8)))) rfl (by rw [h101]; simp only [Bool.false_and]) ?_
          refine sxo_nil ?_
          exact sxq_case (lk_cons rfl (lk_cons rfl (lk_cons rfl (lk_cons rfl (lk_cons rfl (lk_cons rfl (lk_cons rfl lk_nil)))))))
        refine sxo_take (os := _) rfl ?_
        refine sxo_nil ?_
        refine sxq_next ?_
        refine sxc_if rfl (fun h108 => ?_) (fun h108 => ?_)
        · refine sxc_skip ?_
          refine sxq_next ?_
          refine sxc_block ?_
          refine sxc_seq ?_
          refine sxc_region ?_
          refine sxo_assign rfl rfl rfl ?_
          refine sxo_nil ?_
          refine sxq_next ?_
          refine sxc_seq ?_
          refine sxc_region ?_
          refine sxo_move rfl rfl rfl ?_
          refine sxo_loadB (i := 0) rfl rfl tf25 rfl rfl (by simp) rfl rfl ?_
          refine sxo_move rfl rfl rfl ?_
          refine sxo_call ent36 rfl rfl rfl (fun x102 e102 => C_kraft_Found F x10.1 a11 c12 x4 x5 a6 c7 x87 x102 e102) (.consG 0 rfl (nest_sl rN25_in) (.consF 0 rfl .nil)) (fun x102 e102 => ?_)
          intro _
          refine sxo_move rfl rfl rfl ?_
          refine sxo_extract rfl rfl rfl rfl ?_
          refine sxo_extract rfl rfl rfl rfl ?_
          refine sxo_extract rfl rfl rfl rfl ?_
          refine sxo_assign rfl rfl rfl ?_
          refine sxo_assign rfl rfl rfl ?_
          refine sxo_assign rfl rfl rfl ?_
          refine sxo_nil ?_
          refine sxq_next ?_
          refine sxc_region ?_
          refine sxo_move rfl rfl rfl ?_
          refine sxo_move rfl rfl rfl ?_
          refine sxo_slit (vs := [.int .i64 x102.1]) (ys := ([x102.1] : List Int)) (eI_ok .i64) (by decide) rfl Try.underlying22 tf3 rfl rfl rfl rfl rfl (by decide) (fun a103 c104 => ?_)
          refine sxo_app 2 (eI_ok .i64) rfl Try.underlying22 tf3 rfl rfl rfl rfl rfl (.inl ⟨0, _, rfl⟩) rfl rfl (fun x105 e105 a106 c107 => ?_)
          refine sxo_assign rfl rfl rfl ?_
          refine sxo_nil ?_
          refine sxq_blkN ?_
          exact sxq_againP ((x102.2.2, x105, x102.2.1), (a106, c107)) (hB := (.cons 0 rfl .nil)) (hR := (.cons 2 rfl (.cons 0 rfl .nil))) (hF := (fk_cons 0 rfl fk_nil))
        · refine sxc_exit ?_
          refine sxq_thenX ?_
          refine sxq_thenX ?_
          refine sxq_blkX ?_
          exact sxq_meetP ((x83, x86, x87), (a84, c85)) (hB := (.cons 0 rfl .nil)) (hR := (.cons 1 rfl .nil)) (hF := (fk_cons 0 rfl fk_nil))
      · rintro ⟨⟨x60, x63, x64⟩, ⟨a61, c62⟩⟩
        try dsimp only
        refine sxc_join (fun ((x67, _) : (Int × Unit)) => [(9, .int .i64 x67), (10, .slice a61 x63.length c62)]) (fun ((x67, _) : (Int × Unit)) => []) (fun ((x67, _) : (Int × Unit)) => [Ro (eI .i64) 3 1 (.slice a61 x63.length c62) x63]) (fun ((x67, _) : (Int × Unit)) => []) (fun ((x67, _) : (Int × Unit)) => M_huff_Unpack_j6 F x63 x67) ?_ ?_
        · refine sxc_seq ?_
          refine sxc_region ?_
          refine sxo_move rfl rfl rfl ?_
          refine sxo_eql rfl rfl rfl rfl ?_
          refine sxo_move rfl rfl rfl ?_
          refine sxo_case 5 ((x60 : Int) == 0) [(9, .int .i64 x60), (10, .slice a61 x63.length c62), (59, .bool (((x60 : Int) == 0) && (decide (x64 < x4))))] (fun h70 => ?_) (fun h70 => ?_) ?_
          · refine sxo_take (os := _) rfl ?_
            refine sxo_isT (k := 54) rfl h70 ?_
            refine sxo_move rfl rfl rfl ?_
            refine sxo_fieldAddr rfl rfl ff25_0 rfl ?_
            refine sxo_loadB (i := 0) rfl rfl tf3 rfl rfl (fun _ => rfl) rfl rfl ?_
            refine sxo_lss rfl rfl rfl rfl ?_
            refine sxo_pick (b := true) rfl rfl rfl rfl ?_
            refine sxo_again (d := 59) (v := .bool (((x60 : Int) == 0) && (decide (x64 < x4)))) rfl (by rw [h70]; simp only [Bool.true_and]) ?_
            refine sxo_nil ?_
            exact sxq_case (lk_cons rfl (lk_cons rfl (lk_cons rfl lk_nil)))
          · refine sxo_take (os := _) rfl ?_
            refine sxo_isF (k := 54) rfl h70 ?_
            refine sxo_skip rfl rfl rfl ?_
            refine sxo_skip rfl rfl rfl ?_
            refine sxo_skip rfl rfl rfl ?_
            refine sxo_skip rfl rfl rfl ?_
            refine sxo_pick (b := false) rfl rfl rfl rfl ?_
            refine sxo_again (d := 59) (v := .bool (((x60 : Int) == 0) && (decide (x64 < x4)))) rfl (by rw [h70]; simp only [Bool.false_and]) ?_
            refine sxo_nil ?_
            exact sxq_case (lk_cons rfl (lk_cons rfl (lk_cons rfl lk_nil)))
          refine sxo_take (os := _) rfl ?_
          refine sxo_nil ?_
          refine sxq_next ?_
          refine sxc_if rfl (fun h71 => ?_) (fun h71 => ?_)
          · refine sxc_region ?_
            refine sxo_assign rfl rfl rfl ?_
            refine sxo_nil ?_
            exact sxq_meetP (1, ()) (hR := (.cons 0 rfl .nil))
          · refine sxc_skip ?_
            exact sxq_meetP (x60, ()) (hR := (.cons 0 rfl .nil))
        · rintro ⟨x67, _⟩
          try dsimp only
          refine sxc_seq ?_
          refine sxc_seq ?_
          refine sxc_region ?_
          refine sxo_move rfl rfl rfl ?_
          refine sxo_neq rfl rfl rfl rfl ?_
          refine sxo_nil ?_
          refine sxq_next ?_
          refine sxc_if rfl (fun h69 => ?_) (fun h69 => ?_)
          · refine sxc_seq ?_
            refine sxc_region ?_
            refine sxo_move rfl rfl rfl ?_
            refine sxo_assign rfl rfl rfl ?_
            refine sxo_assign rfl rfl rfl ?_
            refine sxo_nil ?_
            refine sxq_next ?_
            refine sxc_ret ?_
            refine sxq_thenR ?_
            refine sxq_nilrow Int (eI .i64) 3 1 ?_
            exact sxq_doneP (none, 0) (res2 rfl rfl rfl) (fun h => by subst h; exact (.cons 0 rfl .nil))
          · refine sxc_skip ?_
            refine sxq_next ?_
            refine sxc_seq ?_
            refine sxc_region ?_
            refine sxo_move rfl rfl rfl ?_
            refine sxo_assign rfl rfl rfl ?_
            refine sxo_assign rfl rfl rfl ?_
            refine sxo_nil ?_
            refine sxq_next ?_
            refine sxc_ret ?_
            exact sxq_doneP (a61, c62) (res2 rfl rfl rfl) (fun h => by subst h; exact (.cons 0 rfl .nil))

theorem C_R_between (F : Nat) (x1 : Int) (x2 : Int) (x3 : Int) (r : Bool) (hm : M_R_between F x1 x2 x3 = some r) :
    Pure Try.prog 39 [.int .i64 x1, .int .i64 x2, .int .i64 x3] [] Unit (fun _ => .bool r) (fun _ => []) (fun _ => []) := by
  refine pure_of Try.func39 rfl Try.ntmps39 rfl hm (fun w => ?_)
  refine sxc_env (l' := [(0, .int .i64 x1), (1, .int .i64 x2), (2, .int .i64 x3)]) rfl ?_
  refine sxc_seq ?_
  refine sxc_region ?_
  refine sxo_assign rfl rfl rfl ?_
  refine sxo_nil ?_
  refine sxq_next ?_
  refine sxc_seq ?_
  refine sxc_region ?_
  refine sxo_move rfl rfl rfl ?_
  refine sxo_move rfl rfl rfl ?_
  refine sxo_geq rfl rfl rfl rfl ?_
  refine sxo_move rfl rfl rfl ?_
  refine sxo_case 4 (decide (x2 ≤ x1)) [(14, .bool ((decide (x2 ≤ x1)) && (decide (x1 ≤ x3))))] (fun h4 => ?_) (fun h4 => ?_) ?_
  · refine sxo_take (os := _) rfl ?_
    refine sxo_isT (k := 10) rfl h4 ?_
    refine sxo_move rfl rfl rfl ?_
    refine sxo_move rfl rfl rfl ?_
    refine sxo_leq rfl rfl rfl rfl ?_
    refine sxo_pick (b := true) rfl rfl rfl rfl ?_
    refine sxo_again (d := 14) (v := .bool ((decide (x2 ≤ x1)) && (decide (x1 ≤ x3)))) rfl (by rw [h4]; simp only [Bool.true_and]) ?_
    refine sxo_nil ?_
    exact sxq_case (lk_cons rfl lk_nil)
  · refine sxo_take (os := _) rfl ?_
    refine sxo_isF (k := 10) rfl h4 ?_
    refine sxo_skip rfl rfl rfl ?_
    refine sxo_skip rfl rfl rfl ?_
    refine sxo_skip rfl rfl rfl ?_
    refine sxo_pick (b := false) rfl rfl rfl rfl ?_
    refine sxo_again (d := 14) (v := .bool ((decide (x2 ≤ x1)) && (decide (x1 ≤ x3)))) rfl (by rw [h4]; simp only [Bool.false_and]) ?_
    refine sxo_nil ?_
    exact sxq_case (lk_cons rfl lk_nil)
  refine sxo_take (os := _) rfl ?_
  refine sxo_assign rfl rfl rfl ?_
  refine sxo_nil ?_
  refine sxq_next ?_
  refine sxc_ret ?_
  exact sxq_doneP () (res1 rfl rfl)

theorem C_R_HuffErr (F : Nat) (x1 : List Int) (a2 : Option Addr) (c3 : Nat) (r : Int) (hm : M_R_HuffErr F x1 = some r) :
    Pure Try.prog 37 [.slice a2 x1.length c3] [Sl (eI .i64) 1 (.slice a2 x1.length c3) x1] Unit (fun _ => .int .i64 r) (fun _ => []) (fun _ => []) := by
  refine pure_of Try.func37 rfl Try.ntmps37 rfl hm (fun w => ?_)
  refine sxc_env (l' := [(0, .slice a2 x1.length c3)]) rfl ?_
  refine sxc_seq ?_
  refine sxc_region ?_
  refine sxo_assign rfl rfl rfl ?_
  refine sxo_nil ?_
  refine sxq_next ?_
  refine sxc_seq ?_
  refine sxc_seq ?_
  refine sxc_region ?_
  refine sxo_move rfl rfl rfl ?_
  refine sxo_len rfl Try.underlying22 rfl rfl ?_
  refine sxo_gtr rfl rfl rfl rfl ?_
  refine sxo_nil ?_
  refine sxq_next ?_
  refine sxc_if rfl (fun h81 => ?_) (fun h81 => ?_)
  · refine sxc_seq ?_
    refine sxc_region ?_
    refine sxo_assign rfl rfl rfl ?_
    refine sxo_nil ?_
    refine sxq_next ?_
    refine sxc_ret ?_
    refine sxq_thenR ?_
    exact sxq_doneP () (res1 rfl rfl)
  · refine sxc_skip ?_
    refine sxq_next ?_
    refine sxc_join (fun ((_, _) : (Unit × Unit)) => []) (fun ((_, _) : (Unit × Unit)) => []) (fun ((_, _) : (Unit × Unit)) => []) (fun ((_, _) : (Unit × Unit)) => []) (fun ((_, _) : (Unit × Unit)) => M_R_HuffErr_j2 F) ?_ ?_
    · refine sxc_seq ?_
      refine sxc_region ?_
      refine sxo_assign rfl rfl rfl ?_
      refine sxo_nil ?_
      refine sxq_next ?_
      refine sxc_block ?_
      refine sxc_loopP (fun ((x55, _) : (Int × Unit)) => [(0, .slice a2 x1.length c3), (3, .int .i64 x55)]) (fun ((x55, _) : (Int × Unit)) => []) (fun ((x55, _) : (Int × Unit)) => []) (fun ((x55, _) : (Int × Unit)) => [Sl (eI .i64) 1 (.slice a2 x1.length c3) x1]) (fun k (s : (Int × Unit)) => M_R_HuffErr_l3 F x1 k s.1) (0, ()) F ?_ (hF := (fk_cons 0 rfl fk_nil))
      intro k68
      rintro ⟨x55, _⟩
      try dsimp only
      refine sxc_meq (m' := M_R_HuffErr_b3 F x1 (M_R_HuffErr_l3 F x1 k68) x55) rfl ?_
      refine sxc_seq ?_
      refine sxc_seq ?_
      refine sxc_region ?_
      refine sxo_move rfl rfl rfl ?_
      refine sxo_move rfl rfl rfl ?_
      refine sxo_len rfl Try.underlying22 rfl rfl ?_
      refine sxo_lss rfl rfl rfl rfl ?_
      refine sxo_nil ?_
      refine sxq_next ?_
      refine sxc_if rfl (fun h80 => ?_) (fun h80 => ?_)
      · refine sxc_skip ?_
        refine sxq_next ?_
        refine sxc_seq ?_
        refine sxc_block ?_
        refine sxc_seq ?_
        refine sxc_region ?_
        refine sxo_move rfl rfl rfl ?_
        refine sxo_move rfl rfl rfl ?_
        refine sxo_indexF (j := 0) (eI_ok .i64) (by decide) rfl Try.underlying22 tf3 rfl rfl rfl rfl (fun x75 e75 b76 o77 => ?_)
        refine sxo_loadF (j := 0) rfl rfl tf3 rfl rfl (fun _ => rfl) rfl rfl ?_
        refine sxo_call ent39 rfl rfl rfl (fun x78 e78 => C_R_between F x75 0 1048576 x78 e78) .nil (fun x78 e78 => ?_)
        intro _
        refine sxo_not rfl rfl rfl ?_
        refine sxo_nil ?_
        refine sxq_next ?_
        refine sxc_if rfl (fun h79 => ?_) (fun h79 => ?_)
        · refine sxc_seq ?_
          refine sxc_region ?_
          refine sxo_assign rfl rfl rfl ?_
          refine sxo_nil ?_
          refine sxq_next ?_
          refine sxc_ret ?_
          refine sxq_blkR ?_
          refine sxq_thenR ?_
          refine sxq_thenR ?_
          refine sxq_blkR ?_
          refine sxq_thenR ?_
          exact sxq_doneP () (res1 rfl rfl)
        · refine sxc_skip ?_
          refine sxq_blkN ?_
          refine sxq_next ?_
          refine sxc_region ?_
          refine sxo_move rfl rfl rfl ?_
          refine sxo_add rfl rfl rfl rfl ?_
          refine sxo_assign rfl rfl rfl ?_
          refine sxo_nil ?_
          exact sxq_againP (iadd .i64 x55 1, ()) (hF := (fk_cons 1 rfl fk_nil))
      · refine sxc_exit ?_
        refine sxq_thenX ?_
        refine sxq_thenX ?_
        refine sxq_blkX ?_
        exact sxq_meetP ((), ())
    · rintro ⟨_, _⟩
      try dsimp only
      refine sxc_seq ?_
      refine sxc_region ?_
      refine sxo_assign rfl rfl rfl ?_
      refine sxo_nil ?_
      refine sxq_next ?_
      refine sxc_ret ?_
      exact sxq_doneP () (res1 rfl rfl)
end Go.Proofs.Ytilaklhajonenaa
