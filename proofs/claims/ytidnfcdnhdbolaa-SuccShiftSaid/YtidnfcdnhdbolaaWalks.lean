/- Each Go function of this seat computes what its model says. -/
import Derived.Test.YtidnfcdnhdbolaaRows
import Derived.Test.YtidnfcdnhdbolaaModels
import Derived.Test.YtidnfcdnhdbolaaShelf
namespace Go.Proofs.Ytidnfcdnhdbolaa
open Go SX
def eN22 (p : List Int × (Option Addr × Nat)) : List Value := [.slice p.2.1 p.1.length p.2.2]
def iN22 (p : List Int × (Option Addr × Nat)) : List (World → Prop) := [Sl (eI .i64) 1 (.slice p.2.1 p.1.length p.2.2) p.1]
theorem eN22_ok : EncOk eN22 1 := ⟨fun _ => rfl, fun _ => rfl⟩
def rN22 (p : List Int × (Option Addr × Nat)) : List RowF := [FoR (eI .i64) 3 1 (.slice p.2.1 p.1.length p.2.2) p.1]
theorem rN22_in : ∀ p, iN22 p = (rN22 p).map RowF.cells := fun _ => rfl
theorem rN22_nil : ∀ f ∈ rN22 (([] : List Int), ((none, 0) : Option Addr × Nat)), f.v = .slice none 0 0 ∧ f.n = 0 ∧ f.cs = [] := by simp [rN22, FoR]
def eS102 (p : (Int × Int)) : List Value := [.int .i64 p.1, .int .i64 p.2]
theorem eS102_ok : EncOk eS102 2 := ⟨fun _ => rfl, fun _ => rfl⟩
theorem tf3 : TyF Try.prog 3 false (.int .i64 0) 1 8 := .of (by kernel_rfl) (by kernel_rfl)
theorem tf4 : TyF Try.prog 4 false (.bool false) 1 1 := .of (by kernel_rfl) (by kernel_rfl)
theorem tf5 : TyF Try.prog 5 false (.int .u8 0) 1 1 := .of (by kernel_rfl) (by kernel_rfl)
theorem tf22 : TyF Try.prog 22 false (.slice none 0 0) 1 24 := .of (by kernel_rfl) (by kernel_rfl)
theorem tf24 : TyF Try.prog 24 true (.agg #[.int .i64 0, .int .i64 0, .int .i64 0]) 3 24 := .of (by kernel_rfl) (by kernel_rfl)
theorem tf25 : TyF Try.prog 25 false (.slice none 0 0) 1 24 := .of (by kernel_rfl) (by kernel_rfl)
theorem tf27 : TyF Try.prog 27 true (.agg #[.int .i64 0, .slice none 0 0]) 2 32 := .of (by kernel_rfl) (by kernel_rfl)
theorem tf36 : TyF Try.prog 36 false (.int .u64 0) 1 8 := .of (by kernel_rfl) (by kernel_rfl)
theorem tf60 : TyF Try.prog 60 false (.pointer none) 1 8 := .of (by kernel_rfl) (by kernel_rfl)
theorem tf73 : TyF Try.prog 73 false (.slice none 0 0) 1 24 := .of (by kernel_rfl) (by kernel_rfl)
theorem tf102 : TyF Try.prog 102 true (.agg #[.int .i64 0, .int .i64 0]) 2 16 := .of (by kernel_rfl) (by kernel_rfl)
theorem tf112 : TyF Try.prog 112 true (.agg #[]) 0 0 := .of (by kernel_rfl) (by kernel_rfl)
theorem ff24_0 : FdF Try.prog 24 0 0 := .of (by kernel_rfl)
theorem ff24_1 : FdF Try.prog 24 1 1 := .of (by kernel_rfl)
theorem ff24_2 : FdF Try.prog 24 2 2 := .of (by kernel_rfl)
theorem ff27_0 : FdF Try.prog 27 0 0 := .of (by kernel_rfl)
theorem ff27_1 : FdF Try.prog 27 1 1 := .of (by kernel_rfl)
theorem ff53_0 : FdF Try.prog 53 0 0 := .of (by kernel_rfl)
theorem ff53_1 : FdF Try.prog 53 1 2 := .of (by kernel_rfl)
theorem ff62_0 : FdF Try.prog 62 0 0 := .of (by kernel_rfl)
theorem ff86_0 : FdF Try.prog 86 0 0 := .of (by kernel_rfl)
theorem ff86_1 : FdF Try.prog 86 1 2 := .of (by kernel_rfl)
theorem ff95_0 : FdF Try.prog 95 0 0 := .of (by kernel_rfl)
theorem ff95_1 : FdF Try.prog 95 1 1 := .of (by kernel_rfl)
theorem ff95_2 : FdF Try.prog 95 2 2 := .of (by kernel_rfl)
theorem ff102_0 : FdF Try.prog 102 0 0 := .of (by kernel_rfl)
theorem ff102_1 : FdF Try.prog 102 1 1 := .of (by kernel_rfl)
theorem ff107_0 : FdF Try.prog 107 0 0 := .of (by kernel_rfl)
theorem ff107_1 : FdF Try.prog 107 1 1 := .of (by kernel_rfl)
theorem st24 : StF Try.prog 24 [(0, 1), (1, 1), (2, 1)] (.agg #[.int .i64 0, .int .i64 0, .int .i64 0]) := .of (by kernel_rfl) (by kernel_rfl)
theorem st27 : StF Try.prog 27 [(0, 1), (1, 1)] (.agg #[.int .i64 0, .slice none 0 0]) := .of (by kernel_rfl) (by kernel_rfl)
theorem st53 : StF Try.prog 53 [(0, 2), (2, 1)] (.agg #[.int .i64 0, .slice none 0 0, .bool false]) := .of (by kernel_rfl) (by kernel_rfl)
theorem st62 : StF Try.prog 62 [(0, 2)] (.agg #[.int .i64 0, .slice none 0 0]) := .of (by kernel_rfl) (by kernel_rfl)
theorem st86 : StF Try.prog 86 [(0, 2), (2, 1)] (.agg #[.int .i64 0, .slice none 0 0, .int .i64 0]) := .of (by kernel_rfl) (by kernel_rfl)
theorem st95 : StF Try.prog 95 [(0, 1), (1, 1), (2, 1)] (.agg #[.slice none 0 0, .bool false, .int .i64 0]) := .of (by kernel_rfl) (by kernel_rfl)
theorem st102 : StF Try.prog 102 [(0, 1), (1, 1)] (.agg #[.int .i64 0, .int .i64 0]) := .of (by kernel_rfl) (by kernel_rfl)
theorem st107 : StF Try.prog 107 [(0, 1), (1, 1)] (.agg #[.int .i64 0, .bool false]) := .of (by kernel_rfl) (by kernel_rfl)
theorem st112 : StF Try.prog 112 [] (.agg #[]) := .of (by kernel_rfl) (by kernel_rfl)
theorem mixed : Try.prog.follows .mixedOrders = true := by kernel_rfl
theorem ent8 : Enters Try.prog 8 := enters_of Try.func8 rfl rfl
theorem ent9 : Enters Try.prog 9 := enters_of Try.func9 rfl rfl
theorem ent10 : Enters Try.prog 10 := enters_of Try.func10 rfl rfl
theorem ent11 : Enters Try.prog 11 := enters_of Try.func11 rfl rfl
theorem ent15 : Enters Try.prog 15 := enters_of Try.func15 rfl rfl
theorem ent16 : Enters Try.prog 16 := enters_of Try.func16 rfl rfl
theorem ent19 : Enters Try.prog 19 := enters_of Try.func19 rfl rfl
theorem ent20 : Enters Try.prog 20 := enters_of Try.func20 rfl rfl
theorem ent21 : Enters Try.prog 21 := enters_of Try.func21 rfl rfl
theorem ent22 : Enters Try.prog 22 := enters_of Try.func22 rfl rfl
theorem ent23 : Enters Try.prog 23 := enters_of Try.func23 rfl rfl
theorem ent26 : Enters Try.prog 26 := enters_of Try.func26 rfl rfl
theorem ent27 : Enters Try.prog 27 := enters_of Try.func27 rfl rfl
theorem ent28 : Enters Try.prog 28 := enters_of Try.func28 rfl rfl
theorem ent29 : Enters Try.prog 29 := enters_of Try.func29 rfl rfl
theorem ent30 : Enters Try.prog 30 := enters_of Try.func30 rfl rfl
theorem ent31 : Enters Try.prog 31 := enters_of Try.func31 rfl rfl
theorem ent32 : Enters Try.prog 32 := enters_of Try.func32 rfl rfl
theorem ent33 : Enters Try.prog 33 := enters_of Try.func33 rfl rfl
theorem ent34 : Enters Try.prog 34 := enters_of Try.func34 rfl rfl
theorem ent35 : Enters Try.prog 35 := enters_of Try.func35 rfl rfl
theorem ent36 : Enters Try.prog 36 := enters_of Try.func36 rfl rfl
theorem ent37 : Enters Try.prog 37 := enters_of Try.func37 rfl rfl
theorem ent38 : Enters Try.prog 38 := enters_of Try.func38 rfl rfl
theorem ent39 : Enters Try.prog 39 := enters_of Try.func39 rfl rfl
theorem ent40 : Enters Try.prog 40 := enters_of Try.func40 rfl rfl
theorem ent41 : Enters Try.prog 41 := enters_of Try.func41 rfl rfl
theorem ent42 : Enters Try.prog 42 := enters_of Try.func42 rfl rfl
theorem ent43 : Enters Try.prog 43 := enters_of Try.func43 rfl rfl
theorem ent44 : Enters Try.prog 44 := enters_of Try.func44 rfl rfl
theorem ent45 : Enters Try.prog 45 := enters_of Try.func45 rfl rfl
theorem ent46 : Enters Try.prog 46 := enters_of Try.func46 rfl rfl
theorem ent47 : Enters Try.prog 47 := enters_of Try.func47 rfl rfl
theorem ent48 : Enters Try.prog 48 := enters_of Try.func48 rfl rfl
theorem ent49 : Enters Try.prog 49 := enters_of Try.func49 rfl rfl
theorem ent50 : Enters Try.prog 50 := enters_of Try.func50 rfl rfl
theorem ent51 : Enters Try.prog 51 := enters_of Try.func51 rfl rfl
theorem ent52 : Enters Try.prog 52 := enters_of Try.func52 rfl rfl
theorem ent53 : Enters Try.prog 53 := enters_of Try.func53 rfl rfl
theorem ent54 : Enters Try.prog 54 := enters_of Try.func54 rfl rfl
theorem ent55 : Enters Try.prog 55 := enters_of Try.func55 rfl rfl
theorem ent56 : Enters Try.prog 56 := enters_of Try.func56 rfl rfl
theorem ent57 : Enters Try.prog 57 := enters_of Try.func57 rfl rfl
theorem ent58 : Enters Try.prog 58 := enters_of Try.func58 rfl rfl
theorem ent59 : Enters Try.prog 59 := enters_of Try.func59 rfl rfl
theorem ent60 : Enters Try.prog 60 := enters_of Try.func60 rfl rfl
theorem ent61 : Enters Try.prog 61 := enters_of Try.func61 rfl rfl
theorem ent62 : Enters Try.prog 62 := enters_of Try.func62 rfl rfl
theorem ent63 : Enters Try.prog 63 := enters_of Try.func63 rfl rfl
theorem ent64 : Enters Try.prog 64 := enters_of Try.func64 rfl rfl
theorem ent65 : Enters Try.prog 65 := enters_of Try.func65 rfl rfl
theorem ent66 : Enters Try.prog 66 := enters_of Try.func66 rfl rfl
theorem ent67 : Enters Try.prog 67 := enters_of Try.func67 rfl rfl
theorem ent68 : Enters Try.prog 68 := enters_of Try.func68 rfl rfl
theorem ent69 : Enters Try.prog 69 := enters_of Try.func69 rfl rfl
theorem ent70 : Enters Try.prog 70 := enters_of Try.func70 rfl rfl
theorem ent71 : Enters Try.prog 71 := enters_of Try.func71 rfl rfl
theorem ent72 : Enters Try.prog 72 := enters_of Try.func72 rfl rfl
theorem ent73 : Enters Try.prog 73 := enters_of Try.func73 rfl rfl
theorem ent74 : Enters Try.prog 74 := enters_of Try.func74 rfl rfl
theorem ent75 : Enters Try.prog 75 := enters_of Try.func75 rfl rfl
theorem ent76 : Enters Try.prog 76 := enters_of Try.func76 rfl rfl
theorem ent77 : Enters Try.prog 77 := enters_of Try.func77 rfl rfl
theorem ent78 : Enters Try.prog 78 := enters_of Try.func78 rfl rfl
theorem ent79 : Enters Try.prog 79 := enters_of Try.func79 rfl rfl
theorem ent80 : Enters Try.prog 80 := enters_of Try.func80 rfl rfl
theorem ent81 : Enters Try.prog 81 := enters_of Try.func81 rfl rfl
theorem ent82 : Enters Try.prog 82 := enters_of Try.func82 rfl rfl
theorem ent83 : Enters Try.prog 83 := enters_of Try.func83 rfl rfl
theorem ent84 : Enters Try.prog 84 := enters_of Try.func84 rfl rfl
theorem ent85 : Enters Try.prog 85 := enters_of Try.func85 rfl rfl
theorem ent86 : Enters Try.prog 86 := enters_of Try.func86 rfl rfl
theorem ent87 : Enters Try.prog 87 := enters_of Try.func87 rfl rfl
theorem ent90 : Enters Try.prog 90 := enters_of Try.func90 rfl rfl
theorem ent91 : Enters Try.prog 91 := enters_of Try.func91 rfl rfl
theorem ent92 : Enters Try.prog 92 := enters_of Try.func92 rfl rfl
theorem ent93 : Enters Try.prog 93 := enters_of Try.func93 rfl rfl
theorem ent94 : Enters Try.prog 94 := enters_of Try.func94 rfl rfl
theorem ent95 : Enters Try.prog 95 := enters_of Try.func95 rfl rfl
theorem mkif112 (v : Value) (w : World) : (Instr.makeInterface 112 v).run Try.prog w = .ok (.iface 112 v) w := by simp [Instr.makeInterface, run_underlying Try.underlying112]
abbrev lostCh : List PanicEntry := [{ v := .iface 112 (.agg #[]), recovered := false }]
theorem idle56 (p q : Addr) : CatchIdle Try.prog 56 #[.pointer (some p), .pointer (some q)] := by
  intro w
  refine callsD_of_wpS Try.func56 rfl fun c₀ cs hu => ?_
  apply wpS_seq
  apply wpS_region
  simp [wpOpsS, go_sem, recoverD, hu, Try.ntmps56, Exit.thenS]
  refine wpS_of_wp ?_
  go_wp2
  cases c₀
  simp_all [bodyPostS, results, Try.results56]
theorem assert56 (w : World) : (Instr.typeAssert (.iface 112 (.agg #[])) 20 112 true).run Try.prog w = .ok (.tuple #[.agg #[], .bool true]) w := by
  simp [Instr.typeAssert, run_underlying Try.underlying112]
theorem eqn56 (x y : Operand) (w : World) : (do eqGuard .eql 20 x y (.iface 112 (.agg #[])) .nilIface; binOp .eql 20 (.iface 112 (.agg #[])) .nilIface : Sem Value).run Try.prog w = .ok (.bool false) w := by
  simp [go_sem]
set_option maxRecDepth 100000 in
theorem lost56 (g1 g2 : Nat) (v1 v2 : Value) : CatchLost Try.prog 56 #[.pointer (some ⟨g1, 0, none⟩), .pointer (some ⟨g2, 0, none⟩)] 112 (.agg #[]) [⟨g1, 22, [v1]⟩, ⟨g2, 4, [v2]⟩] [⟨g1, 22, [.slice none 0 0]⟩, ⟨g2, 4, [.bool false]⟩] := by
  intro w hp
  refine callsD_of_wpS Try.func56 rfl fun c₀ cs hu => ?_
  apply wpS_seq
  apply wpS_region
  simp [wpOpsS, go_sem, recoverD, hu, Try.ntmps56, Exit.thenS]
  refine wpS_of_wp (gwp_none.1 ?_)
  refine (show SXC Try.prog none 11 [] (muts [⟨g1, 22, [v1]⟩, ⟨g2, 4, [v2]⟩] []) w _ _ [(0, .pointer (some ⟨g1, 0, none⟩)), (1, .pointer (some ⟨g2, 0, none⟩)), (5, .iface 112 (.agg #[]))] [⟨g1, 22, [v1]⟩, ⟨g2, 4, [v2]⟩] [] [] (some ()) () from ?_) rfl _ _ ⟨rfl, by simp, fun i v hv => ?_⟩ hp
  · refine sxc_block ?_
    refine sxc_seq ?_
    refine sxc_region ?_
    refine sxo_eqIface rfl rfl rfl (eqn56 _ _) rfl ?_
    refine sxo_nil ?_
    refine sxq_next ?_
    refine sxc_cond (b := false) rfl (fun h => by cases h) (fun _ => ?_)
    refine sxc_seq ?_
    refine sxc_region ?_
    refine sxo_assertOk rfl rfl assert56 rfl ?_
    refine sxo_extract rfl rfl rfl rfl ?_
    refine sxo_extract rfl rfl rfl rfl ?_
    refine sxo_nil ?_
    refine sxq_next ?_
    refine sxc_cond (b := true) rfl (fun _ => ?_) (fun h => by cases h)
    refine sxc_seq ?_
    refine sxc_region ?_
    refine sxo_alloc rfl tf112 rfl (fun g => ?_)
    refine sxo_storeB (i := 0) rfl rfl rfl tf112 rfl rfl rfl rfl rfl ?_
    refine sxo_nil ?_
    refine sxq_next ?_
    refine sxc_region ?_
    refine sxo_storeB (i := 1) rfl rfl rfl tf22 rfl rfl rfl rfl rfl ?_
    refine sxo_storeB (i := 2) rfl rfl rfl tf4 rfl rfl rfl rfl rfl ?_
    refine sxo_nil ?_
    refine sxq_blkN ?_
    intro _ a w' hf hp'
    exact ⟨hf.defers, _, rfl, _, results_none rfl _ _ _, rfl, rfl, hp'.pick (.cons 1 rfl (.cons 1 rfl .nil)) .nil (by simp)⟩
  · simp only [look_cons] at hv
    split at hv
    · rename_i h; subst h; simpa using hv
    · split at hv
      · rename_i h; subst h; simpa using hv
      · split at hv
        · rename_i h; subst h; simpa using hv
        · cases hv

theorem C_succ_Check (F : Nat) (x1 : Int) (x2 : Int) (x3 : Int) (r : Int) (hm : M_succ_Check F x1 x2 x3 = some r) :
    Pure Try.prog 19 [.agg #[.int .i64 x1, .int .i64 x2, .int .i64 x3]] [] Unit (fun _ => .int .i64 r) (fun _ => []) (fun _ => []) := by
  refine pure_of Try.func19 rfl Try.ntmps19 rfl hm (fun w => ?_)
  refine sxc_env (l' := [(0, .agg #[.int .i64 x1, .int .i64 x2, .int .i64 x3])]) rfl ?_
  refine sxc_seq ?_
  refine sxc_region ?_
  refine sxo_box rfl rfl rfl (fun g4 => ?_)
  refine sxo_assign rfl rfl rfl ?_
  refine sxo_nil ?_
  refine sxq_next ?_
  refine sxc_seq ?_
  refine sxc_seq ?_
  refine sxc_region ?_
  refine sxo_fieldAddr rfl rfl ff24_0 rfl ?_
  refine sxo_loadB (i := 0) rfl rfl tf3 rfl rfl (fun _ => rfl) rfl rfl ?_
  refine sxo_lss rfl rfl rfl rfl ?_
  refine sxo_move rfl rfl rfl ?_
  refine sxo_case 4 (decide (x1 < 0)) [(1, .pointer (some ⟨g4, 0, none⟩)), (10, .bool ((decide (x1 < 0)) || (decide (7 < x1))))] (fun h12 => ?_) (fun h12 => ?_) ?_
  · refine sxo_take (os := _) rfl ?_
    refine sxo_isT (k := 6) rfl h12 ?_
    refine sxo_skip rfl rfl rfl ?_
    refine sxo_skip rfl rfl rfl ?_
    refine sxo_skip rfl rfl rfl ?_
    refine sxo_pick (b := true) rfl rfl rfl rfl ?_
    refine sxo_again (d := 10) (v := .bool ((decide (x1 < 0)) || (decide (7 < x1)))) rfl (by rw [h12]; simp only [Bool.true_or]) ?_
    refine sxo_nil ?_
    exact sxq_case (lk_cons rfl (lk_cons rfl lk_nil))
  · refine sxo_take (os := _) rfl ?_
    refine sxo_isF (k := 6) rfl h12 ?_
    refine sxo_fieldAddr rfl rfl ff24_0 rfl ?_
    refine sxo_loadB (i := 0) rfl rfl tf3 rfl rfl (fun _ => rfl) rfl rfl ?_
    refine sxo_gtr rfl rfl rfl rfl ?_
    refine sxo_pick (b := false) rfl rfl rfl rfl ?_
    refine sxo_again (d := 10) (v := .bool ((decide (x1 < 0)) || (decide (7 < x1)))) rfl (by rw [h12]; simp only [Bool.false_or]) ?_
    refine sxo_nil ?_
    exact sxq_case (lk_cons rfl (lk_cons rfl lk_nil))
  refine sxo_take (os := _) rfl ?_
  refine sxo_move rfl rfl rfl ?_
  refine sxo_case 4 ((decide (x1 < 0)) || (decide (7 < x1))) [(1, .pointer (some ⟨g4, 0, none⟩)), (15, .bool (((decide (x1 < 0)) || (decide (7 < x1))) || (decide (x2 < 0))))] (fun h13 => ?_) (fun h13 => ?_) ?_
  · refine sxo_take (os := _) rfl ?_
    refine sxo_isT (k := 11) rfl h13 ?_
    refine sxo_skip rfl rfl rfl ?_
    refine sxo_skip rfl rfl rfl ?_
    refine sxo_skip rfl rfl rfl ?_
    refine sxo_pick (b := true) rfl rfl rfl rfl ?_
    refine sxo_again (d := 15) (v := .bool (((decide (x1 < 0)) || (decide (7 < x1))) || (decide (x2 < 0)))) rfl (by rw [h13]; simp only [Bool.true_or]) ?_
    refine sxo_nil ?_
    exact sxq_case (lk_cons rfl (lk_cons rfl lk_nil))
  · refine sxo_take (os := _) rfl ?_
    refine sxo_isF (k := 11) rfl h13 ?_
    refine sxo_fieldAddr rfl rfl ff24_1 rfl ?_
    refine sxo_loadB (i := 0) rfl rfl tf3 rfl rfl (fun _ => rfl) rfl rfl ?_
    refine sxo_lss rfl rfl rfl rfl ?_
    refine sxo_pick (b := false) rfl rfl rfl rfl ?_
    refine sxo_again (d := 15) (v := .bool (((decide (x1 < 0)) || (decide (7 < x1))) || (decide (x2 < 0)))) rfl (by rw [h13]; simp only [Bool.false_or]) ?_
    refine sxo_nil ?_
    exact sxq_case (lk_cons rfl (lk_cons rfl lk_nil))
  refine sxo_take (os := _) rfl ?_
  refine sxo_move rfl rfl rfl ?_
  refine sxo_case 4 (((decide (x1 < 0)) || (decide (7 < x1))) || (decide (x2 < 0))) [(1, .pointer (some ⟨g4, 0, none⟩)), (20, .bool ((((decide (x1 < 0)) || (decide (7 < x1))) || (decide (x2 < 0))) || ((x2 : Int) == 1)))] (fun h14 => ?_) (fun h14 => ?_) ?_
  · refine sxo_take (os := _) rfl ?_
    refine sxo_isT (k := 16) rfl h14 ?_
    refine sxo_skip rfl rfl rfl ?_
    refine sxo_skip rfl rfl rfl ?_
    refine sxo_skip rfl rfl rfl ?_
    refine sxo_pick (b := true) rfl rfl rfl rfl ?_
    refine sxo_again (d := 20) (v := .bool ((((decide (x1 < 0)) || (decide (7 < x1))) || (decide (x2 < 0))) || ((x2 : Int) == 1))) rfl (by rw [h14]; simp only [Bool.true_or]) ?_
    refine sxo_nil ?_
    exact sxq_case (lk_cons rfl (lk_cons rfl lk_nil))
  · refine sxo_take (os := _) rfl ?_
    refine sxo_isF (k := 16) rfl h14 ?_
    refine sxo_fieldAddr rfl rfl ff24_1 rfl ?_
    refine sxo_loadB (i := 0) rfl rfl tf3 rfl rfl (fun _ => rfl) rfl rfl ?_
    refine sxo_eql rfl rfl rfl rfl ?_
    refine sxo_pick (b := false) rfl rfl rfl rfl ?_
    refine sxo_again (d := 20) (v := .bool ((((decide (x1 < 0)) || (decide (7 < x1))) || (decide (x2 < 0))) || ((x2 : Int) == 1))) rfl (by rw [h14]; simp only [Bool.false_or]) ?_
    refine sxo_nil ?_
    exact sxq_case (lk_cons rfl (lk_cons rfl lk_nil))
  refine sxo_take (os := _) rfl ?_
  refine sxo_move rfl rfl rfl ?_
  refine sxo_case 4 ((((decide (x1 < 0)) || (decide (7 < x1))) || (decide (x2 < 0))) || ((x2 : Int) == 1)) [(1, .pointer (some ⟨g4, 0, none⟩)), (25, .bool (((((decide (x1 < 0)) || (decide (7 < x1))) || (decide (x2 < 0))) || ((x2 : Int) == 1)) || (decide (300 < x2))))] (fun h15 => ?_) (fun h15 => ?_) ?_
  · refine sxo_take (os := _) rfl ?_
    refine sxo_isT (k := 21) rfl h15 ?_
    refine sxo_skip rfl rfl rfl ?_
    refine sxo_skip rfl rfl rfl ?_
    refine sxo_skip rfl rfl rfl ?_
    refine sxo_pick (b := true) rfl rfl rfl rfl ?_
    refine sxo_again (d := 25) (v := .bool (((((decide (x1 < 0)) || (decide (7 < x1))) || (decide (x2 < 0))) || ((x2 : Int) == 1)) || (decide (300 < x2)))) rfl (by rw [h15]; simp only [Bool.true_or]) ?_
    refine sxo_nil ?_
    exact sxq_case (lk_cons rfl (lk_cons rfl lk_nil))
  · refine sxo_take (os := _) rfl ?_
    refine sxo_isF (k := 21) rfl h15 ?_
    refine sxo_fieldAddr rfl rfl ff24_1 rfl ?_
    refine sxo_loadB (i := 0) rfl rfl tf3 rfl rfl (fun _ => rfl) rfl rfl ?_
    refine sxo_gtr rfl rfl rfl rfl ?_
    refine sxo_pick (b := false) rfl rfl rfl rfl ?_
    refine sxo_again (d := 25) (v := .bool (((((decide (x1 < 0)) || (decide (7 < x1))) || (decide (x2 < 0))) || ((x2 : Int) == 1)) || (decide (300 < x2)))) rfl (by rw [h15]; simp only [Bool.false_or]) ?_
    refine sxo_nil ?_
    exact sxq_case (lk_cons rfl (lk_cons rfl lk_nil))
  refine sxo_take (os := _) rfl ?_
  refine sxo_move rfl rfl rfl ?_
  refine sxo_case 4 (((((decide (x1 < 0)) || (decide (7 < x1))) || (decide (x2 < 0))) || ((x2 : Int) == 1)) || (decide (300 < x2))) [(1, .pointer (some ⟨g4, 0, none⟩)), (30, .bool ((((((decide (x1 < 0)) || (decide (7 < x1))) || (decide (x2 < 0))) || ((x2 : Int) == 1)) || (decide (300 < x2))) || (decide (x3 < 1))))] (fun h16 => ?_) (fun h16 => ?_) ?_
  · refine sxo_take (os := _) rfl ?_
    refine sxo_isT (k := 26) rfl h16 ?_
    refine sxo_skip rfl rfl rfl ?_
    refine sxo_skip rfl rfl rfl ?_
    refine sxo_skip rfl rfl rfl ?_
    refine sxo_pick (b := true) rfl rfl rfl rfl ?_
    refine sxo_again (d := 30) (v := .bool ((((((decide (x1 < 0)) || (decide (7 < x1))) || (decide (x2 < 0))) || ((x2 : Int) == 1)) || (decide (300 < x2))) || (decide (x3 < 1)))) rfl (by rw [h16]; simp only [Bool.true_or]) ?_
    refine sxo_nil ?_
    exact sxq_case (lk_cons rfl (lk_cons rfl lk_nil))
  · refine sxo_take (os := _) rfl ?_
    refine sxo_isF (k := 26) rfl h16 ?_
    refine sxo_fieldAddr rfl rfl ff24_2 rfl ?_
    refine sxo_loadB (i := 0) rfl rfl tf3 rfl rfl (fun _ => rfl) rfl rfl ?_
    refine sxo_lss rfl rfl rfl rfl ?_
    refine sxo_pick (b := false) rfl rfl rfl rfl ?_
    refine sxo_again (d := 30) (v := .bool ((((((decide (x1 < 0)) || (decide (7 < x1))) || (decide (x2 < 0))) || ((x2 : Int) == 1)) || (decide (300 < x2))) || (decide (x3 < 1)))) rfl (by rw [h16]; simp only [Bool.false_or]) ?_
    refine sxo_nil ?_
    exact sxq_case (lk_cons rfl (lk_cons rfl lk_nil))
  refine sxo_take (os := _) rfl ?_
  refine sxo_move rfl rfl rfl ?_
  refine sxo_case 4 ((((((decide (x1 < 0)) || (decide (7 < x1))) || (decide (x2 < 0))) || ((x2 : Int) == 1)) || (decide (300 < x2))) || (decide (x3 < 1))) [(35, .bool (((((((decide (x1 < 0)) || (decide (7 < x1))) || (decide (x2 < 0))) || ((x2 : Int) == 1)) || (decide (300 < x2))) || (decide (x3 < 1))) || (decide (16 < x3))))] (fun h17 => ?_) (fun h17 => ?_) ?_
  · refine sxo_take (os := _) rfl ?_
    refine sxo_isT (k := 31) rfl h17 ?_
    refine sxo_skip rfl rfl rfl ?_
    refine sxo_skip rfl rfl rfl ?_
    refine sxo_skip rfl rfl rfl ?_
    refine sxo_pick (b := true) rfl rfl rfl rfl ?_
    refine sxo_again (d := 35) (v := .bool (((((((decide (x1 < 0)) || (decide (7 < x1))) || (decide (x2 < 0))) || ((x2 : Int) == 1)) || (decide (300 < x2))) || (decide (x3 < 1))) || (decide (16 < x3)))) rfl (by rw [h17]; simp only [Bool.true_or]) ?_
    refine sxo_nil ?_
    exact sxq_case (lk_cons rfl lk_nil)
  · refine sxo_take (os := _) rfl ?_
    refine sxo_isF (k := 31) rfl h17 ?_
    refine sxo_fieldAddr rfl rfl ff24_2 rfl ?_
    refine sxo_loadB (i := 0) rfl rfl tf3 rfl rfl (fun _ => rfl) rfl rfl ?_
    refine sxo_gtr rfl rfl rfl rfl ?_
    refine sxo_pick (b := false) rfl rfl rfl rfl ?_
    refine sxo_again (d := 35) (v := .bool (((((((decide (x1 < 0)) || (decide (7 < x1))) || (decide (x2 < 0))) || ((x2 : Int) == 1)) || (decide (300 < x2))) || (decide (x3 < 1))) || (decide (16 < x3)))) rfl (by rw [h17]; simp only [Bool.false_or]) ?_
    refine sxo_nil ?_
    exact sxq_case (lk_cons rfl lk_nil)
  refine sxo_take (os := _) rfl ?_
  refine sxo_nil ?_
  refine sxq_next ?_
  refine sxc_if rfl (fun h18 => ?_) (fun h18 => ?_)
  · refine sxc_seq ?_
    refine sxc_region ?_
    refine sxo_assign rfl rfl rfl ?_
    refine sxo_nil ?_
    refine sxq_next ?_
    refine sxc_ret ?_
    refine sxq_thenR ?_
    exact sxq_doneP () (res1 rfl rfl)
  · refine sxc_skip ?_
    refine sxq_next ?_
    refine sxc_seq ?_
    refine sxc_region ?_
    refine sxo_assign rfl rfl rfl ?_
    refine sxo_nil ?_
    refine sxq_next ?_
    refine sxc_ret ?_
    exact sxq_doneP () (res1 rfl rfl)

theorem C_gaps_node (F : Nat) (x1 : Int) (r : Bool) (hm : M_gaps_node F x1 = some r) :
    Pure Try.prog 33 [.int .i64 x1] [] Unit (fun _ => .bool r) (fun _ => []) (fun _ => []) := by
  refine pure_of Try.func33 rfl Try.ntmps33 rfl hm (fun w => ?_)
  refine sxc_env (l' := [(0, .int .i64 x1)]) rfl ?_
  refine sxc_seq ?_
  refine sxc_region ?_
  refine sxo_assign rfl rfl rfl ?_
  refine sxo_nil ?_
  refine sxq_next ?_
  refine sxc_seq ?_
  refine sxc_region ?_
  refine sxo_move rfl rfl rfl ?_
  refine sxo_geq rfl rfl rfl rfl ?_
  refine sxo_move rfl rfl rfl ?_
  refine sxo_case 3 (decide (0 ≤ x1)) [(8, .bool ((decide (0 ≤ x1)) && (decide (x1 ≤ 1048576))))] (fun h2 => ?_) (fun h2 => ?_) ?_
  · refine sxo_take (os := _) rfl ?_
    refine sxo_isT (k := 5) rfl h2 ?_
    refine sxo_move rfl rfl rfl ?_
    refine sxo_leq rfl rfl rfl rfl ?_
    refine sxo_pick (b := true) rfl rfl rfl rfl ?_
    refine sxo_again (d := 8) (v := .bool ((decide (0 ≤ x1)) && (decide (x1 ≤ 1048576)))) rfl (by rw [h2]; simp only [Bool.true_and]) ?_
    refine sxo_nil ?_
    exact sxq_case (lk_cons rfl lk_nil)
  · refine sxo_take (os := _) rfl ?_
    refine sxo_isF (k := 5) rfl h2 ?_
    refine sxo_skip rfl rfl rfl ?_
    refine sxo_skip rfl rfl rfl ?_
    refine sxo_pick (b := false) rfl rfl rfl rfl ?_
    refine sxo_again (d := 8) (v := .bool ((decide (0 ≤ x1)) && (decide (x1 ≤ 1048576)))) rfl (by rw [h2]; simp only [Bool.false_and]) ?_
    refine sxo_nil ?_
    exact sxq_case (lk_cons rfl lk_nil)
  refine sxo_take (os := _) rfl ?_
  refine sxo_assign rfl rfl rfl ?_
  refine sxo_nil ?_
  refine sxq_next ?_
  refine sxc_ret ?_
  exact sxq_doneP () (res1 rfl rfl)

theorem C_gaps_Check (F : Nat) (x1 : List Int) (a2 : Option Addr) (c3 : Nat) (r : Int) (hm : M_gaps_Check F x1 = some r) :
    Pure Try.prog 20 [.slice a2 x1.length c3] [Sl (eI .i64) 1 (.slice a2 x1.length c3) x1] Unit (fun _ => .int .i64 r) (fun _ => []) (fun _ => []) := by
  refine pure_of Try.func20 rfl Try.ntmps20 rfl hm (fun w => ?_)
  refine sxc_env (l' := [(0, .slice a2 x1.length c3)]) rfl ?_
  refine sxc_seq ?_
  refine sxc_region ?_
  refine sxo_assign rfl rfl rfl ?_
  refine sxo_nil ?_
  refine sxq_next ?_
  refine sxc_seq ?_
  refine sxc_seq ?_
  refine sxc_region ?_
  refine sxo_move rfl rfl rfl ?_
  refine sxo_len rfl Try.underlying22 rfl rfl ?_
  refine sxo_gtr rfl rfl rfl rfl ?_
  refine sxo_nil ?_
  refine sxq_next ?_
  refine sxc_if rfl (fun h131 => ?_) (fun h131 => ?_)
  · refine sxc_seq ?_
    refine sxc_region ?_
    refine sxo_assign rfl rfl rfl ?_
    refine sxo_nil ?_
    refine sxq_next ?_
    refine sxc_ret ?_
    refine sxq_thenR ?_
    exact sxq_doneP () (res1 rfl rfl)
  · refine sxc_skip ?_
    refine sxq_next ?_
    refine sxc_seq ?_
    refine sxc_region ?_
    refine sxo_assign rfl rfl rfl ?_
    refine sxo_nil ?_
    refine sxq_next ?_
    refine sxc_join (fun ((_, _) : (Unit × Unit)) => []) (fun ((_, _) : (Unit × Unit)) => []) (fun ((_, _) : (Unit × Unit)) => []) (fun ((_, _) : (Unit × Unit)) => []) (fun ((_, _) : (Unit × Unit)) => M_gaps_Check_j2 F) ?_ ?_
    · refine sxc_seq ?_
      refine sxc_region ?_
      refine sxo_move rfl rfl rfl ?_
      refine sxo_len rfl Try.underlying22 rfl rfl ?_
      refine sxo_move rfl rfl rfl ?_
      refine sxo_nil ?_
      refine sxq_next ?_
      refine sxc_block ?_
      refine sxc_loopP (fun (((x88, x89), _) : ((Int × Int) × Unit)) => [(3, .int .i64 x88), (9, .slice a2 x1.length c3), (10, .int .i64 (x1.length : Int)), (11, .int .i64 x89)]) (fun (((x88, x89), _) : ((Int × Int) × Unit)) => []) (fun (((x88, x89), _) : ((Int × Int) × Unit)) => []) (fun (((x88, x89), _) : ((Int × Int) × Unit)) => [Sl (eI .i64) 1 (.slice a2 x1.length c3) x1]) (fun k (s : ((Int × Int) × Unit)) => M_gaps_Check_l3 F x1 k s.1) ((-1, 0), ()) F ?_ (hF := (fk_cons 0 rfl fk_nil))
      intro k110
      rintro ⟨⟨x88, x89⟩, _⟩
      try dsimp only
      refine sxc_meq (m' := M_gaps_Check_b3 F x1 (M_gaps_Check_l3 F x1 k110) x88 x89) rfl ?_
      refine sxc_seq ?_
      refine sxc_region ?_
      refine sxo_lss rfl rfl rfl rfl ?_
      refine sxo_nil ?_
      refine sxq_next ?_
      refine sxc_seq ?_
      refine sxc_if rfl (fun h130 => ?_) (fun h130 => ?_)
      · refine sxc_skip ?_
        refine sxq_next ?_
        refine sxc_seq ?_
        refine sxc_block ?_
        refine sxc_seq ?_
        refine sxc_region ?_
        refine sxo_indexF (j := 0) (eI_ok .i64) (by decide) rfl Try.underlying22 tf3 rfl rfl rfl rfl (fun x121 e121 b122 o123 => ?_)
        refine sxo_loadF (j := 0) rfl rfl tf3 rfl rfl (fun _ => rfl) rfl rfl ?_
        refine sxo_assign rfl rfl rfl ?_
        refine sxo_nil ?_
        refine sxq_next ?_
        refine sxc_seq ?_
        refine sxc_block ?_
        refine sxc_seq ?_
        refine sxc_region ?_
        refine sxo_move rfl rfl rfl ?_
        refine sxo_call ent33 rfl rfl rfl (fun x127 e127 => C_gaps_node F x121 x127 e127) .nil (fun x127 e127 => ?_)
        intro _
        refine sxo_not rfl rfl rfl ?_
        refine sxo_assign rfl rfl rfl ?_
        refine sxo_nil ?_
        refine sxq_next ?_
        refine sxc_if rfl (fun h129 => ?_) (fun h129 => ?_)
        · refine sxc_seq ?_
          refine sxc_region ?_
          refine sxo_assign rfl rfl rfl ?_
          refine sxo_nil ?_
          refine sxq_next ?_
          refine sxc_ret ?_
          refine sxq_blkR ?_
          refine sxq_thenR ?_
          refine sxq_blkR ?_
          refine sxq_thenR ?_
          refine sxq_thenR ?_
          refine sxq_blkR ?_
          refine sxq_thenR ?_
          exact sxq_doneP () (res1 rfl rfl)
        · refine sxc_seq ?_
          refine sxc_region ?_
          refine sxo_move rfl rfl rfl ?_
          refine sxo_move rfl rfl rfl ?_
          refine sxo_leq rfl rfl rfl rfl ?_
          refine sxo_assign rfl rfl rfl ?_
          refine sxo_nil ?_
          refine sxq_next ?_
          refine sxc_if rfl (fun h128 => ?_) (fun h128 => ?_)
          · refine sxc_seq ?_
            refine sxc_region ?_
            refine sxo_assign rfl rfl rfl ?_
            refine sxo_nil ?_
            refine sxq_next ?_
            refine sxc_ret ?_
            refine sxq_blkR ?_
            refine sxq_thenR ?_
            refine sxq_blkR ?_
            refine sxq_thenR ?_
            refine sxq_thenR ?_
            refine sxq_blkR ?_
            refine sxq_thenR ?_
            exact sxq_doneP () (res1 rfl rfl)
          · refine sxc_skip ?_
            refine sxq_blkN ?_
            refine sxq_next ?_
            refine sxc_region ?_
            refine sxo_move rfl rfl rfl ?_
            refine sxo_assign rfl rfl rfl ?_
            refine sxo_nil ?_
            refine sxq_blkN ?_
            refine sxq_next ?_
            refine sxc_region ?_
            refine sxo_add rfl rfl rfl rfl ?_
            refine sxo_move rfl rfl rfl ?_
            refine sxo_nil ?_
            exact sxq_againP ((x121, iadd .i64 x89 1), ()) (hF := (fk_cons 1 rfl fk_nil))
      · refine sxc_exit ?_
        refine sxq_thenX ?_
        refine sxq_thenX ?_
        refine sxq_blkX ?_
        exact sxq_meetP ((), ())
    · rintro ⟨_, _⟩
      try dsimp only
      refine sxc_seq ?_
      refine sxc_region ?_
      refine sxo_assign rfl rfl rfl ?_
      refine sxo_nil ?_
      refine sxq_next ?_
      refine sxc_ret ?_
      exact sxq_doneP () (res1 rfl rfl)

theorem C_succ_check (F : Nat) (x1 : Int) (x2 : List Int) (a3 : Option Addr) (c4 : Nat) (x5 : Int) (x6 : Int) (x7 : Int) (r : Int) (hm : M_succ_check F x1 x2 x5 x6 x7 = some r) :
    Pure Try.prog 21 [.int .i64 x1, .slice a3 x2.length c4, .agg #[.int .i64 x5, .int .i64 x6, .int .i64 x7]] [Sl (eI .i64) 1 (.slice a3 x2.length c4) x2] Unit (fun _ => .int .i64 r) (fun _ => []) (fun _ => []) := by
  refine pure_of Try.func21 rfl Try.ntmps21 rfl hm (fun w => ?_)
  refine sxc_env (l' := [(0, .int .i64 x1), (1, .slice a3 x2.length c4), (2, .agg #[.int .i64 x5, .int .i64 x6, .int .i64 x7])]) rfl ?_
  refine sxc_seq ?_
  refine sxc_region ?_
  refine sxo_box rfl rfl rfl (fun g8 => ?_)
  refine sxo_assign rfl rfl rfl ?_
  refine sxo_nil ?_
  refine sxq_next ?_
  refine sxc_seq ?_
  refine sxc_seq ?_
  refine sxc_region ?_
  refine sxo_move rfl rfl rfl ?_
  refine sxo_lss rfl rfl rfl rfl ?_
  refine sxo_move rfl rfl rfl ?_
  refine sxo_case 3 (decide (x1 < 0)) [(1, .slice a3 x2.length c4), (5, .pointer (some ⟨g8, 0, none⟩)), (12, .bool ((decide (x1 < 0)) || (decide (1048576 < x1))))] (fun h11 => ?_) (fun h11 => ?_) ?_
  · refine sxo_take (os := _) rfl ?_
    refine sxo_isT (k := 9) rfl h11 ?_
    refine sxo_skip rfl rfl rfl ?_
    refine sxo_skip rfl rfl rfl ?_
    refine sxo_pick (b := true) rfl rfl rfl rfl ?_
    refine sxo_again (d := 12) (v := .bool ((decide (x1 < 0)) || (decide (1048576 < x1)))) rfl (by rw [h11]; simp only [Bool.true_or]) ?_
    refine sxo_nil ?_
    exact sxq_case (lk_cons rfl (lk_cons rfl (lk_cons rfl lk_nil)))
  · refine sxo_take (os := _) rfl ?_
    refine sxo_isF (k := 9) rfl h11 ?_
    refine sxo_move rfl rfl rfl ?_
    refine sxo_gtr rfl rfl rfl rfl ?_
    refine sxo_pick (b := false) rfl rfl rfl rfl ?_
    refine sxo_again (d := 12) (v := .bool ((decide (x1 < 0)) || (decide (1048576 < x1)))) rfl (by rw [h11]; simp only [Bool.false_or]) ?_
    refine sxo_nil ?_
    exact sxq_case (lk_cons rfl (lk_cons rfl (lk_cons rfl lk_nil)))
  refine sxo_take (os := _) rfl ?_
  refine sxo_nil ?_
  refine sxq_next ?_
  refine sxc_if rfl (fun h16 => ?_) (fun h16 => ?_)
  · refine sxc_seq ?_
    refine sxc_region ?_
    refine sxo_assign rfl rfl rfl ?_
    refine sxo_nil ?_
    refine sxq_next ?_
    refine sxc_ret ?_
    refine sxq_thenR ?_
    exact sxq_doneP () (res1 rfl rfl)
  · refine sxc_skip ?_
    refine sxq_next ?_
    refine sxc_seq ?_
    refine sxc_seq ?_
    refine sxc_region ?_
    refine sxo_fieldAddr rfl rfl ff24_0 rfl ?_
    refine sxo_loadB (i := 0) rfl rfl tf3 rfl rfl (fun _ => rfl) rfl rfl ?_
    refine sxo_gtr rfl rfl rfl rfl ?_
    refine sxo_nil ?_
    refine sxq_next ?_
    refine sxc_if rfl (fun h15 => ?_) (fun h15 => ?_)
    · refine sxc_seq ?_
      refine sxc_region ?_
      refine sxo_move rfl rfl rfl ?_
      refine sxo_call ent20 rfl rfl rfl (fun x14 e14 => C_gaps_Check F x2 a3 c4 x14 e14) (.consF 0 rfl .nil) (fun x14 e14 => ?_)
      intro _
      refine sxo_assign rfl rfl rfl ?_
      refine sxo_nil ?_
      refine sxq_next ?_
      refine sxc_ret ?_
      refine sxq_thenR ?_
      exact sxq_doneP () (res1 rfl rfl)
    · refine sxc_skip ?_
      refine sxq_next ?_
      refine sxc_seq ?_
      refine sxc_region ?_
      refine sxo_assign rfl rfl rfl ?_
      refine sxo_nil ?_
      refine sxq_next ?_
      refine sxc_ret ?_
      exact sxq_doneP () (res1 rfl rfl)

theorem C_bits_places (F : Nat) (x1 : Int) (x2 : List Int) (a3 : Option Addr) (c4 : Nat) (x5 : Int) (x6 : Int) (r : Unit) (hm : M_bits_places F x1 x2 x5 x6 = some r) :
    PureM Try.prog 30 [.agg #[.int .i64 x1, .slice a3 x2.length c4], .int .i64 x5, .int .i64 x6] [] [] [Sl (eI .u8) 1 (.slice a3 x2.length c4) x2] (Nat × Nat × Nat) (fun g => .func (.func 45) #[] #[.pointer (some ⟨g.1, 0, none⟩), .pointer (some ⟨g.2.1, 0, none⟩), .pointer (some ⟨g.2.2, 0, none⟩)]) (fun g => [⟨g.1, 3, [.int .i64 x5]⟩, ⟨g.2.1, 3, [.int .i64 x6]⟩, ⟨g.2.2, 27, [.int .i64 x1, .slice a3 x2.length c4]⟩]) (fun _ => []) := by
  refine pureM_of Try.func30 rfl Try.ntmps30 rfl hm (fun w => ?_)
  refine sxc_env (l' := [(0, .agg #[.int .i64 x1, .slice a3 x2.length c4]), (1, .int .i64 x5), (2, .int .i64 x6)]) rfl ?_
  refine sxc_seq ?_
  refine sxc_region ?_
  refine sxo_box rfl rfl rfl (fun g7 => ?_)
  refine sxo_box rfl rfl rfl (fun g8 => ?_)
  refine sxo_box rfl rfl rfl (fun g9 => ?_)
  refine sxo_assign rfl rfl rfl ?_
  refine sxo_nil ?_
  refine sxq_next ?_
  refine sxc_seq ?_
  refine sxc_region ?_
  refine sxo_makeFunc rfl rfl rfl ?_
  refine sxo_assign rfl rfl rfl ?_
  refine sxo_nil ?_
  refine sxq_next ?_
  refine sxc_ret ?_
  exact sxq_doneM (g8, g9, g7) (res1 rfl rfl) (hB := fun h => by subst h; exact (.cons 1 rfl (.cons 0 rfl (.cons 0 rfl .nil))))

theorem C_bits_writer_bit (F : Nat) (g1 : Nat) (x2 : Int) (x3 : List Int) (a4 : Option Addr) (c5 : Nat) (x6 : Int) (r : (Int × List Int)) (hm : M_bits_writer_bit F x2 x3 x6 = some r) :
    PureM Try.prog 31 [.pointer (some ⟨g1, 0, none⟩), .int .u64 x6] [⟨g1, 62, [.int .i64 x2, .slice a4 x3.length c5]⟩] [Ro (eI .u8) 5 1 (.slice a4 x3.length c5) x3] [] (Option Addr × Nat) (fun _ => .tuple #[]) (fun g => [⟨g1, 62, [.int .i64 r.1, .slice g.1 r.2.length g.2]⟩]) (fun g => [Ro (eI .u8) 5 1 (.slice g.1 r.2.length g.2) r.2]) := by
  refine pureM_of Try.func31 rfl Try.ntmps31 rfl hm (fun w => ?_)
  refine sxc_env (l' := [(0, .pointer (some ⟨g1, 0, none⟩)), (1, .int .u64 x6)]) rfl ?_
  refine sxc_join (fun ((x15, (a13, c14)) : (List Int × (Option Addr × Nat))) => [(0, .pointer (some ⟨g1, 0, none⟩)), (1, .int .u64 x6)]) (fun ((x15, (a13, c14)) : (List Int × (Option Addr × Nat))) => [⟨g1, 62, [.int .i64 x2, .slice a13 x15.length c14]⟩]) (fun ((x15, (a13, c14)) : (List Int × (Option Addr × Nat))) => [Ro (eI .u8) 5 1 (.slice a13 x15.length c14) x15]) (fun ((x15, (a13, c14)) : (List Int × (Option Addr × Nat))) => []) (fun ((x15, _) : (List Int × (Option Addr × Nat))) => M_bits_writer_bit_j1 F x2 x6 x15) ?_ ?_
  · refine sxc_seq ?_
    refine sxc_region ?_
    refine sxo_move rfl rfl rfl ?_
    refine sxo_nilCheck rfl rfl rfl ?_
    refine sxo_fieldAddr rfl rfl ff62_0 rfl ?_
    refine sxo_fieldAddr rfl rfl ff27_0 rfl ?_
    refine sxo_loadB (i := 0) rfl rfl tf3 rfl rfl (fun _ => rfl) rfl rfl ?_
    refine sxo_rem rfl rfl rfl rfl rfl ?_
    refine sxo_eql rfl rfl rfl rfl ?_
    refine sxo_nil ?_
    refine sxq_next ?_
    refine sxc_if rfl (fun h49 => ?_) (fun h49 => ?_)
    · refine sxc_region ?_
      refine sxo_move rfl rfl rfl ?_
      refine sxo_move rfl rfl rfl ?_
      refine sxo_nilCheck rfl rfl rfl ?_
      refine sxo_fieldAddr rfl rfl ff62_0 rfl ?_
      refine sxo_fieldAddr rfl rfl ff27_1 rfl ?_
      refine sxo_loadB (i := 0) rfl rfl tf25 rfl rfl (fun _ => rfl) rfl rfl ?_
      refine sxo_slit (vs := [.int .u8 0]) (ys := ([0] : List Int)) (eI_ok .u8) (by decide) rfl Try.underlying25 tf5 rfl rfl rfl rfl rfl (by decide) (fun a44 c45 => ?_)
      refine sxo_app 1 (eI_ok .u8) rfl Try.underlying25 tf5 rfl rfl rfl rfl rfl (.inl ⟨0, _, rfl⟩) rfl rfl (fun x46 e46 a47 c48 => ?_)
      refine sxo_nilCheck rfl rfl rfl ?_
      refine sxo_fieldAddr rfl rfl ff62_0 rfl ?_
      refine sxo_fieldAddr rfl rfl ff27_1 rfl ?_
      refine sxo_storeB (i := 0) rfl rfl rfl tf25 rfl rfl rfl rfl rfl ?_
      refine sxo_nil ?_
      exact sxq_meetP (x46, (a47, c48)) (hB := (.cons 0 rfl .nil)) (hR := (.cons 0 rfl .nil))
    · refine sxc_skip ?_
      exact sxq_meetP (x3, (a4, c5)) (hB := (.cons 0 rfl .nil)) (hR := (.cons 0 rfl .nil))
  · rintro ⟨x15, ⟨a13, c14⟩⟩
    try dsimp only
    refine sxc_seq ?_
    refine sxc_idxO (j := 0) rfl (fun x30 e30 g31 h32 => ?_)
    replace h32 : a13 = some ⟨g31, 0, none⟩ := h32
    have h33 := own_of (k := x15.length) (c := c14) h32
    refine sxc_chk (fun h34 => ?_)
    refine sxc_idxO (j := 0) rfl (fun x36 e36 g37 h38 => ?_)
    replace h38 : a13 = some ⟨g37, 0, none⟩ := h38
    have h39 := own_of (k := x15.length) (c := c14) h38
    refine sxb_draw mixed [25] [⟨g1, 62, [.int .i64 x2, .slice a13 x15.length c14]⟩] [CellsAt g31 ((iquo .i64 x2 8).toNat * 1) ((eI .u8) x30), CellsAt g37 ((iquo .i64 x2 8).toNat * 1) ((eI .u8) x36)] (.cons 0 rfl .nil) (gk_R 0 rfl (at_row (eI_ok .u8) e30 h32) (gk_R 0 rfl (at_row (eI_ok .u8) e36 h38) gk_nil)) 26 rfl ?_
    refine sxb_takeP 0 (.pointer (some ⟨g1, 0, none⟩)) rfl rfl rfl (yv_pv rfl) ?_
    refine sxb_takeP 1 (.pointer (some ⟨g1, 0, none⟩)) rfl rfl rfl (yv_pv rfl) ?_
    refine sxb_takeP 2 (.pointer (some ⟨g1, 0, none⟩)) rfl rfl rfl (yv_fieldAddr rfl ff62_0) ?_
    refine sxb_takeP 3 (.pointer (some ⟨g1, 1, none⟩)) rfl rfl rfl (yv_fieldAddr rfl ff27_1) ?_
    refine sxb_takeB 4 (.slice a13 x15.length c14) rfl rfl rfl (yv_loadB (i := 0) rfl tf25 rfl rfl (fun _ => rfl) rfl) ?_
    refine sxb_takeP 5 (.pointer (some ⟨g1, 0, none⟩)) rfl rfl rfl (yv_pv rfl) ?_
    refine sxb_takeP 6 (.pointer (some ⟨g1, 0, none⟩)) rfl rfl rfl (yv_pv rfl) ?_
    refine sxb_takeP 7 (.pointer (some ⟨g1, 0, none⟩)) rfl rfl rfl (yv_fieldAddr rfl ff62_0) ?_
    refine sxb_takeP 8 (.pointer (some ⟨g1, 0, none⟩)) rfl rfl rfl (yv_fieldAddr rfl ff27_0) ?_
    refine sxb_takeB 9 (.int .i64 x2) rfl rfl rfl (yv_loadB (i := 0) rfl tf3 rfl rfl (fun _ => rfl) rfl) ?_
    refine sxb_takeP 10 (.int .i64 (iquo .i64 x2 8)) rfl rfl rfl (yv_quo rfl rfl rfl) ?_
    refine sxb_again (d := 26) (v := .slice (some ⟨g31, 0, none⟩) x15.length c14) rfl (by rw [h32] <;> rfl) ?_
    refine sxb_takeP 11 (.pointer (some ⟨g31, (iquo .i64 x2 8).toNat * 1, none⟩)) rfl rfl rfl (yv_idxO Try.underlying25 tf5 rfl rfl (idx_get e30).1 (idx_lt e30)) ?_
    refine sxb_again (d := 26) (v := .slice a13 x15.length c14) rfl (by rw [h32] <;> rfl) ?_
    refine sxb_take 12 (.int .u8 x30) [[25]] rfl rfl rfl (yv_loadF (j := 0) rfl tf5 rfl rfl (fun _ => rfl) rfl) ?_
    refine sxb_takeP 13 (.int .u64 x6) rfl rfl rfl (yv_pv rfl) ?_
    refine sxb_takeP 14 (.int .u64 (ishl .u64 x6 7)) rfl rfl rfl (yv_shl rfl rfl rfl) ?_
    refine sxb_takeP 15 (.int .u8 (iconv .u8 (ishl .u64 x6 7))) rfl rfl rfl (yv_conv Try.underlying36 Try.underlying5 rfl) ?_
    refine sxb_takeP 16 (.pointer (some ⟨g1, 0, none⟩)) rfl rfl rfl (yv_pv rfl) ?_
    refine sxb_takeP 17 (.pointer (some ⟨g1, 0, none⟩)) rfl rfl rfl (yv_pv rfl) ?_
    refine sxb_takeP 18 (.pointer (some ⟨g1, 0, none⟩)) rfl rfl rfl (yv_fieldAddr rfl ff62_0) ?_
    refine sxb_takeP 19 (.pointer (some ⟨g1, 0, none⟩)) rfl rfl rfl (yv_fieldAddr rfl ff27_0) ?_
    refine sxb_takeB 20 (.int .i64 x2) rfl rfl rfl (yv_loadB (i := 0) rfl tf3 rfl rfl (fun _ => rfl) rfl) ?_
    refine sxb_takeP 21 (.int .i64 (irem x2 8)) rfl rfl rfl (yv_rem rfl rfl rfl) ?_
    refine sxb_takeP 22 (.int .u8 (ishr .u8 (iconv .u8 (ishl .u64 x6 7)) (irem x2 8))) rfl rfl rfl (yv_shr rfl rfl h34) ?_
    refine sxb_takeP 23 (.int .u8 (ior .u8 x30 (ishr .u8 (iconv .u8 (ishl .u64 x6 7)) (irem x2 8)))) rfl rfl rfl (yv_pv rfl) ?_
    refine sxb_again (d := 26) (v := .slice (some ⟨g37, 0, none⟩) x15.length c14) rfl (by rw [h38] <;> rfl) ?_
    refine sxb_takeP 24 (.pointer (some ⟨g37, (iquo .i64 x2 8).toNat * 1, none⟩)) rfl rfl rfl (yv_idxO Try.underlying25 tf5 rfl rfl (idx_get e36).1 (idx_lt e36)) ?_
    refine sxb_again (d := 26) (v := .slice a13 x15.length c14) rfl (by rw [h38] <;> rfl) ?_
    refine sxb_step 25 rfl (by kernel_rfl) rfl ?_
    refine sxo_storeL (j := 0) (y' := ior .u8 x30 (ishr .u8 (iconv .u8 (ishl .u64 x6 7)) (irem x2 8))) (eI_ok .u8) rfl rfl rfl tf5 rfl (own_of h38) (idx_get e36).2.1 rfl (fun x41 e41 h42 => ?_)
    have h43 : x41.length = x15.length := by rw [← e41, List.length_set]
    refine sxo_again (d := 26) (v := .slice a13 x41.length c14) rfl h42 ?_
    refine sxo_blkAgain (i := 0) (cs' := [.int .i64 x2, .slice a13 x41.length c14]) rfl (by rw [h42] <;> rfl) ?_
    refine sxo_nil ?_
    refine sxq_anyW 25 rfl (by kernel_rfl) (.cons 0 (by rw [h43]; rfl) .nil) ?_
    refine sxb_done (by kernel_rfl) ?_
    refine sxq_np ?_ (by intro c h; cases h)
    refine sxq_next ?_
    refine sxc_region ?_
    refine sxo_move rfl rfl rfl ?_
    refine sxo_nilCheck rfl rfl rfl ?_
    refine sxo_fieldAddr rfl rfl ff62_0 rfl ?_
    refine sxo_fieldAddr rfl rfl ff27_0 rfl ?_
    refine sxo_loadB (i := 0) rfl rfl tf3 rfl rfl (fun _ => rfl) rfl rfl ?_
    refine sxo_add rfl rfl rfl rfl ?_
    refine sxo_nilCheck rfl rfl rfl ?_
    refine sxo_fieldAddr rfl rfl ff62_0 rfl ?_
    refine sxo_fieldAddr rfl rfl ff27_0 rfl ?_
    refine sxo_storeB (i := 0) rfl rfl rfl tf3 rfl rfl rfl rfl rfl ?_
    refine sxo_nil ?_
    exact sxq_doneM (a13, c14) (res0 rfl) (hB := fun h => by subst h; exact (.cons 0 rfl .nil)) (hR := fun h => by subst h; exact (.cons 0 rfl .nil))

theorem C_slices_Clone_byte_byte (F : Nat) (x1 : List Int) (a2 : Option Addr) (c3 : Nat) (r : List Int) (hm : M_slices_Clone_byte_byte F x1 = some r) :
    Pure Try.prog 55 [.slice a2 x1.length c3] [Sl (eI .u8) 1 (.slice a2 x1.length c3) x1] (Option Addr × Nat) (fun g => .slice g.1 r.length g.2) (fun g => [Ro (eI .u8) 5 1 (.slice g.1 r.length g.2) r]) (fun _ => []) := by
  refine pure_of Try.func55 rfl Try.ntmps55 rfl hm (fun w => ?_)
  refine sxc_env (l' := [(0, .slice a2 x1.length c3)]) rfl ?_
  refine sxc_seq ?_
  refine sxc_region ?_
  refine sxo_assign rfl rfl rfl ?_
  refine sxo_nil ?_
  refine sxq_next ?_
  refine sxc_seq ?_
  refine sxc_seq ?_
  refine sxc_region ?_
  refine sxo_move rfl rfl rfl ?_
  refine sxo_eqnil rfl Try.underlying25 rfl rfl rfl ?_
  refine sxo_nil ?_
  refine sxq_next ?_
  refine sxc_cond rfl (fun h11 => ?_) (fun h11 => ?_)
  · refine sxc_nilx 0 (eI_ok .u8) (by decide) rfl h11 (fun h12 => ?_)
    subst h12
    refine sxc_meq (m' := some ([] : List Int)) rfl ?_
    refine sxc_seq ?_
    refine sxc_region ?_
    refine sxo_assign rfl rfl rfl ?_
    refine sxo_nil ?_
    refine sxq_next ?_
    refine sxc_ret ?_
    refine sxq_thenR ?_
    refine sxq_nilrow Int (eI .u8) 5 1 ?_
    exact sxq_doneP (none, 0) (res1 rfl rfl) (fun h => by subst h; exact (.cons 0 rfl .nil))
  · refine sxc_skip ?_
    refine sxq_next ?_
    refine sxc_seq ?_
    refine sxc_region ?_
    refine sxo_slit (vs := []) (ys := ([] : List Int)) (eI_ok .u8) (by decide) rfl Try.underlying25 tf5 rfl rfl rfl rfl rfl (by decide) (fun a6 c7 => ?_)
    refine sxo_move rfl rfl rfl ?_
    refine sxo_app 0 (eI_ok .u8) rfl Try.underlying25 tf5 rfl rfl rfl rfl rfl (.inr ⟨0, rfl⟩) rfl rfl (fun x8 e8 a9 c10 => ?_)
    refine sxo_assign rfl rfl rfl ?_
    refine sxo_nil ?_
    refine sxq_next ?_
    refine sxc_ret ?_
    exact sxq_doneP (a9, c10) (res1 rfl rfl) (fun h => by subst h; exact (.cons 0 rfl .nil))

theorem C_bits_own (F : Nat) (x1 : Int) (x2 : List Int) (a3 : Option Addr) (c4 : Nat) (r : (Int × List Int)) (hm : M_bits_own F x1 x2 = some r) :
    PureM Try.prog 43 [.agg #[.int .i64 x1, .slice a3 x2.length c4]] [] [] [Sl (eI .u8) 1 (.slice a3 x2.length c4) x2] ((Option Addr × Nat) × Nat) (fun g => .pointer (some ⟨g.2, 0, none⟩)) (fun g => [⟨g.2, 62, [.int .i64 r.1, .slice g.1.1 r.2.length g.1.2]⟩]) (fun g => [Ro (eI .u8) 5 1 (.slice g.1.1 r.2.length g.1.2) r.2]) := by
  refine pureM_of Try.func43 rfl Try.ntmps43 rfl hm (fun w => ?_)
  refine sxc_env (l' := [(0, .agg #[.int .i64 x1, .slice a3 x2.length c4])]) rfl ?_
  refine sxc_seq ?_
  refine sxc_region ?_
  refine sxo_box rfl rfl rfl (fun g5 => ?_)
  refine sxo_assign rfl rfl rfl ?_
  refine sxo_nil ?_
  refine sxq_next ?_
  refine sxc_seq ?_
  refine sxb_draw mixed [] [⟨g5, 27, [.int .i64 x1, .slice a3 x2.length c4]⟩] [Sl (eI .u8) 1 (.slice a3 x2.length c4) x2] (.cons 0 rfl .nil) (gk_F 0 rfl gk_nil) 9 rfl ?_
  refine sxb_takeP 0 (.pointer (some ⟨g5, 0, none⟩)) rfl rfl rfl (yv_fieldAddr rfl ff27_0) ?_
  refine sxb_takeB 1 (.int .i64 x1) rfl rfl rfl (yv_loadB (i := 0) rfl tf3 rfl rfl (fun _ => rfl) rfl) ?_
  refine sxb_takeP 2 (.pointer (some ⟨g5, 1, none⟩)) rfl rfl rfl (yv_fieldAddr rfl ff27_1) ?_
  refine sxb_takeB 3 (.slice a3 x2.length c4) rfl rfl rfl (yv_loadB (i := 0) rfl tf25 rfl rfl (fun _ => rfl) rfl) ?_
  refine sxb_step 4 rfl (by kernel_rfl) rfl ?_
  refine sxo_call ent55 rfl rfl rfl (fun x10 e10 => C_slices_Clone_byte_byte F x2 a3 c4 x10 e10) (.consF 0 rfl .nil) (fun x10 e10 => ?_)
  rintro ⟨a11, c12⟩
  refine sxo_nil ?_
  refine sxq_anyB (.cons 0 rfl .nil) (gk_F 0 rfl gk_nil) ?_
  refine sxb_step 5 rfl (by kernel_rfl) rfl ?_
  refine sxo_build (cells := [.int .i64 x1, .slice a11 x10.length c12]) rfl st27 rfl (by kernel_rfl) rfl ?_
  refine sxo_nil ?_
  refine sxq_anyB (.cons 0 rfl .nil) (gk_F 0 rfl gk_nil) ?_
  refine sxb_step 6 rfl (by kernel_rfl) rfl ?_
  refine sxo_build (cells := [.int .i64 x1, .slice a11 x10.length c12]) rfl st62 rfl (by kernel_rfl) rfl ?_
  refine sxo_nil ?_
  refine sxq_anyB (.cons 0 rfl .nil) (gk_F 0 rfl gk_nil) ?_
  refine sxb_step 7 rfl (by kernel_rfl) rfl ?_
  refine sxo_box rfl rfl rfl (fun g13 => ?_)
  refine sxo_nil ?_
  refine sxq_anyB (.cons 1 rfl .nil) (gk_F 0 rfl gk_nil) ?_
  refine sxb_takeP 8 (.pointer (some ⟨g13, 0, none⟩)) rfl rfl rfl (yv_pv rfl) ?_
  refine sxb_done (by kernel_rfl) ?_
  refine sxq_np ?_ (by intro c h; cases h)
  refine sxq_next ?_
  refine sxc_ret ?_
  exact sxq_doneM ((a11, c12), g13) (res1 rfl rfl) (hB := fun h => by subst h; exact (.cons 0 rfl .nil)) (hR := fun h => by subst h; exact (.cons 0 rfl .nil))

theorem C_bits_At (F : Nat) (x1 : Int) (x2 : List Int) (a3 : Option Addr) (c4 : Nat) (x5 : Int) (r : Int) (hm : M_bits_At F x1 x2 x5 = some r) :
    Pure Try.prog 46 [.agg #[.int .i64 x1, .slice a3 x2.length c4], .int .i64 x5] [Sl (eI .u8) 1 (.slice a3 x2.length c4) x2] Unit (fun _ => .int .u64 r) (fun _ => []) (fun _ => []) := by
  refine pure_of Try.func46 rfl Try.ntmps46 rfl hm (fun w => ?_)
  refine sxc_env (l' := [(0, .agg #[.int .i64 x1, .slice a3 x2.length c4]), (1, .int .i64 x5)]) rfl ?_
  refine sxc_seq ?_
  refine sxc_region ?_
  refine sxo_box rfl rfl rfl (fun g6 => ?_)
  refine sxo_assign rfl rfl rfl ?_
  refine sxo_nil ?_
  refine sxq_next ?_
  refine sxc_seq ?_
  refine sxc_region ?_
  refine sxo_fieldAddr rfl rfl ff27_1 rfl ?_
  refine sxo_loadB (i := 0) rfl rfl tf25 rfl rfl (fun _ => rfl) rfl rfl ?_
  refine sxo_move rfl rfl rfl ?_
  refine sxo_quo rfl rfl rfl rfl rfl ?_
  refine sxo_indexF (j := 0) (eI_ok .u8) (by decide) rfl Try.underlying25 tf5 rfl rfl rfl rfl (fun x7 e7 b8 o9 => ?_)
  refine sxo_loadF (j := 0) rfl rfl tf5 rfl rfl (fun _ => rfl) rfl rfl ?_
  refine sxo_move rfl rfl rfl ?_
  refine sxo_rem rfl rfl rfl rfl rfl ?_
  refine sxo_sub rfl rfl rfl rfl ?_
  refine sxo_chk (fun h10 => ?_)
  refine sxo_shr rfl rfl rfl rfl h10 ?_
  refine sxo_conv rfl Try.underlying5 Try.underlying36 rfl rfl ?_
  refine sxo_and rfl rfl rfl rfl ?_
  refine sxo_assign rfl rfl rfl ?_
  refine sxo_lett (fun x11 e11 => ?_)
  refine sxo_again (d := 4) (v := .int .u64 x11) rfl (by rw [e11] <;> rfl) ?_
  refine sxo_nil ?_
  refine sxq_next ?_
  refine sxc_ret ?_
  exact sxq_doneP () (res1 rfl rfl)

theorem C_bits_places_1 (F : Nat) {σ τ : Type} {J : Rounds σ τ} {yy : σ → Int → Option (σ ⊕ τ)} {L : Nat} (hY : YieldC Try.prog L (fun (p : Int) => [.int .u64 p]) J yy) (s0 : σ) (gs0 : J.γ) (g1 : Nat) (x2 : Int) (g3 : Nat) (x4 : Int) (g5 : Nat) (x6 : Int) (x7 : List Int) (a8 : Option Addr) (c9 : Nat) (r : σ ⊕ τ) (hm : M_bits_places_1 F yy x2 x4 x6 x7 s0 = some r) :
    PureM Try.prog 45 ([.func (.yield L) #[] #[], .pointer (some ⟨g1, 0, none⟩), .pointer (some ⟨g3, 0, none⟩), .pointer (some ⟨g5, 0, none⟩)]) ([⟨g1, 3, [.int .i64 x2]⟩, ⟨g3, 3, [.int .i64 x4]⟩, ⟨g5, 27, [.int .i64 x6, .slice a8 x7.length c9]⟩] ++ J.IB s0 gs0) (J.IR s0 gs0) [J.F, Sl (eI .u8) 1 (.slice a8 x7.length c9) x7] (J.G r) (fun _ => .tuple #[]) (fun g => [⟨g1, 3, [.int .i64 x2]⟩, ⟨g3, 3, [.int .i64 x4]⟩, ⟨g5, 27, [.int .i64 x6, .slice a8 x7.length c9]⟩] ++ J.bs r g) (fun g => J.rs r g) := by
  refine pureM_of Try.func45 rfl Try.ntmps45 rfl hm (fun w => ?_)
  refine sxc_env (l' := [(0, .func (.yield L) #[] #[]), (1, .pointer (some ⟨g1, 0, none⟩)), (2, .pointer (some ⟨g3, 0, none⟩)), (3, .pointer (some ⟨g5, 0, none⟩))]) rfl ?_
  refine sxc_seq ?_
  refine sxc_region ?_
  refine sxo_loadB (i := 0) rfl rfl tf3 rfl rfl (fun _ => rfl) rfl rfl ?_
  refine sxo_assign rfl rfl rfl ?_
  refine sxo_nil ?_
  refine sxq_next ?_
  refine sxc_block ?_
  refine sxc_loopP (fun (((x22, x23), g24) : ((Int × σ) × J.γ)) => [(0, .func (.yield L) #[] #[]), (2, .pointer (some ⟨g3, 0, none⟩)), (3, .pointer (some ⟨g5, 0, none⟩)), (5, .int .i64 x22)]) (fun (((x22, x23), g24) : ((Int × σ) × J.γ)) => [⟨g1, 3, [.int .i64 x2]⟩, ⟨g3, 3, [.int .i64 x4]⟩, ⟨g5, 27, [.int .i64 x6, .slice a8 x7.length c9]⟩] ++ J.IB x23 g24) (fun (((x22, x23), g24) : ((Int × σ) × J.γ)) => [] ++ J.IR x23 g24) (fun (((x22, x23), g24) : ((Int × σ) × J.γ)) => [Sl (eI .u8) 1 (.slice a8 x7.length c9) x7, J.F]) (fun k (s : ((Int × σ) × J.γ)) => M_bits_places_1_l1 F yy x4 x6 x7 k s.1) ((x2, s0), gs0) F ?_ (hB := (.cons 0 rfl (.cons 0 rfl (.cons 0 rfl (pick_rest 0 rfl))))) (hR := (pick_rest 0 rfl)) (hF := (fk_cons 1 rfl (fk_cons 0 rfl fk_nil)))
  intro k37
  rintro ⟨⟨x22, x23⟩, g24⟩
  try dsimp only
  refine sxc_meq (m' := M_bits_places_1_b1 F yy x4 x6 x7 (M_bits_places_1_l1 F yy x4 x6 x7 k37) x22 x23) rfl ?_
  refine sxc_seq ?_
  refine sxc_seq ?_
  refine sxc_region ?_
  refine sxo_move rfl rfl rfl ?_
  refine sxo_loadB (i := 1) rfl rfl tf3 rfl rfl (fun _ => rfl) rfl rfl ?_
  refine sxo_lss rfl rfl rfl rfl ?_
  refine sxo_nil ?_
  refine sxq_next ?_
  refine sxc_if rfl (fun h49 => ?_) (fun h49 => ?_)
  · refine sxc_skip ?_
    refine sxq_next ?_
    refine sxc_seq ?_
    refine sxc_block ?_
    refine sxc_seq ?_
    refine sxc_region ?_
    refine sxo_move rfl rfl rfl ?_
    refine sxo_loadB (i := 2) rfl rfl tf27 rfl rfl (by simp) rfl rfl ?_
    refine sxo_move rfl rfl rfl ?_
    refine sxo_call ent46 rfl rfl rfl (fun x44 e44 => C_bits_At F x6 x7 a8 c9 x22 x44 e44) (.consF 0 rfl .nil) (fun x44 e44 => ?_)
    intro _
    refine sxo_yield hY x23 x44 g24 (B1 := [⟨g1, 3, [.int .i64 x2]⟩, ⟨g3, 3, [.int .i64 x4]⟩, ⟨g5, 27, [.int .i64 x6, .slice a8 x7.length c9]⟩]) (R1 := []) (j := 1) rfl rfl rfl rfl rfl rfl rfl (fun x45 _ g47 => ?_) (fun x46 _ g47 => ?_)
    · refine sxo_not rfl rfl rfl ?_
      refine sxo_nil ?_
      refine sxq_next ?_
      refine sxc_cond (b := false) rfl (fun h => by cases h) (fun _ => ?_)
      refine sxc_skip ?_
      refine sxq_blkN ?_
      refine sxq_next ?_
      refine sxc_region ?_
      refine sxo_move rfl rfl rfl ?_
      refine sxo_add rfl rfl rfl rfl ?_
      refine sxo_assign rfl rfl rfl ?_
      refine sxo_nil ?_
      exact sxq_againP ((iadd .i64 x22 1, x45), g47) (hB := (.cons 0 rfl (.cons 0 rfl (.cons 0 rfl (pick_rest 0 rfl))))) (hR := (pick_rest 0 rfl)) (hF := (fk_cons 0 rfl (fk_cons 1 rfl fk_nil)))
    · refine sxo_not rfl rfl rfl ?_
      refine sxo_nil ?_
      refine sxq_next ?_
      refine sxc_cond (b := true) rfl (fun _ => ?_) (fun h => by cases h)
      refine sxc_ret ?_
      refine sxq_blkR ?_
      refine sxq_thenR ?_
      refine sxq_thenR ?_
      refine sxq_blkR ?_
      exact sxq_doneI (B0 := [⟨g1, 3, [.int .i64 x2]⟩, ⟨g3, 3, [.int .i64 x4]⟩, ⟨g5, 27, [.int .i64 x6, .slice a8 x7.length c9]⟩]) (x := .inr x46) g47 (.inl rfl) (res0 rfl) (.cons 0 rfl (.cons 0 rfl (.cons 0 rfl (pick_rest 0 rfl)))) (pick_rest 0 rfl)
  · refine sxc_exit ?_
    refine sxq_thenX ?_
    refine sxq_thenX ?_
    refine sxq_blkX ?_
    exact sxq_doneI (B0 := [⟨g1, 3, [.int .i64 x2]⟩, ⟨g3, 3, [.int .i64 x4]⟩, ⟨g5, 27, [.int .i64 x6, .slice a8 x7.length c9]⟩]) (x := .inl x23) g24 (.inr rfl) (res0 rfl) (.cons 0 rfl (.cons 0 rfl (.cons 0 rfl (pick_rest 0 rfl)))) (pick_rest 0 rfl)

theorem C_bits_Both (F : Nat) (x1 : Int) (x2 : List Int) (a3 : Option Addr) (c4 : Nat) (x5 : Int) (x6 : List Int) (a7 : Option Addr) (c8 : Nat) (r : (Int × List Int)) (hm : M_bits_Both F x1 x2 x5 x6 = some r) :
    PureM Try.prog 27 [.agg #[.int .i64 x1, .slice a3 x2.length c4], .agg #[.int .i64 x5, .slice a7 x6.length c8]] [] [] [Sl (eI .u8) 1 (.slice a3 x2.length c4) x2, Sl (eI .u8) 1 (.slice a7 x6.length c8) x6] (Option Addr × Nat) (fun g => .agg #[.int .i64 r.1, .slice g.1 r.2.length g.2]) (fun _ => []) (fun g => [Ro (eI .u8) 5 1 (.slice g.1 r.2.length g.2) r.2]) := by
  refine pureX_of Try.func27 rfl Try.ntmps27 rfl hm (fun w => ?_)
  refine sxc_env (l' := [(0, .agg #[.int .i64 x1, .slice a3 x2.length c4]), (1, .agg #[.int .i64 x5, .slice a7 x6.length c8])]) rfl ?_
  refine sxc_seq ?_
  refine sxc_region ?_
  refine sxo_box rfl rfl rfl (fun g9 => ?_)
  refine sxo_box rfl rfl rfl (fun g10 => ?_)
  refine sxo_alloc rfl tf27 rfl (fun g11 => ?_)
  refine sxo_nil ?_
  refine sxq_next ?_
  refine sxc_seq ?_
  refine sxc_region ?_
  refine sxo_loadB (i := 2) rfl rfl tf27 rfl rfl (by simp) rfl rfl ?_
  refine sxo_callM ent43 rfl rfl rfl (fun x12 e12 => C_bits_own F x1 x2 a3 c4 x12 e12) .nil .nil (.consF 0 rfl .nil) (fun x12 e12 => ?_)
  rintro ⟨⟨a13, c14⟩, g15⟩
  refine sxo_alloc rfl tf60 rfl (fun g16 => ?_)
  refine sxo_storeB (i := 0) rfl rfl rfl tf60 rfl rfl rfl rfl rfl ?_
  refine sxo_nil ?_
  refine sxq_next ?_
  refine sxc_seq ?_
  refine sxc_seq ?_
  refine sxc_region ?_
  refine sxo_loadB (i := 3) rfl rfl tf27 rfl rfl (by simp) rfl rfl ?_
  refine sxo_fieldAddr rfl rfl ff27_0 rfl ?_
  refine sxo_loadB (i := 3) rfl rfl tf3 rfl rfl (fun _ => rfl) rfl rfl ?_
  refine sxo_callM ent30 rfl rfl rfl (fun x37 e37 => C_bits_places F x5 x6 a7 c8 0 x5 x37 e37) .nil .nil (.consF 1 rfl .nil) (fun x37 e37 => ?_)
  rintro ⟨g38, g39, g40⟩
  refine sxo_nil ?_
  refine sxq_next ?_
  refine sxc_block ?_
  refine sxc_range (encs := (fun (p : Int) => [.int .u64 p])) (y := (fun ((x45, x48) : (Int × List Int)) (x53 : Int) => M_bits_Both_r2 F x45 x48 x53)) (lb := [.pointer (some ⟨g38, 0, none⟩), .pointer (some ⟨g39, 0, none⟩), .pointer (some ⟨g40, 0, none⟩)]) (fun ((x45, x48) : (Int × List Int)) ((a46, c47) : (Option Addr × Nat)) => [⟨g16, 60, [.pointer (some ⟨g15, 0, none⟩)]⟩, ⟨g15, 62, [.int .i64 x45, .slice a46 x48.length c47]⟩, ⟨g11, 27, [.int .i64 0, .slice none 0 0]⟩, ⟨g10, 27, [.int .i64 x5, .slice a7 x6.length c8]⟩, ⟨g9, 27, [.int .i64 x1, .slice a3 x2.length c4]⟩]) (fun ((x45, x48) : (Int × List Int)) ((a46, c47) : (Option Addr × Nat)) => [Ro (eI .u8) 5 1 (.slice a46 x48.length c47) x48]) (fun (_ : Empty) (_ : Unit) => []) (fun (_ : Empty) (_ : Unit) => []) (fun _ => .skip) (x12.1, x12.2) (a13, c14) rfl ent45 (fun _ => rfl) rfl (.cons 0 rfl (.cons 0 rfl (.cons 0 rfl .nil))) (.cons 0 rfl (.cons 0 rfl (.cons 0 rfl (.cons 0 rfl (.cons 0 rfl .nil))))) (.cons 0 rfl .nil) (.consF 1 rfl .nil) (fun z hz _ _ _ hY => C_bits_places_1 F hY (x12.1, x12.2) (a13, c14) g38 0 g39 x5 g40 x5 x6 a7 c8 z hz) ?_ ?_ ?_
  · rintro rc1 L1 D1 ⟨x45, x48⟩ ⟨a46, c47⟩ x53 z w M _
    try dsimp only
    refine sxc_less [(0, .agg #[.int .i64 x1, .slice a3 x2.length c4]), (1, .agg #[.int .i64 x5, .slice a7 x6.length c8]), (2, .pointer (some ⟨g9, 0, none⟩)), (3, .pointer (some ⟨g10, 0, none⟩)), (4, .pointer (some ⟨g11, 0, none⟩)), (5, .pointer (some ⟨g16, 0, none⟩)), (7, .agg #[.int .i64 x1, .slice a3 x2.length c4]), (8, .pointer (some ⟨g15, 0, none⟩)), (9, .agg #[.int .i64 x5, .slice a7 x6.length c8]), (10, .pointer (some ⟨g10, 0, none⟩)), (11, .int .i64 x5), (12, .func (.func 45) #[] #[.pointer (some ⟨g38, 0, none⟩), .pointer (some ⟨g39, 0, none⟩), .pointer (some ⟨g40, 0, none⟩)]), (13, .int .u64 x53)] (lk_cons rfl (lk_cons rfl (lk_cons rfl (lk_cons rfl (lk_cons rfl (lk_cons rfl (lk_cons rfl (lk_cons rfl (lk_cons rfl (lk_cons rfl (lk_cons rfl (lk_cons rfl (lk_cons rfl lk_nil))))))))))))) ?_
    refine sxc_region ?_
    refine sxo_assign rfl rfl rfl ?_
    refine sxo_nil ?_
    refine sxq_begin (i := 5) rfl ?_
    refine sxc_block ?_
    refine sxc_region ?_
    refine sxo_loadB (i := 0) rfl rfl tf60 rfl rfl (fun _ => rfl) rfl rfl ?_
    refine sxo_move rfl rfl rfl ?_
    refine sxo_callM ent31 rfl rfl rfl (fun x54 e54 => C_bits_writer_bit F g15 x45 x48 a46 c47 x53 x54 e54) (.cons 1 rfl .nil) (.cons 0 rfl .nil) .nil (fun x54 e54 => ?_)
    rintro ⟨a55, c56⟩
    refine sxo_nil ?_
    refine sxq_blkN ?_
    exact sxq_round (rc := rc1) rfl (.cons 5 rfl .nil) rfl (a55, c56) (.cons 2 rfl (.cons 1 rfl (.cons 1 rfl (.cons 1 rfl (.cons 1 rfl (.cons 0 rfl (.cons 0 rfl .nil))))))) (.cons 0 rfl .nil)
  · rintro ⟨x45, x48⟩ _ ⟨a46, c47⟩ D1
    try dsimp only
    refine sxq_blkN ?_
    refine sxq_next ?_
    refine sxc_seq ?_
    refine sxc_region ?_
    refine sxo_loadB (i := 4) rfl rfl tf60 rfl rfl (fun _ => rfl) rfl rfl ?_
    refine sxo_nilCheck rfl rfl rfl ?_
    refine sxo_fieldAddr rfl rfl ff62_0 rfl ?_
    refine sxo_loadB (i := 5) rfl rfl tf27 rfl rfl (by simp) rfl rfl ?_
    refine sxo_storeB (i := 6) rfl rfl rfl tf27 rfl rfl rfl rfl rfl ?_
    refine sxo_nil ?_
    refine sxq_next ?_
    refine sxc_ret ?_
    exact sxq_doneX [D1] (a46, c47) (.inl rfl) rfl (.cons 0 rfl .nil) (resL (rs := [.cell 4 27]) rfl (.cell (i := 5) rfl tf27 rfl rfl (by simp) rfl ResOk.nil) rfl) (fun h => by subst h; rfl) (fun h => by subst h; exact .nil) (fun h => by subst h; exact (.cons 0 rfl .nil))
  · intro t; exact t.elim

theorem C_succ_writer_add (F : Nat) (g1 : Nat) (x2 : Int) (x3 : List Int) (a4 : Option Addr) (c5 : Nat) (x6 : Bool) (x7 : Int) (x8 : List Int) (a9 : Option Addr) (c10 : Nat) (r : (Int × List Int × Bool)) (hm : M_succ_writer_add F x2 x3 x6 x7 x8 = some r) :
    PureM Try.prog 41 [.pointer (some ⟨g1, 0, none⟩), .agg #[.int .i64 x7, .slice a9 x8.length c10]] [⟨g1, 53, [.int .i64 x2, .slice a4 x3.length c5, .bool x6]⟩] [Ro (eI .u8) 5 1 (.slice a4 x3.length c5) x3] [Sl (eI .u8) 1 (.slice a9 x8.length c10) x8] (Option Addr × Nat) (fun _ => .tuple #[]) (fun g => [⟨g1, 53, [.int .i64 r.1, .slice g.1 r.2.1.length g.2, .bool r.2.2]⟩]) (fun g => [Ro (eI .u8) 5 1 (.slice g.1 r.2.1.length g.2) r.2.1]) := by
  refine pureM_of Try.func41 rfl Try.ntmps41 rfl hm (fun w => ?_)
  refine sxc_env (l' := [(0, .pointer (some ⟨g1, 0, none⟩)), (1, .agg #[.int .i64 x7, .slice a9 x8.length c10])]) rfl ?_
  refine sxc_seq ?_
  refine sxc_region ?_
  refine sxo_box rfl rfl rfl (fun g11 => ?_)
  refine sxo_nil ?_
  refine sxq_next ?_
  refine sxc_join (fun ((x13, _) : (Bool × Unit)) => [(0, .pointer (some ⟨g1, 0, none⟩)), (3, .pointer (some ⟨g11, 0, none⟩))]) (fun ((x13, _) : (Bool × Unit)) => [⟨g11, 27, [.int .i64 x7, .slice a9 x8.length c10]⟩, ⟨g1, 53, [.int .i64 x2, .slice a4 x3.length c5, .bool x13]⟩]) (fun ((x13, _) : (Bool × Unit)) => [Ro (eI .u8) 5 1 (.slice a4 x3.length c5) x3]) (fun ((x13, _) : (Bool × Unit)) => [Sl (eI .u8) 1 (.slice a9 x8.length c10) x8]) (fun ((x13, _) : (Bool × Unit)) => M_succ_writer_add_j1 F x2 x3 x7 x8 x13) ?_ ?_
  · refine sxc_split (fun h18 => ?_) (fun h18 => ?_)
    · refine sxb_draw mixed [18] [⟨g11, 27, [.int .i64 x7, .slice a9 x8.length c10]⟩] [Sl (eI .u8) 1 (.slice a9 x8.length c10) x8, (BlkD.is ⟨g1, 53, [.int .i64 x2, .slice a4 x3.length c5, .bool x6]⟩)] (.cons 0 rfl .nil) (gk_F 0 rfl (gk_B 1 rfl gk_nil)) 19 rfl ?_
      refine sxb_takeP 0 (.pointer (some ⟨g1, 0, none⟩)) rfl rfl rfl (yv_pv rfl) ?_
      refine sxb_takeP 1 (.pointer (some ⟨g1, 0, none⟩)) rfl rfl rfl (yv_pv rfl) ?_
      refine sxb_takeP 2 (.pointer (some ⟨g1, 0, none⟩)) rfl rfl rfl (yv_pv rfl) ?_
      refine sxb_takeP 3 (.pointer (some ⟨g1, 2, none⟩)) rfl rfl rfl (yv_fieldAddr rfl ff53_1) ?_
      refine sxb_take 4 (.bool x6) [[18]] rfl rfl rfl (yv_loadG (j := 1) rfl tf4 rfl rfl (fun _ => rfl) rfl) ?_
      refine sxb_takeP 5 (.bool x6) rfl rfl rfl (yv_pv rfl) ?_
      refine sxb_again (d := 9) (v := .bool true) rfl (by rw [h18] <;> rfl) ?_
      refine sxb_skip 6 rfl rfl rfl ?_
      refine sxb_skip 7 rfl rfl rfl ?_
      refine sxb_skip 8 rfl rfl rfl ?_
      refine sxb_skip 9 rfl rfl rfl ?_
      refine sxb_skip 10 rfl rfl rfl ?_
      refine sxb_skip 11 rfl rfl rfl ?_
      refine sxb_skip 12 rfl rfl rfl ?_
      refine sxb_skip 13 rfl rfl rfl ?_
      refine sxb_skip 14 rfl rfl rfl ?_
      refine sxb_takeP 15 (.bool true) rfl rfl rfl (yv_pv rfl) ?_
      refine sxb_takeP 16 (.pointer (some ⟨g1, 0, none⟩)) rfl rfl rfl (yv_pv rfl) ?_
      refine sxb_takeP 17 (.pointer (some ⟨g1, 2, none⟩)) rfl rfl rfl (yv_fieldAddr rfl ff53_1) ?_
      refine sxb_step 18 rfl (by kernel_rfl) rfl ?_
      refine sxo_storeB (i := 1) rfl rfl rfl tf4 rfl rfl rfl rfl rfl ?_
      refine sxo_nil ?_
      refine sxq_anyW 18 rfl (by kernel_rfl) (.cons 0 rfl .nil) ?_
      refine sxb_done (by kernel_rfl) ?_
      refine sxq_np ?_ (by intro c h; cases h)
      exact sxq_meetP (true, ()) (hB := (.cons 0 rfl (.cons 0 rfl .nil))) (hR := (.cons 0 rfl .nil)) (hF := (fk_cons 0 rfl fk_nil))
    · refine sxb_draw mixed [18] [⟨g11, 27, [.int .i64 x7, .slice a9 x8.length c10]⟩] [Sl (eI .u8) 1 (.slice a9 x8.length c10) x8, (BlkD.is ⟨g1, 53, [.int .i64 x2, .slice a4 x3.length c5, .bool x6]⟩)] (.cons 0 rfl .nil) (gk_F 0 rfl (gk_B 1 rfl gk_nil)) 19 rfl ?_
      refine sxb_takeP 0 (.pointer (some ⟨g1, 0, none⟩)) rfl rfl rfl (yv_pv rfl) ?_
      refine sxb_takeP 1 (.pointer (some ⟨g1, 0, none⟩)) rfl rfl rfl (yv_pv rfl) ?_
      refine sxb_takeP 2 (.pointer (some ⟨g1, 0, none⟩)) rfl rfl rfl (yv_pv rfl) ?_
      refine sxb_takeP 3 (.pointer (some ⟨g1, 2, none⟩)) rfl rfl rfl (yv_fieldAddr rfl ff53_1) ?_
      refine sxb_take 4 (.bool x6) [[18]] rfl rfl rfl (yv_loadG (j := 1) rfl tf4 rfl rfl (fun _ => rfl) rfl) ?_
      refine sxb_takeP 5 (.bool x6) rfl rfl rfl (yv_pv rfl) ?_
      refine sxb_again (d := 9) (v := .bool false) rfl (by rw [h18] <;> rfl) ?_
      refine sxb_takeP 6 (.pointer (some ⟨g1, 0, none⟩)) rfl rfl rfl (yv_pv rfl) ?_
      refine sxb_takeP 7 (.pointer (some ⟨g1, 0, none⟩)) rfl rfl rfl (yv_pv rfl) ?_
      refine sxb_takeP 8 (.pointer (some ⟨g1, 0, none⟩)) rfl rfl rfl (yv_fieldAddr rfl ff53_0) ?_
      refine sxb_takeP 9 (.pointer (some ⟨g1, 0, none⟩)) rfl rfl rfl (yv_fieldAddr rfl ff27_0) ?_
      refine sxb_take 10 (.int .i64 x2) [[18]] rfl rfl rfl (yv_loadG (j := 1) rfl tf3 rfl rfl (fun _ => rfl) rfl) ?_
      refine sxb_takeP 11 (.pointer (some ⟨g11, 0, none⟩)) rfl rfl rfl (yv_fieldAddr rfl ff27_0) ?_
      refine sxb_takeB 12 (.int .i64 x7) rfl rfl rfl (yv_loadB (i := 0) rfl tf3 rfl rfl (fun _ => rfl) rfl) ?_
      refine sxb_takeP 13 (.int .i64 (iadd .i64 x2 x7)) rfl rfl rfl (yv_pv rfl) ?_
      refine sxb_takeP 14 (.bool (decide (8192 < (iadd .i64 x2 x7)))) rfl rfl rfl (yv_pv rfl) ?_
      refine sxb_takeP 15 (.bool (decide (8192 < (iadd .i64 x2 x7)))) rfl rfl rfl (yv_pv rfl) ?_
      refine sxb_takeP 16 (.pointer (some ⟨g1, 0, none⟩)) rfl rfl rfl (yv_pv rfl) ?_
      refine sxb_takeP 17 (.pointer (some ⟨g1, 2, none⟩)) rfl rfl rfl (yv_fieldAddr rfl ff53_1) ?_
      refine sxb_step 18 rfl (by kernel_rfl) rfl ?_
      refine sxo_storeB (i := 1) rfl rfl rfl tf4 rfl rfl rfl rfl rfl ?_
      refine sxo_nil ?_
      refine sxq_anyW 18 rfl (by kernel_rfl) (.cons 0 rfl .nil) ?_
      refine sxb_done (by kernel_rfl) ?_
      refine sxq_np ?_ (by intro c h; cases h)
      exact sxq_meetP ((decide (8192 < (iadd .i64 x2 x7))), ()) (hB := (.cons 0 rfl (.cons 0 rfl .nil))) (hR := (.cons 0 rfl .nil)) (hF := (fk_cons 0 rfl fk_nil))
  · rintro ⟨x13, _⟩
    try dsimp only
    refine sxc_seq ?_
    refine sxc_region ?_
    refine sxo_move rfl rfl rfl ?_
    refine sxo_nilCheck rfl rfl rfl ?_
    refine sxo_fieldAddr rfl rfl ff53_1 rfl ?_
    refine sxo_loadB (i := 1) rfl rfl tf4 rfl rfl (fun _ => rfl) rfl rfl ?_
    refine sxo_not rfl rfl rfl ?_
    refine sxo_nil ?_
    refine sxq_next ?_
    refine sxc_if rfl (fun h17 => ?_) (fun h17 => ?_)
    · refine sxb_draw mixed [9] [⟨g11, 27, [.int .i64 x7, .slice a9 x8.length c10]⟩] [Sl (eI .u8) 1 (.slice a9 x8.length c10) x8, (BlkD.is ⟨g1, 53, [.int .i64 x2, .slice a4 x3.length c5, .bool x13]⟩)] (.cons 0 rfl .nil) (gk_F 0 rfl (gk_B 1 rfl gk_nil)) 10 rfl ?_
      refine sxb_takeP 0 (.pointer (some ⟨g1, 0, none⟩)) rfl rfl rfl (yv_pv rfl) ?_
      refine sxb_takeP 1 (.pointer (some ⟨g1, 0, none⟩)) rfl rfl rfl (yv_pv rfl) ?_
      refine sxb_takeP 2 (.pointer (some ⟨g1, 0, none⟩)) rfl rfl rfl (yv_pv rfl) ?_
      refine sxb_takeP 3 (.pointer (some ⟨g1, 0, none⟩)) rfl rfl rfl (yv_fieldAddr rfl ff53_0) ?_
      refine sxb_take 4 (.agg #[.int .i64 x2, .slice a4 x3.length c5]) [[9]] rfl rfl rfl (yv_loadG (j := 1) rfl tf27 rfl rfl (by simp) rfl) ?_
      refine sxb_takeB 5 (.agg #[.int .i64 x7, .slice a9 x8.length c10]) rfl rfl rfl (yv_loadB (i := 0) rfl tf27 rfl rfl (by simp) rfl) ?_
      refine sxb_step 6 rfl (by kernel_rfl) rfl ?_
      refine sxo_callM ent27 rfl rfl rfl (fun x14 e14 => C_bits_Both F x2 x3 a4 c5 x7 x8 a9 c10 x14 e14) .nil .nil (.consR 0 (Ro (eI .u8) 5 1 (.slice a4 x3.length c5) x3) rfl (.consF 0 rfl .nil)) (fun x14 e14 => ?_)
      rintro ⟨a15, c16⟩
      refine sxo_nil ?_
      refine sxq_anyB (.cons 0 rfl .nil) (gk_F 0 rfl (gk_B 1 rfl gk_nil)) ?_
      refine sxb_takeP 7 (.pointer (some ⟨g1, 0, none⟩)) rfl rfl rfl (yv_pv rfl) ?_
      refine sxb_takeP 8 (.pointer (some ⟨g1, 0, none⟩)) rfl rfl rfl (yv_fieldAddr rfl ff53_0) ?_
      refine sxb_step 9 rfl (by kernel_rfl) rfl ?_
      refine sxo_storeB (i := 1) rfl rfl rfl tf27 rfl rfl rfl rfl rfl ?_
      refine sxo_nil ?_
      refine sxq_anyW 9 rfl (by kernel_rfl) (.cons 0 rfl .nil) ?_
      refine sxb_done (by kernel_rfl) ?_
      refine sxq_np ?_ (by intro c h; cases h)
      exact sxq_doneM (a15, c16) (res0 rfl) (hB := fun h => by subst h; exact (.cons 1 rfl .nil)) (hR := fun h => by subst h; exact (.cons 0 rfl .nil))
    · refine sxc_skip ?_
      exact sxq_doneM (a4, c5) (res0 rfl) (hB := fun h => by subst h; exact (.cons 1 rfl .nil)) (hR := fun h => by subst h; exact (.cons 0 rfl .nil))

theorem C_bits_writer_number (F : Nat) (g1 : Nat) (x2 : Int) (x3 : List Int) (a4 : Option Addr) (c5 : Nat) (x6 : Int) (x7 : Int) (r : (Int × List Int)) (hm : M_bits_writer_number F x2 x3 x6 x7 = some r) :
    PureM Try.prog 54 [.pointer (some ⟨g1, 0, none⟩), .int .u64 x6, .int .i64 x7] [⟨g1, 62, [.int .i64 x2, .slice a4 x3.length c5]⟩] [Ro (eI .u8) 5 1 (.slice a4 x3.length c5) x3] [] (Option Addr × Nat) (fun _ => .tuple #[]) (fun g => [⟨g1, 62, [.int .i64 r.1, .slice g.1 r.2.length g.2]⟩]) (fun g => [Ro (eI .u8) 5 1 (.slice g.1 r.2.length g.2) r.2]) := by
  refine pureM_of Try.func54 rfl Try.ntmps54 rfl hm (fun w => ?_)
  refine sxc_env (l' := [(0, .pointer (some ⟨g1, 0, none⟩)), (1, .int .u64 x6), (2, .int .i64 x7)]) rfl ?_
  refine sxc_seq ?_
  refine sxc_region ?_
  refine sxo_move rfl rfl rfl ?_
  refine sxo_sub rfl rfl rfl rfl ?_
  refine sxo_assign rfl rfl rfl ?_
  refine sxo_nil ?_
  refine sxq_next ?_
  refine sxc_block ?_
  refine sxc_loopP (fun (((x18, x19, x22), (a20, c21)) : ((Int × Int × List Int) × (Option Addr × Nat))) => [(0, .pointer (some ⟨g1, 0, none⟩)), (1, .int .u64 x6), (6, .int .i64 x18)]) (fun (((x18, x19, x22), (a20, c21)) : ((Int × Int × List Int) × (Option Addr × Nat))) => [⟨g1, 62, [.int .i64 x19, .slice a20 x22.length c21]⟩]) (fun (((x18, x19, x22), (a20, c21)) : ((Int × Int × List Int) × (Option Addr × Nat))) => [Ro (eI .u8) 5 1 (.slice a20 x22.length c21) x22]) (fun (((x18, x19, x22), (a20, c21)) : ((Int × Int × List Int) × (Option Addr × Nat))) => []) (fun k (s : ((Int × Int × List Int) × (Option Addr × Nat))) => M_bits_writer_number_l1 F x6 k s.1) ((isub .i64 x7 1, x2, x3), (a4, c5)) F ?_ (hB := (.cons 0 rfl .nil)) (hR := (.cons 0 rfl .nil))
  intro k33
  rintro ⟨⟨x18, x19, x22⟩, ⟨a20, c21⟩⟩
  try dsimp only
  refine sxc_meq (m' := M_bits_writer_number_b1 F x6 (M_bits_writer_number_l1 F x6 k33) x18 x19 x22) rfl ?_
  refine sxc_seq ?_
  refine sxc_seq ?_
  refine sxc_region ?_
  refine sxo_move rfl rfl rfl ?_
  refine sxo_geq rfl rfl rfl rfl ?_
  refine sxo_nil ?_
  refine sxq_next ?_
  refine sxc_if rfl (fun h43 => ?_) (fun h43 => ?_)
  · refine sxc_skip ?_
    refine sxq_next ?_
    refine sxc_seq ?_
    refine sxc_block ?_
    refine sxc_region ?_
    refine sxo_move rfl rfl rfl ?_
    refine sxo_move rfl rfl rfl ?_
    refine sxo_move rfl rfl rfl ?_
    refine sxo_chk (fun h39 => ?_)
    refine sxo_shr rfl rfl rfl rfl h39 ?_
    refine sxo_and rfl rfl rfl rfl ?_
    refine sxo_callM ent31 rfl rfl rfl (fun x40 e40 => C_bits_writer_bit F g1 x19 x22 a20 c21 (iand .u64 (ishr .u64 x6 x18) 1) x40 e40) (.cons 0 rfl .nil) (.cons 0 rfl .nil) .nil (fun x40 e40 => ?_)
    rintro ⟨a41, c42⟩
    refine sxo_nil ?_
    refine sxq_blkN ?_
    refine sxq_next ?_
    refine sxc_region ?_
    refine sxo_move rfl rfl rfl ?_
    refine sxo_sub rfl rfl rfl rfl ?_
    refine sxo_assign rfl rfl rfl ?_
    refine sxo_nil ?_
    exact sxq_againP ((isub .i64 x18 1, x40.1, x40.2), (a41, c42)) (hB := (.cons 0 rfl .nil)) (hR := (.cons 0 rfl .nil))
  · refine sxc_exit ?_
    refine sxq_thenX ?_
    refine sxq_thenX ?_
    refine sxq_blkX ?_
    exact sxq_doneM (a20, c21) (res0 rfl) (hB := fun h => by subst h; exact (.cons 0 rfl .nil)) (hR := fun h => by subst h; exact (.cons 0 rfl .nil))

theorem C_bits_Add (F : Nat) (x1 : Int) (x2 : List Int) (a3 : Option Addr) (c4 : Nat) (x5 : Int) (x6 : Int) (r : (Int × List Int)) (hm : M_bits_Add F x1 x2 x5 x6 = some r) :
    Pure Try.prog 42 [.agg #[.int .i64 x1, .slice a3 x2.length c4], .int .u64 x5, .int .i64 x6] [Sl (eI .u8) 1 (.slice a3 x2.length c4) x2] (Option Addr × Nat) (fun g => .agg #[.int .i64 r.1, .slice g.1 r.2.length g.2]) (fun g => [Ro (eI .u8) 5 1 (.slice g.1 r.2.length g.2) r.2]) (fun _ => []) := by
  refine pure_of Try.func42 rfl Try.ntmps42 rfl hm (fun w => ?_)
  refine sxc_env (l' := [(0, .agg #[.int .i64 x1, .slice a3 x2.length c4]), (1, .int .u64 x5), (2, .int .i64 x6)]) rfl ?_
  refine sxc_seq ?_
  refine sxc_region ?_
  refine sxo_box rfl rfl rfl (fun g7 => ?_)
  refine sxo_alloc rfl tf27 rfl (fun g8 => ?_)
  refine sxo_nil ?_
  refine sxq_next ?_
  refine sxc_seq ?_
  refine sxc_region ?_
  refine sxo_loadB (i := 1) rfl rfl tf27 rfl rfl (by simp) rfl rfl ?_
  refine sxo_callM ent43 rfl rfl rfl (fun x9 e9 => C_bits_own F x1 x2 a3 c4 x9 e9) .nil .nil (.consF 0 rfl .nil) (fun x9 e9 => ?_)
  rintro ⟨⟨a10, c11⟩, g12⟩
  refine sxo_assign rfl rfl rfl ?_
  refine sxo_nil ?_
  refine sxq_next ?_
  refine sxc_seq ?_
  refine sxc_region ?_
  refine sxo_move rfl rfl rfl ?_
  refine sxo_move rfl rfl rfl ?_
  refine sxo_move rfl rfl rfl ?_
  refine sxo_callM ent54 rfl rfl rfl (fun x13 e13 => C_bits_writer_number F g12 x9.1 x9.2 a10 c11 x5 x6 x13 e13) (.cons 0 rfl .nil) (.cons 0 rfl .nil) .nil (fun x13 e13 => ?_)
  rintro ⟨a14, c15⟩
  refine sxo_nil ?_
  refine sxq_next ?_
  refine sxc_seq ?_
  refine sxc_region ?_
  refine sxo_move rfl rfl rfl ?_
  refine sxo_nilCheck rfl rfl rfl ?_
  refine sxo_fieldAddr rfl rfl ff62_0 rfl ?_
  refine sxo_loadB (i := 0) rfl rfl tf27 rfl rfl (by simp) rfl rfl ?_
  refine sxo_storeB (i := 1) rfl rfl rfl tf27 rfl rfl rfl rfl rfl ?_
  refine sxo_nil ?_
  refine sxq_next ?_
  refine sxc_ret ?_
  exact sxq_doneP (a14, c15) (resL (rs := [.cell 6 27]) rfl (.cell (i := 1) rfl tf27 rfl rfl (by simp) rfl ResOk.nil) rfl) (fun h => by subst h; exact (.cons 0 rfl .nil))

theorem C_math_bits_Len64 (F : Nat) (x1 : Int) (r : Int) (hm : M_math_bits_Len64 F x1 = some r) :
    Pure Try.prog 75 [.int .u64 x1] [] Unit (fun _ => .int .i64 r) (fun _ => []) (fun _ => []) := by
  refine pure_of Try.func75 rfl Try.ntmps75 rfl hm (fun w => ?_)
  refine sxc_env (l' := [(0, .int .u64 x1)]) rfl ?_
  refine sxc_seq ?_
  refine sxc_region ?_
  refine sxo_assign rfl rfl rfl ?_
  refine sxo_nil ?_
  refine sxq_next ?_
  refine sxc_join (fun (((x3, x4), _) : ((Int × Int) × Unit)) => [(0, .int .u64 x3), (2, .int .i64 x4)]) (fun (((x3, x4), _) : ((Int × Int) × Unit)) => []) (fun (((x3, x4), _) : ((Int × Int) × Unit)) => []) (fun (((x3, x4), _) : ((Int × Int) × Unit)) => []) (fun (((x3, x4), _) : ((Int × Int) × Unit)) => M_math_bits_Len64_j1 F x3 x4) ?_ ?_
  · refine sxc_seq ?_
    refine sxc_region ?_
    refine sxo_move rfl rfl rfl ?_
    refine sxo_geq rfl rfl rfl rfl ?_
    refine sxo_nil ?_
    refine sxq_next ?_
    refine sxc_if rfl (fun h14 => ?_) (fun h14 => ?_)
    · refine sxc_seq ?_
      refine sxc_region ?_
      refine sxo_move rfl rfl rfl ?_
      refine sxo_shr rfl rfl rfl rfl rfl ?_
      refine sxo_assign rfl rfl rfl ?_
      refine sxo_nil ?_
      refine sxq_next ?_
      refine sxc_region ?_
      refine sxo_assign rfl rfl rfl ?_
      refine sxo_nil ?_
      exact sxq_meetP ((ishr .u64 x1 32, 32), ())
    · refine sxc_skip ?_
      exact sxq_meetP ((x1, 0), ())
  · rintro ⟨⟨x3, x4⟩, _⟩
    try dsimp only
    refine sxc_join (fun (((x6, x7), _) : ((Int × Int) × Unit)) => [(0, .int .u64 x6), (2, .int .i64 x7)]) (fun (((x6, x7), _) : ((Int × Int) × Unit)) => []) (fun (((x6, x7), _) : ((Int × Int) × Unit)) => []) (fun (((x6, x7), _) : ((Int × Int) × Unit)) => []) (fun (((x6, x7), _) : ((Int × Int) × Unit)) => M_math_bits_Len64_j2 F x6 x7) ?_ ?_
    · refine sxc_seq ?_
      refine sxc_region ?_
      refine sxo_move rfl rfl rfl ?_
      refine sxo_geq rfl rfl rfl rfl ?_
      refine sxo_nil ?_
      refine sxq_next ?_
      refine sxc_if rfl (fun h13 => ?_) (fun h13 => ?_)
      · refine sxc_seq ?_
        refine sxc_region ?_
        refine sxo_move rfl rfl rfl ?_
        refine sxo_shr rfl rfl rfl rfl rfl ?_
        refine sxo_assign rfl rfl rfl ?_
        refine sxo_nil ?_
        refine sxq_next ?_
        refine sxc_region ?_
        refine sxo_move rfl rfl rfl ?_
        refine sxo_add rfl rfl rfl rfl ?_
        refine sxo_assign rfl rfl rfl ?_
        refine sxo_nil ?_
        exact sxq_meetP ((ishr .u64 x3 16, iadd .i64 x4 16), ())
      · refine sxc_skip ?_
        exact sxq_meetP ((x3, x4), ())
    · rintro ⟨⟨x6, x7⟩, _⟩
      try dsimp only
      refine sxc_join (fun (((x9, x10), _) : ((Int × Int) × Unit)) => [(0, .int .u64 x9), (2, .int .i64 x10)]) (fun (((x9, x10), _) : ((Int × Int) × Unit)) => []) (fun (((x9, x10), _) : ((Int × Int) × Unit)) => []) (fun (((x9, x10), _) : ((Int × Int) × Unit)) => []) (fun (((x9, x10), _) : ((Int × Int) × Unit)) => M_math_bits_Len64_j3 F x9 x10) ?_ ?_
      · refine sxc_seq ?_
        refine sxc_region ?_
        refine sxo_move rfl rfl rfl ?_
        refine sxo_geq rfl rfl rfl rfl ?_
        refine sxo_nil ?_
        refine sxq_next ?_
        refine sxc_if rfl (fun h12 => ?_) (fun h12 => ?_)
        · refine sxc_seq ?_
          refine sxc_region ?_
          refine sxo_move rfl rfl rfl ?_
          refine sxo_shr rfl rfl rfl rfl rfl ?_
          refine sxo_assign rfl rfl rfl ?_
          refine sxo_nil ?_
          refine sxq_next ?_
          refine sxc_region ?_
          refine sxo_move rfl rfl rfl ?_
          refine sxo_add rfl rfl rfl rfl ?_
          refine sxo_assign rfl rfl rfl ?_
          refine sxo_nil ?_
          exact sxq_meetP ((ishr .u64 x6 8, iadd .i64 x7 8), ())
        · refine sxc_skip ?_
          exact sxq_meetP ((x6, x7), ())
      · rintro ⟨⟨x9, x10⟩, _⟩
        try dsimp only
        refine sxc_seq ?_
        refine sxc_region ?_
        refine sxo_move rfl rfl rfl ?_
        refine sxo_move rfl rfl rfl ?_
        refine sxo_conv rfl Try.underlying36 Try.underlying5 rfl rfl ?_
        refine sxo_indexS (xs := ([0, 1, 2, 2, 3, 3, 3, 3, 4, 4, 4, 4, 4, 4, 4, 4, 5, 5, 5, 5, 5, 5, 5, 5, 5, 5, 5, 5, 5, 5, 5, 5, 6, 6, 6, 6, 6, 6, 6, 6, 6, 6, 6, 6, 6, 6, 6, 6, 6, 6, 6, 6, 6, 6, 6, 6, 6, 6, 6, 6, 6, 6, 6, 6, 7, 7, 7, 7, 7, 7, 7, 7, 7, 7, 7, 7, 7, 7, 7, 7, 7, 7, 7, 7, 7, 7, 7, 7, 7, 7, 7, 7, 7, 7, 7, 7, 7, 7, 7, 7, 7, 7, 7, 7, 7, 7, 7, 7, 7, 7, 7, 7, 7, 7, 7, 7, 7, 7, 7, 7, 7, 7, 7, 7, 7, 7, 7, 7, 8, 8, 8, 8, 8, 8, 8, 8, 8, 8, 8, 8, 8, 8, 8, 8, 8, 8, 8, 8, 8, 8, 8, 8, 8, 8, 8, 8, 8, 8, 8, 8, 8, 8, 8, 8, 8, 8, 8, 8, 8, 8, 8, 8, 8, 8, 8, 8, 8, 8, 8, 8, 8, 8, 8, 8, 8, 8, 8, 8, 8, 8, 8, 8, 8, 8, 8, 8, 8, 8, 8, 8, 8, 8, 8, 8, 8, 8, 8, 8, 8, 8, 8, 8, 8, 8, 8, 8, 8, 8, 8, 8, 8, 8, 8, 8, 8, 8, 8, 8, 8, 8, 8, 8, 8, 8, 8, 8, 8, 8, 8, 8, 8, 8, 8, 8, 8, 8, 8, 8, 8, 8, 8, 8, 8, 8, 8, 8] : List Int)) rfl Try.underlying9 rfl rfl (by kernel_rfl) rfl (fun x11 e11 => ?_)
        refine sxo_conv rfl Try.underlying5 Try.underlying3 rfl rfl ?_
        refine sxo_add rfl rfl rfl rfl ?_
        refine sxo_assign rfl rfl rfl ?_
        refine sxo_nil ?_
        refine sxq_next ?_
        refine sxc_ret ?_
        exact sxq_doneP () (res1 rfl rfl)

theorem C_elias_rest (F : Nat) (x1 : Int) (r : Int) (hm : M_elias_rest F x1 = some r) :
    Pure Try.prog 59 [.int .u64 x1] [] Unit (fun _ => .int .i64 r) (fun _ => []) (fun _ => []) := by
  refine pure_of Try.func59 rfl Try.ntmps59 rfl hm (fun w => ?_)
  refine sxc_env (l' := [(0, .int .u64 x1)]) rfl ?_
  refine sxc_seq ?_
  refine sxc_region ?_
  refine sxo_assign rfl rfl rfl ?_
  refine sxo_nil ?_
  refine sxq_next ?_
  refine sxc_seq ?_
  refine sxc_region ?_
  refine sxo_move rfl rfl rfl ?_
  refine sxo_add rfl rfl rfl rfl ?_
  refine sxo_call ent75 rfl rfl rfl (fun x2 e2 => C_math_bits_Len64 F (iadd .u64 x1 1) x2 e2) .nil (fun x2 e2 => ?_)
  intro _
  refine sxo_sub rfl rfl rfl rfl ?_
  refine sxo_assign rfl rfl rfl ?_
  refine sxo_nil ?_
  refine sxq_next ?_
  refine sxc_ret ?_
  exact sxq_doneP () (res1 rfl rfl)

theorem C_unary_Raw (F : Nat) (x1 : Int) (r : (Int × List Int)) (hm : M_unary_Raw F x1 = some r) :
    Pure Try.prog 60 [.int .u64 x1] [] (Option Addr × Nat) (fun g => .agg #[.int .i64 r.1, .slice g.1 r.2.length g.2]) (fun g => [Ro (eI .u8) 5 1 (.slice g.1 r.2.length g.2) r.2]) (fun _ => []) := by
  refine pure_of Try.func60 rfl Try.ntmps60 rfl hm (fun w => ?_)
  refine sxc_env (l' := [(0, .int .u64 x1)]) rfl ?_
  refine sxc_seq ?_
  refine sxc_region ?_
  refine sxo_alloc rfl tf27 rfl (fun g2 => ?_)
  refine sxo_nil ?_
  refine sxq_next ?_
  refine sxc_seq ?_
  refine sxc_region ?_
  refine sxo_move rfl rfl rfl ?_
  refine sxo_conv rfl Try.underlying36 Try.underlying3 rfl rfl ?_
  refine sxo_move rfl rfl rfl ?_
  refine sxo_add rfl rfl rfl rfl ?_
  refine sxo_quo rfl rfl rfl rfl rfl ?_
  refine sxo_mk (eI_ok .u8) rfl Try.underlying25 tf5 rfl rfl rfl rfl rfl rfl rfl (fun x3 e3 a4 c5 => ?_)
  refine sxo_build (cells := [.int .i64 (iconv .i64 x1), .slice a4 x3.length c5]) rfl st27 rfl (by kernel_rfl) rfl ?_
  refine sxo_call ent42 rfl rfl rfl (fun x6 e6 => C_bits_Add F (iconv .i64 x1) x3 a4 c5 1 1 x6 e6) (.consR 0 (Ro (eI .u8) 5 1 (.slice a4 x3.length c5) x3) rfl .nil) (fun x6 e6 => ?_)
  rintro ⟨a7, c8⟩
  refine sxo_storeB (i := 0) rfl rfl rfl tf27 rfl rfl rfl rfl rfl ?_
  refine sxo_nil ?_
  refine sxq_next ?_
  refine sxc_ret ?_
  exact sxq_doneP (a7, c8) (resL (rs := [.cell 2 27]) rfl (.cell (i := 0) rfl tf27 rfl rfl (by simp) rfl ResOk.nil) rfl) (fun h => by subst h; exact (.cons 0 rfl .nil))

theorem C_elias_low (F : Nat) (x1 : Int) (x2 : Int) (r : Int) (hm : M_elias_low F x1 x2 = some r) :
    Pure Try.prog 61 [.int .u64 x1, .int .i64 x2] [] Unit (fun _ => .int .u64 r) (fun _ => []) (fun _ => []) := by
  refine pure_of Try.func61 rfl Try.ntmps61 rfl hm (fun w => ?_)
  refine sxc_env (l' := [(0, .int .u64 x1), (1, .int .i64 x2)]) rfl ?_
  refine sxc_seq ?_
  refine sxc_region ?_
  refine sxo_assign rfl rfl rfl ?_
  refine sxo_nil ?_
  refine sxq_next ?_
  refine sxc_seq ?_
  refine sxc_region ?_
  refine sxo_move rfl rfl rfl ?_
  refine sxo_move rfl rfl rfl ?_
  refine sxo_chk (fun h3 => ?_)
  refine sxo_shl rfl rfl rfl rfl h3 ?_
  refine sxo_sub rfl rfl rfl rfl ?_
  refine sxo_and rfl rfl rfl rfl ?_
  refine sxo_assign rfl rfl rfl ?_
  refine sxo_lett (fun x4 e4 => ?_)
  refine sxo_again (d := 4) (v := .int .u64 x4) rfl (by rw [e4] <;> rfl) ?_
  refine sxo_nil ?_
  refine sxq_next ?_
  refine sxc_ret ?_
  exact sxq_doneP () (res1 rfl rfl)

theorem C_elias_RawGamma (F : Nat) (x1 : Int) (r : (Int × List Int)) (hm : M_elias_RawGamma F x1 = some r) :
    Pure Try.prog 47 [.int .u64 x1] [] (Option Addr × Nat) (fun g => .agg #[.int .i64 r.1, .slice g.1 r.2.length g.2]) (fun g => [Ro (eI .u8) 5 1 (.slice g.1 r.2.length g.2) r.2]) (fun _ => []) := by
  refine pure_of Try.func47 rfl Try.ntmps47 rfl hm (fun w => ?_)
  refine sxc_env (l' := [(0, .int .u64 x1)]) rfl ?_
  refine sxc_seq ?_
  refine sxc_region ?_
  refine sxo_alloc rfl tf27 rfl (fun g2 => ?_)
  refine sxo_nil ?_
  refine sxq_next ?_
  refine sxc_seq ?_
  refine sxc_region ?_
  refine sxo_move rfl rfl rfl ?_
  refine sxo_call ent59 rfl rfl rfl (fun x3 e3 => C_elias_rest F x1 x3 e3) .nil (fun x3 e3 => ?_)
  intro _
  refine sxo_assign rfl rfl rfl ?_
  refine sxo_nil ?_
  refine sxq_next ?_
  refine sxc_seq ?_
  refine sxc_region ?_
  refine sxo_move rfl rfl rfl ?_
  refine sxo_conv rfl Try.underlying3 Try.underlying36 rfl rfl ?_
  refine sxo_call ent60 rfl rfl rfl (fun x4 e4 => C_unary_Raw F (iconv .u64 x3) x4 e4) .nil (fun x4 e4 => ?_)
  rintro ⟨a5, c6⟩
  refine sxo_move rfl rfl rfl ?_
  refine sxo_add rfl rfl rfl rfl ?_
  refine sxo_move rfl rfl rfl ?_
  refine sxo_call ent61 rfl rfl rfl (fun x7 e7 => C_elias_low F (iadd .u64 x1 1) x3 x7 e7) .nil (fun x7 e7 => ?_)
  intro _
  refine sxo_move rfl rfl rfl ?_
  refine sxo_call ent42 rfl rfl rfl (fun x8 e8 => C_bits_Add F x4.1 x4.2 a5 c6 x7 x3 x8 e8) (.consR 0 (Ro (eI .u8) 5 1 (.slice a5 x4.2.length c6) x4.2) rfl .nil) (fun x8 e8 => ?_)
  rintro ⟨a9, c10⟩
  refine sxo_storeB (i := 0) rfl rfl rfl tf27 rfl rfl rfl rfl rfl ?_
  refine sxo_nil ?_
  refine sxq_next ?_
  refine sxc_ret ?_
  exact sxq_doneP (a9, c10) (resL (rs := [.cell 2 27]) rfl (.cell (i := 0) rfl tf27 rfl rfl (by simp) rfl ResOk.nil) rfl) (fun h => by subst h; exact (.cons 0 rfl .nil))

theorem C_succ_writer_gamma (F : Nat) (g1 : Nat) (x2 : Int) (x3 : List Int) (a4 : Option Addr) (c5 : Nat) (x6 : Bool) (x7 : Int) (r : (Int × List Int × Bool)) (hm : M_succ_writer_gamma F x2 x3 x6 x7 = some r) :
    PureM Try.prog 34 [.pointer (some ⟨g1, 0, none⟩), .int .i64 x7] [⟨g1, 53, [.int .i64 x2, .slice a4 x3.length c5, .bool x6]⟩] [Ro (eI .u8) 5 1 (.slice a4 x3.length c5) x3] [] (Option Addr × Nat) (fun _ => .tuple #[]) (fun g => [⟨g1, 53, [.int .i64 r.1, .slice g.1 r.2.1.length g.2, .bool r.2.2]⟩]) (fun g => [Ro (eI .u8) 5 1 (.slice g.1 r.2.1.length g.2) r.2.1]) := by
  refine pureM_of Try.func34 rfl Try.ntmps34 rfl hm (fun w => ?_)
  refine sxc_env (l' := [(0, .pointer (some ⟨g1, 0, none⟩)), (1, .int .i64 x7)]) rfl ?_
  refine sxc_region ?_
  refine sxo_move rfl rfl rfl ?_
  refine sxo_move rfl rfl rfl ?_
  refine sxo_conv rfl Try.underlying3 Try.underlying36 rfl rfl ?_
  refine sxo_call ent47 rfl rfl rfl (fun x8 e8 => C_elias_RawGamma F (iconv .u64 x7) x8 e8) .nil (fun x8 e8 => ?_)
  rintro ⟨a9, c10⟩
  refine sxo_callM ent41 rfl rfl rfl (fun x11 e11 => C_succ_writer_add F g1 x2 x3 a4 c5 x6 x8.1 x8.2 a9 c10 x11 e11) (.cons 0 rfl .nil) (.cons 1 rfl .nil) (.consR 0 (Ro (eI .u8) 5 1 (.slice a9 x8.2.length c10) x8.2) rfl .nil) (fun x11 e11 => ?_)
  rintro ⟨a12, c13⟩
  refine sxo_nil ?_
  exact sxq_doneM (a12, c13) (res0 rfl) (hB := fun h => by subst h; exact (.cons 0 rfl .nil)) (hR := fun h => by subst h; exact (.cons 0 rfl .nil))

theorem C_cmp_isNaN_int (F : Nat) (x1 : Int) (r : Bool) (hm : M_cmp_isNaN_int F x1 = some r) :
    Pure Try.prog 76 [.int .i64 x1] [] Unit (fun _ => .bool r) (fun _ => []) (fun _ => []) := by
  refine pure_of Try.func76 rfl Try.ntmps76 rfl hm (fun w => ?_)
  refine sxc_env (l' := [(0, .int .i64 x1)]) rfl ?_
  refine sxc_seq ?_
  refine sxc_region ?_
  refine sxo_assign rfl rfl rfl ?_
  refine sxo_nil ?_
  refine sxq_next ?_
  refine sxc_seq ?_
  refine sxc_region ?_
  refine sxo_move rfl rfl rfl ?_
  refine sxo_move rfl rfl rfl ?_
  refine sxo_neq rfl rfl rfl rfl ?_
  refine sxo_assign rfl rfl rfl ?_
  refine sxo_nil ?_
  refine sxq_next ?_
  refine sxc_ret ?_
  exact sxq_doneP () (res1 rfl rfl)

theorem C_cmp_Less_int (F : Nat) (x1 : Int) (x2 : Int) (r : Bool) (hm : M_cmp_Less_int F x1 x2 = some r) :
    Pure Try.prog 62 [.int .i64 x1, .int .i64 x2] [] Unit (fun _ => .bool r) (fun _ => []) (fun _ => []) := by
  refine pure_of Try.func62 rfl Try.ntmps62 rfl hm (fun w => ?_)
  refine sxc_env (l' := [(0, .int .i64 x1), (1, .int .i64 x2)]) rfl ?_
  refine sxc_seq ?_
  refine sxc_region ?_
  refine sxo_assign rfl rfl rfl ?_
  refine sxo_nil ?_
  refine sxq_next ?_
  refine sxc_seq ?_
  refine sxc_region ?_
  refine sxo_move rfl rfl rfl ?_
  refine sxo_call ent76 rfl rfl rfl (fun x3 e3 => C_cmp_isNaN_int F x1 x3 e3) .nil (fun x3 e3 => ?_)
  intro _
  refine sxo_move rfl rfl rfl ?_
  refine sxo_join 4 (fun ((x6, _) : (Bool × Unit)) => [(0, .int .i64 x1), (1, .int .i64 x2), (11, .bool x6)]) (fun ((x6, _) : (Bool × Unit)) => []) (fun ((x6, _) : (Bool × Unit)) => []) (fun ((x6, _) : (Bool × Unit)) => []) (fun ((x6, _) : (Bool × Unit)) => M_cmp_Less_int_j1 F x1 x2 x6) ?_ ?_
  · refine sxo_take (os := _) rfl ?_
    refine sxo_if (fun h4 => ?_) (fun h4 => ?_)
    · refine sxo_isT (k := 7) rfl h4 ?_
      refine sxo_move rfl rfl rfl ?_
      refine sxo_call ent76 rfl rfl rfl (fun x8 e8 => C_cmp_isNaN_int F x2 x8 e8) .nil (fun x8 e8 => ?_)
      intro _
      refine sxo_not rfl rfl rfl ?_
      refine sxo_pick (b := true) rfl rfl rfl rfl ?_
      refine sxo_nil ?_
      exact sxq_meetP ((!x8), ())
    · refine sxo_isF (k := 7) rfl h4 ?_
      refine sxo_skip rfl rfl rfl ?_
      refine sxo_skip rfl rfl rfl ?_
      refine sxo_skip rfl rfl rfl ?_
      refine sxo_pick (b := false) rfl rfl rfl rfl ?_
      refine sxo_nil ?_
      exact sxq_meetP (false, ())
  · rintro ⟨x6, _⟩
    try dsimp only
    refine sxo_take (os := _) rfl ?_
    refine sxo_move rfl rfl rfl ?_
    refine sxo_case 4 x6 [(16, .bool (x6 || (decide (x1 < x2))))] (fun h7 => ?_) (fun h7 => ?_) ?_
    · refine sxo_take (os := _) rfl ?_
      refine sxo_isT (k := 12) rfl h7 ?_
      refine sxo_skip rfl rfl rfl ?_
      refine sxo_skip rfl rfl rfl ?_
      refine sxo_skip rfl rfl rfl ?_
      refine sxo_pick (b := true) rfl rfl rfl rfl ?_
      refine sxo_again (d := 16) (v := .bool (x6 || (decide (x1 < x2)))) rfl (by rw [h7]; simp only [Bool.true_or]) ?_
      refine sxo_nil ?_
      exact sxq_case (lk_cons rfl lk_nil)
    · refine sxo_take (os := _) rfl ?_
      refine sxo_isF (k := 12) rfl h7 ?_
      refine sxo_move rfl rfl rfl ?_
      refine sxo_move rfl rfl rfl ?_
      refine sxo_lss rfl rfl rfl rfl ?_
      refine sxo_pick (b := false) rfl rfl rfl rfl ?_
      refine sxo_again (d := 16) (v := .bool (x6 || (decide (x1 < x2)))) rfl (by rw [h7]; simp only [Bool.false_or]) ?_
      refine sxo_nil ?_
      exact sxq_case (lk_cons rfl lk_nil)
    refine sxo_take (os := _) rfl ?_
    refine sxo_assign rfl rfl rfl ?_
    refine sxo_nil ?_
    refine sxq_next ?_
    refine sxc_ret ?_
    exact sxq_doneP () (res1 rfl rfl)

theorem C_slices_isNaN_int (F : Nat) (x1 : Int) (r : Bool) (hm : M_slices_isNaN_int F x1 = some r) :
    Pure Try.prog 63 [.int .i64 x1] [] Unit (fun _ => .bool r) (fun _ => []) (fun _ => []) := by
  refine pure_of Try.func63 rfl Try.ntmps63 rfl hm (fun w => ?_)
  refine sxc_env (l' := [(0, .int .i64 x1)]) rfl ?_
  refine sxc_seq ?_
  refine sxc_region ?_
  refine sxo_assign rfl rfl rfl ?_
  refine sxo_nil ?_
  refine sxq_next ?_
  refine sxc_seq ?_
  refine sxc_region ?_
  refine sxo_move rfl rfl rfl ?_
  refine sxo_move rfl rfl rfl ?_
  refine sxo_neq rfl rfl rfl rfl ?_
  refine sxo_assign rfl rfl rfl ?_
  refine sxo_nil ?_
  refine sxq_next ?_
  refine sxc_ret ?_
  exact sxq_doneP () (res1 rfl rfl)

theorem C_slices_BinarySearch_int_int (F : Nat) (x1 : List Int) (a2 : Option Addr) (c3 : Nat) (x4 : Int) (r : (Int × Bool)) (hm : M_slices_BinarySearch_int_int F x1 x4 = some r) :
    Pure Try.prog 48 [.slice a2 x1.length c3, .int .i64 x4] [Sl (eI .i64) 1 (.slice a2 x1.length c3) x1] Unit (fun _ => .tuple #[.int .i64 r.1, .bool r.2]) (fun _ => []) (fun _ => []) := by
  refine pure_of Try.func48 rfl Try.ntmps48 rfl hm (fun w => ?_)
  refine sxc_env (l' := [(0, .slice a2 x1.length c3), (1, .int .i64 x4)]) rfl ?_
  refine sxc_seq ?_
  refine sxc_region ?_
  refine sxo_assign rfl rfl rfl ?_
  refine sxo_assign rfl rfl rfl ?_
  refine sxo_nil ?_
  refine sxq_next ?_
  refine sxc_seq ?_
  refine sxc_region ?_
  refine sxo_move rfl rfl rfl ?_
  refine sxo_len rfl Try.underlying22 rfl rfl ?_
  refine sxo_assign rfl rfl rfl ?_
  refine sxo_nil ?_
  refine sxq_next ?_
  refine sxc_seq ?_
  refine sxc_region ?_
  refine sxo_move rfl rfl rfl ?_
  refine sxo_assign rfl rfl rfl ?_
  refine sxo_assign rfl rfl rfl ?_
  refine sxo_nil ?_
  refine sxq_next ?_
  refine sxc_join (fun ((x32, _) : (Int × Unit)) => [(0, .slice a2 x1.length c3), (1, .int .i64 x4), (6, .int .i64 (x1.length : Int)), (7, .int .i64 x32)]) (fun ((x32, _) : (Int × Unit)) => []) (fun ((x32, _) : (Int × Unit)) => []) (fun ((x32, _) : (Int × Unit)) => [Sl (eI .i64) 1 (.slice a2 x1.length c3) x1]) (fun ((x32, _) : (Int × Unit)) => M_slices_BinarySearch_int_int_j2 F x1 x4 x32) ?_ ?_
  · refine sxc_block ?_
    refine sxc_loopP (fun (((x85, x86), _) : ((Int × Int) × Unit)) => [(0, .slice a2 x1.length c3), (1, .int .i64 x4), (6, .int .i64 (x1.length : Int)), (7, .int .i64 x85), (8, .int .i64 x86)]) (fun (((x85, x86), _) : ((Int × Int) × Unit)) => []) (fun (((x85, x86), _) : ((Int × Int) × Unit)) => []) (fun (((x85, x86), _) : ((Int × Int) × Unit)) => [Sl (eI .i64) 1 (.slice a2 x1.length c3) x1]) (fun k (s : ((Int × Int) × Unit)) => M_slices_BinarySearch_int_int_l10 F x1 x4 k s.1) ((0, (x1.length : Int)), ()) F ?_ (hF := (fk_cons 0 rfl fk_nil))
    intro k95
    rintro ⟨⟨x85, x86⟩, _⟩
    try dsimp only
    refine sxc_meq (m' := M_slices_BinarySearch_int_int_b10 F x1 x4 (M_slices_BinarySearch_int_int_l10 F x1 x4 k95) x85 x86) rfl ?_
    refine sxc_seq ?_
    refine sxc_seq ?_
    refine sxc_region ?_
    refine sxo_move rfl rfl rfl ?_
    refine sxo_move rfl rfl rfl ?_
    refine sxo_lss rfl rfl rfl rfl ?_
    refine sxo_nil ?_
    refine sxq_next ?_
    refine sxc_if rfl (fun h103 => ?_) (fun h103 => ?_)
    · refine sxc_skip ?_
      refine sxq_next ?_
      refine sxc_block ?_
      refine sxc_seq ?_
      refine sxc_region ?_
      refine sxo_move rfl rfl rfl ?_
      refine sxo_move rfl rfl rfl ?_
      refine sxo_add rfl rfl rfl rfl ?_
      refine sxo_conv rfl Try.underlying3 Try.underlying91 rfl rfl ?_
      refine sxo_shr rfl rfl rfl rfl rfl ?_
      refine sxo_conv rfl Try.underlying91 Try.underlying3 rfl rfl ?_
      refine sxo_assign rfl rfl rfl ?_
      refine sxo_lett (fun x97 e97 => ?_)
      refine sxo_again (d := 9) (v := .int .i64 x97) rfl (by rw [e97] <;> rfl) ?_
      refine sxo_nil ?_
      refine sxq_next ?_
      refine sxc_seq ?_
      refine sxc_region ?_
      refine sxo_move rfl rfl rfl ?_
      refine sxo_move rfl rfl rfl ?_
      refine sxo_indexF (j := 0) (eI_ok .i64) (by decide) rfl Try.underlying22 tf3 rfl rfl rfl rfl (fun x98 e98 b99 o100 => ?_)
      refine sxo_loadF (j := 0) rfl rfl tf3 rfl rfl (fun _ => rfl) rfl rfl ?_
      refine sxo_move rfl rfl rfl ?_
      refine sxo_call ent62 rfl rfl rfl (fun x101 e101 => C_cmp_Less_int F x98 x4 x101 e101) .nil (fun x101 e101 => ?_)
      intro _
      refine sxo_nil ?_
      refine sxq_next ?_
      refine sxc_if rfl (fun h102 => ?_) (fun h102 => ?_)
      · refine sxc_region ?_
        refine sxo_move rfl rfl rfl ?_
        refine sxo_add rfl rfl rfl rfl ?_
        refine sxo_assign rfl rfl rfl ?_
        refine sxo_nil ?_
        refine sxq_blkN ?_
        exact sxq_againP ((iadd .i64 x97 1, x86), ()) (hF := (fk_cons 1 rfl fk_nil))
      · refine sxc_region ?_
        refine sxo_move rfl rfl rfl ?_
        refine sxo_assign rfl rfl rfl ?_
        refine sxo_nil ?_
        refine sxq_blkN ?_
        exact sxq_againP ((x85, x97), ()) (hF := (fk_cons 1 rfl fk_nil))
    · refine sxc_exit ?_
      refine sxq_thenX ?_
      refine sxq_thenX ?_
      refine sxq_blkX ?_
      exact sxq_meetP (x85, ()) (hF := (fk_cons 0 rfl fk_nil))
  · rintro ⟨x32, _⟩
    try dsimp only
    refine sxc_seq ?_
    refine sxc_region ?_
    refine sxo_move rfl rfl rfl ?_
    refine sxo_move rfl rfl rfl ?_
    refine sxo_move rfl rfl rfl ?_
    refine sxo_lss rfl rfl rfl rfl ?_
    refine sxo_move rfl rfl rfl ?_
    refine sxo_join 18 (fun ((x55, _) : (Bool × Unit)) => [(31, .int .i64 x32), (53, .bool x55)]) (fun ((x55, _) : (Bool × Unit)) => []) (fun ((x55, _) : (Bool × Unit)) => []) (fun ((x55, _) : (Bool × Unit)) => []) (fun ((x55, _) : (Bool × Unit)) => M_slices_BinarySearch_int_int_j6 F x32 x55) ?_ ?_
    · refine sxo_take (os := _) rfl ?_
      refine sxo_if (fun h33 => ?_) (fun h33 => ?_)
      · refine sxo_isT (k := 35) rfl h33 ?_
        refine sxo_move rfl rfl rfl ?_
        refine sxo_move rfl rfl rfl ?_
        refine sxo_indexF (j := 0) (eI_ok .i64) (by decide) rfl Try.underlying22 tf3 rfl rfl rfl rfl (fun x56 e56 b57 o58 => ?_)
        refine sxo_loadF (j := 0) rfl rfl tf3 rfl rfl (fun _ => rfl) rfl rfl ?_
        refine sxo_move rfl rfl rfl ?_
        refine sxo_eql rfl rfl rfl rfl ?_
        refine sxo_move rfl rfl rfl ?_
        refine sxo_join 10 (fun ((x68, _) : (Bool × Unit)) => [(31, .int .i64 x32), (35, .bool true), (52, .bool x68)]) (fun ((x68, _) : (Bool × Unit)) => []) (fun ((x68, _) : (Bool × Unit)) => []) (fun ((x68, _) : (Bool × Unit)) => []) (fun ((x68, _) : (Bool × Unit)) => M_slices_BinarySearch_int_int_j8 F x32 x68) ?_ ?_
        · refine sxo_take (os := _) rfl ?_
          refine sxo_if (fun h59 => ?_) (fun h59 => ?_)
          · refine sxo_isT (k := 42) rfl h59 ?_
            refine sxo_skip rfl rfl rfl ?_
            refine sxo_skip rfl rfl rfl ?_
            refine sxo_skip rfl rfl rfl ?_
            refine sxo_skip rfl rfl rfl ?_
            refine sxo_skip rfl rfl rfl ?_
            refine sxo_skip rfl rfl rfl ?_
            refine sxo_skip rfl rfl rfl ?_
            refine sxo_skip rfl rfl rfl ?_
            refine sxo_skip rfl rfl rfl ?_
            refine sxo_pick (b := true) rfl rfl rfl rfl ?_
            refine sxo_nil ?_
            exact sxq_meetP (true, ())
          · refine sxo_isF (k := 42) rfl h59 ?_
            refine sxo_move rfl rfl rfl ?_
            refine sxo_move rfl rfl rfl ?_
            refine sxo_indexF (j := 1) (eI_ok .i64) (by decide) rfl Try.underlying22 tf3 rfl rfl rfl rfl (fun x69 e69 b70 o71 => ?_)
            refine sxo_loadF (j := 0) rfl rfl tf3 rfl rfl (fun _ => rfl) rfl rfl ?_
            refine sxo_call ent63 rfl rfl rfl (fun x72 e72 => C_slices_isNaN_int F x69 x72 e72) .nil (fun x72 e72 => ?_)
            intro _
            refine sxo_move rfl rfl rfl ?_
            refine sxo_join 3 (fun ((x75, _) : (Bool × Unit)) => [(31, .int .i64 x32), (35, .bool true), (42, .bool false), (51, .bool x75)]) (fun ((x75, _) : (Bool × Unit)) => []) (fun ((x75, _) : (Bool × Unit)) => []) (fun ((x75, _) : (Bool × Unit)) => []) (fun ((x75, _) : (Bool × Unit)) => M_slices_BinarySearch_int_int_j9 F x32 x75) ?_ ?_
            · refine sxo_take (os := _) rfl ?_
              refine sxo_if (fun h73 => ?_) (fun h73 => ?_)
              · refine sxo_isT (k := 48) rfl h73 ?_
                refine sxo_move rfl rfl rfl ?_
                refine sxo_call ent63 rfl rfl rfl (fun x76 e76 => C_slices_isNaN_int F x4 x76 e76) .nil (fun x76 e76 => ?_)
                intro _
                refine sxo_pick (b := true) rfl rfl rfl rfl ?_
                refine sxo_nil ?_
                exact sxq_meetP (x76, ())
              · refine sxo_isF (k := 48) rfl h73 ?_
                refine sxo_skip rfl rfl rfl ?_
                refine sxo_skip rfl rfl rfl ?_
                refine sxo_pick (b := false) rfl rfl rfl rfl ?_
                refine sxo_nil ?_
                exact sxq_meetP (false, ())
            · rintro ⟨x75, _⟩
              try dsimp only
              refine sxo_take (os := _) rfl ?_
              refine sxo_pick (b := false) rfl rfl rfl rfl ?_
              refine sxo_nil ?_
              exact sxq_meetP (x75, ())
        · rintro ⟨x68, _⟩
          try dsimp only
          refine sxo_take (os := _) rfl ?_
          refine sxo_pick (b := true) rfl rfl rfl rfl ?_
          refine sxo_nil ?_
          exact sxq_meetP (x68, ())
      · refine sxo_isF (k := 35) rfl h33 ?_
        refine sxo_skip rfl rfl rfl ?_
        refine sxo_skip rfl rfl rfl ?_
        refine sxo_skip rfl rfl rfl ?_
        refine sxo_skip rfl rfl rfl ?_
        refine sxo_skip rfl rfl rfl ?_
        refine sxo_skip rfl rfl rfl ?_
        refine sxo_skip rfl rfl rfl ?_
        refine sxo_skip rfl rfl rfl ?_
        refine sxo_skip rfl rfl rfl ?_
        refine sxo_skip rfl rfl rfl ?_
        refine sxo_skip rfl rfl rfl ?_
        refine sxo_skip rfl rfl rfl ?_
        refine sxo_skip rfl rfl rfl ?_
        refine sxo_skip rfl rfl rfl ?_
        refine sxo_skip rfl rfl rfl ?_
        refine sxo_skip rfl rfl rfl ?_
        refine sxo_skip rfl rfl rfl ?_
        refine sxo_pick (b := false) rfl rfl rfl rfl ?_
        refine sxo_nil ?_
        exact sxq_meetP (false, ())
    · rintro ⟨x55, _⟩
      try dsimp only
      refine sxo_take (os := _) rfl ?_
      refine sxo_assign rfl rfl rfl ?_
      refine sxo_assign rfl rfl rfl ?_
      refine sxo_nil ?_
      refine sxq_next ?_
      refine sxc_ret ?_
      exact sxq_doneP () (res2 rfl rfl rfl)

theorem C_parts_turner_see (F : Nat) (g1 : Nat) (x2 : List Int) (a3 : Option Addr) (c4 : Nat) (x5 : Bool) (x6 : Int) (x7 : Bool) (r : (List Int × Bool × Int)) (hm : M_parts_turner_see F x2 x5 x6 x7 = some r) :
    PureM Try.prog 49 [.pointer (some ⟨g1, 0, none⟩), .bool x7] [⟨g1, 95, [.slice a3 x2.length c4, .bool x5, .int .i64 x6]⟩] [Ro (eI .i64) 3 1 (.slice a3 x2.length c4) x2] [] (Option Addr × Nat) (fun _ => .tuple #[]) (fun g => [⟨g1, 95, [.slice g.1 r.1.length g.2, .bool r.2.1, .int .i64 r.2.2]⟩]) (fun g => [Ro (eI .i64) 3 1 (.slice g.1 r.1.length g.2) r.1]) := by
  refine pureM_of Try.func49 rfl Try.ntmps49 rfl hm (fun w => ?_)
  refine sxc_env (l' := [(0, .pointer (some ⟨g1, 0, none⟩)), (1, .bool x7)]) rfl ?_
  refine sxc_join (fun (((x21, x22, x23), (a19, c20)) : ((List Int × Bool × Int) × (Option Addr × Nat))) => [(0, .pointer (some ⟨g1, 0, none⟩))]) (fun (((x21, x22, x23), (a19, c20)) : ((List Int × Bool × Int) × (Option Addr × Nat))) => [⟨g1, 95, [.slice a19 x21.length c20, .bool x22, .int .i64 x23]⟩]) (fun (((x21, x22, x23), (a19, c20)) : ((List Int × Bool × Int) × (Option Addr × Nat))) => [Ro (eI .i64) 3 1 (.slice a19 x21.length c20) x21]) (fun (((x21, x22, x23), (a19, c20)) : ((List Int × Bool × Int) × (Option Addr × Nat))) => []) (fun (((x21, x22, x23), _) : ((List Int × Bool × Int) × (Option Addr × Nat))) => M_parts_turner_see_j1 F x21 x22 x23) ?_ ?_
  · refine sxc_seq ?_
    refine sxc_region ?_
    refine sxo_move rfl rfl rfl ?_
    refine sxo_move rfl rfl rfl ?_
    refine sxo_nilCheck rfl rfl rfl ?_
    refine sxo_fieldAddr rfl rfl ff95_1 rfl ?_
    refine sxo_loadB (i := 0) rfl rfl tf4 rfl rfl (fun _ => rfl) rfl rfl ?_
    refine sxo_neb rfl Try.underlying4 rfl rfl rfl ?_
    refine sxo_nil ?_
    refine sxq_next ?_
    refine sxc_if rfl (fun h34 => ?_) (fun h34 => ?_)
    · refine sxc_seq ?_
      refine sxb_draw mixed [13] [] [(BlkD.is ⟨g1, 95, [.slice a3 x2.length c4, .bool x5, .int .i64 x6]⟩)] .nil (gk_B 0 rfl gk_nil) 14 rfl ?_
      refine sxb_takeP 0 (.pointer (some ⟨g1, 0, none⟩)) rfl rfl rfl (yv_pv rfl) ?_
      refine sxb_takeP 1 (.pointer (some ⟨g1, 0, none⟩)) rfl rfl rfl (yv_pv rfl) ?_
      refine sxb_takeP 2 (.pointer (some ⟨g1, 0, none⟩)) rfl rfl rfl (yv_pv rfl) ?_
      refine sxb_takeP 3 (.pointer (some ⟨g1, 0, none⟩)) rfl rfl rfl (yv_fieldAddr rfl ff95_0) ?_
      refine sxb_take 4 (.slice a3 x2.length c4) [[13]] rfl rfl rfl (yv_loadG (j := 0) rfl tf22 rfl rfl (fun _ => rfl) rfl) ?_
      refine sxb_takeP 5 (.pointer (some ⟨g1, 0, none⟩)) rfl rfl rfl (yv_pv rfl) ?_
      refine sxb_takeP 6 (.pointer (some ⟨g1, 0, none⟩)) rfl rfl rfl (yv_pv rfl) ?_
      refine sxb_takeP 7 (.pointer (some ⟨g1, 2, none⟩)) rfl rfl rfl (yv_fieldAddr rfl ff95_2) ?_
      refine sxb_take 8 (.int .i64 x6) [[13]] rfl rfl rfl (yv_loadG (j := 0) rfl tf3 rfl rfl (fun _ => rfl) rfl) ?_
      refine sxb_step 9 rfl (by kernel_rfl) rfl ?_
      refine sxo_slit (vs := [.int .i64 x6]) (ys := ([x6] : List Int)) (eI_ok .i64) (by decide) rfl Try.underlying22 tf3 rfl rfl rfl rfl rfl (by decide) (fun a29 c30 => ?_)
      refine sxo_nil ?_
      refine sxq_anyB .nil (gk_B 0 rfl gk_nil) ?_
      refine sxb_step 10 rfl (by kernel_rfl) rfl ?_
      refine sxo_app 1 (eI_ok .i64) rfl Try.underlying22 tf3 rfl rfl rfl rfl rfl (.inl ⟨0, _, rfl⟩) rfl rfl (fun x31 e31 a32 c33 => ?_)
      refine sxo_nil ?_
      refine sxq_anyB .nil (gk_B 0 rfl gk_nil) ?_
      refine sxb_takeP 11 (.pointer (some ⟨g1, 0, none⟩)) rfl rfl rfl (yv_pv rfl) ?_
      refine sxb_takeP 12 (.pointer (some ⟨g1, 0, none⟩)) rfl rfl rfl (yv_fieldAddr rfl ff95_0) ?_
      refine sxb_step 13 rfl (by kernel_rfl) rfl ?_
      refine sxo_storeB (i := 0) rfl rfl rfl tf22 rfl rfl rfl rfl rfl ?_
      refine sxo_nil ?_
      refine sxq_anyW 13 rfl (by kernel_rfl) .nil ?_
      refine sxb_done (by kernel_rfl) ?_
      refine sxq_np ?_ (by intro c h; cases h)
      refine sxq_next ?_
      refine sxc_region ?_
      refine sxo_move rfl rfl rfl ?_
      refine sxo_move rfl rfl rfl ?_
      refine sxo_move rfl rfl rfl ?_
      refine sxo_nilCheck rfl rfl rfl ?_
      refine sxo_fieldAddr rfl rfl ff95_1 rfl ?_
      refine sxo_storeB (i := 0) rfl rfl rfl tf4 rfl rfl rfl rfl rfl ?_
      refine sxo_nilCheck rfl rfl rfl ?_
      refine sxo_fieldAddr rfl rfl ff95_2 rfl ?_
      refine sxo_storeB (i := 0) rfl rfl rfl tf3 rfl rfl rfl rfl rfl ?_
      refine sxo_nil ?_
      exact sxq_meetP ((x31, x7, 0), (a32, c33)) (hB := (.cons 0 rfl .nil)) (hR := (.cons 0 rfl .nil))
    · refine sxc_skip ?_
      exact sxq_meetP ((x2, x5, x6), (a3, c4)) (hB := (.cons 0 rfl .nil)) (hR := (.cons 0 rfl .nil))
  · rintro ⟨⟨x21, x22, x23⟩, ⟨a19, c20⟩⟩
    try dsimp only
    refine sxc_region ?_
    refine sxo_move rfl rfl rfl ?_
    refine sxo_nilCheck rfl rfl rfl ?_
    refine sxo_fieldAddr rfl rfl ff95_2 rfl ?_
    refine sxo_loadB (i := 0) rfl rfl tf3 rfl rfl (fun _ => rfl) rfl rfl ?_
    refine sxo_add rfl rfl rfl rfl ?_
    refine sxo_nilCheck rfl rfl rfl ?_
    refine sxo_fieldAddr rfl rfl ff95_2 rfl ?_
    refine sxo_storeB (i := 0) rfl rfl rfl tf3 rfl rfl rfl rfl rfl ?_
    refine sxo_nil ?_
    exact sxq_doneM (a19, c20) (res0 rfl) (hB := fun h => by subst h; exact (.cons 0 rfl .nil)) (hR := fun h => by subst h; exact (.cons 0 rfl .nil))

theorem C_parts_Raw (F : Nat) (x1 : List Int) (a2 : Option Addr) (c3 : Nat) (x4 : List Int) (a5 : Option Addr) (c6 : Nat) (r : (List Int × List Int)) (hm : M_parts_Raw F x1 x4 = some r) :
    Pure Try.prog 35 [.slice a2 x1.length c3, .slice a5 x4.length c6] [Sl (eI .i64) 1 (.slice a2 x1.length c3) x1, Sl (eI .i64) 1 (.slice a5 x4.length c6) x4] ((Option Addr × Nat) × (Option Addr × Nat)) (fun g => .tuple #[.slice g.1.1 r.1.length g.1.2, .slice g.2.1 r.2.length g.2.2]) (fun g => [Ro (eI .i64) 3 1 (.slice g.1.1 r.1.length g.1.2) r.1, Ro (eI .i64) 3 1 (.slice g.2.1 r.2.length g.2.2) r.2]) (fun _ => []) := by
  refine pure_of Try.func35 rfl Try.ntmps35 rfl hm (fun w => ?_)
  refine sxc_env (l' := [(0, .slice a2 x1.length c3), (1, .slice a5 x4.length c6)]) rfl ?_
  refine sxc_seq ?_
  refine sxc_region ?_
  refine sxo_assign rfl rfl rfl ?_
  refine sxo_assign rfl rfl rfl ?_
  refine sxo_nil ?_
  refine sxq_next ?_
  refine sxc_seq ?_
  refine sxc_region ?_
  refine sxo_build (cells := [.slice none 0 0, .bool true, .int .i64 0]) rfl st95 rfl (by kernel_rfl) rfl ?_
  refine sxo_box rfl rfl rfl (fun g7 => ?_)
  refine sxo_assign rfl rfl rfl ?_
  refine sxo_nil ?_
  refine sxq_next ?_
  refine sxc_join (fun (((x66, x67, x68), (a64, c65)) : ((List Int × Bool × Int) × (Option Addr × Nat))) => [(0, .slice a2 x1.length c3), (1, .slice a5 x4.length c6), (5, .slice none 0 0), (6, .pointer (some ⟨g7, 0, none⟩))]) (fun (((x66, x67, x68), (a64, c65)) : ((List Int × Bool × Int) × (Option Addr × Nat))) => [⟨g7, 95, [.slice a64 x66.length c65, .bool x67, .int .i64 x68]⟩]) (fun (((x66, x67, x68), (a64, c65)) : ((List Int × Bool × Int) × (Option Addr × Nat))) => [Ro (eI .i64) 3 1 (.slice a64 x66.length c65) x66]) (fun (((x66, x67, x68), (a64, c65)) : ((List Int × Bool × Int) × (Option Addr × Nat))) => [Sl (eI .i64) 1 (.slice a2 x1.length c3) x1, Sl (eI .i64) 1 (.slice a5 x4.length c6) x4]) (fun (((x66, x67, x68), _) : ((List Int × Bool × Int) × (Option Addr × Nat))) => M_parts_Raw_j2 F x1 x4 x66 x67 x68) ?_ ?_
  · refine sxc_seq ?_
    refine sxc_region ?_
    refine sxo_move rfl rfl rfl ?_
    refine sxo_len rfl Try.underlying22 rfl rfl ?_
    refine sxo_move rfl rfl rfl ?_
    refine sxo_nil ?_
    refine sxq_next ?_
    refine sxc_block ?_
    refine sxc_nilrow Int (eI .i64) 3 1 ?_
    refine sxc_loopP (fun (((x249, x252, x253, x254), (a250, c251)) : ((Int × List Int × Bool × Int) × (Option Addr × Nat))) => [(0, .slice a2 x1.length c3), (1, .slice a5 x4.length c6), (5, .slice none 0 0), (6, .pointer (some ⟨g7, 0, none⟩)), (17, .slice a2 x1.length c3), (18, .int .i64 (x1.length : Int)), (19, .int .i64 x249)]) (fun (((x249, x252, x253, x254), (a250, c251)) : ((Int × List Int × Bool × Int) × (Option Addr × Nat))) => [⟨g7, 95, [.slice a250 x252.length c251, .bool x253, .int .i64 x254]⟩]) (fun (((x249, x252, x253, x254), (a250, c251)) : ((Int × List Int × Bool × Int) × (Option Addr × Nat))) => [Ro (eI .i64) 3 1 (.slice a250 x252.length c251) x252]) (fun (((x249, x252, x253, x254), (a250, c251)) : ((Int × List Int × Bool × Int) × (Option Addr × Nat))) => [Sl (eI .i64) 1 (.slice a2 x1.length c3) x1, Sl (eI .i64) 1 (.slice a5 x4.length c6) x4]) (fun k (s : ((Int × List Int × Bool × Int) × (Option Addr × Nat))) => M_parts_Raw_l12 F x1 x4 k s.1) ((0, ([] : List Int), true, 0), (none, 0)) F ?_ (hB := (.cons 0 rfl .nil)) (hR := (.cons 0 rfl .nil)) (hF := (fk_cons 0 rfl (fk_cons 1 rfl fk_nil)))
    intro k271
    rintro ⟨⟨x249, x252, x253, x254⟩, ⟨a250, c251⟩⟩
    try dsimp only
    refine sxc_meq (m' := M_parts_Raw_b12 F x1 x4 (M_parts_Raw_l12 F x1 x4 k271) x249 x252 x253 x254) rfl ?_
    refine sxc_seq ?_
    refine sxc_region ?_
    refine sxo_lss rfl rfl rfl rfl ?_
    refine sxo_nil ?_
    refine sxq_next ?_
    refine sxc_seq ?_
    refine sxc_if rfl (fun h287 => ?_) (fun h287 => ?_)
    · refine sxc_skip ?_
      refine sxq_next ?_
      refine sxc_seq ?_
      refine sxc_block ?_
      refine sxc_seq ?_
      refine sxc_region ?_
      refine sxo_indexF (j := 0) (eI_ok .i64) (by decide) rfl Try.underlying22 tf3 rfl rfl rfl rfl (fun x280 e280 b281 o282 => ?_)
      refine sxo_loadF (j := 0) rfl rfl tf3 rfl rfl (fun _ => rfl) rfl rfl ?_
      refine sxo_assign rfl rfl rfl ?_
      refine sxo_nil ?_
      refine sxq_next ?_
      refine sxc_seq ?_
      refine sxc_region ?_
      refine sxo_move rfl rfl rfl ?_
      refine sxo_move rfl rfl rfl ?_
      refine sxo_call ent48 rfl rfl rfl (fun x283 e283 => C_slices_BinarySearch_int_int F x4 a5 c6 x280 x283 e283) (.consF 2 rfl .nil) (fun x283 e283 => ?_)
      intro _
      refine sxo_move rfl rfl rfl ?_
      refine sxo_extract rfl rfl rfl rfl ?_
      refine sxo_extract rfl rfl rfl rfl ?_
      refine sxo_assign rfl rfl rfl ?_
      refine sxo_assign rfl rfl rfl ?_
      refine sxo_nil ?_
      refine sxq_next ?_
      refine sxc_region ?_
      refine sxo_move rfl rfl rfl ?_
      refine sxo_move rfl rfl rfl ?_
      refine sxo_callM ent49 rfl rfl rfl (fun x284 e284 => C_parts_turner_see F g7 x252 a250 c251 x253 x254 x283.2 x284 e284) (.cons 0 rfl .nil) (.cons 0 rfl .nil) .nil (fun x284 e284 => ?_)
      rintro ⟨a285, c286⟩
      refine sxo_nil ?_
      refine sxq_blkN ?_
      refine sxq_next ?_
      refine sxc_region ?_
      refine sxo_add rfl rfl rfl rfl ?_
      refine sxo_move rfl rfl rfl ?_
      refine sxo_nil ?_
      exact sxq_againP ((iadd .i64 x249 1, x284.1, x284.2.1, x284.2.2), (a285, c286)) (hB := (.cons 0 rfl .nil)) (hR := (.cons 0 rfl .nil)) (hF := (fk_cons 1 rfl (fk_cons 2 rfl fk_nil)))
    · refine sxc_exit ?_
      refine sxq_thenX ?_
      refine sxq_thenX ?_
      refine sxq_blkX ?_
      exact sxq_meetP ((x252, x253, x254), (a250, c251)) (hB := (.cons 0 rfl .nil)) (hR := (.cons 0 rfl .nil)) (hF := (fk_cons 0 rfl (fk_cons 1 rfl fk_nil)))
  · rintro ⟨⟨x66, x67, x68⟩, ⟨a64, c65⟩⟩
    try dsimp only
    refine sxc_join (fun ((x151, (a149, c150)) : (List Int × (Option Addr × Nat))) => [(5, .slice a149 x151.length c150), (6, .pointer (some ⟨g7, 0, none⟩))]) (fun ((x151, (a149, c150)) : (List Int × (Option Addr × Nat))) => [⟨g7, 95, [.slice a64 x66.length c65, .bool x67, .int .i64 x68]⟩]) (fun ((x151, (a149, c150)) : (List Int × (Option Addr × Nat))) => [Ro (eI .i64) 3 1 (.slice a149 x151.length c150) x151, Ro (eI .i64) 3 1 (.slice a64 x66.length c65) x66]) (fun ((x151, (a149, c150)) : (List Int × (Option Addr × Nat))) => []) (fun ((x151, _) : (List Int × (Option Addr × Nat))) => M_parts_Raw_j7 F x66 x151) ?_ ?_
    · refine sxc_seq ?_
      refine sxc_region ?_
      refine sxo_move rfl rfl rfl ?_
      refine sxo_len rfl Try.underlying22 rfl rfl ?_
      refine sxo_move rfl rfl rfl ?_
      refine sxo_nil ?_
      refine sxq_next ?_
      refine sxc_block ?_
      refine sxc_nilrow Int (eI .i64) 3 1 ?_
      refine sxc_loopP (fun (((x179, x180), (a177, c178)) : ((List Int × Int) × (Option Addr × Nat))) => [(0, .slice a2 x1.length c3), (5, .slice a177 x179.length c178), (6, .pointer (some ⟨g7, 0, none⟩)), (33, .slice a5 x4.length c6), (34, .int .i64 (x4.length : Int)), (35, .int .i64 x180)]) (fun (((x179, x180), (a177, c178)) : ((List Int × Int) × (Option Addr × Nat))) => [⟨g7, 95, [.slice a64 x66.length c65, .bool x67, .int .i64 x68]⟩]) (fun (((x179, x180), (a177, c178)) : ((List Int × Int) × (Option Addr × Nat))) => [Ro (eI .i64) 3 1 (.slice a177 x179.length c178) x179, Ro (eI .i64) 3 1 (.slice a64 x66.length c65) x66]) (fun (((x179, x180), (a177, c178)) : ((List Int × Int) × (Option Addr × Nat))) => [Sl (eI .i64) 1 (.slice a2 x1.length c3) x1, Sl (eI .i64) 1 (.slice a5 x4.length c6) x4]) (fun k (s : ((List Int × Int) × (Option Addr × Nat))) => M_parts_Raw_l10 F x1 x4 x66 k s.1) ((([] : List Int), 0), (none, 0)) F ?_ (hB := (.cons 0 rfl .nil)) (hR := (.cons 0 rfl (.cons 0 rfl .nil))) (hF := (fk_cons 0 rfl (fk_cons 1 rfl fk_nil)))
      intro k206
      rintro ⟨⟨x179, x180⟩, ⟨a177, c178⟩⟩
      try dsimp only
      refine sxc_meq (m' := M_parts_Raw_b10 F x1 x4 x66 (M_parts_Raw_l10 F x1 x4 x66 k206) x179 x180) rfl ?_
      refine sxc_seq ?_
      refine sxc_region ?_
      refine sxo_lss rfl rfl rfl rfl ?_
      refine sxo_nil ?_
      refine sxq_next ?_
      refine sxc_seq ?_
      refine sxc_if rfl (fun h231 => ?_) (fun h231 => ?_)
      · refine sxc_skip ?_
        refine sxq_next ?_
        refine sxc_join (fun ((x220, (a218, c219)) : (List Int × (Option Addr × Nat))) => [(0, .slice a2 x1.length c3), (5, .slice a218 x220.length c219), (6, .pointer (some ⟨g7, 0, none⟩)), (33, .slice a5 x4.length c6), (34, .int .i64 (x4.length : Int)), (35, .int .i64 x180)]) (fun ((x220, (a218, c219)) : (List Int × (Option Addr × Nat))) => [⟨g7, 95, [.slice a64 x66.length c65, .bool x67, .int .i64 x68]⟩]) (fun ((x220, (a218, c219)) : (List Int × (Option Addr × Nat))) => [Ro (eI .i64) 3 1 (.slice a218 x220.length c219) x220, Ro (eI .i64) 3 1 (.slice a64 x66.length c65) x66]) (fun ((x220, (a218, c219)) : (List Int × (Option Addr × Nat))) => [Sl (eI .i64) 1 (.slice a2 x1.length c3) x1, Sl (eI .i64) 1 (.slice a5 x4.length c6) x4]) (fun ((x220, _) : (List Int × (Option Addr × Nat))) => M_parts_Raw_j11 F (M_parts_Raw_l10 F x1 x4 x66 k206) x180 x220) ?_ ?_
        · refine sxc_block ?_
          refine sxc_seq ?_
          refine sxc_region ?_
          refine sxo_indexF (j := 1) (eI_ok .i64) (by decide) rfl Try.underlying22 tf3 rfl rfl rfl rfl (fun x221 e221 b222 o223 => ?_)
          refine sxo_loadF (j := 0) rfl rfl tf3 rfl rfl (fun _ => rfl) rfl rfl ?_
          refine sxo_assign rfl rfl rfl ?_
          refine sxo_nil ?_
          refine sxq_next ?_
          refine sxc_seq ?_
          refine sxc_region ?_
          refine sxo_move rfl rfl rfl ?_
          refine sxo_move rfl rfl rfl ?_
          refine sxo_call ent48 rfl rfl rfl (fun x224 e224 => C_slices_BinarySearch_int_int F x1 a2 c3 x221 x224 e224) (.consF 1 rfl .nil) (fun x224 e224 => ?_)
          intro _
          refine sxo_move rfl rfl rfl ?_
          refine sxo_extract rfl rfl rfl rfl ?_
          refine sxo_extract rfl rfl rfl rfl ?_
          refine sxo_assign rfl rfl rfl ?_
          refine sxo_assign rfl rfl rfl ?_
          refine sxo_nil ?_
          refine sxq_next ?_
          refine sxc_seq ?_
          refine sxc_region ?_
          refine sxo_move rfl rfl rfl ?_
          refine sxo_not rfl rfl rfl ?_
          refine sxo_nil ?_
          refine sxq_next ?_
          refine sxc_if rfl (fun h230 => ?_) (fun h230 => ?_)
          · refine sxc_region ?_
            refine sxo_move rfl rfl rfl ?_
            refine sxo_move rfl rfl rfl ?_
            refine sxo_slit (vs := [.int .i64 x221]) (ys := ([x221] : List Int)) (eI_ok .i64) (by decide) rfl Try.underlying22 tf3 rfl rfl rfl rfl rfl (by decide) (fun a225 c226 => ?_)
            refine sxo_app 1 (eI_ok .i64) rfl Try.underlying22 tf3 rfl rfl rfl rfl rfl (.inl ⟨0, _, rfl⟩) rfl rfl (fun x227 e227 a228 c229 => ?_)
            refine sxo_assign rfl rfl rfl ?_
            refine sxo_nil ?_
            refine sxq_blkN ?_
            exact sxq_meetP (x227, (a228, c229)) (hB := (.cons 0 rfl .nil)) (hR := (.cons 0 rfl (.cons 1 rfl .nil))) (hF := (fk_cons 1 rfl (fk_cons 2 rfl fk_nil)))
          · refine sxc_skip ?_
            refine sxq_blkN ?_
            exact sxq_meetP (x179, (a177, c178)) (hB := (.cons 0 rfl .nil)) (hR := (.cons 0 rfl (.cons 0 rfl .nil))) (hF := (fk_cons 1 rfl (fk_cons 2 rfl fk_nil)))
        · rintro ⟨x220, ⟨a218, c219⟩⟩
          try dsimp only
          refine sxc_region ?_
          refine sxo_add rfl rfl rfl rfl ?_
          refine sxo_move rfl rfl rfl ?_
          refine sxo_nil ?_
          exact sxq_againP ((x220, iadd .i64 x180 1), (a218, c219)) (hB := (.cons 0 rfl .nil)) (hR := (.cons 0 rfl (.cons 0 rfl .nil))) (hF := (fk_cons 0 rfl (fk_cons 1 rfl fk_nil)))
      · refine sxc_exit ?_
        refine sxq_thenX ?_
        refine sxq_thenX ?_
        refine sxq_blkX ?_
        exact sxq_meetP (x179, (a177, c178)) (hB := (.cons 0 rfl .nil)) (hR := (.cons 0 rfl (.cons 0 rfl .nil)))
    · rintro ⟨x151, ⟨a149, c150⟩⟩
      try dsimp only
      refine sxc_seq ?_
      refine sxc_region ?_
      refine sxo_move rfl rfl rfl ?_
      refine sxo_nilCheck rfl rfl rfl ?_
      refine sxo_fieldAddr rfl rfl ff95_0 rfl ?_
      refine sxo_loadB (i := 0) rfl rfl tf22 rfl rfl (fun _ => rfl) rfl rfl ?_
      refine sxo_move rfl rfl rfl ?_
      refine sxo_assign rfl rfl rfl ?_
      refine sxo_assign rfl rfl rfl ?_
      refine sxo_nil ?_
      refine sxq_next ?_
      refine sxc_ret ?_
      exact sxq_doneP ((a64, c65), (a149, c150)) (res2 rfl rfl rfl) (fun h => by subst h; exact (.cons 1 rfl (.cons 0 rfl .nil)))

theorem C_succ_writer_blocks (F : Nat) (g1 : Nat) (x2 : Int) (x3 : List Int) (a4 : Option Addr) (c5 : Nat) (x6 : Bool) (x7 : List Int) (a8 : Option Addr) (c9 : Nat) (r : (Int × List Int × Bool)) (hm : M_succ_writer_blocks F x2 x3 x6 x7 = some r) :
    PureM Try.prog 36 [.pointer (some ⟨g1, 0, none⟩), .slice a8 x7.length c9] [⟨g1, 53, [.int .i64 x2, .slice a4 x3.length c5, .bool x6]⟩] [Ro (eI .u8) 5 1 (.slice a4 x3.length c5) x3] [Sl (eI .i64) 1 (.slice a8 x7.length c9) x7] (Option Addr × Nat) (fun _ => .tuple #[]) (fun g => [⟨g1, 53, [.int .i64 r.1, .slice g.1 r.2.1.length g.2, .bool r.2.2]⟩]) (fun g => [Ro (eI .u8) 5 1 (.slice g.1 r.2.1.length g.2) r.2.1]) := by
  refine pureM_of Try.func36 rfl Try.ntmps36 rfl hm (fun w => ?_)
  refine sxc_env (l' := [(0, .pointer (some ⟨g1, 0, none⟩)), (1, .slice a8 x7.length c9)]) rfl ?_
  refine sxc_seq ?_
  refine sxc_region ?_
  refine sxo_move rfl rfl rfl ?_
  refine sxo_move rfl rfl rfl ?_
  refine sxo_len rfl Try.underlying22 rfl rfl ?_
  refine sxo_callM ent34 rfl rfl rfl (fun x10 e10 => C_succ_writer_gamma F g1 x2 x3 a4 c5 x6 (x7.length : Int) x10 e10) (.cons 0 rfl .nil) (.cons 0 rfl .nil) .nil (fun x10 e10 => ?_)
  rintro ⟨a11, c12⟩
  refine sxo_nil ?_
  refine sxq_next ?_
  refine sxc_seq ?_
  refine sxc_region ?_
  refine sxo_move rfl rfl rfl ?_
  refine sxo_len rfl Try.underlying22 rfl rfl ?_
  refine sxo_move rfl rfl rfl ?_
  refine sxo_nil ?_
  refine sxq_next ?_
  refine sxc_block ?_
  refine sxc_loopP (fun (((x27, x28, x31, x32), (a29, c30)) : ((Int × Int × List Int × Bool) × (Option Addr × Nat))) => [(0, .pointer (some ⟨g1, 0, none⟩)), (10, .slice a8 x7.length c9), (11, .int .i64 (x7.length : Int)), (12, .int .i64 x27)]) (fun (((x27, x28, x31, x32), (a29, c30)) : ((Int × Int × List Int × Bool) × (Option Addr × Nat))) => [⟨g1, 53, [.int .i64 x28, .slice a29 x31.length c30, .bool x32]⟩]) (fun (((x27, x28, x31, x32), (a29, c30)) : ((Int × Int × List Int × Bool) × (Option Addr × Nat))) => [Ro (eI .u8) 5 1 (.slice a29 x31.length c30) x31]) (fun (((x27, x28, x31, x32), (a29, c30)) : ((Int × Int × List Int × Bool) × (Option Addr × Nat))) => [Sl (eI .i64) 1 (.slice a8 x7.length c9) x7]) (fun k (s : ((Int × Int × List Int × Bool) × (Option Addr × Nat))) => M_succ_writer_blocks_l1 F x7 k s.1) ((0, x10.1, x10.2.1, x10.2.2), (a11, c12)) F ?_ (hB := (.cons 0 rfl .nil)) (hR := (.cons 0 rfl .nil)) (hF := (fk_cons 0 rfl fk_nil))
  intro k47
  rintro ⟨⟨x27, x28, x31, x32⟩, ⟨a29, c30⟩⟩
  try dsimp only
  refine sxc_meq (m' := M_succ_writer_blocks_b1 F x7 (M_succ_writer_blocks_l1 F x7 k47) x27 x28 x31 x32) rfl ?_
  refine sxc_seq ?_
  refine sxc_region ?_
  refine sxo_lss rfl rfl rfl rfl ?_
  refine sxo_nil ?_
  refine sxq_next ?_
  refine sxc_seq ?_
  refine sxc_if rfl (fun h61 => ?_) (fun h61 => ?_)
  · refine sxc_skip ?_
    refine sxq_next ?_
    refine sxc_seq ?_
    refine sxc_block ?_
    refine sxc_seq ?_
    refine sxc_region ?_
    refine sxo_move rfl rfl rfl ?_
    refine sxo_indexF (j := 0) (eI_ok .i64) (by decide) rfl Try.underlying22 tf3 rfl rfl rfl rfl (fun x55 e55 b56 o57 => ?_)
    refine sxo_loadF (j := 0) rfl rfl tf3 rfl rfl (fun _ => rfl) rfl rfl ?_
    refine sxo_assign rfl rfl rfl ?_
    refine sxo_assign rfl rfl rfl ?_
    refine sxo_nil ?_
    refine sxq_next ?_
    refine sxc_region ?_
    refine sxo_move rfl rfl rfl ?_
    refine sxo_move rfl rfl rfl ?_
    refine sxo_move rfl rfl rfl ?_
    refine sxo_min rfl rfl rfl rfl ?_
    refine sxo_sub rfl rfl rfl rfl ?_
    refine sxo_callM ent34 rfl rfl rfl (fun x58 e58 => C_succ_writer_gamma F g1 x28 x31 a29 c30 x32 (isub .i64 x55 (imin x27 1)) x58 e58) (.cons 0 rfl .nil) (.cons 0 rfl .nil) .nil (fun x58 e58 => ?_)
    rintro ⟨a59, c60⟩
    refine sxo_nil ?_
    refine sxq_blkN ?_
    refine sxq_next ?_
    refine sxc_region ?_
    refine sxo_add rfl rfl rfl rfl ?_
    refine sxo_move rfl rfl rfl ?_
    refine sxo_nil ?_
    exact sxq_againP ((iadd .i64 x27 1, x58.1, x58.2.1, x58.2.2), (a59, c60)) (hB := (.cons 0 rfl .nil)) (hR := (.cons 0 rfl .nil)) (hF := (fk_cons 1 rfl fk_nil))
  · refine sxc_exit ?_
    refine sxq_thenX ?_
    refine sxq_thenX ?_
    refine sxq_blkX ?_
    exact sxq_doneM (a29, c30) (res0 rfl) (hB := fun h => by subst h; exact (.cons 0 rfl .nil)) (hR := fun h => by subst h; exact (.cons 0 rfl .nil))

theorem C_runs_runs (F : Nat) (x1 : List Int) (a2 : Option Addr) (c3 : Nat) (r : Unit) (hm : M_runs_runs F x1 = some r) :
    PureM Try.prog 50 [.slice a2 x1.length c3] [] [] [Sl (eI .i64) 1 (.slice a2 x1.length c3) x1] Nat (fun g => .func (.func 64) #[] #[.pointer (some ⟨g, 0, none⟩)]) (fun g => [⟨g, 22, [.slice a2 x1.length c3]⟩]) (fun _ => []) := by
  refine pureM_of Try.func50 rfl Try.ntmps50 rfl hm (fun w => ?_)
  refine sxc_env (l' := [(0, .slice a2 x1.length c3)]) rfl ?_
  refine sxc_seq ?_
  refine sxc_region ?_
  refine sxo_box rfl rfl rfl (fun g4 => ?_)
  refine sxo_assign rfl rfl rfl ?_
  refine sxo_nil ?_
  refine sxq_next ?_
  refine sxc_seq ?_
  refine sxc_region ?_
  refine sxo_makeFunc rfl rfl rfl ?_
  refine sxo_assign rfl rfl rfl ?_
  refine sxo_nil ?_
  refine sxq_next ?_
  refine sxc_ret ?_
  exact sxq_doneM g4 (res1 rfl rfl) (hB := fun h => by subst h; exact (.cons 0 rfl .nil))

theorem C_runs_runs_1 (F : Nat) {σ τ : Type} {J : Rounds σ τ} {yy : σ → (Int × Int) → Option (σ ⊕ τ)} {L : Nat} (hY : YieldC Try.prog L (fun (p : (Int × Int)) => [.agg #[.int .i64 p.1, .int .i64 p.2]]) J yy) (s0 : σ) (gs0 : J.γ) (g1 : Nat) (x2 : List Int) (a3 : Option Addr) (c4 : Nat) (r : σ ⊕ τ) (hm : M_runs_runs_1 F yy x2 s0 = some r) :
    PureM Try.prog 64 ([.func (.yield L) #[] #[], .pointer (some ⟨g1, 0, none⟩)]) ([⟨g1, 22, [.slice a3 x2.length c4]⟩] ++ J.IB s0 gs0) (J.IR s0 gs0) [J.F, Sl (eI .i64) 1 (.slice a3 x2.length c4) x2] (J.G r) (fun _ => .tuple #[]) (fun g => [⟨g1, 22, [.slice a3 x2.length c4]⟩] ++ J.bs r g) (fun g => J.rs r g) := by
  refine pureM_of Try.func64 rfl Try.ntmps64 rfl hm (fun w => ?_)
  refine sxc_env (l' := [(0, .func (.yield L) #[] #[]), (1, .pointer (some ⟨g1, 0, none⟩))]) rfl ?_
  refine sxc_seq ?_
  refine sxc_region ?_
  refine sxo_assign rfl rfl rfl ?_
  refine sxo_nil ?_
  refine sxq_next ?_
  refine sxc_block ?_
  refine sxc_loopP (fun (((x266, x267), g268) : ((Int × σ) × J.γ)) => [(0, .func (.yield L) #[] #[]), (1, .pointer (some ⟨g1, 0, none⟩)), (3, .int .i64 x266)]) (fun (((x266, x267), g268) : ((Int × σ) × J.γ)) => [⟨g1, 22, [.slice a3 x2.length c4]⟩] ++ J.IB x267 g268) (fun (((x266, x267), g268) : ((Int × σ) × J.γ)) => [] ++ J.IR x267 g268) (fun (((x266, x267), g268) : ((Int × σ) × J.γ)) => [Sl (eI .i64) 1 (.slice a3 x2.length c4) x2, J.F]) (fun k (s : ((Int × σ) × J.γ)) => M_runs_runs_1_l31 F yy x2 k s.1) ((0, s0), gs0) F ?_ (hB := (.cons 0 rfl (pick_rest 0 rfl))) (hR := (pick_rest 0 rfl)) (hF := (fk_cons 1 rfl (fk_cons 0 rfl fk_nil)))
  intro k530
  rintro ⟨⟨x266, x267⟩, g268⟩
  try dsimp only
  refine sxc_meq (m' := M_runs_runs_1_b31 F yy x2 (M_runs_runs_1_l31 F yy x2 k530) x266 x267) rfl ?_
  refine sxc_seq ?_
  refine sxc_seq ?_
  refine sxc_region ?_
  refine sxo_move rfl rfl rfl ?_
  refine sxo_loadB (i := 0) rfl rfl tf22 rfl rfl (fun _ => rfl) rfl rfl ?_
  refine sxo_len rfl Try.underlying22 rfl rfl ?_
  refine sxo_lss rfl rfl rfl rfl ?_
  refine sxo_nil ?_
  refine sxq_next ?_
  refine sxc_if rfl (fun h791 => ?_) (fun h791 => ?_)
  · refine sxc_skip ?_
    refine sxq_next ?_
    refine sxc_block ?_
    refine sxc_seq ?_
    refine sxc_region ?_
    refine sxo_assign rfl rfl rfl ?_
    refine sxo_nil ?_
    refine sxq_next ?_
    refine sxc_join (fun ((x654, _) : (Int × Unit)) => [(0, .func (.yield L) #[] #[]), (1, .pointer (some ⟨g1, 0, none⟩)), (3, .int .i64 x266), (4, .int .i64 x654)]) (fun ((x654, _) : (Int × Unit)) => [⟨g1, 22, [.slice a3 x2.length c4]⟩] ++ J.IB x267 g268) (fun ((x654, _) : (Int × Unit)) => [] ++ J.IR x267 g268) (fun ((x654, _) : (Int × Unit)) => [Sl (eI .i64) 1 (.slice a3 x2.length c4) x2, J.F]) (fun ((x654, _) : (Int × Unit)) => M_runs_runs_1_j39 F yy (M_runs_runs_1_l31 F yy x2 k530) x2 x266 x267 x654) ?_ ?_
    · refine sxc_block ?_
      refine sxc_loopP (fun ((x709, _) : (Int × Unit)) => [(0, .func (.yield L) #[] #[]), (1, .pointer (some ⟨g1, 0, none⟩)), (3, .int .i64 x266), (4, .int .i64 x709)]) (fun ((x709, _) : (Int × Unit)) => [⟨g1, 22, [.slice a3 x2.length c4]⟩] ++ J.IB x267 g268) (fun ((x709, _) : (Int × Unit)) => [] ++ J.IR x267 g268) (fun ((x709, _) : (Int × Unit)) => [Sl (eI .i64) 1 (.slice a3 x2.length c4) x2, J.F]) (fun k (s : (Int × Unit)) => M_runs_runs_1_l44 F yy (M_runs_runs_1_l31 F yy x2 k530) x2 x266 x267 k s.1) (1, ()) F ?_ (hB := (.cons 0 rfl (pick_rest 0 rfl))) (hR := (pick_rest 0 rfl)) (hF := (fk_cons 0 rfl (fk_cons 1 rfl fk_nil)))
      intro k750
      rintro ⟨x709, _⟩
      try dsimp only
      refine sxc_meq (m' := M_runs_runs_1_b44 F yy (M_runs_runs_1_l31 F yy x2 k530) x2 x266 x267 (M_runs_runs_1_l44 F yy (M_runs_runs_1_l31 F yy x2 k530) x2 x266 x267 k750) x709) rfl ?_
      refine sxc_seq ?_
      refine sxc_join (fun ((x780, _) : (Bool × Unit)) => [(0, .func (.yield L) #[] #[]), (1, .pointer (some ⟨g1, 0, none⟩)), (3, .int .i64 x266), (4, .int .i64 x709), (29, .bool x780)]) (fun ((x780, _) : (Bool × Unit)) => [⟨g1, 22, [.slice a3 x2.length c4]⟩] ++ J.IB x267 g268) (fun ((x780, _) : (Bool × Unit)) => [] ++ J.IR x267 g268) (fun ((x780, _) : (Bool × Unit)) => [Sl (eI .i64) 1 (.slice a3 x2.length c4) x2, J.F]) (fun ((x780, _) : (Bool × Unit)) => M_runs_runs_1_j46 F yy (M_runs_runs_1_l31 F yy x2 k530) (M_runs_runs_1_l44 F yy (M_runs_runs_1_l31 F yy x2 k530) x2 x266 x267 k750) x2 x266 x267 x709 x780) ?_ ?_
      · refine sxc_split (fun h782 => ?_) (fun h782 => ?_)
        · refine sxc_idxF (j := 0) (eI_ok .i64) (by decide) rfl (fun x783 e783 b784 o785 h786 => ?_)
          replace h786 : a3 = some ⟨b784, o785, none⟩ := h786
          refine sxc_idxF (j := 1) (eI_ok .i64) (by decide) rfl (fun x787 e787 b788 o789 h790 => ?_)
          replace h790 : a3 = some ⟨b788, o789, none⟩ := h790
          refine sxb_draw mixed [] [⟨g1, 22, [.slice a3 x2.length c4]⟩] [CellsAt b788 (o789 + x266.toNat * 1) ((eI .i64) x787), CellsAt b784 (o785 + (iadd .i64 x266 x709).toNat * 1) ((eI .i64) x783), Sl (eI .i64) 1 (.slice a3 x2.length c4) x2, J.F] (.cons 0 rfl .nil) (gk_F 0 rfl (gk_F 1 rfl (gk_F 2 rfl (gk_F 3 rfl gk_nil)))) 21 rfl ?_
          refine sxb_takeP 0 (.int .i64 x266) rfl rfl rfl (yv_pv rfl) ?_
          refine sxb_takeP 1 (.int .i64 x709) rfl rfl rfl (yv_pv rfl) ?_
          refine sxb_takeP 2 (.int .i64 (iadd .i64 x266 x709)) rfl rfl rfl (yv_pv rfl) ?_
          refine sxb_takeB 3 (.slice a3 x2.length c4) rfl rfl rfl (yv_loadB (i := 0) rfl tf22 rfl rfl (fun _ => rfl) rfl) ?_
          refine sxb_takeP 4 (.int .i64 (x2.length : Int)) rfl rfl rfl (yv_len Try.underlying22 rfl) ?_
          refine sxb_takeP 5 (.bool (decide ((iadd .i64 x266 x709) < (x2.length : Int)))) rfl rfl rfl (yv_pv rfl) ?_
          refine sxb_takeP 6 (.bool (decide ((iadd .i64 x266 x709) < (x2.length : Int)))) rfl rfl rfl (yv_pv rfl) ?_
          refine sxb_again (d := 15) (v := .bool true) rfl (by rw [h782] <;> rfl) ?_
          refine sxb_takeB 7 (.slice a3 x2.length c4) rfl rfl rfl (yv_loadB (i := 0) rfl tf22 rfl rfl (fun _ => rfl) rfl) ?_
          refine sxb_takeP 8 (.int .i64 x266) rfl rfl rfl (yv_pv rfl) ?_
          refine sxb_takeP 9 (.int .i64 x709) rfl rfl rfl (yv_pv rfl) ?_
          refine sxb_takeP 10 (.int .i64 (iadd .i64 x266 x709)) rfl rfl rfl (yv_pv rfl) ?_
          refine sxb_again (d := 16) (v := .slice (some ⟨b784, o785, none⟩) x2.length c4) rfl (by rw [h786] <;> rfl) ?_
          refine sxb_takeP 11 (.pointer (some ⟨b784, (o785 + (iadd .i64 x266 x709).toNat * 1), none⟩)) rfl rfl rfl (yv_idx Try.underlying22 tf3 rfl rfl (idx_get e783).1 (idx_lt e783)) ?_
          refine sxb_again (d := 16) (v := .slice a3 x2.length c4) rfl (by rw [h786] <;> rfl) ?_
          refine sxb_take 12 (.int .i64 x783) [] rfl rfl rfl (yv_loadF (j := 1) rfl tf3 rfl rfl (fun _ => rfl) rfl) ?_
          refine sxb_takeB 13 (.slice a3 x2.length c4) rfl rfl rfl (yv_loadB (i := 0) rfl tf22 rfl rfl (fun _ => rfl) rfl) ?_
          refine sxb_takeP 14 (.int .i64 x266) rfl rfl rfl (yv_pv rfl) ?_
          refine sxb_again (d := 22) (v := .slice (some ⟨b788, o789, none⟩) x2.length c4) rfl (by rw [h790] <;> rfl) ?_
          refine sxb_takeP 15 (.pointer (some ⟨b788, (o789 + x266.toNat * 1), none⟩)) rfl rfl rfl (yv_idx Try.underlying22 tf3 rfl rfl (idx_get e787).1 (idx_lt e787)) ?_
          refine sxb_again (d := 22) (v := .slice a3 x2.length c4) rfl (by rw [h790] <;> rfl) ?_
          refine sxb_take 16 (.int .i64 x787) [] rfl rfl rfl (yv_loadF (j := 0) rfl tf3 rfl rfl (fun _ => rfl) rfl) ?_
          refine sxb_takeP 17 (.int .i64 x709) rfl rfl rfl (yv_pv rfl) ?_
          refine sxb_takeP 18 (.int .i64 (iadd .i64 x787 x709)) rfl rfl rfl (yv_pv rfl) ?_
          refine sxb_takeP 19 (.bool ((x783 : Int) == (iadd .i64 x787 x709))) rfl rfl rfl (yv_pv rfl) ?_
          refine sxb_takeP 20 (.bool ((x783 : Int) == (iadd .i64 x787 x709))) rfl rfl rfl (yv_pv rfl) ?_
          refine sxb_done (by kernel_rfl) ?_
          refine sxq_np ?_ (by intro c h; cases h)
          exact sxq_meetP (((x783 : Int) == (iadd .i64 x787 x709)), ()) (hB := (.cons 0 rfl (pick_rest 0 rfl))) (hR := (pick_rest 0 rfl)) (hF := (fk_cons 2 rfl (fk_cons 3 rfl fk_nil)))
        · refine sxb_draw mixed [] [⟨g1, 22, [.slice a3 x2.length c4]⟩] [Sl (eI .i64) 1 (.slice a3 x2.length c4) x2, J.F] (.cons 0 rfl .nil) (gk_F 0 rfl (gk_F 1 rfl gk_nil)) 21 rfl ?_
          refine sxb_takeP 0 (.int .i64 x266) rfl rfl rfl (yv_pv rfl) ?_
          refine sxb_takeP 1 (.int .i64 x709) rfl rfl rfl (yv_pv rfl) ?_
          refine sxb_takeP 2 (.int .i64 (iadd .i64 x266 x709)) rfl rfl rfl (yv_pv rfl) ?_
          refine sxb_takeB 3 (.slice a3 x2.length c4) rfl rfl rfl (yv_loadB (i := 0) rfl tf22 rfl rfl (fun _ => rfl) rfl) ?_
          refine sxb_takeP 4 (.int .i64 (x2.length : Int)) rfl rfl rfl (yv_len Try.underlying22 rfl) ?_
          refine sxb_takeP 5 (.bool (decide ((iadd .i64 x266 x709) < (x2.length : Int)))) rfl rfl rfl (yv_pv rfl) ?_
          refine sxb_takeP 6 (.bool (decide ((iadd .i64 x266 x709) < (x2.length : Int)))) rfl rfl rfl (yv_pv rfl) ?_
          refine sxb_again (d := 15) (v := .bool false) rfl (by rw [h782] <;> rfl) ?_
          refine sxb_skip 7 rfl rfl rfl ?_
          refine sxb_skip 8 rfl rfl rfl ?_
          refine sxb_skip 9 rfl rfl rfl ?_
          refine sxb_skip 10 rfl rfl rfl ?_
          refine sxb_skip 11 rfl rfl rfl ?_
          refine sxb_skip 12 rfl rfl rfl ?_
          refine sxb_skip 13 rfl rfl rfl ?_
          refine sxb_skip 14 rfl rfl rfl ?_
          refine sxb_skip 15 rfl rfl rfl ?_
          refine sxb_skip 16 rfl rfl rfl ?_
          refine sxb_skip 17 rfl rfl rfl ?_
          refine sxb_skip 18 rfl rfl rfl ?_
          refine sxb_skip 19 rfl rfl rfl ?_
          refine sxb_takeP 20 (.bool false) rfl rfl rfl (yv_pv rfl) ?_
          refine sxb_done (by kernel_rfl) ?_
          refine sxq_np ?_ (by intro c h; cases h)
          exact sxq_meetP (false, ()) (hB := (.cons 0 rfl (pick_rest 0 rfl))) (hR := (pick_rest 0 rfl)) (hF := (fk_cons 0 rfl (fk_cons 1 rfl fk_nil)))
      · rintro ⟨x780, _⟩
        try dsimp only
        refine sxc_if rfl (fun h781 => ?_) (fun h781 => ?_)
        · refine sxc_skip ?_
          refine sxq_next ?_
          refine sxc_block ?_
          refine sxc_region ?_
          refine sxo_move rfl rfl rfl ?_
          refine sxo_add rfl rfl rfl rfl ?_
          refine sxo_assign rfl rfl rfl ?_
          refine sxo_nil ?_
          refine sxq_blkN ?_
          exact sxq_againP (iadd .i64 x709 1, ()) (hB := (.cons 0 rfl (pick_rest 0 rfl))) (hR := (pick_rest 0 rfl)) (hF := (fk_cons 0 rfl (fk_cons 1 rfl fk_nil)))
        · refine sxc_exit ?_
          refine sxq_thenX ?_
          refine sxq_thenX ?_
          refine sxq_blkX ?_
          exact sxq_meetP (x709, ()) (hB := (.cons 0 rfl (pick_rest 0 rfl))) (hR := (pick_rest 0 rfl)) (hF := (fk_cons 0 rfl (fk_cons 1 rfl fk_nil)))
    · rintro ⟨x654, _⟩
      try dsimp only
      refine sxc_seq ?_
      refine sxc_seq ?_
      refine sxc_region ?_
      refine sxo_move rfl rfl rfl ?_
      refine sxo_loadB (i := 0) rfl rfl tf22 rfl rfl (fun _ => rfl) rfl rfl ?_
      refine sxo_move rfl rfl rfl ?_
      refine sxo_indexF (j := 0) (eI_ok .i64) (by decide) rfl Try.underlying22 tf3 rfl rfl rfl rfl (fun x662 e662 b663 o664 => ?_)
      refine sxo_loadF (j := 0) rfl rfl tf3 rfl rfl (fun _ => rfl) rfl rfl ?_
      refine sxo_move rfl rfl rfl ?_
      refine sxo_build (cells := [.int .i64 x662, .int .i64 x654]) rfl st102 rfl (by kernel_rfl) rfl ?_
      refine sxo_yield hY x267 (x662, x654) g268 (B1 := [⟨g1, 22, [.slice a3 x2.length c4]⟩]) (R1 := []) (j := 2) rfl rfl rfl rfl rfl rfl rfl (fun x665 _ g667 => ?_) (fun x666 _ g667 => ?_)
      · refine sxo_not rfl rfl rfl ?_
        refine sxo_nil ?_
        refine sxq_next ?_
        refine sxc_cond (b := false) rfl (fun h => by cases h) (fun _ => ?_)
        refine sxc_skip ?_
        refine sxq_next ?_
        refine sxc_region ?_
        refine sxo_move rfl rfl rfl ?_
        refine sxo_move rfl rfl rfl ?_
        refine sxo_add rfl rfl rfl rfl ?_
        refine sxo_assign rfl rfl rfl ?_
        refine sxo_nil ?_
        refine sxq_blkN ?_
        exact sxq_againP ((iadd .i64 x266 x654, x665), g667) (hB := (.cons 0 rfl (pick_rest 0 rfl))) (hR := (pick_rest 0 rfl)) (hF := (fk_cons 1 rfl (fk_cons 2 rfl fk_nil)))
      · refine sxo_not rfl rfl rfl ?_
        refine sxo_nil ?_
        refine sxq_next ?_
        refine sxc_cond (b := true) rfl (fun _ => ?_) (fun h => by cases h)
        refine sxc_ret ?_
        refine sxq_thenR ?_
        refine sxq_blkR ?_
        refine sxq_thenR ?_
        refine sxq_blkR ?_
        exact sxq_doneI (B0 := [⟨g1, 22, [.slice a3 x2.length c4]⟩]) (x := .inr x666) g667 (.inl rfl) (res0 rfl) (.cons 0 rfl (pick_rest 0 rfl)) (pick_rest 0 rfl)
  · refine sxc_exit ?_
    refine sxq_thenX ?_
    refine sxq_thenX ?_
    refine sxq_blkX ?_
    exact sxq_doneI (B0 := [⟨g1, 22, [.slice a3 x2.length c4]⟩]) (x := .inl x267) g268 (.inr rfl) (res0 rfl) (.cons 0 rfl (pick_rest 0 rfl)) (pick_rest 0 rfl)

theorem C_runs_Raw (F : Nat) (x1 : List Int) (a2 : Option Addr) (c3 : Nat) (x4 : Int) (r : (List (Int × Int) × List Int)) (hm : M_runs_Raw F x1 x4 = some r) :
    PureM Try.prog 37 [.slice a2 x1.length c3, .int .i64 x4] [] [] [Sl (eI .i64) 1 (.slice a2 x1.length c3) x1] ((Option Addr × Nat) × (Option Addr × Nat)) (fun g => .tuple #[.slice g.1.1 r.1.length g.1.2, .slice g.2.1 r.2.length g.2.2]) (fun _ => []) (fun g => [Ro eS102 102 2 (.slice g.1.1 r.1.length g.1.2) r.1, Ro (eI .i64) 3 1 (.slice g.2.1 r.2.length g.2.2) r.2]) := by
  refine pureX_of Try.func37 rfl Try.ntmps37 rfl hm (fun w => ?_)
  refine sxc_env (l' := [(0, .slice a2 x1.length c3), (1, .int .i64 x4)]) rfl ?_
  refine sxc_seq ?_
  refine sxc_region ?_
  refine sxo_box rfl rfl rfl (fun g5 => ?_)
  refine sxo_alloc rfl tf73 rfl (fun g6 => ?_)
  refine sxo_alloc rfl tf22 rfl (fun g7 => ?_)
  refine sxo_nil ?_
  refine sxq_next ?_
  refine sxc_seq ?_
  refine sxc_seq ?_
  refine sxc_region ?_
  refine sxo_move rfl rfl rfl ?_
  refine sxo_callM ent50 rfl rfl rfl (fun x188 e188 => C_runs_runs F x1 a2 c3 x188 e188) .nil .nil (.consF 0 rfl .nil) (fun x188 e188 => ?_)
  rintro g189
  refine sxo_nil ?_
  refine sxq_next ?_
  refine sxc_block ?_
  refine sxc_nilrow Int (eI .i64) 3 1 ?_
  refine sxc_nilrow (Int × Int) eS102 102 2 ?_
  refine sxc_range (encs := (fun (p : (Int × Int)) => [.agg #[.int .i64 p.1, .int .i64 p.2]])) (y := (fun ((x252, x255) : (List Int × List (Int × Int))) ((x312, x313) : (Int × Int)) => M_runs_Raw_r5 F x4 x252 x255 x312 x313)) (lb := [.pointer (some ⟨g189, 0, none⟩)]) (fun ((x252, x255) : (List Int × List (Int × Int))) ((a250, c251, a253, c254) : (Option Addr × Nat × Option Addr × Nat)) => [⟨g7, 22, [.slice a250 x252.length c251]⟩, ⟨g6, 73, [.slice a253 x255.length c254]⟩, ⟨g5, 3, [.int .i64 x4]⟩]) (fun ((x252, x255) : (List Int × List (Int × Int))) ((a250, c251, a253, c254) : (Option Addr × Nat × Option Addr × Nat)) => [Ro (eI .i64) 3 1 (.slice a250 x252.length c251) x252, Ro eS102 102 2 (.slice a253 x255.length c254) x255]) (fun (_ : Empty) (_ : Unit) => []) (fun (_ : Empty) (_ : Unit) => []) (fun _ => .skip) (([] : List Int), ([] : List (Int × Int))) (none, 0, none, 0) rfl ent64 (fun _ => rfl) rfl (.cons 0 rfl .nil) (.cons 0 rfl (.cons 0 rfl (.cons 0 rfl .nil))) (.cons 1 rfl (.cons 0 rfl .nil)) (.consF 0 rfl .nil) (fun z hz _ _ _ hY => C_runs_runs_1 F hY (([] : List Int), ([] : List (Int × Int))) (none, 0, none, 0) g189 x1 a2 c3 z hz) ?_ ?_ ?_
  · rintro rc1 L1 D1 ⟨x252, x255⟩ ⟨a250, c251, a253, c254⟩ ⟨x312, x313⟩ z w M _
    try dsimp only
    refine sxc_less [(0, .slice a2 x1.length c3), (1, .int .i64 x4), (3, .pointer (some ⟨g5, 0, none⟩)), (4, .pointer (some ⟨g6, 0, none⟩)), (5, .pointer (some ⟨g7, 0, none⟩)), (8, .slice a2 x1.length c3), (9, .func (.func 64) #[] #[.pointer (some ⟨g189, 0, none⟩)]), (10, .agg #[.int .i64 x312, .int .i64 x313])] (lk_cons rfl (lk_cons rfl (lk_cons rfl (lk_cons rfl (lk_cons rfl (lk_cons rfl (lk_cons rfl (lk_cons rfl lk_nil)))))))) ?_
    refine sxc_region ?_
    refine sxo_alloc rfl tf102 rfl (fun g314 => ?_)
    refine sxo_storeB (i := 0) rfl rfl rfl tf102 rfl rfl rfl rfl rfl ?_
    refine sxo_nil ?_
    refine sxq_begin (i := 4) rfl ?_
    refine sxc_block ?_
    refine sxc_seq ?_
    refine sxc_seq ?_
    refine sxc_region ?_
    refine sxo_fieldAddr rfl rfl ff102_1 rfl ?_
    refine sxo_loadB (i := 0) rfl rfl tf3 rfl rfl (fun _ => rfl) rfl rfl ?_
    refine sxo_loadB (i := 3) rfl rfl tf3 rfl rfl (fun _ => rfl) rfl rfl ?_
    refine sxo_geq rfl rfl rfl rfl ?_
    refine sxo_nil ?_
    refine sxq_next ?_
    refine sxc_if rfl (fun h367 => ?_) (fun h367 => ?_)
    · refine sxc_seq ?_
      refine sxc_region ?_
      refine sxo_loadB (i := 2) rfl rfl tf73 rfl rfl (fun _ => rfl) rfl rfl ?_
      refine sxo_loadB (i := 0) rfl rfl tf102 rfl rfl (by simp) rfl rfl ?_
      refine sxo_slit (vs := [.agg #[.int .i64 x312, .int .i64 x313]]) (ys := ([(x312, x313)] : List (Int × Int))) eS102_ok (by decide) rfl Try.underlying73 tf102 rfl rfl rfl rfl rfl (by decide) (fun a321 c322 => ?_)
      refine sxo_app 2 eS102_ok rfl Try.underlying73 tf102 rfl rfl rfl rfl rfl (.inl ⟨0, _, rfl⟩) rfl rfl (fun x323 e323 a324 c325 => ?_)
      refine sxo_storeB (i := 2) rfl rfl rfl tf73 rfl rfl rfl rfl rfl ?_
      refine sxo_nil ?_
      refine sxq_next ?_
      refine sxc_exit ?_
      refine sxq_thenX ?_
      refine sxq_blkX ?_
      exact sxq_round (rc := rc1) rfl (.cons 4 rfl .nil) rfl (a250, c251, a324, c325) (.cons 2 rfl (.cons 2 rfl (.cons 2 rfl (.cons 0 rfl (.cons 1 rfl .nil))))) (.cons 2 rfl (.cons 0 rfl .nil))
    · refine sxc_skip ?_
      refine sxq_next ?_
      refine sxc_seq ?_
      refine sxc_region ?_
      refine sxo_fieldAddr rfl rfl ff102_1 rfl ?_
      refine sxo_loadB (i := 0) rfl rfl tf3 rfl rfl (fun _ => rfl) rfl rfl ?_
      refine sxo_move rfl rfl rfl ?_
      refine sxo_nil ?_
      refine sxq_next ?_
      refine sxc_block ?_
      refine sxc_loopP (fun (((x338, x341), (a339, c340)) : ((Int × List Int) × (Option Addr × Nat))) => [(3, .pointer (some ⟨g5, 0, none⟩)), (4, .pointer (some ⟨g6, 0, none⟩)), (5, .pointer (some ⟨g7, 0, none⟩)), (6, .pointer (some ⟨g314, 0, none⟩)), (20, .int .i64 x313), (21, .int .i64 x338)]) (fun (((x338, x341), (a339, c340)) : ((Int × List Int) × (Option Addr × Nat))) => [⟨g314, 102, [.int .i64 x312, .int .i64 x313]⟩, ⟨g7, 22, [.slice a339 x341.length c340]⟩, ⟨g6, 73, [.slice a253 x255.length c254]⟩, ⟨g5, 3, [.int .i64 x4]⟩, (blkO L1 (.loop (bsy rc1))), (dblk D1)]) (fun (((x338, x341), (a339, c340)) : ((Int × List Int) × (Option Addr × Nat))) => [Ro (eI .i64) 3 1 (.slice a339 x341.length c340) x341, Ro eS102 102 2 (.slice a253 x255.length c254) x255]) (fun (((x338, x341), (a339, c340)) : ((Int × List Int) × (Option Addr × Nat))) => []) (fun k (s : ((Int × List Int) × (Option Addr × Nat))) => M_runs_Raw_l8 F x255 x312 x313 k s.1) ((0, x252), (a250, c251)) F ?_ (hB := (.cons 0 rfl (.cons 0 rfl (.cons 0 rfl (.cons 0 rfl (.cons 0 rfl (.cons 0 rfl .nil))))))) (hR := (.cons 0 rfl (.cons 0 rfl .nil)))
      intro k354
      rintro ⟨⟨x338, x341⟩, ⟨a339, c340⟩⟩
      try dsimp only
      refine sxc_meq (m' := M_runs_Raw_b8 F x255 x312 x313 (M_runs_Raw_l8 F x255 x312 x313 k354) x338 x341) rfl ?_
      refine sxc_seq ?_
      refine sxc_region ?_
      refine sxo_lss rfl rfl rfl rfl ?_
      refine sxo_nil ?_
      refine sxq_next ?_
      refine sxc_seq ?_
      refine sxc_if rfl (fun h366 => ?_) (fun h366 => ?_)
      · refine sxc_skip ?_
        refine sxq_next ?_
        refine sxc_seq ?_
        refine sxc_block ?_
        refine sxc_seq ?_
        refine sxc_region ?_
        refine sxo_move rfl rfl rfl ?_
        refine sxo_assign rfl rfl rfl ?_
        refine sxo_nil ?_
        refine sxq_next ?_
        refine sxc_region ?_
        refine sxo_loadB (i := 1) rfl rfl tf22 rfl rfl (fun _ => rfl) rfl rfl ?_
        refine sxo_fieldAddr rfl rfl ff102_0 rfl ?_
        refine sxo_loadB (i := 0) rfl rfl tf3 rfl rfl (fun _ => rfl) rfl rfl ?_
        refine sxo_move rfl rfl rfl ?_
        refine sxo_add rfl rfl rfl rfl ?_
        refine sxo_slit (vs := [.int .i64 (iadd .i64 x312 x338)]) (ys := ([iadd .i64 x312 x338] : List Int)) (eI_ok .i64) (by decide) rfl Try.underlying22 tf3 rfl rfl rfl rfl rfl (by decide) (fun a361 c362 => ?_)
        refine sxo_app 1 (eI_ok .i64) rfl Try.underlying22 tf3 rfl rfl rfl rfl rfl (.inl ⟨0, _, rfl⟩) rfl rfl (fun x363 e363 a364 c365 => ?_)
        refine sxo_storeB (i := 1) rfl rfl rfl tf22 rfl rfl rfl rfl rfl ?_
        refine sxo_nil ?_
        refine sxq_blkN ?_
        refine sxq_next ?_
        refine sxc_region ?_
        refine sxo_add rfl rfl rfl rfl ?_
        refine sxo_move rfl rfl rfl ?_
        refine sxo_nil ?_
        exact sxq_againP ((iadd .i64 x338 1, x363), (a364, c365)) (hB := (.cons 0 rfl (.cons 0 rfl (.cons 0 rfl (.cons 0 rfl (.cons 0 rfl (.cons 0 rfl .nil))))))) (hR := (.cons 0 rfl (.cons 1 rfl .nil)))
      · refine sxc_exit ?_
        refine sxq_thenX ?_
        refine sxq_thenX ?_
        refine sxq_blkX ?_
        refine sxq_blkN ?_
        exact sxq_round (rc := rc1) rfl (.cons 4 rfl .nil) rfl (a339, c340, a253, c254) (.cons 2 rfl (.cons 2 rfl (.cons 2 rfl (.cons 0 rfl (.cons 1 rfl .nil))))) (.cons 0 rfl (.cons 0 rfl .nil))
  · rintro ⟨x252, x255⟩ _ ⟨a250, c251, a253, c254⟩ D1
    try dsimp only
    refine sxq_blkN ?_
    refine sxq_next ?_
    refine sxc_seq ?_
    refine sxb_draw mixed [] [(dblk D1), ⟨g189, 22, [.slice a2 x1.length c3]⟩, ⟨g7, 22, [.slice a250 x252.length c251]⟩, ⟨g6, 73, [.slice a253 x255.length c254]⟩, ⟨g5, 3, [.int .i64 x4]⟩] [Sl (eI .i64) 1 (.slice a2 x1.length c3) x1] (.cons 0 rfl (.cons 0 rfl (.cons 0 rfl (.cons 0 rfl (.cons 0 rfl .nil))))) (gk_F 0 rfl gk_nil) 4 rfl ?_
    refine sxb_takeB 0 (.slice a253 x255.length c254) rfl rfl rfl (yv_loadB (i := 3) rfl tf73 rfl rfl (fun _ => rfl) rfl) ?_
    refine sxb_takeB 1 (.slice a250 x252.length c251) rfl rfl rfl (yv_loadB (i := 2) rfl tf22 rfl rfl (fun _ => rfl) rfl) ?_
    refine sxb_step 2 rfl (by kernel_rfl) rfl ?_
    refine sxo_storeB (i := 3) rfl rfl rfl tf73 rfl rfl rfl rfl rfl ?_
    refine sxo_nil ?_
    refine sxq_anyB (.cons 0 rfl (.cons 0 rfl (.cons 0 rfl (.cons 0 rfl (.cons 0 rfl .nil))))) (gk_F 0 rfl gk_nil) ?_
    refine sxb_step 3 rfl (by kernel_rfl) rfl ?_
    refine sxo_storeB (i := 2) rfl rfl rfl tf22 rfl rfl rfl rfl rfl ?_
    refine sxo_nil ?_
    refine sxq_anyB (.cons 0 rfl (.cons 0 rfl (.cons 0 rfl (.cons 0 rfl (.cons 0 rfl .nil))))) (gk_F 0 rfl gk_nil) ?_
    refine sxb_done (by kernel_rfl) ?_
    refine sxq_np ?_ (by intro c h; cases h)
    refine sxq_next ?_
    refine sxc_ret ?_
    exact sxq_doneX [D1] ((a253, c254), (a250, c251)) (.inl rfl) rfl (.cons 0 rfl .nil) (resL (rs := [.cell 4 73, .cell 5 22]) rfl (.cell (i := 2) rfl tf73 rfl rfl (fun _ => rfl) rfl (.cell (i := 1) rfl tf22 rfl rfl (fun _ => rfl) rfl ResOk.nil)) rfl) (fun h => by subst h; rfl) (fun h => by subst h; exact .nil) (fun h => by subst h; exact (.cons 1 rfl (.cons 0 rfl .nil)))
  · intro t; exact t.elim

theorem C_varint_Fold (F : Nat) (x1 : Int) (r : Int) (hm : M_varint_Fold F x1 = some r) :
    Pure Try.prog 51 [.int .i64 x1] [] Unit (fun _ => .int .u64 r) (fun _ => []) (fun _ => []) := by
  refine pure_of Try.func51 rfl Try.ntmps51 rfl hm (fun w => ?_)
  refine sxc_env (l' := [(0, .int .i64 x1)]) rfl ?_
  refine sxc_seq ?_
  refine sxc_region ?_
  refine sxo_assign rfl rfl rfl ?_
  refine sxo_nil ?_
  refine sxq_next ?_
  refine sxc_seq ?_
  refine sxc_region ?_
  refine sxo_move rfl rfl rfl ?_
  refine sxo_conv rfl Try.underlying2 Try.underlying36 rfl rfl ?_
  refine sxo_shl rfl rfl rfl rfl rfl ?_
  refine sxo_move rfl rfl rfl ?_
  refine sxo_shr rfl rfl rfl rfl rfl ?_
  refine sxo_conv rfl Try.underlying2 Try.underlying36 rfl rfl ?_
  refine sxo_xor rfl rfl rfl rfl ?_
  refine sxo_assign rfl rfl rfl ?_
  refine sxo_lett (fun x2 e2 => ?_)
  refine sxo_again (d := 2) (v := .int .u64 x2) rfl (by rw [e2] <;> rfl) ?_
  refine sxo_nil ?_
  refine sxq_next ?_
  refine sxc_ret ?_
  exact sxq_doneP () (res1 rfl rfl)

theorem C_succ_writer_runs (F : Nat) (g1 : Nat) (x2 : Int) (x3 : List Int) (a4 : Option Addr) (c5 : Nat) (x6 : Bool) (x7 : Int) (x8 : Int) (x9 : List (Int × Int)) (a10 : Option Addr) (c11 : Nat) (r : (Int × List Int × Bool)) (hm : M_succ_writer_runs F x2 x3 x6 x7 x8 x9 = some r) :
    PureM Try.prog 38 [.pointer (some ⟨g1, 0, none⟩), .int .i64 x7, .int .i64 x8, .slice a10 x9.length c11] [⟨g1, 53, [.int .i64 x2, .slice a4 x3.length c5, .bool x6]⟩] [Ro (eI .u8) 5 1 (.slice a4 x3.length c5) x3] [Sl eS102 2 (.slice a10 x9.length c11) x9] (Option Addr × Nat) (fun _ => .tuple #[]) (fun g => [⟨g1, 53, [.int .i64 r.1, .slice g.1 r.2.1.length g.2, .bool r.2.2]⟩]) (fun g => [Ro (eI .u8) 5 1 (.slice g.1 r.2.1.length g.2) r.2.1]) := by
  refine pureM_of Try.func38 rfl Try.ntmps38 rfl hm (fun w => ?_)
  refine sxc_env (l' := [(0, .pointer (some ⟨g1, 0, none⟩)), (1, .int .i64 x7), (2, .int .i64 x8), (3, .slice a10 x9.length c11)]) rfl ?_
  refine sxc_seq ?_
  refine sxc_region ?_
  refine sxo_move rfl rfl rfl ?_
  refine sxo_move rfl rfl rfl ?_
  refine sxo_len rfl Try.underlying73 rfl rfl ?_
  refine sxo_callM ent34 rfl rfl rfl (fun x12 e12 => C_succ_writer_gamma F g1 x2 x3 a4 c5 x6 (x9.length : Int) x12 e12) (.cons 0 rfl .nil) (.cons 0 rfl .nil) .nil (fun x12 e12 => ?_)
  rintro ⟨a13, c14⟩
  refine sxo_nil ?_
  refine sxq_next ?_
  refine sxc_seq ?_
  refine sxc_region ?_
  refine sxo_move rfl rfl rfl ?_
  refine sxo_assign rfl rfl rfl ?_
  refine sxo_nil ?_
  refine sxq_next ?_
  refine sxc_seq ?_
  refine sxc_region ?_
  refine sxo_move rfl rfl rfl ?_
  refine sxo_len rfl Try.underlying73 rfl rfl ?_
  refine sxo_move rfl rfl rfl ?_
  refine sxo_nil ?_
  refine sxq_next ?_
  refine sxc_block ?_
  refine sxc_loopP (fun (((x73, x74, x75, x78, x79), (a76, c77)) : ((Int × Int × Int × List Int × Bool) × (Option Addr × Nat))) => [(0, .pointer (some ⟨g1, 0, none⟩)), (2, .int .i64 x8), (8, .int .i64 x73), (16, .slice a10 x9.length c11), (17, .int .i64 (x9.length : Int)), (18, .int .i64 x74)]) (fun (((x73, x74, x75, x78, x79), (a76, c77)) : ((Int × Int × Int × List Int × Bool) × (Option Addr × Nat))) => [⟨g1, 53, [.int .i64 x75, .slice a76 x78.length c77, .bool x79]⟩]) (fun (((x73, x74, x75, x78, x79), (a76, c77)) : ((Int × Int × Int × List Int × Bool) × (Option Addr × Nat))) => [Ro (eI .u8) 5 1 (.slice a76 x78.length c77) x78]) (fun (((x73, x74, x75, x78, x79), (a76, c77)) : ((Int × Int × Int × List Int × Bool) × (Option Addr × Nat))) => [Sl eS102 2 (.slice a10 x9.length c11) x9]) (fun k (s : ((Int × Int × Int × List Int × Bool) × (Option Addr × Nat))) => M_succ_writer_runs_l5 F x8 x9 k s.1) ((x7, 0, x12.1, x12.2.1, x12.2.2), (a13, c14)) F ?_ (hB := (.cons 0 rfl .nil)) (hR := (.cons 0 rfl .nil)) (hF := (fk_cons 0 rfl fk_nil))
  intro k138
  rintro ⟨⟨x73, x74, x75, x78, x79⟩, ⟨a76, c77⟩⟩
  try dsimp only
  refine sxc_meq (m' := M_succ_writer_runs_b5 F x8 x9 (M_succ_writer_runs_l5 F x8 x9 k138) x73 x74 x75 x78 x79) rfl ?_
  refine sxc_seq ?_
  refine sxc_region ?_
  refine sxo_lss rfl rfl rfl rfl ?_
  refine sxo_nil ?_
  refine sxq_next ?_
  refine sxc_seq ?_
  refine sxc_if rfl (fun h196 => ?_) (fun h196 => ?_)
  · refine sxc_skip ?_
    refine sxq_next ?_
    refine sxc_seq ?_
    refine sxc_block ?_
    refine sxc_seq ?_
    refine sxc_region ?_
    refine sxo_move rfl rfl rfl ?_
    refine sxo_indexF (j := 0) eS102_ok (by decide) rfl Try.underlying73 tf102 rfl rfl rfl rfl (fun x168 e168 b169 o170 => ?_)
    refine sxo_loadF (j := 0) rfl rfl tf102 rfl rfl (by simp) rfl rfl ?_
    refine sxo_alloc rfl tf102 rfl (fun g171 => ?_)
    refine sxo_assign rfl rfl rfl ?_
    refine sxo_storeB (i := 0) rfl rfl rfl tf102 rfl rfl rfl rfl rfl ?_
    refine sxo_nil ?_
    refine sxq_next ?_
    refine sxc_join (fun (((x180, x183, x184), (a181, c182)) : ((Int × List Int × Bool) × (Option Addr × Nat))) => [(0, .pointer (some ⟨g1, 0, none⟩)), (2, .int .i64 x8), (10, .pointer (some ⟨g171, 0, none⟩)), (16, .slice a10 x9.length c11), (17, .int .i64 (x9.length : Int)), (18, .int .i64 x74)]) (fun (((x180, x183, x184), (a181, c182)) : ((Int × List Int × Bool) × (Option Addr × Nat))) => [⟨g1, 53, [.int .i64 x180, .slice a181 x183.length c182, .bool x184]⟩, ⟨g171, 102, [.int .i64 x168.1, .int .i64 x168.2]⟩]) (fun (((x180, x183, x184), (a181, c182)) : ((Int × List Int × Bool) × (Option Addr × Nat))) => [Ro (eI .u8) 5 1 (.slice a181 x183.length c182) x183]) (fun (((x180, x183, x184), (a181, c182)) : ((Int × List Int × Bool) × (Option Addr × Nat))) => [Sl eS102 2 (.slice a10 x9.length c11) x9]) (fun (((x180, x183, x184), _) : ((Int × List Int × Bool) × (Option Addr × Nat))) => M_succ_writer_runs_j7 F (M_succ_writer_runs_l5 F x8 x9 k138) x8 x74 x168 x180 x183 x184) ?_ ?_
    · refine sxc_seq ?_
      refine sxc_region ?_
      refine sxo_move rfl rfl rfl ?_
      refine sxo_eql rfl rfl rfl rfl ?_
      refine sxo_nil ?_
      refine sxq_next ?_
      refine sxc_if rfl (fun h195 => ?_) (fun h195 => ?_)
      · refine sxc_region ?_
        refine sxo_move rfl rfl rfl ?_
        refine sxo_fieldAddr rfl rfl ff102_0 rfl ?_
        refine sxo_loadB (i := 0) rfl rfl tf3 rfl rfl (fun _ => rfl) rfl rfl ?_
        refine sxo_move rfl rfl rfl ?_
        refine sxo_sub rfl rfl rfl rfl ?_
        refine sxo_call ent51 rfl rfl rfl (fun x188 e188 => C_varint_Fold F (isub .i64 x168.1 x73) x188 e188) .nil (fun x188 e188 => ?_)
        intro _
        refine sxo_conv rfl Try.underlying36 Try.underlying3 rfl rfl ?_
        refine sxo_callM ent34 rfl rfl rfl (fun x189 e189 => C_succ_writer_gamma F g1 x75 x78 a76 c77 x79 (iconv .i64 x188) x189 e189) (.cons 1 rfl .nil) (.cons 0 rfl .nil) .nil (fun x189 e189 => ?_)
        rintro ⟨a190, c191⟩
        refine sxo_nil ?_
        exact sxq_meetP ((x189.1, x189.2.1, x189.2.2), (a190, c191)) (hB := (.cons 0 rfl (.cons 0 rfl .nil))) (hR := (.cons 0 rfl .nil)) (hF := (fk_cons 1 rfl fk_nil))
      · refine sxc_region ?_
        refine sxo_move rfl rfl rfl ?_
        refine sxo_fieldAddr rfl rfl ff102_0 rfl ?_
        refine sxo_loadB (i := 0) rfl rfl tf3 rfl rfl (fun _ => rfl) rfl rfl ?_
        refine sxo_move rfl rfl rfl ?_
        refine sxo_sub rfl rfl rfl rfl ?_
        refine sxo_sub rfl rfl rfl rfl ?_
        refine sxo_callM ent34 rfl rfl rfl (fun x192 e192 => C_succ_writer_gamma F g1 x75 x78 a76 c77 x79 (isub .i64 (isub .i64 x168.1 x73) 2) x192 e192) (.cons 1 rfl .nil) (.cons 0 rfl .nil) .nil (fun x192 e192 => ?_)
        rintro ⟨a193, c194⟩
        refine sxo_nil ?_
        exact sxq_meetP ((x192.1, x192.2.1, x192.2.2), (a193, c194)) (hB := (.cons 0 rfl (.cons 0 rfl .nil))) (hR := (.cons 0 rfl .nil)) (hF := (fk_cons 1 rfl fk_nil))
    · rintro ⟨⟨x180, x183, x184⟩, ⟨a181, c182⟩⟩
      try dsimp only
      refine sxc_seq ?_
      refine sxc_region ?_
      refine sxo_move rfl rfl rfl ?_
      refine sxo_fieldAddr rfl rfl ff102_1 rfl ?_
      refine sxo_loadB (i := 1) rfl rfl tf3 rfl rfl (fun _ => rfl) rfl rfl ?_
      refine sxo_move rfl rfl rfl ?_
      refine sxo_sub rfl rfl rfl rfl ?_
      refine sxo_callM ent34 rfl rfl rfl (fun x185 e185 => C_succ_writer_gamma F g1 x180 x183 a181 c182 x184 (isub .i64 x168.2 x8) x185 e185) (.cons 0 rfl .nil) (.cons 0 rfl .nil) .nil (fun x185 e185 => ?_)
      rintro ⟨a186, c187⟩
      refine sxo_nil ?_
      refine sxq_next ?_
      refine sxc_region ?_
      refine sxo_fieldAddr rfl rfl ff102_0 rfl ?_
      refine sxo_loadB (i := 1) rfl rfl tf3 rfl rfl (fun _ => rfl) rfl rfl ?_
      refine sxo_fieldAddr rfl rfl ff102_1 rfl ?_
      refine sxo_loadB (i := 1) rfl rfl tf3 rfl rfl (fun _ => rfl) rfl rfl ?_
      refine sxo_add rfl rfl rfl rfl ?_
      refine sxo_sub rfl rfl rfl rfl ?_
      refine sxo_assign rfl rfl rfl ?_
      refine sxo_nil ?_
      refine sxq_blkN ?_
      refine sxq_next ?_
      refine sxc_region ?_
      refine sxo_add rfl rfl rfl rfl ?_
      refine sxo_move rfl rfl rfl ?_
      refine sxo_nil ?_
      exact sxq_againP ((isub .i64 (iadd .i64 x168.1 x168.2) 1, iadd .i64 x74 1, x185.1, x185.2.1, x185.2.2), (a186, c187)) (hB := (.cons 0 rfl .nil)) (hR := (.cons 0 rfl .nil)) (hF := (fk_cons 0 rfl fk_nil))
  · refine sxc_exit ?_
    refine sxq_thenX ?_
    refine sxq_thenX ?_
    refine sxq_blkX ?_
    exact sxq_doneM (a76, c77) (res0 rfl) (hB := fun h => by subst h; exact (.cons 0 rfl .nil)) (hR := fun h => by subst h; exact (.cons 0 rfl .nil))

theorem C_golomb_span (F : Nat) (x1 : Int) (x2 : Int) (r : (Int × Int × Int)) (hm : M_golomb_span F x1 x2 = some r) :
    Pure Try.prog 65 [.int .u64 x1, .int .i64 x2] [] Unit (fun _ => .tuple #[.int .i64 r.1, .int .u64 r.2.1, .int .u64 r.2.2]) (fun _ => []) (fun _ => []) := by
  refine pure_of Try.func65 rfl Try.ntmps65 rfl hm (fun w => ?_)
  refine sxc_env (l' := [(0, .int .u64 x1), (1, .int .i64 x2)]) rfl ?_
  refine sxc_seq ?_
  refine sxc_region ?_
  refine sxo_assign rfl rfl rfl ?_
  refine sxo_assign rfl rfl rfl ?_
  refine sxo_assign rfl rfl rfl ?_
  refine sxo_nil ?_
  refine sxq_next ?_
  refine sxc_seq ?_
  refine sxc_region ?_
  refine sxo_move rfl rfl rfl ?_
  refine sxo_add rfl rfl rfl rfl ?_
  refine sxo_call ent75 rfl rfl rfl (fun x3 e3 => C_math_bits_Len64 F (iadd .u64 x1 1) x3 e3) .nil (fun x3 e3 => ?_)
  intro _
  refine sxo_sub rfl rfl rfl rfl ?_
  refine sxo_move rfl rfl rfl ?_
  refine sxo_chk (fun h4 => ?_)
  refine sxo_quo rfl rfl rfl rfl h4 ?_
  refine sxo_assign rfl rfl rfl ?_
  refine sxo_nil ?_
  refine sxq_next ?_
  refine sxc_seq ?_
  refine sxc_chk (fun h11 => ?_)
  refine sxc_chk (fun h13 => ?_)
  refine sxb_draw mixed [] [] [] .nil gk_nil 14 rfl ?_
  refine sxb_takeP 0 (.int .i64 (iquo .i64 (isub .i64 x3 1) x2)) rfl rfl rfl (yv_pv rfl) ?_
  refine sxb_takeP 1 (.int .i64 (iquo .i64 (isub .i64 x3 1) x2)) rfl rfl rfl (yv_pv rfl) ?_
  refine sxb_takeP 2 (.int .i64 x2) rfl rfl rfl (yv_pv rfl) ?_
  refine sxb_takeP 3 (.int .i64 (imul .i64 (iquo .i64 (isub .i64 x3 1) x2) x2)) rfl rfl rfl (yv_pv rfl) ?_
  refine sxb_takeP 4 (.int .u64 (ishl .u64 1 (imul .i64 (iquo .i64 (isub .i64 x3 1) x2) x2))) rfl rfl rfl (yv_shl rfl rfl h11) ?_
  refine sxb_takeP 5 (.int .i64 (iquo .i64 (isub .i64 x3 1) x2)) rfl rfl rfl (yv_pv rfl) ?_
  refine sxb_takeP 6 (.int .i64 x2) rfl rfl rfl (yv_pv rfl) ?_
  refine sxb_takeP 7 (.int .i64 (imul .i64 (iquo .i64 (isub .i64 x3 1) x2) x2)) rfl rfl rfl (yv_pv rfl) ?_
  refine sxb_takeP 8 (.int .i64 x2) rfl rfl rfl (yv_pv rfl) ?_
  refine sxb_takeP 9 (.int .i64 (iadd .i64 (imul .i64 (iquo .i64 (isub .i64 x3 1) x2) x2) x2)) rfl rfl rfl (yv_pv rfl) ?_
  refine sxb_takeP 10 (.int .u64 (ishl .u64 1 (iadd .i64 (imul .i64 (iquo .i64 (isub .i64 x3 1) x2) x2) x2))) rfl rfl rfl (yv_shl rfl rfl h13) ?_
  refine sxb_takeP 11 (.int .i64 (iquo .i64 (isub .i64 x3 1) x2)) rfl rfl rfl (yv_pv rfl) ?_
  refine sxb_takeP 12 (.int .u64 (ishl .u64 1 (imul .i64 (iquo .i64 (isub .i64 x3 1) x2) x2))) rfl rfl rfl (yv_pv rfl) ?_
  refine sxb_takeP 13 (.int .u64 (ishl .u64 1 (iadd .i64 (imul .i64 (iquo .i64 (isub .i64 x3 1) x2) x2) x2))) rfl rfl rfl (yv_pv rfl) ?_
  refine sxb_done (by kernel_rfl) ?_
  refine sxq_np ?_ (by intro c h; cases h)
  refine sxq_next ?_
  refine sxc_ret ?_
  exact sxq_doneP () (res3 rfl rfl rfl rfl)

theorem C_golomb_shape (F : Nat) (x1 : Int) (r : (Int × Int)) (hm : M_golomb_shape F x1 = some r) :
    Pure Try.prog 77 [.int .u64 x1] [] Unit (fun _ => .tuple #[.int .i64 r.1, .int .u64 r.2]) (fun _ => []) (fun _ => []) := by
  refine pure_of Try.func77 rfl Try.ntmps77 rfl hm (fun w => ?_)
  refine sxc_env (l' := [(0, .int .u64 x1)]) rfl ?_
  refine sxc_seq ?_
  refine sxc_region ?_
  refine sxo_assign rfl rfl rfl ?_
  refine sxo_assign rfl rfl rfl ?_
  refine sxo_nil ?_
  refine sxq_next ?_
  refine sxc_seq ?_
  refine sxc_region ?_
  refine sxo_move rfl rfl rfl ?_
  refine sxo_sub rfl rfl rfl rfl ?_
  refine sxo_call ent75 rfl rfl rfl (fun x2 e2 => C_math_bits_Len64 F (isub .u64 x1 1) x2 e2) .nil (fun x2 e2 => ?_)
  intro _
  refine sxo_assign rfl rfl rfl ?_
  refine sxo_nil ?_
  refine sxq_next ?_
  refine sxc_seq ?_
  refine sxc_chk (fun h6 => ?_)
  refine sxb_draw mixed [] [] [] .nil gk_nil 7 rfl ?_
  refine sxb_takeP 0 (.int .i64 x2) rfl rfl rfl (yv_pv rfl) ?_
  refine sxb_takeP 1 (.int .i64 x2) rfl rfl rfl (yv_pv rfl) ?_
  refine sxb_takeP 2 (.int .u64 (ishl .u64 1 x2)) rfl rfl rfl (yv_shl rfl rfl h6) ?_
  refine sxb_takeP 3 (.int .u64 x1) rfl rfl rfl (yv_pv rfl) ?_
  refine sxb_takeP 4 (.int .u64 (isub .u64 (ishl .u64 1 x2) x1)) rfl rfl rfl (yv_pv rfl) ?_
  refine sxb_takeP 5 (.int .i64 x2) rfl rfl rfl (yv_pv rfl) ?_
  refine sxb_takeP 6 (.int .u64 (isub .u64 (ishl .u64 1 x2) x1)) rfl rfl rfl (yv_pv rfl) ?_
  refine sxb_done (by kernel_rfl) ?_
  refine sxq_np ?_ (by intro c h; cases h)
  refine sxq_next ?_
  refine sxc_ret ?_
  exact sxq_doneP () (res2 rfl rfl rfl)

theorem C_golomb_addLeast (F : Nat) (x1 : Int) (x2 : List Int) (a3 : Option Addr) (c4 : Nat) (x5 : Int) (x6 : Int) (r : (Int × List Int)) (hm : M_golomb_addLeast F x1 x2 x5 x6 = some r) :
    Pure Try.prog 66 [.agg #[.int .i64 x1, .slice a3 x2.length c4], .int .u64 x5, .int .u64 x6] [Sl (eI .u8) 1 (.slice a3 x2.length c4) x2] (Option Addr × Nat) (fun g => .agg #[.int .i64 r.1, .slice g.1 r.2.length g.2]) (fun g => [Ro (eI .u8) 5 1 (.slice g.1 r.2.length g.2) r.2]) (fun _ => []) := by
  refine pure_of Try.func66 rfl Try.ntmps66 rfl hm (fun w => ?_)
  refine sxc_env (l' := [(0, .agg #[.int .i64 x1, .slice a3 x2.length c4]), (1, .int .u64 x5), (2, .int .u64 x6)]) rfl ?_
  refine sxc_seq ?_
  refine sxc_region ?_
  refine sxo_box rfl rfl rfl (fun g7 => ?_)
  refine sxo_alloc rfl tf27 rfl (fun g8 => ?_)
  refine sxo_nil ?_
  refine sxq_next ?_
  refine sxc_seq ?_
  refine sxc_region ?_
  refine sxo_move rfl rfl rfl ?_
  refine sxo_call ent77 rfl rfl rfl (fun x9 e9 => C_golomb_shape F x6 x9 e9) .nil (fun x9 e9 => ?_)
  intro _
  refine sxo_move rfl rfl rfl ?_
  refine sxo_extract rfl rfl rfl rfl ?_
  refine sxo_extract rfl rfl rfl rfl ?_
  refine sxo_assign rfl rfl rfl ?_
  refine sxo_assign rfl rfl rfl ?_
  refine sxo_nil ?_
  refine sxq_next ?_
  refine sxc_seq ?_
  refine sxc_seq ?_
  refine sxc_region ?_
  refine sxo_move rfl rfl rfl ?_
  refine sxo_move rfl rfl rfl ?_
  refine sxo_lss rfl rfl rfl rfl ?_
  refine sxo_nil ?_
  refine sxq_next ?_
  refine sxc_if rfl (fun h20 => ?_) (fun h20 => ?_)
  · refine sxc_seq ?_
    refine sxc_region ?_
    refine sxo_loadB (i := 1) rfl rfl tf27 rfl rfl (by simp) rfl rfl ?_
    refine sxo_move rfl rfl rfl ?_
    refine sxo_move rfl rfl rfl ?_
    refine sxo_sub rfl rfl rfl rfl ?_
    refine sxo_call ent42 rfl rfl rfl (fun x14 e14 => C_bits_Add F x1 x2 a3 c4 x5 (isub .i64 x9.1 1) x14 e14) (.consF 0 rfl .nil) (fun x14 e14 => ?_)
    rintro ⟨a15, c16⟩
    refine sxo_storeB (i := 0) rfl rfl rfl tf27 rfl rfl rfl rfl rfl ?_
    refine sxo_nil ?_
    refine sxq_next ?_
    refine sxc_ret ?_
    refine sxq_thenR ?_
    exact sxq_doneP (a15, c16) (resL (rs := [.cell 6 27]) rfl (.cell (i := 0) rfl tf27 rfl rfl (by simp) rfl ResOk.nil) rfl) (fun h => by subst h; exact (.cons 0 rfl .nil))
  · refine sxc_skip ?_
    refine sxq_next ?_
    refine sxc_seq ?_
    refine sxc_region ?_
    refine sxo_loadB (i := 1) rfl rfl tf27 rfl rfl (by simp) rfl rfl ?_
    refine sxo_move rfl rfl rfl ?_
    refine sxo_move rfl rfl rfl ?_
    refine sxo_add rfl rfl rfl rfl ?_
    refine sxo_move rfl rfl rfl ?_
    refine sxo_call ent42 rfl rfl rfl (fun x17 e17 => C_bits_Add F x1 x2 a3 c4 (iadd .u64 x5 x9.2) x9.1 x17 e17) (.consF 0 rfl .nil) (fun x17 e17 => ?_)
    rintro ⟨a18, c19⟩
    refine sxo_storeB (i := 0) rfl rfl rfl tf27 rfl rfl rfl rfl rfl ?_
    refine sxo_nil ?_
    refine sxq_next ?_
    refine sxc_ret ?_
    exact sxq_doneP (a18, c19) (resL (rs := [.cell 6 27]) rfl (.cell (i := 0) rfl tf27 rfl rfl (by simp) rfl ResOk.nil) rfl) (fun h => by subst h; exact (.cons 0 rfl .nil))

theorem C_golomb_Zeta (F : Nat) (x1 : Int) (x2 : Int) (r : (Int × List Int × Int)) (hm : M_golomb_Zeta F x1 x2 = some r) :
    Pure Try.prog 52 [.int .u64 x1, .int .i64 x2] [] (Option Addr × Nat) (fun g => .tuple #[.agg #[.int .i64 r.1, .slice g.1 r.2.1.length g.2], .int .i64 r.2.2]) (fun g => [Ro (eI .u8) 5 1 (.slice g.1 r.2.1.length g.2) r.2.1]) (fun _ => []) := by
  refine pure_of Try.func52 rfl Try.ntmps52 rfl hm (fun w => ?_)
  refine sxc_env (l' := [(0, .int .u64 x1), (1, .int .i64 x2)]) rfl ?_
  refine sxc_seq ?_
  refine sxc_region ?_
  refine sxo_alloc rfl tf27 rfl (fun g3 => ?_)
  refine sxo_assign rfl rfl rfl ?_
  refine sxo_nil ?_
  refine sxq_next ?_
  refine sxc_seq ?_
  refine sxc_seq ?_
  refine sxc_region ?_
  refine sxo_move rfl rfl rfl ?_
  refine sxo_lss rfl rfl rfl rfl ?_
  refine sxo_move rfl rfl rfl ?_
  refine sxo_case 3 (decide (x2 < 1)) [(0, .int .u64 x1), (1, .int .i64 x2), (4, .pointer (some ⟨g3, 0, none⟩)), (14, .bool ((decide (x2 < 1)) || (decide (16 < x2))))] (fun h7 => ?_) (fun h7 => ?_) ?_
  · refine sxo_take (os := _) rfl ?_
    refine sxo_isT (k := 11) rfl h7 ?_
    refine sxo_skip rfl rfl rfl ?_
    refine sxo_skip rfl rfl rfl ?_
    refine sxo_pick (b := true) rfl rfl rfl rfl ?_
    refine sxo_again (d := 14) (v := .bool ((decide (x2 < 1)) || (decide (16 < x2)))) rfl (by rw [h7]; simp only [Bool.true_or]) ?_
    refine sxo_nil ?_
    exact sxq_case (lk_cons rfl (lk_cons rfl (lk_cons rfl (lk_cons rfl lk_nil))))
  · refine sxo_take (os := _) rfl ?_
    refine sxo_isF (k := 11) rfl h7 ?_
    refine sxo_move rfl rfl rfl ?_
    refine sxo_gtr rfl rfl rfl rfl ?_
    refine sxo_pick (b := false) rfl rfl rfl rfl ?_
    refine sxo_again (d := 14) (v := .bool ((decide (x2 < 1)) || (decide (16 < x2)))) rfl (by rw [h7]; simp only [Bool.false_or]) ?_
    refine sxo_nil ?_
    exact sxq_case (lk_cons rfl (lk_cons rfl (lk_cons rfl (lk_cons rfl lk_nil))))
  refine sxo_take (os := _) rfl ?_
  refine sxo_move rfl rfl rfl ?_
  refine sxo_case 3 ((decide (x2 < 1)) || (decide (16 < x2))) [(0, .int .u64 x1), (1, .int .i64 x2), (4, .pointer (some ⟨g3, 0, none⟩)), (18, .bool (((decide (x2 < 1)) || (decide (16 < x2))) || (decide (1099511627776 < x1))))] (fun h8 => ?_) (fun h8 => ?_) ?_
  · refine sxo_take (os := _) rfl ?_
    refine sxo_isT (k := 15) rfl h8 ?_
    refine sxo_skip rfl rfl rfl ?_
    refine sxo_skip rfl rfl rfl ?_
    refine sxo_pick (b := true) rfl rfl rfl rfl ?_
    refine sxo_again (d := 18) (v := .bool (((decide (x2 < 1)) || (decide (16 < x2))) || (decide (1099511627776 < x1)))) rfl (by rw [h8]; simp only [Bool.true_or]) ?_
    refine sxo_nil ?_
    exact sxq_case (lk_cons rfl (lk_cons rfl (lk_cons rfl (lk_cons rfl lk_nil))))
  · refine sxo_take (os := _) rfl ?_
    refine sxo_isF (k := 15) rfl h8 ?_
    refine sxo_move rfl rfl rfl ?_
    refine sxo_gtr rfl rfl rfl rfl ?_
    refine sxo_pick (b := false) rfl rfl rfl rfl ?_
    refine sxo_again (d := 18) (v := .bool (((decide (x2 < 1)) || (decide (16 < x2))) || (decide (1099511627776 < x1)))) rfl (by rw [h8]; simp only [Bool.false_or]) ?_
    refine sxo_nil ?_
    exact sxq_case (lk_cons rfl (lk_cons rfl (lk_cons rfl (lk_cons rfl lk_nil))))
  refine sxo_take (os := _) rfl ?_
  refine sxo_nil ?_
  refine sxq_next ?_
  refine sxc_if rfl (fun h16 => ?_) (fun h16 => ?_)
  · refine sxc_seq ?_
    refine sxc_region ?_
    refine sxo_build (cells := [.int .i64 0, .slice none 0 0]) rfl st27 rfl (by kernel_rfl) rfl ?_
    refine sxo_storeB (i := 0) rfl rfl rfl tf27 rfl rfl rfl rfl rfl ?_
    refine sxo_assign rfl rfl rfl ?_
    refine sxo_nil ?_
    refine sxq_next ?_
    refine sxc_ret ?_
    refine sxq_thenR ?_
    refine sxq_nilrow Int (eI .u8) 5 1 ?_
    exact sxq_doneP (none, 0) (resL (rs := [.cell 4 27, .tmp 5]) rfl (.cell (i := 0) rfl tf27 rfl rfl (by simp) rfl (.tmp rfl ResOk.nil)) rfl) (fun h => by subst h; exact (.cons 0 rfl .nil))
  · refine sxc_skip ?_
    refine sxq_next ?_
    refine sxc_seq ?_
    refine sxc_region ?_
    refine sxo_move rfl rfl rfl ?_
    refine sxo_move rfl rfl rfl ?_
    refine sxo_call ent65 rfl rfl rfl (fun x9 e9 => C_golomb_span F x1 x2 x9 e9) .nil (fun x9 e9 => ?_)
    intro _
    refine sxo_move rfl rfl rfl ?_
    refine sxo_extract rfl rfl rfl rfl ?_
    refine sxo_extract rfl rfl rfl rfl ?_
    refine sxo_extract rfl rfl rfl rfl ?_
    refine sxo_assign rfl rfl rfl ?_
    refine sxo_assign rfl rfl rfl ?_
    refine sxo_assign rfl rfl rfl ?_
    refine sxo_nil ?_
    refine sxq_next ?_
    refine sxc_seq ?_
    refine sxc_region ?_
    refine sxo_move rfl rfl rfl ?_
    refine sxo_conv rfl Try.underlying3 Try.underlying36 rfl rfl ?_
    refine sxo_call ent60 rfl rfl rfl (fun x10 e10 => C_unary_Raw F (iconv .u64 x9.1) x10 e10) .nil (fun x10 e10 => ?_)
    rintro ⟨a11, c12⟩
    refine sxo_move rfl rfl rfl ?_
    refine sxo_add rfl rfl rfl rfl ?_
    refine sxo_move rfl rfl rfl ?_
    refine sxo_sub rfl rfl rfl rfl ?_
    refine sxo_move rfl rfl rfl ?_
    refine sxo_move rfl rfl rfl ?_
    refine sxo_sub rfl rfl rfl rfl ?_
    refine sxo_call ent66 rfl rfl rfl (fun x13 e13 => C_golomb_addLeast F x10.1 x10.2 a11 c12 (isub .u64 (iadd .u64 x1 1) x9.2.1) (isub .u64 x9.2.2 x9.2.1) x13 e13) (.consR 0 (Ro (eI .u8) 5 1 (.slice a11 x10.2.length c12) x10.2) rfl .nil) (fun x13 e13 => ?_)
    rintro ⟨a14, c15⟩
    refine sxo_storeB (i := 0) rfl rfl rfl tf27 rfl rfl rfl rfl rfl ?_
    refine sxo_assign rfl rfl rfl ?_
    refine sxo_nil ?_
    refine sxq_next ?_
    refine sxc_ret ?_
    exact sxq_doneP (a14, c15) (resL (rs := [.cell 4 27, .tmp 5]) rfl (.cell (i := 0) rfl tf27 rfl rfl (by simp) rfl (.tmp rfl ResOk.nil)) rfl) (fun h => by subst h; exact (.cons 0 rfl .nil))

theorem C_gaps_Put (F : Nat) (x1 : Int) (x2 : List Int) (a3 : Option Addr) (c4 : Nat) (x5 : List Int) (a6 : Option Addr) (c7 : Nat) (x8 : Int) (r : (Int × List Int × Bool)) (hm : M_gaps_Put F x1 x2 x5 x8 = some r) :
    PureM Try.prog 39 [.agg #[.int .i64 x1, .slice a3 x2.length c4], .slice a6 x5.length c7, .int .i64 x8] [] [Ro (eI .u8) 5 1 (.slice a3 x2.length c4) x2] [Sl (eI .u64) 1 (.slice a6 x5.length c7) x5] (Option Addr × Nat) (fun g => .tuple #[.agg #[.int .i64 r.1, .slice g.1 r.2.1.length g.2], .bool r.2.2]) (fun _ => []) (fun g => [Ro (eI .u8) 5 1 (.slice g.1 r.2.1.length g.2) r.2.1]) := by
  refine pureM_of Try.func39 rfl Try.ntmps39 rfl hm (fun w => ?_)
  refine sxc_env (l' := [(0, .agg #[.int .i64 x1, .slice a3 x2.length c4]), (1, .slice a6 x5.length c7), (2, .int .i64 x8)]) rfl ?_
  refine sxc_seq ?_
  refine sxc_region ?_
  refine sxo_box rfl rfl rfl (fun g9 => ?_)
  refine sxo_alloc rfl tf27 rfl (fun g10 => ?_)
  refine sxo_assign rfl rfl rfl ?_
  refine sxo_nil ?_
  refine sxq_next ?_
  refine sxc_join (fun (((x107, x110), (a108, c109)) : ((Int × List Int) × (Option Addr × Nat))) => [(3, .pointer (some ⟨g9, 0, none⟩)), (6, .pointer (some ⟨g10, 0, none⟩))]) (fun (((x107, x110), (a108, c109)) : ((Int × List Int) × (Option Addr × Nat))) => [⟨g10, 27, [.int .i64 0, .slice none 0 0]⟩, ⟨g9, 27, [.int .i64 x107, .slice a108 x110.length c109]⟩]) (fun (((x107, x110), (a108, c109)) : ((Int × List Int) × (Option Addr × Nat))) => [Ro (eI .u8) 5 1 (.slice a108 x110.length c109) x110]) (fun (((x107, x110), (a108, c109)) : ((Int × List Int) × (Option Addr × Nat))) => []) (fun (((x107, x110), _) : ((Int × List Int) × (Option Addr × Nat))) => M_gaps_Put_j2 F x107 x110) ?_ ?_
  · refine sxc_seq ?_
    refine sxc_region ?_
    refine sxo_move rfl rfl rfl ?_
    refine sxo_len rfl Try.underlying79 rfl rfl ?_
    refine sxo_move rfl rfl rfl ?_
    refine sxo_nil ?_
    refine sxq_next ?_
    refine sxc_block ?_
    refine sxc_loopP (fun (((x141, x142, x145), (a143, c144)) : ((Int × Int × List Int) × (Option Addr × Nat))) => [(2, .int .i64 x8), (3, .pointer (some ⟨g9, 0, none⟩)), (6, .pointer (some ⟨g10, 0, none⟩)), (12, .slice a6 x5.length c7), (13, .int .i64 (x5.length : Int)), (14, .int .i64 x141)]) (fun (((x141, x142, x145), (a143, c144)) : ((Int × Int × List Int) × (Option Addr × Nat))) => [⟨g10, 27, [.int .i64 0, .slice none 0 0]⟩, ⟨g9, 27, [.int .i64 x142, .slice a143 x145.length c144]⟩]) (fun (((x141, x142, x145), (a143, c144)) : ((Int × Int × List Int) × (Option Addr × Nat))) => [Ro (eI .u8) 5 1 (.slice a143 x145.length c144) x145]) (fun (((x141, x142, x145), (a143, c144)) : ((Int × Int × List Int) × (Option Addr × Nat))) => [Sl (eI .u64) 1 (.slice a6 x5.length c7) x5]) (fun k (s : ((Int × Int × List Int) × (Option Addr × Nat))) => M_gaps_Put_l3 F x5 x8 k s.1) ((0, x1, x2), (a3, c4)) F ?_ (hB := (.cons 0 rfl (.cons 0 rfl .nil))) (hR := (.cons 0 rfl .nil)) (hF := (fk_cons 0 rfl fk_nil))
    intro k176
    rintro ⟨⟨x141, x142, x145⟩, ⟨a143, c144⟩⟩
    try dsimp only
    refine sxc_meq (m' := M_gaps_Put_b3 F x5 x8 (M_gaps_Put_l3 F x5 x8 k176) x141 x142 x145) rfl ?_
    refine sxc_seq ?_
    refine sxc_region ?_
    refine sxo_lss rfl rfl rfl rfl ?_
    refine sxo_nil ?_
    refine sxq_next ?_
    refine sxc_seq ?_
    refine sxc_if rfl (fun h206 => ?_) (fun h206 => ?_)
    · refine sxc_skip ?_
      refine sxq_next ?_
      refine sxc_seq ?_
      refine sxc_block ?_
      refine sxc_seq ?_
      refine sxc_region ?_
      refine sxo_indexF (j := 0) (eI_ok .u64) (by decide) rfl Try.underlying79 tf36 rfl rfl rfl rfl (fun x192 e192 b193 o194 => ?_)
      refine sxo_loadF (j := 0) rfl rfl tf36 rfl rfl (fun _ => rfl) rfl rfl ?_
      refine sxo_assign rfl rfl rfl ?_
      refine sxo_nil ?_
      refine sxq_next ?_
      refine sxc_seq ?_
      refine sxc_region ?_
      refine sxo_move rfl rfl rfl ?_
      refine sxo_move rfl rfl rfl ?_
      refine sxo_call ent52 rfl rfl rfl (fun x195 e195 => C_golomb_Zeta F x192 x8 x195 e195) .nil (fun x195 e195 => ?_)
      rintro ⟨a196, c197⟩
      refine sxo_move rfl rfl rfl ?_
      refine sxo_extract rfl rfl rfl rfl ?_
      refine sxo_extract rfl rfl rfl rfl ?_
      refine sxo_alloc rfl tf27 rfl (fun g198 => ?_)
      refine sxo_storeB (i := 0) rfl rfl rfl tf27 rfl rfl rfl rfl rfl ?_
      refine sxo_assign rfl rfl rfl ?_
      refine sxo_nil ?_
      refine sxq_next ?_
      refine sxc_seq ?_
      refine sxc_seq ?_
      refine sxc_region ?_
      refine sxo_move rfl rfl rfl ?_
      refine sxo_neq rfl rfl rfl rfl ?_
      refine sxo_move rfl rfl rfl ?_
      refine sxo_case 7 ((x195.2.2 : Int) != 0) [(2, .int .i64 x8), (3, .pointer (some ⟨g9, 0, none⟩)), (6, .pointer (some ⟨g10, 0, none⟩)), (12, .slice a6 x5.length c7), (13, .int .i64 (x5.length : Int)), (14, .int .i64 x141), (10, .pointer (some ⟨g198, 0, none⟩)), (33, .bool (((x195.2.2 : Int) != 0) || (decide (8192 < (iadd .i64 x142 x195.1)))))] (fun h201 => ?_) (fun h201 => ?_) ?_
      · refine sxo_take (os := _) rfl ?_
        refine sxo_isT (k := 26) rfl h201 ?_
        refine sxo_skip rfl rfl rfl ?_
        refine sxo_skip rfl rfl rfl ?_
        refine sxo_skip rfl rfl rfl ?_
        refine sxo_skip rfl rfl rfl ?_
        refine sxo_skip rfl rfl rfl ?_
        refine sxo_skip rfl rfl rfl ?_
        refine sxo_pick (b := true) rfl rfl rfl rfl ?_
        refine sxo_again (d := 33) (v := .bool (((x195.2.2 : Int) != 0) || (decide (8192 < (iadd .i64 x142 x195.1))))) rfl (by rw [h201]; simp only [Bool.true_or]) ?_
        refine sxo_nil ?_
        exact sxq_case (lk_cons rfl (lk_cons rfl (lk_cons rfl (lk_cons rfl (lk_cons rfl (lk_cons rfl (lk_cons rfl (lk_cons rfl lk_nil))))))))
      · refine sxo_take (os := _) rfl ?_
        refine sxo_isF (k := 26) rfl h201 ?_
        refine sxo_fieldAddr rfl rfl ff27_0 rfl ?_
        refine sxo_loadB (i := 2) rfl rfl tf3 rfl rfl (fun _ => rfl) rfl rfl ?_
        refine sxo_fieldAddr rfl rfl ff27_0 rfl ?_
        refine sxo_loadB (i := 0) rfl rfl tf3 rfl rfl (fun _ => rfl) rfl rfl ?_
        refine sxo_add rfl rfl rfl rfl ?_
        refine sxo_gtr rfl rfl rfl rfl ?_
        refine sxo_pick (b := false) rfl rfl rfl rfl ?_
        refine sxo_again (d := 33) (v := .bool (((x195.2.2 : Int) != 0) || (decide (8192 < (iadd .i64 x142 x195.1))))) rfl (by rw [h201]; simp only [Bool.false_or]) ?_
        refine sxo_nil ?_
        exact sxq_case (lk_cons rfl (lk_cons rfl (lk_cons rfl (lk_cons rfl (lk_cons rfl (lk_cons rfl (lk_cons rfl (lk_cons rfl lk_nil))))))))
      refine sxo_take (os := _) rfl ?_
      refine sxo_nil ?_
      refine sxq_next ?_
      refine sxc_if rfl (fun h205 => ?_) (fun h205 => ?_)
      · refine sxc_seq ?_
        refine sxc_region ?_
        refine sxo_build (cells := [.int .i64 0, .slice none 0 0]) rfl st27 rfl (by kernel_rfl) rfl ?_
        refine sxo_storeB (i := 1) rfl rfl rfl tf27 rfl rfl rfl rfl rfl ?_
        refine sxo_assign rfl rfl rfl ?_
        refine sxo_nil ?_
        refine sxq_next ?_
        refine sxc_ret ?_
        refine sxq_thenR ?_
        refine sxq_blkR ?_
        refine sxq_thenR ?_
        refine sxq_thenR ?_
        refine sxq_blkR ?_
        refine sxq_thenR ?_
        refine sxq_nilrow Int (eI .u8) 5 1 ?_
        exact sxq_doneM (none, 0) (resL (rs := [.cell 6 27, .tmp 7]) rfl (.cell (i := 1) rfl tf27 rfl rfl (by simp) rfl (.tmp rfl ResOk.nil)) rfl) (hR := fun h => by subst h; exact (.cons 0 rfl .nil))
      · refine sxc_skip ?_
        refine sxq_next ?_
        refine sxc_region ?_
        refine sxo_loadB (i := 2) rfl rfl tf27 rfl rfl (by simp) rfl rfl ?_
        refine sxo_loadB (i := 0) rfl rfl tf27 rfl rfl (by simp) rfl rfl ?_
        refine sxo_callM ent27 rfl rfl rfl (fun x202 e202 => C_bits_Both F x142 x145 a143 c144 x195.1 x195.2.1 a196 c197 x202 e202) .nil .nil (.consR 1 (Ro (eI .u8) 5 1 (.slice a143 x145.length c144) x145) rfl (.consR 0 (Ro (eI .u8) 5 1 (.slice a196 x195.2.1.length c197) x195.2.1) rfl .nil)) (fun x202 e202 => ?_)
        rintro ⟨a203, c204⟩
        refine sxo_storeB (i := 2) rfl rfl rfl tf27 rfl rfl rfl rfl rfl ?_
        refine sxo_nil ?_
        refine sxq_blkN ?_
        refine sxq_next ?_
        refine sxc_region ?_
        refine sxo_add rfl rfl rfl rfl ?_
        refine sxo_move rfl rfl rfl ?_
        refine sxo_nil ?_
        exact sxq_againP ((iadd .i64 x141 1, x202.1, x202.2), (a203, c204)) (hB := (.cons 1 rfl (.cons 1 rfl .nil))) (hR := (.cons 0 rfl .nil)) (hF := (fk_cons 1 rfl fk_nil))
    · refine sxc_exit ?_
      refine sxq_thenX ?_
      refine sxq_thenX ?_
      refine sxq_blkX ?_
      exact sxq_meetP ((x142, x145), (a143, c144)) (hB := (.cons 0 rfl (.cons 0 rfl .nil))) (hR := (.cons 0 rfl .nil))
  · rintro ⟨⟨x107, x110⟩, ⟨a108, c109⟩⟩
    try dsimp only
    refine sxc_seq ?_
    refine sxc_region ?_
    refine sxo_loadB (i := 1) rfl rfl tf27 rfl rfl (by simp) rfl rfl ?_
    refine sxo_storeB (i := 0) rfl rfl rfl tf27 rfl rfl rfl rfl rfl ?_
    refine sxo_assign rfl rfl rfl ?_
    refine sxo_nil ?_
    refine sxq_next ?_
    refine sxc_ret ?_
    exact sxq_doneM (a108, c109) (resL (rs := [.cell 6 27, .tmp 7]) rfl (.cell (i := 0) rfl tf27 rfl rfl (by simp) rfl (.tmp rfl ResOk.nil)) rfl) (hR := fun h => by subst h; exact (.cons 0 rfl .nil))

theorem C_gaps_walker_gap (F : Nat) (g1 : Nat) (x2 : Int) (x3 : Bool) (x4 : Int) (r : (Int × Int × Bool)) (hm : M_gaps_walker_gap F x2 x3 x4 = some r) :
    PureM Try.prog 53 [.pointer (some ⟨g1, 0, none⟩), .int .i64 x4] [⟨g1, 107, [.int .i64 x2, .bool x3]⟩] [] [] Unit (fun _ => .int .u64 r.1) (fun _ => [⟨g1, 107, [.int .i64 r.2.1, .bool r.2.2]⟩]) (fun _ => []) := by
  refine pureM_of Try.func53 rfl Try.ntmps53 rfl hm (fun w => ?_)
  refine sxc_env (l' := [(0, .pointer (some ⟨g1, 0, none⟩)), (1, .int .i64 x4)]) rfl ?_
  refine sxc_seq ?_
  refine sxc_region ?_
  refine sxo_assign rfl rfl rfl ?_
  refine sxo_nil ?_
  refine sxq_next ?_
  refine sxc_join (fun ((x8, _) : (Int × Unit)) => [(0, .pointer (some ⟨g1, 0, none⟩)), (1, .int .i64 x4), (4, .int .u64 x8)]) (fun ((x8, _) : (Int × Unit)) => [⟨g1, 107, [.int .i64 x2, .bool x3]⟩]) (fun ((x8, _) : (Int × Unit)) => []) (fun ((x8, _) : (Int × Unit)) => []) (fun ((x8, _) : (Int × Unit)) => M_gaps_walker_gap_j1 F x4 x8) ?_ ?_
  · refine sxc_seq ?_
    refine sxc_region ?_
    refine sxo_move rfl rfl rfl ?_
    refine sxo_nilCheck rfl rfl rfl ?_
    refine sxo_fieldAddr rfl rfl ff107_1 rfl ?_
    refine sxo_loadB (i := 0) rfl rfl tf4 rfl rfl (fun _ => rfl) rfl rfl ?_
    refine sxo_nil ?_
    refine sxq_next ?_
    refine sxc_if rfl (fun h11 => ?_) (fun h11 => ?_)
    · refine sxc_region ?_
      refine sxo_move rfl rfl rfl ?_
      refine sxo_move rfl rfl rfl ?_
      refine sxo_nilCheck rfl rfl rfl ?_
      refine sxo_fieldAddr rfl rfl ff107_0 rfl ?_
      refine sxo_loadB (i := 0) rfl rfl tf3 rfl rfl (fun _ => rfl) rfl rfl ?_
      refine sxo_sub rfl rfl rfl rfl ?_
      refine sxo_sub rfl rfl rfl rfl ?_
      refine sxo_conv rfl Try.underlying3 Try.underlying36 rfl rfl ?_
      refine sxo_assign rfl rfl rfl ?_
      refine sxo_lett (fun x9 e9 => ?_)
      refine sxo_again (d := 4) (v := .int .u64 x9) rfl (by rw [e9] <;> rfl) ?_
      refine sxo_nil ?_
      exact sxq_meetP (x9, ()) (hB := (.cons 0 rfl .nil))
    · refine sxc_region ?_
      refine sxo_move rfl rfl rfl ?_
      refine sxo_move rfl rfl rfl ?_
      refine sxo_nilCheck rfl rfl rfl ?_
      refine sxo_fieldAddr rfl rfl ff107_0 rfl ?_
      refine sxo_loadB (i := 0) rfl rfl tf3 rfl rfl (fun _ => rfl) rfl rfl ?_
      refine sxo_sub rfl rfl rfl rfl ?_
      refine sxo_call ent51 rfl rfl rfl (fun x10 e10 => C_varint_Fold F (isub .i64 x4 x2) x10 e10) .nil (fun x10 e10 => ?_)
      intro _
      refine sxo_assign rfl rfl rfl ?_
      refine sxo_nil ?_
      exact sxq_meetP (x10, ()) (hB := (.cons 0 rfl .nil))
  · rintro ⟨x8, _⟩
    try dsimp only
    refine sxc_seq ?_
    refine sxc_region ?_
    refine sxo_move rfl rfl rfl ?_
    refine sxo_move rfl rfl rfl ?_
    refine sxo_move rfl rfl rfl ?_
    refine sxo_nilCheck rfl rfl rfl ?_
    refine sxo_fieldAddr rfl rfl ff107_0 rfl ?_
    refine sxo_storeB (i := 0) rfl rfl rfl tf3 rfl rfl rfl rfl rfl ?_
    refine sxo_nilCheck rfl rfl rfl ?_
    refine sxo_fieldAddr rfl rfl ff107_1 rfl ?_
    refine sxo_storeB (i := 0) rfl rfl rfl tf4 rfl rfl rfl rfl rfl ?_
    refine sxo_nil ?_
    refine sxq_next ?_
    refine sxc_seq ?_
    refine sxc_region ?_
    refine sxo_move rfl rfl rfl ?_
    refine sxo_assign rfl rfl rfl ?_
    refine sxo_nil ?_
    refine sxq_next ?_
    refine sxc_ret ?_
    exact sxq_doneM () (res1 rfl rfl) (hB := fun h => by subst h; exact (.cons 0 rfl .nil))

theorem C_gaps_Raw (F : Nat) (x1 : List Int) (a2 : Option Addr) (c3 : Nat) (x4 : Int) (r : List Int) (hm : M_gaps_Raw F x1 x4 = some r) :
    Pure Try.prog 40 [.slice a2 x1.length c3, .int .i64 x4] [Sl (eI .i64) 1 (.slice a2 x1.length c3) x1] (Option Addr × Nat) (fun g => .slice g.1 r.length g.2) (fun g => [Ro (eI .u64) 36 1 (.slice g.1 r.length g.2) r]) (fun _ => []) := by
  refine pure_of Try.func40 rfl Try.ntmps40 rfl hm (fun w => ?_)
  refine sxc_env (l' := [(0, .slice a2 x1.length c3), (1, .int .i64 x4)]) rfl ?_
  refine sxc_seq ?_
  refine sxc_region ?_
  refine sxo_assign rfl rfl rfl ?_
  refine sxo_nil ?_
  refine sxq_next ?_
  refine sxc_seq ?_
  refine sxc_region ?_
  refine sxo_move rfl rfl rfl ?_
  refine sxo_build (cells := [.int .i64 x4, .bool false]) rfl st107 rfl (by kernel_rfl) rfl ?_
  refine sxo_box rfl rfl rfl (fun g5 => ?_)
  refine sxo_assign rfl rfl rfl ?_
  refine sxo_nil ?_
  refine sxq_next ?_
  refine sxc_seq ?_
  refine sxc_region ?_
  refine sxo_assign rfl rfl rfl ?_
  refine sxo_nil ?_
  refine sxq_next ?_
  refine sxc_join (fun ((x75, (a73, c74)) : (List Int × (Option Addr × Nat))) => [(6, .slice a73 x75.length c74)]) (fun ((x75, (a73, c74)) : (List Int × (Option Addr × Nat))) => []) (fun ((x75, (a73, c74)) : (List Int × (Option Addr × Nat))) => [Ro (eI .u64) 36 1 (.slice a73 x75.length c74) x75]) (fun ((x75, (a73, c74)) : (List Int × (Option Addr × Nat))) => []) (fun ((x75, _) : (List Int × (Option Addr × Nat))) => M_gaps_Raw_j2 F x75) ?_ ?_
  · refine sxc_seq ?_
    refine sxc_region ?_
    refine sxo_move rfl rfl rfl ?_
    refine sxo_len rfl Try.underlying22 rfl rfl ?_
    refine sxo_move rfl rfl rfl ?_
    refine sxo_nil ?_
    refine sxq_next ?_
    refine sxc_block ?_
    refine sxc_nilrow Int (eI .u64) 36 1 ?_
    refine sxc_loopP (fun (((x98, x99, x100, x101), (a96, c97)) : ((List Int × Int × Int × Bool) × (Option Addr × Nat))) => [(5, .pointer (some ⟨g5, 0, none⟩)), (6, .slice a96 x98.length c97), (12, .slice a2 x1.length c3), (13, .int .i64 (x1.length : Int)), (14, .int .i64 x99)]) (fun (((x98, x99, x100, x101), (a96, c97)) : ((List Int × Int × Int × Bool) × (Option Addr × Nat))) => [⟨g5, 107, [.int .i64 x100, .bool x101]⟩]) (fun (((x98, x99, x100, x101), (a96, c97)) : ((List Int × Int × Int × Bool) × (Option Addr × Nat))) => [Ro (eI .u64) 36 1 (.slice a96 x98.length c97) x98]) (fun (((x98, x99, x100, x101), (a96, c97)) : ((List Int × Int × Int × Bool) × (Option Addr × Nat))) => [Sl (eI .i64) 1 (.slice a2 x1.length c3) x1]) (fun k (s : ((List Int × Int × Int × Bool) × (Option Addr × Nat))) => M_gaps_Raw_l3 F x1 k s.1) ((([] : List Int), 0, x4, false), (none, 0)) F ?_ (hB := (.cons 0 rfl .nil)) (hR := (.cons 0 rfl .nil)) (hF := (fk_cons 0 rfl fk_nil))
    intro k122
    rintro ⟨⟨x98, x99, x100, x101⟩, ⟨a96, c97⟩⟩
    try dsimp only
    refine sxc_meq (m' := M_gaps_Raw_b3 F x1 (M_gaps_Raw_l3 F x1 k122) x98 x99 x100 x101) rfl ?_
    refine sxc_seq ?_
    refine sxc_region ?_
    refine sxo_lss rfl rfl rfl rfl ?_
    refine sxo_nil ?_
    refine sxq_next ?_
    refine sxc_seq ?_
    refine sxc_if rfl (fun h142 => ?_) (fun h142 => ?_)
    · refine sxc_skip ?_
      refine sxq_next ?_
      refine sxc_seq ?_
      refine sxc_block ?_
      refine sxc_seq ?_
      refine sxc_region ?_
      refine sxo_indexF (j := 0) (eI_ok .i64) (by decide) rfl Try.underlying22 tf3 rfl rfl rfl rfl (fun x133 e133 b134 o135 => ?_)
      refine sxo_loadF (j := 0) rfl rfl tf3 rfl rfl (fun _ => rfl) rfl rfl ?_
      refine sxo_assign rfl rfl rfl ?_
      refine sxo_nil ?_
      refine sxq_next ?_
      refine sxc_region ?_
      refine sxo_move rfl rfl rfl ?_
      refine sxo_move rfl rfl rfl ?_
      refine sxo_move rfl rfl rfl ?_
      refine sxo_callM ent53 rfl rfl rfl (fun x136 e136 => C_gaps_walker_gap F g5 x100 x101 x133 x136 e136) (.cons 0 rfl .nil) .nil .nil (fun x136 e136 => ?_)
      intro _
      refine sxo_slit (vs := [.int .u64 x136.1]) (ys := ([x136.1] : List Int)) (eI_ok .u64) (by decide) rfl Try.underlying79 tf36 rfl rfl rfl rfl rfl (by decide) (fun a137 c138 => ?_)
      refine sxo_app 1 (eI_ok .u64) rfl Try.underlying79 tf36 rfl rfl rfl rfl rfl (.inl ⟨0, _, rfl⟩) rfl rfl (fun x139 e139 a140 c141 => ?_)
      refine sxo_assign rfl rfl rfl ?_
      refine sxo_nil ?_
      refine sxq_blkN ?_
      refine sxq_next ?_
      refine sxc_region ?_
      refine sxo_add rfl rfl rfl rfl ?_
      refine sxo_move rfl rfl rfl ?_
      refine sxo_nil ?_
      exact sxq_againP ((x139, iadd .i64 x99 1, x136.2.1, x136.2.2), (a140, c141)) (hB := (.cons 0 rfl .nil)) (hR := (.cons 0 rfl .nil)) (hF := (fk_cons 1 rfl fk_nil))
    · refine sxc_exit ?_
      refine sxq_thenX ?_
      refine sxq_thenX ?_
      refine sxq_blkX ?_
      exact sxq_meetP (x98, (a96, c97)) (hR := (.cons 0 rfl .nil))
  · rintro ⟨x75, ⟨a73, c74⟩⟩
    try dsimp only
    refine sxc_seq ?_
    refine sxc_region ?_
    refine sxo_move rfl rfl rfl ?_
    refine sxo_assign rfl rfl rfl ?_
    refine sxo_nil ?_
    refine sxq_next ?_
    refine sxc_ret ?_
    exact sxq_doneP (a73, c74) (res1 rfl rfl) (fun h => by subst h; exact (.cons 0 rfl .nil))

set_option maxHeartbeats 4000000 in
theorem C_succ_writer_list (F : Nat) (g1 : Nat) (x2 : Int) (x3 : List Int) (a4 : Option Addr) (c5 : Nat) (x6 : Bool) (x7 : Int) (x8 : List Int) (a9 : Option Addr) (c10 : Nat) (x11 : List Int) (a12 : Option Addr) (c13 : Nat) (x14 : Int) (x15 : Int) (x16 : Int) (r : (Int × List Int × Bool)) (hm : M_succ_writer_list F x2 x3 x6 x7 x8 x11 x14 x15 x16 = some r) :
    PureM Try.prog 22 [.pointer (some ⟨g1, 0, none⟩), .int .i64 x7, .slice a9 x8.length c10, .slice a12 x11.length c13, .agg #[.int .i64 x14, .int .i64 x15, .int .i64 x16]] [⟨g1, 53, [.int .i64 x2, .slice a4 x3.length c5, .bool x6]⟩] [Ro (eI .u8) 5 1 (.slice a4 x3.length c5) x3] [Sl (eI .i64) 1 (.slice a9 x8.length c10) x8, Sl (eI .i64) 1 (.slice a12 x11.length c13) x11] (Option Addr × Nat) (fun _ => .tuple #[]) (fun g => [⟨g1, 53, [.int .i64 r.1, .slice g.1 r.2.1.length g.2, .bool r.2.2]⟩]) (fun g => [Ro (eI .u8) 5 1 (.slice g.1 r.2.1.length g.2) r.2.1]) := by
  refine pureM_of Try.func22 rfl Try.ntmps22 rfl hm (fun w => ?_)
  refine sxc_env (l' := [(0, .pointer (some ⟨g1, 0, none⟩)), (1, .int .i64 x7), (2, .slice a9 x8.length c10), (3, .slice a12 x11.length c13), (4, .agg #[.int .i64 x14, .int .i64 x15, .int .i64 x16])]) rfl ?_
  refine sxc_seq ?_
  refine sxc_region ?_
  refine sxo_box rfl rfl rfl (fun g17 => ?_)
  refine sxo_nil ?_
  refine sxq_next ?_
  refine sxc_seq ?_
  refine sxc_region ?_
  refine sxo_move rfl rfl rfl ?_
  refine sxo_move rfl rfl rfl ?_
  refine sxo_len rfl Try.underlying22 rfl rfl ?_
  refine sxo_callM ent34 rfl rfl rfl (fun x18 e18 => C_succ_writer_gamma F g1 x2 x3 a4 c5 x6 (x8.length : Int) x18 e18) (.cons 1 rfl .nil) (.cons 0 rfl .nil) .nil (fun x18 e18 => ?_)
  rintro ⟨a19, c20⟩
  refine sxo_nil ?_
  refine sxq_next ?_
  refine sxc_seq ?_
  refine sxc_seq ?_
  refine sxc_region ?_
  refine sxo_move rfl rfl rfl ?_
  refine sxo_len rfl Try.underlying22 rfl rfl ?_
  refine sxo_eql rfl rfl rfl rfl ?_
  refine sxo_nil ?_
  refine sxq_next ?_
  refine sxc_if rfl (fun h122 => ?_) (fun h122 => ?_)
  · refine sxc_ret ?_
    refine sxq_thenR ?_
    exact sxq_doneM (a19, c20) (res0 rfl) (hB := fun h => by subst h; exact (.cons 0 rfl .nil)) (hR := fun h => by subst h; exact (.cons 0 rfl .nil))
  · refine sxc_skip ?_
    refine sxq_next ?_
    refine sxc_seq ?_
    refine sxc_region ?_
    refine sxo_move rfl rfl rfl ?_
    refine sxo_assign rfl rfl rfl ?_
    refine sxo_nil ?_
    refine sxq_next ?_
    refine sxc_join (fun (((x33, x34, x37, x38), (a31, c32, a35, c36)) : ((List Int × Int × List Int × Bool) × (Option Addr × Nat × Option Addr × Nat))) => [(0, .pointer (some ⟨g1, 0, none⟩)), (1, .int .i64 x7), (9, .pointer (some ⟨g17, 0, none⟩)), (10, .slice a31 x33.length c32)]) (fun (((x33, x34, x37, x38), (a31, c32, a35, c36)) : ((List Int × Int × List Int × Bool) × (Option Addr × Nat × Option Addr × Nat))) => [⟨g1, 53, [.int .i64 x34, .slice a35 x37.length c36, .bool x38]⟩, ⟨g17, 24, [.int .i64 x14, .int .i64 x15, .int .i64 x16]⟩]) (fun (((x33, x34, x37, x38), (a31, c32, a35, c36)) : ((List Int × Int × List Int × Bool) × (Option Addr × Nat × Option Addr × Nat))) => [Ro (eI .u8) 5 1 (.slice a35 x37.length c36) x37]) (fun (((x33, x34, x37, x38), (a31, c32, a35, c36)) : ((List Int × Int × List Int × Bool) × (Option Addr × Nat × Option Addr × Nat))) => [Sl (eI .i64) 1 (.slice a31 x33.length c32) x33]) (fun (((x33, x34, x37, x38), _) : ((List Int × Int × List Int × Bool) × (Option Addr × Nat × Option Addr × Nat))) => M_succ_writer_list_j1 F x7 x15 x16 x33 x34 x37 x38) ?_ ?_
    · refine sxc_seq ?_
      refine sxc_region ?_
      refine sxo_fieldAddr rfl rfl ff24_0 rfl ?_
      refine sxo_loadB (i := 1) rfl rfl tf3 rfl rfl (fun _ => rfl) rfl rfl ?_
      refine sxo_gtr rfl rfl rfl rfl ?_
      refine sxo_nil ?_
      refine sxq_next ?_
      refine sxc_if rfl (fun h121 => ?_) (fun h121 => ?_)
      · refine sxc_seq ?_
        refine sxc_region ?_
        refine sxo_assign rfl rfl rfl ?_
        refine sxo_nil ?_
        refine sxq_next ?_
        refine sxc_seq ?_
        refine sxc_region ?_
        refine sxo_move rfl rfl rfl ?_
        refine sxo_move rfl rfl rfl ?_
        refine sxo_call ent35 rfl rfl rfl (fun x113 e113 => C_parts_Raw F x11 a12 c13 x8 a9 c10 x113 e113) (.consF 1 rfl (.consF 0 rfl .nil)) (fun x113 e113 => ?_)
        rintro ⟨⟨a114, c115⟩, ⟨a116, c117⟩⟩
        refine sxo_move rfl rfl rfl ?_
        refine sxo_extract rfl rfl rfl rfl ?_
        refine sxo_extract rfl rfl rfl rfl ?_
        refine sxo_assign rfl rfl rfl ?_
        refine sxo_assign rfl rfl rfl ?_
        refine sxo_nil ?_
        refine sxq_next ?_
        refine sxc_region ?_
        refine sxo_move rfl rfl rfl ?_
        refine sxo_move rfl rfl rfl ?_
        refine sxo_callM ent36 rfl rfl rfl (fun x118 e118 => C_succ_writer_blocks F g1 x18.1 x18.2.1 a19 c20 x18.2.2 x113.1 a114 c115 x118 e118) (.cons 0 rfl .nil) (.cons 2 rfl .nil) (.consR 0 (Ro (eI .i64) 3 1 (.slice a114 x113.1.length c115) x113.1) rfl .nil) (fun x118 e118 => ?_)
        rintro ⟨a119, c120⟩
        refine sxo_nil ?_
        refine sxq_freeze 2 rfl ?_
        exact sxq_meetP ((x113.2, x118.1, x118.2.1, x118.2.2), (a116, c117, a119, c120)) (hB := (.cons 0 rfl (.cons 0 rfl .nil))) (hR := (.cons 0 rfl .nil)) (hF := (fk_cons 0 rfl fk_nil))
      · refine sxc_skip ?_
        exact sxq_meetP ((x8, x18.1, x18.2.1, x18.2.2), (a9, c10, a19, c20)) (hB := (.cons 0 rfl (.cons 0 rfl .nil))) (hR := (.cons 0 rfl .nil)) (hF := (fk_cons 0 rfl fk_nil))
    · rintro ⟨⟨x33, x34, x37, x38⟩, ⟨a31, c32, a35, c36⟩⟩
      try dsimp only
      refine sxc_seq ?_
      refine sxc_seq ?_
      refine sxc_region ?_
      refine sxo_move rfl rfl rfl ?_
      refine sxo_len rfl Try.underlying22 rfl rfl ?_
      refine sxo_eql rfl rfl rfl rfl ?_
      refine sxo_nil ?_
      refine sxq_next ?_
      refine sxc_if rfl (fun h112 => ?_) (fun h112 => ?_)
      · refine sxc_ret ?_
        refine sxq_thenR ?_
        exact sxq_doneM (a35, c36) (res0 rfl) (hB := fun h => by subst h; exact (.cons 0 rfl .nil)) (hR := fun h => by subst h; exact (.cons 0 rfl .nil))
      · refine sxc_skip ?_
        refine sxq_next ?_
        refine sxc_join (fun (((x51, x52, x55, x56), (a49, c50, a53, c54)) : ((List Int × Int × List Int × Bool) × (Option Addr × Nat × Option Addr × Nat))) => [(0, .pointer (some ⟨g1, 0, none⟩)), (1, .int .i64 x7), (9, .pointer (some ⟨g17, 0, none⟩)), (10, .slice a49 x51.length c50)]) (fun (((x51, x52, x55, x56), (a49, c50, a53, c54)) : ((List Int × Int × List Int × Bool) × (Option Addr × Nat × Option Addr × Nat))) => [⟨g1, 53, [.int .i64 x52, .slice a53 x55.length c54, .bool x56]⟩, ⟨g17, 24, [.int .i64 x14, .int .i64 x15, .int .i64 x16]⟩]) (fun (((x51, x52, x55, x56), (a49, c50, a53, c54)) : ((List Int × Int × List Int × Bool) × (Option Addr × Nat × Option Addr × Nat))) => [Ro (eI .u8) 5 1 (.slice a53 x55.length c54) x55]) (fun (((x51, x52, x55, x56), (a49, c50, a53, c54)) : ((List Int × Int × List Int × Bool) × (Option Addr × Nat × Option Addr × Nat))) => [Sl (eI .i64) 1 (.slice a49 x51.length c50) x51]) (fun (((x51, x52, x55, x56), _) : ((List Int × Int × List Int × Bool) × (Option Addr × Nat × Option Addr × Nat))) => M_succ_writer_list_j2 F x7 x16 x51 x52 x55 x56) ?_ ?_
        · refine sxc_seq ?_
          refine sxc_region ?_
          refine sxo_fieldAddr rfl rfl ff24_1 rfl ?_
          refine sxo_loadB (i := 1) rfl rfl tf3 rfl rfl (fun _ => rfl) rfl rfl ?_
          refine sxo_gtr rfl rfl rfl rfl ?_
          refine sxo_nil ?_
          refine sxq_next ?_
          refine sxc_if rfl (fun h111 => ?_) (fun h111 => ?_)
          · refine sxc_seq ?_
            refine sxc_region ?_
            refine sxo_assign rfl rfl rfl ?_
            refine sxo_nil ?_
            refine sxq_next ?_
            refine sxc_seq ?_
            refine sxc_region ?_
            refine sxo_move rfl rfl rfl ?_
            refine sxo_fieldAddr rfl rfl ff24_1 rfl ?_
            refine sxo_loadB (i := 1) rfl rfl tf3 rfl rfl (fun _ => rfl) rfl rfl ?_
            refine sxo_callM ent37 rfl rfl rfl (fun x103 e103 => C_runs_Raw F x33 a31 c32 x15 x103 e103) .nil .nil (.consF 0 rfl .nil) (fun x103 e103 => ?_)
            rintro ⟨⟨a104, c105⟩, ⟨a106, c107⟩⟩
            refine sxo_move rfl rfl rfl ?_
            refine sxo_extract rfl rfl rfl rfl ?_
            refine sxo_extract rfl rfl rfl rfl ?_
            refine sxo_assign rfl rfl rfl ?_
            refine sxo_assign rfl rfl rfl ?_
            refine sxo_nil ?_
            refine sxq_next ?_
            refine sxc_region ?_
            refine sxo_move rfl rfl rfl ?_
            refine sxo_move rfl rfl rfl ?_
            refine sxo_fieldAddr rfl rfl ff24_1 rfl ?_
            refine sxo_loadB (i := 1) rfl rfl tf3 rfl rfl (fun _ => rfl) rfl rfl ?_
            refine sxo_move rfl rfl rfl ?_
            refine sxo_callM ent38 rfl rfl rfl (fun x108 e108 => C_succ_writer_runs F g1 x34 x37 a35 c36 x38 x7 x15 x103.1 a104 c105 x108 e108) (.cons 0 rfl .nil) (.cons 2 rfl .nil) (.consR 0 (Ro eS102 102 2 (.slice a104 x103.1.length c105) x103.1) rfl .nil) (fun x108 e108 => ?_)
            rintro ⟨a109, c110⟩
            refine sxo_nil ?_
            refine sxq_freeze 2 rfl ?_
            exact sxq_meetP ((x103.2, x108.1, x108.2.1, x108.2.2), (a106, c107, a109, c110)) (hB := (.cons 0 rfl (.cons 0 rfl .nil))) (hR := (.cons 0 rfl .nil)) (hF := (fk_cons 0 rfl fk_nil))
          · refine sxc_skip ?_
            exact sxq_meetP ((x33, x34, x37, x38), (a31, c32, a35, c36)) (hB := (.cons 0 rfl (.cons 0 rfl .nil))) (hR := (.cons 0 rfl .nil)) (hF := (fk_cons 0 rfl fk_nil))
        · rintro ⟨⟨x51, x52, x55, x56⟩, ⟨a49, c50, a53, c54⟩⟩
          try dsimp only
          refine sxc_join (fun (((x76, x77, x80), (g75, a78, c79)) : ((Bool × Int × List Int) × (Nat × Option Addr × Nat))) => [(0, .pointer (some ⟨g1, 0, none⟩)), (13, .pointer (some ⟨g75, 0, none⟩)), (14, .bool x76)]) (fun (((x76, x77, x80), (g75, a78, c79)) : ((Bool × Int × List Int) × (Nat × Option Addr × Nat))) => [⟨g1, 53, [.int .i64 x52, .slice a53 x55.length c54, .bool x56]⟩, ⟨g75, 27, [.int .i64 x77, .slice a78 x80.length c79]⟩]) (fun (((x76, x77, x80), (g75, a78, c79)) : ((Bool × Int × List Int) × (Nat × Option Addr × Nat))) => [Ro (eI .u8) 5 1 (.slice a53 x55.length c54) x55, Ro (eI .u8) 5 1 (.slice a78 x80.length c79) x80]) (fun (((x76, x77, x80), (g75, a78, c79)) : ((Bool × Int × List Int) × (Nat × Option Addr × Nat))) => []) (fun (((x76, x77, x80), _) : ((Bool × Int × List Int) × (Nat × Option Addr × Nat))) => M_succ_writer_list_j3 F x52 x55 x56 x76 x77 x80) ?_ ?_
          · refine sxb_draw mixed [] [⟨g1, 53, [.int .i64 x52, .slice a53 x55.length c54, .bool x56]⟩, ⟨g17, 24, [.int .i64 x14, .int .i64 x15, .int .i64 x16]⟩] [Sl (eI .i64) 1 (.slice a49 x51.length c50) x51] (.cons 0 rfl (.cons 0 rfl .nil)) (gk_F 0 rfl gk_nil) 13 rfl ?_
            refine sxb_takeP 0 (.agg #[.int .i64 0, .slice none 0 0]) rfl rfl rfl (yv_build (cells := [.int .i64 0, .slice none 0 0]) st27 rfl (by kernel_rfl)) ?_
            refine sxb_takeP 1 (.slice a49 x51.length c50) rfl rfl rfl (yv_pv rfl) ?_
            refine sxb_takeP 2 (.int .i64 x7) rfl rfl rfl (yv_pv rfl) ?_
            refine sxb_takeP 4 (.pointer (some ⟨g17, 2, none⟩)) rfl rfl rfl (yv_fieldAddr rfl ff24_2) ?_
            refine sxb_takeB 5 (.int .i64 x16) rfl rfl rfl (yv_loadB (i := 1) rfl tf3 rfl rfl (fun _ => rfl) rfl) ?_
            refine sxb_two 3 10 rfl rfl (by kernel_rfl) rfl rfl ?_ ?_
            · refine sxo_call ent40 rfl rfl rfl (fun x85 e85 => C_gaps_Raw F x51 a49 c50 x7 x85 e85) (.consF 0 rfl .nil) (fun x85 e85 => ?_)
              rintro ⟨a86, c87⟩
              refine sxo_nil ?_
              refine sxq_anyB (.cons 0 rfl (.cons 0 rfl .nil)) (gk_F 0 rfl gk_nil) ?_
              refine sxb_two 6 10 rfl rfl (by kernel_rfl) rfl rfl ?_ ?_
              · refine sxo_nilrow' Int (eI .u8) 5 1 ?_
                refine sxo_callM ent39 rfl rfl rfl (fun x88 e88 => C_gaps_Put F 0 ([] : List Int) none 0 x85 a86 c87 x16 x88 e88) .nil (.cons 0 rfl .nil) (.consR 0 (Ro (eI .u64) 36 1 (.slice a86 x85.length c87) x85) rfl .nil) (fun x88 e88 => ?_)
                rintro ⟨a89, c90⟩
                refine sxo_nil ?_
                refine sxq_anyB (.cons 0 rfl (.cons 0 rfl .nil)) (gk_F 0 rfl gk_nil) ?_
                refine sxb_takeP 7 (.tuple #[.agg #[.int .i64 x88.1, .slice a89 x88.2.1.length c90], .bool x88.2.2]) rfl rfl rfl (yv_pv rfl) ?_
                refine sxb_takeP 8 (.agg #[.int .i64 x88.1, .slice a89 x88.2.1.length c90]) rfl rfl rfl (yv_pv rfl) ?_
                refine sxb_takeP 9 (.bool x88.2.2) rfl rfl rfl (yv_pv rfl) ?_
                refine sxb_step 10 rfl (by kernel_rfl) rfl ?_
                refine sxo_alloc rfl tf27 rfl (fun g91 => ?_)
                refine sxo_nil ?_
                refine sxq_anyB (.cons 1 rfl (.cons 1 rfl .nil)) (gk_F 0 rfl gk_nil) ?_
                refine sxb_step 11 rfl (by kernel_rfl) rfl ?_
                refine sxo_storeB (i := 0) rfl rfl rfl tf27 rfl rfl rfl rfl rfl ?_
                refine sxo_nil ?_
                refine sxq_anyB (.cons 1 rfl (.cons 1 rfl .nil)) (gk_F 0 rfl gk_nil) ?_
                refine sxb_takeP 12 (.bool x88.2.2) rfl rfl rfl (yv_pv rfl) ?_
                refine sxb_done (by kernel_rfl) ?_
                refine sxq_np ?_ (by intro c h; cases h)
                exact sxq_meetP ((x88.2.2, x88.1, x88.2.1), (g91, a89, c90)) (hB := (.cons 1 rfl (.cons 0 rfl .nil))) (hR := (.cons 2 rfl (.cons 0 rfl .nil)))
              · refine sxo_meq (m' := ((M_gaps_Put F 0 ([] : List Int) x85 x16).bind fun x93 => M_succ_writer_list_j3 F x52 x55 x56 x93.2.2 x93.1 x93.2.1)) (rfl) ?_
                refine sxo_alloc rfl tf27 rfl (fun g92 => ?_)
                refine sxo_nil ?_
                refine sxq_anyB (.cons 1 rfl (.cons 1 rfl .nil)) (gk_F 0 rfl gk_nil) ?_
                refine sxb_step 6 rfl (by kernel_rfl) rfl ?_
                refine sxo_nilrow' Int (eI .u8) 5 1 ?_
                refine sxo_callM ent39 rfl rfl rfl (fun x93 e93 => C_gaps_Put F 0 ([] : List Int) none 0 x85 a86 c87 x16 x93 e93) .nil (.cons 0 rfl .nil) (.consR 0 (Ro (eI .u64) 36 1 (.slice a86 x85.length c87) x85) rfl .nil) (fun x93 e93 => ?_)
                rintro ⟨a94, c95⟩
                refine sxo_nil ?_
                refine sxq_anyB (.cons 1 rfl (.cons 1 rfl .nil)) (gk_F 0 rfl gk_nil) ?_
                refine sxb_takeP 7 (.tuple #[.agg #[.int .i64 x93.1, .slice a94 x93.2.1.length c95], .bool x93.2.2]) rfl rfl rfl (yv_pv rfl) ?_
                refine sxb_takeP 8 (.agg #[.int .i64 x93.1, .slice a94 x93.2.1.length c95]) rfl rfl rfl (yv_pv rfl) ?_
                refine sxb_takeP 9 (.bool x93.2.2) rfl rfl rfl (yv_pv rfl) ?_
                refine sxb_step 11 rfl (by kernel_rfl) rfl ?_
                refine sxo_storeB (i := 0) rfl rfl rfl tf27 rfl rfl rfl rfl rfl ?_
                refine sxo_nil ?_
                refine sxq_anyB (.cons 1 rfl (.cons 1 rfl .nil)) (gk_F 0 rfl gk_nil) ?_
                refine sxb_takeP 12 (.bool x93.2.2) rfl rfl rfl (yv_pv rfl) ?_
                refine sxb_done (by kernel_rfl) ?_
                refine sxq_np ?_ (by intro c h; cases h)
                exact sxq_meetP ((x93.2.2, x93.1, x93.2.1), (g92, a94, c95)) (hB := (.cons 1 rfl (.cons 0 rfl .nil))) (hR := (.cons 2 rfl (.cons 0 rfl .nil)))
            · refine sxo_meq (m' := ((M_gaps_Raw F x51 x7).bind fun x97 => ((M_gaps_Put F 0 ([] : List Int) x97 x16).bind fun x100 => M_succ_writer_list_j3 F x52 x55 x56 x100.2.2 x100.1 x100.2.1))) (rfl) ?_
              refine sxo_alloc rfl tf27 rfl (fun g96 => ?_)
              refine sxo_nil ?_
              refine sxq_anyB (.cons 1 rfl (.cons 1 rfl .nil)) (gk_F 0 rfl gk_nil) ?_
              refine sxb_step 3 rfl (by kernel_rfl) rfl ?_
              refine sxo_call ent40 rfl rfl rfl (fun x97 e97 => C_gaps_Raw F x51 a49 c50 x7 x97 e97) (.consF 0 rfl .nil) (fun x97 e97 => ?_)
              rintro ⟨a98, c99⟩
              refine sxo_nil ?_
              refine sxq_anyB (.cons 1 rfl (.cons 1 rfl .nil)) (gk_F 0 rfl gk_nil) ?_
              refine sxb_step 6 rfl (by kernel_rfl) rfl ?_
              refine sxo_nilrow' Int (eI .u8) 5 1 ?_
              refine sxo_callM ent39 rfl rfl rfl (fun x100 e100 => C_gaps_Put F 0 ([] : List Int) none 0 x97 a98 c99 x16 x100 e100) .nil (.cons 0 rfl .nil) (.consR 0 (Ro (eI .u64) 36 1 (.slice a98 x97.length c99) x97) rfl .nil) (fun x100 e100 => ?_)
              rintro ⟨a101, c102⟩
              refine sxo_nil ?_
              refine sxq_anyB (.cons 1 rfl (.cons 1 rfl .nil)) (gk_F 0 rfl gk_nil) ?_
              refine sxb_takeP 7 (.tuple #[.agg #[.int .i64 x100.1, .slice a101 x100.2.1.length c102], .bool x100.2.2]) rfl rfl rfl (yv_pv rfl) ?_
              refine sxb_takeP 8 (.agg #[.int .i64 x100.1, .slice a101 x100.2.1.length c102]) rfl rfl rfl (yv_pv rfl) ?_
              refine sxb_takeP 9 (.bool x100.2.2) rfl rfl rfl (yv_pv rfl) ?_
              refine sxb_step 11 rfl (by kernel_rfl) rfl ?_
              refine sxo_storeB (i := 0) rfl rfl rfl tf27 rfl rfl rfl rfl rfl ?_
              refine sxo_nil ?_
              refine sxq_anyB (.cons 1 rfl (.cons 1 rfl .nil)) (gk_F 0 rfl gk_nil) ?_
              refine sxb_takeP 12 (.bool x100.2.2) rfl rfl rfl (yv_pv rfl) ?_
              refine sxb_done (by kernel_rfl) ?_
              refine sxq_np ?_ (by intro c h; cases h)
              exact sxq_meetP ((x100.2.2, x100.1, x100.2.1), (g96, a101, c102)) (hB := (.cons 1 rfl (.cons 0 rfl .nil))) (hR := (.cons 2 rfl (.cons 0 rfl .nil)))
          · rintro ⟨⟨x76, x77, x80⟩, ⟨g75, a78, c79⟩⟩
            try dsimp only
            refine sxc_seq ?_
            refine sxc_region ?_
            refine sxo_move rfl rfl rfl ?_
            refine sxo_move rfl rfl rfl ?_
            refine sxo_nilCheck rfl rfl rfl ?_
            refine sxo_fieldAddr rfl rfl ff53_1 rfl ?_
            refine sxo_loadB (i := 0) rfl rfl tf4 rfl rfl (fun _ => rfl) rfl rfl ?_
            refine sxo_move rfl rfl rfl ?_
            refine sxo_case 3 x56 [(0, .pointer (some ⟨g1, 0, none⟩)), (13, .pointer (some ⟨g75, 0, none⟩)), (64, .pointer (some ⟨g1, 0, none⟩)), (72, .bool (x56 || (!x76)))] (fun h81 => ?_) (fun h81 => ?_) ?_
            · refine sxo_take (os := _) rfl ?_
              refine sxo_isT (k := 69) rfl h81 ?_
              refine sxo_skip rfl rfl rfl ?_
              refine sxo_skip rfl rfl rfl ?_
              refine sxo_pick (b := true) rfl rfl rfl rfl ?_
              refine sxo_again (d := 72) (v := .bool (x56 || (!x76))) rfl (by rw [h81]; simp only [Bool.true_or]) ?_
              refine sxo_nil ?_
              exact sxq_case (lk_cons rfl (lk_cons rfl (lk_cons rfl (lk_cons rfl lk_nil))))
            · refine sxo_take (os := _) rfl ?_
              refine sxo_isF (k := 69) rfl h81 ?_
              refine sxo_move rfl rfl rfl ?_
              refine sxo_not rfl rfl rfl ?_
              refine sxo_pick (b := false) rfl rfl rfl rfl ?_
              refine sxo_again (d := 72) (v := .bool (x56 || (!x76))) rfl (by rw [h81]; simp only [Bool.false_or]) ?_
              refine sxo_nil ?_
              exact sxq_case (lk_cons rfl (lk_cons rfl (lk_cons rfl (lk_cons rfl lk_nil))))
            refine sxo_take (os := _) rfl ?_
            refine sxo_nilCheck rfl rfl rfl ?_
            refine sxo_fieldAddr rfl rfl ff53_1 rfl ?_
            refine sxo_storeB (i := 0) rfl rfl rfl tf4 rfl rfl rfl rfl rfl ?_
            refine sxo_nil ?_
            refine sxq_next ?_
            refine sxc_region ?_
            refine sxo_move rfl rfl rfl ?_
            refine sxo_loadB (i := 1) rfl rfl tf27 rfl rfl (by simp) rfl rfl ?_
            refine sxo_callM ent41 rfl rfl rfl (fun x82 e82 => C_succ_writer_add F g1 x52 x55 a53 c54 (x56 || (!x76)) x77 x80 a78 c79 x82 e82) (.cons 0 rfl .nil) (.cons 0 rfl .nil) (.consR 0 (Ro (eI .u8) 5 1 (.slice a78 x80.length c79) x80) rfl .nil) (fun x82 e82 => ?_)
            rintro ⟨a83, c84⟩
            refine sxo_nil ?_
            exact sxq_doneM (a83, c84) (res0 rfl) (hB := fun h => by subst h; exact (.cons 0 rfl .nil)) (hR := fun h => by subst h; exact (.cons 0 rfl .nil))

theorem C_succ_Write (F : Nat) (x1 : Int) (x2 : List Int) (a3 : Option Addr) (c4 : Nat) (x5 : List Int) (a6 : Option Addr) (c7 : Nat) (x8 : Int) (x9 : Int) (x10 : Int) (r : (Int × List Int × Int)) (hm : M_succ_Write F x1 x2 x5 x8 x9 x10 = some r) :
    Pure Try.prog 8 [.int .i64 x1, .slice a3 x2.length c4, .slice a6 x5.length c7, .agg #[.int .i64 x8, .int .i64 x9, .int .i64 x10]] [Sl (eI .i64) 1 (.slice a3 x2.length c4) x2, Sl (eI .i64) 1 (.slice a6 x5.length c7) x5] (Option Addr × Nat) (fun g => .tuple #[.agg #[.int .i64 r.1, .slice g.1 r.2.1.length g.2], .int .i64 r.2.2]) (fun g => [Ro (eI .u8) 5 1 (.slice g.1 r.2.1.length g.2) r.2.1]) (fun _ => []) := by
  refine pure_of Try.func8 rfl Try.ntmps8 rfl hm (fun w => ?_)
  refine sxc_env (l' := [(0, .int .i64 x1), (1, .slice a3 x2.length c4), (2, .slice a6 x5.length c7), (3, .agg #[.int .i64 x8, .int .i64 x9, .int .i64 x10])]) rfl ?_
  refine sxc_seq ?_
  refine sxc_region ?_
  refine sxo_box rfl rfl rfl (fun g11 => ?_)
  refine sxo_alloc rfl tf27 rfl (fun g12 => ?_)
  refine sxo_assign rfl rfl rfl ?_
  refine sxo_nil ?_
  refine sxq_next ?_
  refine sxc_seq ?_
  refine sxc_region ?_
  refine sxo_loadB (i := 1) rfl rfl tf24 rfl rfl (by simp) rfl rfl ?_
  refine sxo_call ent19 rfl rfl rfl (fun x13 e13 => C_succ_Check F x8 x9 x10 x13 e13) .nil (fun x13 e13 => ?_)
  intro _
  refine sxo_assign rfl rfl rfl ?_
  refine sxo_nil ?_
  refine sxq_next ?_
  refine sxc_join (fun ((x19, _) : (Int × Unit)) => [(0, .int .i64 x1), (1, .slice a3 x2.length c4), (2, .slice a6 x5.length c7), (7, .pointer (some ⟨g11, 0, none⟩)), (8, .pointer (some ⟨g12, 0, none⟩)), (10, .int .i64 x19)]) (fun ((x19, _) : (Int × Unit)) => [⟨g12, 27, [.int .i64 0, .slice none 0 0]⟩, ⟨g11, 24, [.int .i64 x8, .int .i64 x9, .int .i64 x10]⟩]) (fun ((x19, _) : (Int × Unit)) => []) (fun ((x19, _) : (Int × Unit)) => [Sl (eI .i64) 1 (.slice a3 x2.length c4) x2, Sl (eI .i64) 1 (.slice a6 x5.length c7) x5]) (fun ((x19, _) : (Int × Unit)) => M_succ_Write_j2 F x1 x2 x5 x8 x9 x10 x19) ?_ ?_
  · refine sxc_seq ?_
    refine sxc_region ?_
    refine sxo_move rfl rfl rfl ?_
    refine sxo_eql rfl rfl rfl rfl ?_
    refine sxo_move rfl rfl rfl ?_
    refine sxo_join 7 (fun ((x40, _) : (Bool × Unit)) => [(0, .int .i64 x1), (1, .slice a3 x2.length c4), (2, .slice a6 x5.length c7), (7, .pointer (some ⟨g11, 0, none⟩)), (8, .pointer (some ⟨g12, 0, none⟩)), (10, .int .i64 x13), (23, .bool x40)]) (fun ((x40, _) : (Bool × Unit)) => [⟨g12, 27, [.int .i64 0, .slice none 0 0]⟩, ⟨g11, 24, [.int .i64 x8, .int .i64 x9, .int .i64 x10]⟩]) (fun ((x40, _) : (Bool × Unit)) => []) (fun ((x40, _) : (Bool × Unit)) => [Sl (eI .i64) 1 (.slice a3 x2.length c4) x2, Sl (eI .i64) 1 (.slice a6 x5.length c7) x5]) (fun ((x40, _) : (Bool × Unit)) => M_succ_Write_j5 F x1 x2 x5 x8 x9 x10 x13 x40) ?_ ?_
    · refine sxo_take (os := _) rfl ?_
      refine sxo_if (fun h38 => ?_) (fun h38 => ?_)
      · refine sxo_isT (k := 16) rfl h38 ?_
        refine sxo_move rfl rfl rfl ?_
        refine sxo_lss rfl rfl rfl rfl ?_
        refine sxo_move rfl rfl rfl ?_
        refine sxo_case 3 (decide (x1 < 0)) [(0, .int .i64 x1), (1, .slice a3 x2.length c4), (2, .slice a6 x5.length c7), (7, .pointer (some ⟨g11, 0, none⟩)), (8, .pointer (some ⟨g12, 0, none⟩)), (10, .int .i64 x13), (16, .bool true), (22, .bool ((decide (x1 < 0)) || (decide (1048576 < x1))))] (fun h42 => ?_) (fun h42 => ?_) ?_
        · refine sxo_take (os := _) rfl ?_
          refine sxo_isT (k := 19) rfl h42 ?_
          refine sxo_skip rfl rfl rfl ?_
          refine sxo_skip rfl rfl rfl ?_
          refine sxo_pick (b := true) rfl rfl rfl rfl ?_
          refine sxo_again (d := 22) (v := .bool ((decide (x1 < 0)) || (decide (1048576 < x1)))) rfl (by rw [h42]; simp only [Bool.true_or]) ?_
          refine sxo_nil ?_
          exact sxq_case (lk_cons rfl (lk_cons rfl (lk_cons rfl (lk_cons rfl (lk_cons rfl (lk_cons rfl (lk_cons rfl (lk_cons rfl lk_nil))))))))
        · refine sxo_take (os := _) rfl ?_
          refine sxo_isF (k := 19) rfl h42 ?_
          refine sxo_move rfl rfl rfl ?_
          refine sxo_gtr rfl rfl rfl rfl ?_
          refine sxo_pick (b := false) rfl rfl rfl rfl ?_
          refine sxo_again (d := 22) (v := .bool ((decide (x1 < 0)) || (decide (1048576 < x1)))) rfl (by rw [h42]; simp only [Bool.false_or]) ?_
          refine sxo_nil ?_
          exact sxq_case (lk_cons rfl (lk_cons rfl (lk_cons rfl (lk_cons rfl (lk_cons rfl (lk_cons rfl (lk_cons rfl (lk_cons rfl lk_nil))))))))
        refine sxo_take (os := _) rfl ?_
        refine sxo_pick (b := true) rfl rfl rfl rfl ?_
        refine sxo_nil ?_
        exact sxq_meetP (((decide (x1 < 0)) || (decide (1048576 < x1))), ()) (hB := (.cons 0 rfl (.cons 0 rfl .nil))) (hF := (fk_cons 0 rfl (fk_cons 1 rfl fk_nil)))
      · refine sxo_isF (k := 16) rfl h38 ?_
        refine sxo_skip rfl rfl rfl ?_
        refine sxo_skip rfl rfl rfl ?_
        refine sxo_skip rfl rfl rfl ?_
        refine sxo_skip rfl rfl rfl ?_
        refine sxo_skip rfl rfl rfl ?_
        refine sxo_skip rfl rfl rfl ?_
        refine sxo_pick (b := false) rfl rfl rfl rfl ?_
        refine sxo_nil ?_
        exact sxq_meetP (false, ()) (hB := (.cons 0 rfl (.cons 0 rfl .nil))) (hF := (fk_cons 0 rfl (fk_cons 1 rfl fk_nil)))
    · rintro ⟨x40, _⟩
      try dsimp only
      refine sxo_take (os := _) rfl ?_
      refine sxo_nil ?_
      refine sxq_next ?_
      refine sxc_if rfl (fun h41 => ?_) (fun h41 => ?_)
      · refine sxc_region ?_
        refine sxo_assign rfl rfl rfl ?_
        refine sxo_nil ?_
        exact sxq_meetP (3, ()) (hB := (.cons 0 rfl (.cons 0 rfl .nil))) (hF := (fk_cons 0 rfl (fk_cons 1 rfl fk_nil)))
      · refine sxc_skip ?_
        exact sxq_meetP (x13, ()) (hB := (.cons 0 rfl (.cons 0 rfl .nil))) (hF := (fk_cons 0 rfl (fk_cons 1 rfl fk_nil)))
  · rintro ⟨x19, _⟩
    try dsimp only
    refine sxc_join (fun ((x22, _) : (Int × Unit)) => [(0, .int .i64 x1), (1, .slice a3 x2.length c4), (2, .slice a6 x5.length c7), (7, .pointer (some ⟨g11, 0, none⟩)), (8, .pointer (some ⟨g12, 0, none⟩)), (10, .int .i64 x22)]) (fun ((x22, _) : (Int × Unit)) => [⟨g12, 27, [.int .i64 0, .slice none 0 0]⟩, ⟨g11, 24, [.int .i64 x8, .int .i64 x9, .int .i64 x10]⟩]) (fun ((x22, _) : (Int × Unit)) => []) (fun ((x22, _) : (Int × Unit)) => [Sl (eI .i64) 1 (.slice a3 x2.length c4) x2, Sl (eI .i64) 1 (.slice a6 x5.length c7) x5]) (fun ((x22, _) : (Int × Unit)) => M_succ_Write_j3 F x1 x2 x5 x8 x9 x10 x22) ?_ ?_
    · refine sxc_seq ?_
      refine sxc_region ?_
      refine sxo_move rfl rfl rfl ?_
      refine sxo_eql rfl rfl rfl rfl ?_
      refine sxo_nil ?_
      refine sxq_next ?_
      refine sxc_if rfl (fun h37 => ?_) (fun h37 => ?_)
      · refine sxc_region ?_
        refine sxo_move rfl rfl rfl ?_
        refine sxo_call ent20 rfl rfl rfl (fun x36 e36 => C_gaps_Check F x2 a3 c4 x36 e36) (.consF 0 rfl .nil) (fun x36 e36 => ?_)
        intro _
        refine sxo_assign rfl rfl rfl ?_
        refine sxo_nil ?_
        exact sxq_meetP (x36, ()) (hB := (.cons 0 rfl (.cons 0 rfl .nil))) (hF := (fk_cons 0 rfl (fk_cons 1 rfl fk_nil)))
      · refine sxc_skip ?_
        exact sxq_meetP (x19, ()) (hB := (.cons 0 rfl (.cons 0 rfl .nil))) (hF := (fk_cons 0 rfl (fk_cons 1 rfl fk_nil)))
    · rintro ⟨x22, _⟩
      try dsimp only
      refine sxc_join (fun ((x25, _) : (Int × Unit)) => [(0, .int .i64 x1), (1, .slice a3 x2.length c4), (2, .slice a6 x5.length c7), (7, .pointer (some ⟨g11, 0, none⟩)), (8, .pointer (some ⟨g12, 0, none⟩)), (10, .int .i64 x25)]) (fun ((x25, _) : (Int × Unit)) => [⟨g12, 27, [.int .i64 0, .slice none 0 0]⟩, ⟨g11, 24, [.int .i64 x8, .int .i64 x9, .int .i64 x10]⟩]) (fun ((x25, _) : (Int × Unit)) => []) (fun ((x25, _) : (Int × Unit)) => [Sl (eI .i64) 1 (.slice a3 x2.length c4) x2, Sl (eI .i64) 1 (.slice a6 x5.length c7) x5]) (fun ((x25, _) : (Int × Unit)) => M_succ_Write_j4 F x1 x2 x5 x8 x9 x10 x25) ?_ ?_
      · refine sxc_seq ?_
        refine sxc_region ?_
        refine sxo_move rfl rfl rfl ?_
        refine sxo_eql rfl rfl rfl rfl ?_
        refine sxo_nil ?_
        refine sxq_next ?_
        refine sxc_if rfl (fun h35 => ?_) (fun h35 => ?_)
        · refine sxc_region ?_
          refine sxo_move rfl rfl rfl ?_
          refine sxo_move rfl rfl rfl ?_
          refine sxo_loadB (i := 1) rfl rfl tf24 rfl rfl (by simp) rfl rfl ?_
          refine sxo_call ent21 rfl rfl rfl (fun x34 e34 => C_succ_check F x1 x5 a6 c7 x8 x9 x10 x34 e34) (.consF 1 rfl .nil) (fun x34 e34 => ?_)
          intro _
          refine sxo_assign rfl rfl rfl ?_
          refine sxo_nil ?_
          exact sxq_meetP (x34, ()) (hB := (.cons 0 rfl (.cons 0 rfl .nil))) (hF := (fk_cons 0 rfl (fk_cons 1 rfl fk_nil)))
        · refine sxc_skip ?_
          exact sxq_meetP (x22, ()) (hB := (.cons 0 rfl (.cons 0 rfl .nil))) (hF := (fk_cons 0 rfl (fk_cons 1 rfl fk_nil)))
      · rintro ⟨x25, _⟩
        try dsimp only
        refine sxc_seq ?_
        refine sxc_seq ?_
        refine sxc_region ?_
        refine sxo_move rfl rfl rfl ?_
        refine sxo_neq rfl rfl rfl rfl ?_
        refine sxo_nil ?_
        refine sxq_next ?_
        refine sxc_if rfl (fun h33 => ?_) (fun h33 => ?_)
        · refine sxc_seq ?_
          refine sxc_region ?_
          refine sxo_build (cells := [.int .i64 0, .slice none 0 0]) rfl st27 rfl (by kernel_rfl) rfl ?_
          refine sxo_move rfl rfl rfl ?_
          refine sxo_storeB (i := 0) rfl rfl rfl tf27 rfl rfl rfl rfl rfl ?_
          refine sxo_assign rfl rfl rfl ?_
          refine sxo_nil ?_
          refine sxq_next ?_
          refine sxc_ret ?_
          refine sxq_thenR ?_
          refine sxq_nilrow Int (eI .u8) 5 1 ?_
          exact sxq_doneP (none, 0) (resL (rs := [.cell 8 27, .tmp 9]) rfl (.cell (i := 0) rfl tf27 rfl rfl (by simp) rfl (.tmp rfl ResOk.nil)) rfl) (fun h => by subst h; exact (.cons 0 rfl .nil))
        · refine sxc_skip ?_
          refine sxq_next ?_
          refine sxc_seq ?_
          refine sxc_region ?_
          refine sxo_build (cells := [.int .i64 0, .slice none 0 0, .bool false]) rfl st53 rfl (by kernel_rfl) rfl ?_
          refine sxo_box rfl rfl rfl (fun g27 => ?_)
          refine sxo_assign rfl rfl rfl ?_
          refine sxo_nil ?_
          refine sxq_next ?_
          refine sxc_seq ?_
          refine sxc_region ?_
          refine sxo_move rfl rfl rfl ?_
          refine sxo_move rfl rfl rfl ?_
          refine sxo_move rfl rfl rfl ?_
          refine sxo_move rfl rfl rfl ?_
          refine sxo_loadB (i := 2) rfl rfl tf24 rfl rfl (by simp) rfl rfl ?_
          refine sxo_nilrow' Int (eI .u8) 5 1 ?_
          refine sxo_callM ent22 rfl rfl rfl (fun x28 e28 => C_succ_writer_list F g27 0 ([] : List Int) none 0 false x1 x2 a3 c4 x5 a6 c7 x8 x9 x10 x28 e28) (.cons 0 rfl .nil) (.cons 0 rfl .nil) (.consF 0 rfl (.consF 1 rfl .nil)) (fun x28 e28 => ?_)
          rintro ⟨a29, c30⟩
          refine sxo_nil ?_
          refine sxq_next ?_
          refine sxc_seq ?_
          refine sxc_seq ?_
          refine sxc_region ?_
          refine sxo_move rfl rfl rfl ?_
          refine sxo_nilCheck rfl rfl rfl ?_
          refine sxo_fieldAddr rfl rfl ff53_1 rfl ?_
          refine sxo_loadB (i := 0) rfl rfl tf4 rfl rfl (fun _ => rfl) rfl rfl ?_
          refine sxo_nil ?_
          refine sxq_next ?_
          refine sxc_if rfl (fun h32 => ?_) (fun h32 => ?_)
          · refine sxc_seq ?_
            refine sxc_region ?_
            refine sxo_build (cells := [.int .i64 0, .slice none 0 0]) rfl st27 rfl (by kernel_rfl) rfl ?_
            refine sxo_storeB (i := 1) rfl rfl rfl tf27 rfl rfl rfl rfl rfl ?_
            refine sxo_assign rfl rfl rfl ?_
            refine sxo_nil ?_
            refine sxq_next ?_
            refine sxc_ret ?_
            refine sxq_thenR ?_
            refine sxq_nilrow Int (eI .u8) 5 1 ?_
            exact sxq_doneP (none, 0) (resL (rs := [.cell 8 27, .tmp 9]) rfl (.cell (i := 1) rfl tf27 rfl rfl (by simp) rfl (.tmp rfl ResOk.nil)) rfl) (fun h => by subst h; exact (.cons 0 rfl .nil))
          · refine sxc_skip ?_
            refine sxq_next ?_
            refine sxc_seq ?_
            refine sxc_region ?_
            refine sxo_move rfl rfl rfl ?_
            refine sxo_nilCheck rfl rfl rfl ?_
            refine sxo_fieldAddr rfl rfl ff53_0 rfl ?_
            refine sxo_loadB (i := 0) rfl rfl tf27 rfl rfl (by simp) rfl rfl ?_
            refine sxo_storeB (i := 1) rfl rfl rfl tf27 rfl rfl rfl rfl rfl ?_
            refine sxo_assign rfl rfl rfl ?_
            refine sxo_nil ?_
            refine sxq_next ?_
            refine sxc_ret ?_
            exact sxq_doneP (a29, c30) (resL (rs := [.cell 8 27, .tmp 9]) rfl (.cell (i := 1) rfl tf27 rfl rfl (by simp) rfl (.tmp rfl ResOk.nil)) rfl) (fun h => by subst h; exact (.cons 0 rfl .nil))

theorem C_R_SameBytes (F : Nat) (x1 : List Int) (a2 : Option Addr) (c3 : Nat) (x4 : List Int) (a5 : Option Addr) (c6 : Nat) (r : Bool) (hm : M_R_SameBytes F x1 x4 = some r) :
    Pure Try.prog 23 [.slice a2 x1.length c3, .slice a5 x4.length c6] [Sl (eI .u8) 1 (.slice a2 x1.length c3) x1, Sl (eI .u8) 1 (.slice a5 x4.length c6) x4] Unit (fun _ => .bool r) (fun _ => []) (fun _ => []) := by
  refine pure_of Try.func23 rfl Try.ntmps23 rfl hm (fun w => ?_)
  refine sxc_env (l' := [(0, .slice a2 x1.length c3), (1, .slice a5 x4.length c6)]) rfl ?_
  refine sxc_seq ?_
  refine sxc_region ?_
  refine sxo_assign rfl rfl rfl ?_
  refine sxo_nil ?_
  refine sxq_next ?_
  refine sxc_seq ?_
  refine sxc_seq ?_
  refine sxc_region ?_
  refine sxo_move rfl rfl rfl ?_
  refine sxo_len rfl Try.underlying25 rfl rfl ?_
  refine sxo_move rfl rfl rfl ?_
  refine sxo_len rfl Try.underlying25 rfl rfl ?_
  refine sxo_neq rfl rfl rfl rfl ?_
  refine sxo_nil ?_
  refine sxq_next ?_
  refine sxc_if rfl (fun h228 => ?_) (fun h228 => ?_)
  · refine sxc_seq ?_
    refine sxc_region ?_
    refine sxo_assign rfl rfl rfl ?_
    refine sxo_nil ?_
    refine sxq_next ?_
    refine sxc_ret ?_
    refine sxq_thenR ?_
    exact sxq_doneP () (res1 rfl rfl)
  · refine sxc_skip ?_
    refine sxq_next ?_
    refine sxc_join (fun ((_, _) : (Unit × Unit)) => []) (fun ((_, _) : (Unit × Unit)) => []) (fun ((_, _) : (Unit × Unit)) => []) (fun ((_, _) : (Unit × Unit)) => []) (fun ((_, _) : (Unit × Unit)) => M_R_SameBytes_j2 F) ?_ ?_
    · refine sxc_seq ?_
      refine sxc_region ?_
      refine sxo_assign rfl rfl rfl ?_
      refine sxo_nil ?_
      refine sxq_next ?_
      refine sxc_block ?_
      refine sxc_loopP (fun ((x154, _) : (Int × Unit)) => [(0, .slice a2 x1.length c3), (1, .slice a5 x4.length c6), (5, .int .i64 x154)]) (fun ((x154, _) : (Int × Unit)) => []) (fun ((x154, _) : (Int × Unit)) => []) (fun ((x154, _) : (Int × Unit)) => [Sl (eI .u8) 1 (.slice a2 x1.length c3) x1, Sl (eI .u8) 1 (.slice a5 x4.length c6) x4]) (fun k (s : (Int × Unit)) => M_R_SameBytes_l3 F x1 x4 k s.1) (0, ()) F ?_ (hF := (fk_cons 0 rfl (fk_cons 1 rfl fk_nil)))
      intro k191
      rintro ⟨x154, _⟩
      try dsimp only
      refine sxc_meq (m' := M_R_SameBytes_b3 F x1 x4 (M_R_SameBytes_l3 F x1 x4 k191) x154) rfl ?_
      refine sxc_seq ?_
      refine sxc_seq ?_
      refine sxc_region ?_
      refine sxo_move rfl rfl rfl ?_
      refine sxo_move rfl rfl rfl ?_
      refine sxo_len rfl Try.underlying25 rfl rfl ?_
      refine sxo_lss rfl rfl rfl rfl ?_
      refine sxo_nil ?_
      refine sxq_next ?_
      refine sxc_if rfl (fun h227 => ?_) (fun h227 => ?_)
      · refine sxc_skip ?_
        refine sxq_next ?_
        refine sxc_seq ?_
        refine sxc_block ?_
        refine sxc_seq ?_
        refine sxc_idxF (j := 0) (eI_ok .u8) (by decide) rfl (fun x218 e218 b219 o220 h221 => ?_)
        replace h221 : a2 = some ⟨b219, o220, none⟩ := h221
        refine sxc_idxF (j := 2) (eI_ok .u8) (by decide) rfl (fun x222 e222 b223 o224 h225 => ?_)
        replace h225 : a5 = some ⟨b223, o224, none⟩ := h225
        refine sxb_draw mixed [] [] [CellsAt b223 (o224 + x154.toNat * 1) ((eI .u8) x222), CellsAt b219 (o220 + x154.toNat * 1) ((eI .u8) x218), Sl (eI .u8) 1 (.slice a2 x1.length c3) x1, Sl (eI .u8) 1 (.slice a5 x4.length c6) x4] .nil (gk_F 0 rfl (gk_F 1 rfl (gk_F 2 rfl (gk_F 3 rfl gk_nil)))) 9 rfl ?_
        refine sxb_takeP 0 (.slice a2 x1.length c3) rfl rfl rfl (yv_pv rfl) ?_
        refine sxb_takeP 1 (.int .i64 x154) rfl rfl rfl (yv_pv rfl) ?_
        refine sxb_again (d := 17) (v := .slice (some ⟨b219, o220, none⟩) x1.length c3) rfl (by rw [h221] <;> rfl) ?_
        refine sxb_takeP 2 (.pointer (some ⟨b219, (o220 + x154.toNat * 1), none⟩)) rfl rfl rfl (yv_idx Try.underlying25 tf5 rfl rfl (idx_get e218).1 (idx_lt e218)) ?_
        refine sxb_again (d := 17) (v := .slice a2 x1.length c3) rfl (by rw [h221] <;> rfl) ?_
        refine sxb_take 3 (.int .u8 x218) [] rfl rfl rfl (yv_loadF (j := 1) rfl tf5 rfl rfl (fun _ => rfl) rfl) ?_
        refine sxb_takeP 4 (.slice a5 x4.length c6) rfl rfl rfl (yv_pv rfl) ?_
        refine sxb_takeP 5 (.int .i64 x154) rfl rfl rfl (yv_pv rfl) ?_
        refine sxb_again (d := 21) (v := .slice (some ⟨b223, o224, none⟩) x4.length c6) rfl (by rw [h225] <;> rfl) ?_
        refine sxb_takeP 6 (.pointer (some ⟨b223, (o224 + x154.toNat * 1), none⟩)) rfl rfl rfl (yv_idx Try.underlying25 tf5 rfl rfl (idx_get e222).1 (idx_lt e222)) ?_
        refine sxb_again (d := 21) (v := .slice a5 x4.length c6) rfl (by rw [h225] <;> rfl) ?_
        refine sxb_take 7 (.int .u8 x222) [] rfl rfl rfl (yv_loadF (j := 0) rfl tf5 rfl rfl (fun _ => rfl) rfl) ?_
        refine sxb_takeP 8 (.bool ((x218 : Int) != x222)) rfl rfl rfl (yv_pv rfl) ?_
        refine sxb_done (by kernel_rfl) ?_
        refine sxq_np ?_ (by intro c h; cases h)
        refine sxq_next ?_
        refine sxc_if rfl (fun h226 => ?_) (fun h226 => ?_)
        · refine sxc_seq ?_
          refine sxc_region ?_
          refine sxo_assign rfl rfl rfl ?_
          refine sxo_nil ?_
          refine sxq_next ?_
          refine sxc_ret ?_
          refine sxq_blkR ?_
          refine sxq_thenR ?_
          refine sxq_thenR ?_
          refine sxq_blkR ?_
          refine sxq_thenR ?_
          exact sxq_doneP () (res1 rfl rfl)
        · refine sxc_skip ?_
          refine sxq_blkN ?_
          refine sxq_next ?_
          refine sxc_region ?_
          refine sxo_move rfl rfl rfl ?_
          refine sxo_add rfl rfl rfl rfl ?_
          refine sxo_assign rfl rfl rfl ?_
          refine sxo_nil ?_
          exact sxq_againP (iadd .i64 x154 1, ()) (hF := (fk_cons 2 rfl (fk_cons 3 rfl fk_nil)))
      · refine sxc_exit ?_
        refine sxq_thenX ?_
        refine sxq_thenX ?_
        refine sxq_blkX ?_
        exact sxq_meetP ((), ())
    · rintro ⟨_, _⟩
      try dsimp only
      refine sxc_seq ?_
      refine sxc_region ?_
      refine sxo_assign rfl rfl rfl ?_
      refine sxo_nil ?_
      refine sxq_next ?_
      refine sxc_ret ?_
      exact sxq_doneP () (res1 rfl rfl)

theorem C_R_SameBits (F : Nat) (x1 : Int) (x2 : List Int) (a3 : Option Addr) (c4 : Nat) (x5 : Int) (x6 : List Int) (a7 : Option Addr) (c8 : Nat) (r : Bool) (hm : M_R_SameBits F x1 x2 x5 x6 = some r) :
    Pure Try.prog 11 [.agg #[.int .i64 x1, .slice a3 x2.length c4], .agg #[.int .i64 x5, .slice a7 x6.length c8]] [Sl (eI .u8) 1 (.slice a3 x2.length c4) x2, Sl (eI .u8) 1 (.slice a7 x6.length c8) x6] Unit (fun _ => .bool r) (fun _ => []) (fun _ => []) := by
  refine pure_of Try.func11 rfl Try.ntmps11 rfl hm (fun w => ?_)
  refine sxc_env (l' := [(0, .agg #[.int .i64 x1, .slice a3 x2.length c4]), (1, .agg #[.int .i64 x5, .slice a7 x6.length c8])]) rfl ?_
  refine sxc_seq ?_
  refine sxc_region ?_
  refine sxo_box rfl rfl rfl (fun g9 => ?_)
  refine sxo_box rfl rfl rfl (fun g10 => ?_)
  refine sxo_assign rfl rfl rfl ?_
  refine sxo_nil ?_
  refine sxq_next ?_
  refine sxc_seq ?_
  refine sxc_region ?_
  refine sxo_fieldAddr rfl rfl ff27_0 rfl ?_
  refine sxo_loadB (i := 1) rfl rfl tf3 rfl rfl (fun _ => rfl) rfl rfl ?_
  refine sxo_fieldAddr rfl rfl ff27_0 rfl ?_
  refine sxo_loadB (i := 0) rfl rfl tf3 rfl rfl (fun _ => rfl) rfl rfl ?_
  refine sxo_eql rfl rfl rfl rfl ?_
  refine sxo_move rfl rfl rfl ?_
  refine sxo_join 6 (fun ((x13, _) : (Bool × Unit)) => [(16, .bool x13)]) (fun ((x13, _) : (Bool × Unit)) => []) (fun ((x13, _) : (Bool × Unit)) => []) (fun ((x13, _) : (Bool × Unit)) => []) (fun ((x13, _) : (Bool × Unit)) => M_R_SameBits_j1 F x13) ?_ ?_
  · refine sxo_take (os := _) rfl ?_
    refine sxo_if (fun h11 => ?_) (fun h11 => ?_)
    · refine sxo_isT (k := 10) rfl h11 ?_
      refine sxo_fieldAddr rfl rfl ff27_1 rfl ?_
      refine sxo_loadB (i := 1) rfl rfl tf25 rfl rfl (fun _ => rfl) rfl rfl ?_
      refine sxo_fieldAddr rfl rfl ff27_1 rfl ?_
      refine sxo_loadB (i := 0) rfl rfl tf25 rfl rfl (fun _ => rfl) rfl rfl ?_
      refine sxo_call ent23 rfl rfl rfl (fun x14 e14 => C_R_SameBytes F x2 a3 c4 x6 a7 c8 x14 e14) (.consF 0 rfl (.consF 1 rfl .nil)) (fun x14 e14 => ?_)
      intro _
      refine sxo_pick (b := true) rfl rfl rfl rfl ?_
      refine sxo_nil ?_
      exact sxq_meetP (x14, ())
    · refine sxo_isF (k := 10) rfl h11 ?_
      refine sxo_skip rfl rfl rfl ?_
      refine sxo_skip rfl rfl rfl ?_
      refine sxo_skip rfl rfl rfl ?_
      refine sxo_skip rfl rfl rfl ?_
      refine sxo_skip rfl rfl rfl ?_
      refine sxo_pick (b := false) rfl rfl rfl rfl ?_
      refine sxo_nil ?_
      exact sxq_meetP (false, ())
  · rintro ⟨x13, _⟩
    try dsimp only
    refine sxo_take (os := _) rfl ?_
    refine sxo_assign rfl rfl rfl ?_
    refine sxo_nil ?_
    refine sxq_next ?_
    refine sxc_ret ?_
    exact sxq_doneP () (res1 rfl rfl)

theorem C_bits_Check (F : Nat) (x1 : Int) (x2 : List Int) (a3 : Option Addr) (c4 : Nat) (r : Int) (hm : M_bits_Check F x1 x2 = some r) :
    Pure Try.prog 26 [.agg #[.int .i64 x1, .slice a3 x2.length c4]] [Sl (eI .u8) 1 (.slice a3 x2.length c4) x2] Unit (fun _ => .int .i64 r) (fun _ => []) (fun _ => []) := by
  refine pure_of Try.func26 rfl Try.ntmps26 rfl hm (fun w => ?_)
  refine sxc_env (l' := [(0, .agg #[.int .i64 x1, .slice a3 x2.length c4])]) rfl ?_
  refine sxc_seq ?_
  refine sxc_region ?_
  refine sxo_box rfl rfl rfl (fun g5 => ?_)
  refine sxo_assign rfl rfl rfl ?_
  refine sxo_nil ?_
  refine sxq_next ?_
  refine sxc_seq ?_
  refine sxc_block ?_
  refine sxc_seq ?_
  refine sxc_region ?_
  refine sxo_fieldAddr rfl rfl ff27_0 rfl ?_
  refine sxo_loadB (i := 0) rfl rfl tf3 rfl rfl (fun _ => rfl) rfl rfl ?_
  refine sxo_lss rfl rfl rfl rfl ?_
  refine sxo_move rfl rfl rfl ?_
  refine sxo_case 4 (decide (x1 < 0)) [(1, .pointer (some ⟨g5, 0, none⟩)), (11, .bool ((decide (x1 < 0)) || (decide (8192 < x1))))] (fun h27 => ?_) (fun h27 => ?_) ?_
  · refine sxo_take (os := _) rfl ?_
    refine sxo_isT (k := 7) rfl h27 ?_
    refine sxo_skip rfl rfl rfl ?_
    refine sxo_skip rfl rfl rfl ?_
    refine sxo_skip rfl rfl rfl ?_
    refine sxo_pick (b := true) rfl rfl rfl rfl ?_
    refine sxo_again (d := 11) (v := .bool ((decide (x1 < 0)) || (decide (8192 < x1)))) rfl (by rw [h27]; simp only [Bool.true_or]) ?_
    refine sxo_nil ?_
    exact sxq_case (lk_cons rfl (lk_cons rfl lk_nil))
  · refine sxo_take (os := _) rfl ?_
    refine sxo_isF (k := 7) rfl h27 ?_
    refine sxo_fieldAddr rfl rfl ff27_0 rfl ?_
    refine sxo_loadB (i := 0) rfl rfl tf3 rfl rfl (fun _ => rfl) rfl rfl ?_
    refine sxo_gtr rfl rfl rfl rfl ?_
    refine sxo_pick (b := false) rfl rfl rfl rfl ?_
    refine sxo_again (d := 11) (v := .bool ((decide (x1 < 0)) || (decide (8192 < x1)))) rfl (by rw [h27]; simp only [Bool.false_or]) ?_
    refine sxo_nil ?_
    exact sxq_case (lk_cons rfl (lk_cons rfl lk_nil))
  refine sxo_take (os := _) rfl ?_
  refine sxo_assign rfl rfl rfl ?_
  refine sxo_nil ?_
  refine sxq_next ?_
  refine sxc_if rfl (fun h47 => ?_) (fun h47 => ?_)
  · refine sxc_seq ?_
    refine sxc_region ?_
    refine sxo_assign rfl rfl rfl ?_
    refine sxo_nil ?_
    refine sxq_next ?_
    refine sxc_ret ?_
    refine sxq_blkR ?_
    refine sxq_thenR ?_
    exact sxq_doneP () (res1 rfl rfl)
  · refine sxc_seq ?_
    refine sxc_region ?_
    refine sxo_fieldAddr rfl rfl ff27_1 rfl ?_
    refine sxo_loadB (i := 0) rfl rfl tf25 rfl rfl (fun _ => rfl) rfl rfl ?_
    refine sxo_len rfl Try.underlying25 rfl rfl ?_
    refine sxo_fieldAddr rfl rfl ff27_0 rfl ?_
    refine sxo_loadB (i := 0) rfl rfl tf3 rfl rfl (fun _ => rfl) rfl rfl ?_
    refine sxo_add rfl rfl rfl rfl ?_
    refine sxo_quo rfl rfl rfl rfl rfl ?_
    refine sxo_neq rfl rfl rfl rfl ?_
    refine sxo_assign rfl rfl rfl ?_
    refine sxo_nil ?_
    refine sxq_next ?_
    refine sxc_if rfl (fun h46 => ?_) (fun h46 => ?_)
    · refine sxc_seq ?_
      refine sxc_region ?_
      refine sxo_assign rfl rfl rfl ?_
      refine sxo_nil ?_
      refine sxq_next ?_
      refine sxc_ret ?_
      refine sxq_blkR ?_
      refine sxq_thenR ?_
      exact sxq_doneP () (res1 rfl rfl)
    · refine sxc_join (fun ((x36, _) : (Bool × Unit)) => [(21, .bool x36)]) (fun ((x36, _) : (Bool × Unit)) => []) (fun ((x36, _) : (Bool × Unit)) => []) (fun ((x36, _) : (Bool × Unit)) => []) (fun ((x36, _) : (Bool × Unit)) => M_bits_Check_j2 F x36) ?_ ?_
      · refine sxc_split (fun h38 => ?_) (fun h38 => ?_)
        · refine sxc_idxF (j := 0) (eI_ok .u8) (by decide) rfl (fun x39 e39 b40 o41 h42 => ?_)
          replace h42 : a3 = some ⟨b40, o41, none⟩ := h42
          refine sxc_chk (fun h43 => ?_)
          refine sxb_draw mixed [] [⟨g5, 27, [.int .i64 x1, .slice a3 x2.length c4]⟩] [CellsAt b40 (o41 + (isub .i64 (x2.length : Int) 1).toNat * 1) ((eI .u8) x39), Sl (eI .u8) 1 (.slice a3 x2.length c4) x2] (.cons 0 rfl .nil) (gk_F 0 rfl (gk_F 1 rfl gk_nil)) 20 rfl ?_
          refine sxb_takeP 0 (.pointer (some ⟨g5, 0, none⟩)) rfl rfl rfl (yv_fieldAddr rfl ff27_0) ?_
          refine sxb_takeB 1 (.int .i64 x1) rfl rfl rfl (yv_loadB (i := 0) rfl tf3 rfl rfl (fun _ => rfl) rfl) ?_
          refine sxb_takeP 2 (.int .i64 (irem x1 8)) rfl rfl rfl (yv_rem rfl rfl rfl) ?_
          refine sxb_takeP 3 (.bool (((irem x1 8) : Int) != 0)) rfl rfl rfl (yv_pv rfl) ?_
          refine sxb_takeP 4 (.bool (((irem x1 8) : Int) != 0)) rfl rfl rfl (yv_pv rfl) ?_
          refine sxb_again (d := 26) (v := .bool true) rfl (by rw [h38] <;> rfl) ?_
          refine sxb_takeP 5 (.pointer (some ⟨g5, 1, none⟩)) rfl rfl rfl (yv_fieldAddr rfl ff27_1) ?_
          refine sxb_takeB 6 (.slice a3 x2.length c4) rfl rfl rfl (yv_loadB (i := 0) rfl tf25 rfl rfl (fun _ => rfl) rfl) ?_
          refine sxb_takeP 7 (.pointer (some ⟨g5, 1, none⟩)) rfl rfl rfl (yv_fieldAddr rfl ff27_1) ?_
          refine sxb_takeB 8 (.slice a3 x2.length c4) rfl rfl rfl (yv_loadB (i := 0) rfl tf25 rfl rfl (fun _ => rfl) rfl) ?_
          refine sxb_takeP 9 (.int .i64 (x2.length : Int)) rfl rfl rfl (yv_len Try.underlying25 rfl) ?_
          refine sxb_takeP 10 (.int .i64 (isub .i64 (x2.length : Int) 1)) rfl rfl rfl (yv_pv rfl) ?_
          refine sxb_again (d := 28) (v := .slice (some ⟨b40, o41, none⟩) x2.length c4) rfl (by rw [h42] <;> rfl) ?_
          refine sxb_takeP 11 (.pointer (some ⟨b40, (o41 + (isub .i64 (x2.length : Int) 1).toNat * 1), none⟩)) rfl rfl rfl (yv_idx Try.underlying25 tf5 rfl rfl (idx_get e39).1 (idx_lt e39)) ?_
          refine sxb_again (d := 28) (v := .slice a3 x2.length c4) rfl (by rw [h42] <;> rfl) ?_
          refine sxb_take 12 (.int .u8 x39) [] rfl rfl rfl (yv_loadF (j := 0) rfl tf5 rfl rfl (fun _ => rfl) rfl) ?_
          refine sxb_takeP 13 (.pointer (some ⟨g5, 0, none⟩)) rfl rfl rfl (yv_fieldAddr rfl ff27_0) ?_
          refine sxb_takeB 14 (.int .i64 x1) rfl rfl rfl (yv_loadB (i := 0) rfl tf3 rfl rfl (fun _ => rfl) rfl) ?_
          refine sxb_takeP 15 (.int .i64 (irem x1 8)) rfl rfl rfl (yv_rem rfl rfl rfl) ?_
          refine sxb_takeP 16 (.int .u8 (ishl .u8 x39 (irem x1 8))) rfl rfl rfl (yv_shl rfl rfl h43) ?_
          refine sxb_takeP 17 (.bool (((ishl .u8 x39 (irem x1 8)) : Int) != 0)) rfl rfl rfl (yv_pv rfl) ?_
          refine sxb_takeP 18 (.bool (((ishl .u8 x39 (irem x1 8)) : Int) != 0)) rfl rfl rfl (yv_pv rfl) ?_
          refine sxb_takeP 19 (.bool (((ishl .u8 x39 (irem x1 8)) : Int) != 0)) rfl rfl rfl (yv_pv rfl) ?_
          refine sxb_done (by kernel_rfl) ?_
          refine sxq_np ?_ (by intro c h; cases h)
          exact sxq_meetP ((((ishl .u8 x39 (irem x1 8)) : Int) != 0), ())
        · refine sxb_draw mixed [] [⟨g5, 27, [.int .i64 x1, .slice a3 x2.length c4]⟩] [Sl (eI .u8) 1 (.slice a3 x2.length c4) x2] (.cons 0 rfl .nil) (gk_F 0 rfl gk_nil) 20 rfl ?_
          refine sxb_takeP 0 (.pointer (some ⟨g5, 0, none⟩)) rfl rfl rfl (yv_fieldAddr rfl ff27_0) ?_
          refine sxb_takeB 1 (.int .i64 x1) rfl rfl rfl (yv_loadB (i := 0) rfl tf3 rfl rfl (fun _ => rfl) rfl) ?_
          refine sxb_takeP 2 (.int .i64 (irem x1 8)) rfl rfl rfl (yv_rem rfl rfl rfl) ?_
          refine sxb_takeP 3 (.bool (((irem x1 8) : Int) != 0)) rfl rfl rfl (yv_pv rfl) ?_
          refine sxb_takeP 4 (.bool (((irem x1 8) : Int) != 0)) rfl rfl rfl (yv_pv rfl) ?_
          refine sxb_again (d := 26) (v := .bool false) rfl (by rw [h38] <;> rfl) ?_
          refine sxb_skip 5 rfl rfl rfl ?_
          refine sxb_skip 6 rfl rfl rfl ?_
          refine sxb_skip 7 rfl rfl rfl ?_
          refine sxb_skip 8 rfl rfl rfl ?_
          refine sxb_skip 9 rfl rfl rfl ?_
          refine sxb_skip 10 rfl rfl rfl ?_
          refine sxb_skip 11 rfl rfl rfl ?_
          refine sxb_skip 12 rfl rfl rfl ?_
          refine sxb_skip 13 rfl rfl rfl ?_
          refine sxb_skip 14 rfl rfl rfl ?_
          refine sxb_skip 15 rfl rfl rfl ?_
          refine sxb_skip 16 rfl rfl rfl ?_
          refine sxb_skip 17 rfl rfl rfl ?_
          refine sxb_takeP 18 (.bool false) rfl rfl rfl (yv_pv rfl) ?_
          refine sxb_takeP 19 (.bool false) rfl rfl rfl (yv_pv rfl) ?_
          refine sxb_done (by kernel_rfl) ?_
          refine sxq_np ?_ (by intro c h; cases h)
          exact sxq_meetP (false, ())
      · rintro ⟨x36, _⟩
        try dsimp only
        refine sxc_if rfl (fun h37 => ?_) (fun h37 => ?_)
        · refine sxc_seq ?_
          refine sxc_region ?_
          refine sxo_assign rfl rfl rfl ?_
          refine sxo_nil ?_
          refine sxq_next ?_
          refine sxc_ret ?_
          refine sxq_blkR ?_
          refine sxq_thenR ?_
          exact sxq_doneP () (res1 rfl rfl)
        · refine sxc_skip ?_
          refine sxq_blkN ?_
          refine sxq_next ?_
          refine sxc_seq ?_
          refine sxc_region ?_
          refine sxo_assign rfl rfl rfl ?_
          refine sxo_nil ?_
          refine sxq_next ?_
          refine sxc_ret ?_
          exact sxq_doneP () (res1 rfl rfl)

theorem C_elias_Check (F : Nat) (x1 : Int) (x2 : List Int) (a3 : Option Addr) (c4 : Nat) (x5 : Int) (r : Int) (hm : M_elias_Check F x1 x2 x5 = some r) :
    Pure Try.prog 28 [.agg #[.int .i64 x1, .slice a3 x2.length c4], .int .i64 x5] [Sl (eI .u8) 1 (.slice a3 x2.length c4) x2] Unit (fun _ => .int .i64 r) (fun _ => []) (fun _ => []) := by
  refine pure_of Try.func28 rfl Try.ntmps28 rfl hm (fun w => ?_)
  refine sxc_env (l' := [(0, .agg #[.int .i64 x1, .slice a3 x2.length c4]), (1, .int .i64 x5)]) rfl ?_
  refine sxc_seq ?_
  refine sxc_region ?_
  refine sxo_box rfl rfl rfl (fun g6 => ?_)
  refine sxo_assign rfl rfl rfl ?_
  refine sxo_nil ?_
  refine sxq_next ?_
  refine sxc_seq ?_
  refine sxc_region ?_
  refine sxo_loadB (i := 0) rfl rfl tf27 rfl rfl (by simp) rfl rfl ?_
  refine sxo_call ent26 rfl rfl rfl (fun x7 e7 => C_bits_Check F x1 x2 a3 c4 x7 e7) (.consF 0 rfl .nil) (fun x7 e7 => ?_)
  intro _
  refine sxo_assign rfl rfl rfl ?_
  refine sxo_nil ?_
  refine sxq_next ?_
  refine sxc_join (fun ((x13, _) : (Int × Unit)) => [(5, .int .i64 x13)]) (fun ((x13, _) : (Int × Unit)) => []) (fun ((x13, _) : (Int × Unit)) => []) (fun ((x13, _) : (Int × Unit)) => []) (fun ((x13, _) : (Int × Unit)) => M_elias_Check_j2 F x13) ?_ ?_
  · refine sxc_seq ?_
    refine sxc_region ?_
    refine sxo_move rfl rfl rfl ?_
    refine sxo_eql rfl rfl rfl rfl ?_
    refine sxo_move rfl rfl rfl ?_
    refine sxo_join 9 (fun ((x16, _) : (Bool × Unit)) => [(5, .int .i64 x7), (19, .bool x16)]) (fun ((x16, _) : (Bool × Unit)) => []) (fun ((x16, _) : (Bool × Unit)) => []) (fun ((x16, _) : (Bool × Unit)) => []) (fun ((x16, _) : (Bool × Unit)) => M_elias_Check_j3 F x7 x16) ?_ ?_
    · refine sxo_take (os := _) rfl ?_
      refine sxo_if (fun h14 => ?_) (fun h14 => ?_)
      · refine sxo_isT (k := 10) rfl h14 ?_
        refine sxo_move rfl rfl rfl ?_
        refine sxo_lss rfl rfl rfl rfl ?_
        refine sxo_move rfl rfl rfl ?_
        refine sxo_case 5 (decide (x5 < 0)) [(5, .int .i64 x7), (10, .bool true), (18, .bool ((decide (x5 < 0)) || (decide (x1 < x5))))] (fun h18 => ?_) (fun h18 => ?_) ?_
        · refine sxo_take (os := _) rfl ?_
          refine sxo_isT (k := 13) rfl h18 ?_
          refine sxo_skip rfl rfl rfl ?_
          refine sxo_skip rfl rfl rfl ?_
          refine sxo_skip rfl rfl rfl ?_
          refine sxo_skip rfl rfl rfl ?_
          refine sxo_pick (b := true) rfl rfl rfl rfl ?_
          refine sxo_again (d := 18) (v := .bool ((decide (x5 < 0)) || (decide (x1 < x5)))) rfl (by rw [h18]; simp only [Bool.true_or]) ?_
          refine sxo_nil ?_
          exact sxq_case (lk_cons rfl (lk_cons rfl (lk_cons rfl lk_nil)))
        · refine sxo_take (os := _) rfl ?_
          refine sxo_isF (k := 13) rfl h18 ?_
          refine sxo_move rfl rfl rfl ?_
          refine sxo_fieldAddr rfl rfl ff27_0 rfl ?_
          refine sxo_loadB (i := 0) rfl rfl tf3 rfl rfl (fun _ => rfl) rfl rfl ?_
          refine sxo_gtr rfl rfl rfl rfl ?_
          refine sxo_pick (b := false) rfl rfl rfl rfl ?_
          refine sxo_again (d := 18) (v := .bool ((decide (x5 < 0)) || (decide (x1 < x5)))) rfl (by rw [h18]; simp only [Bool.false_or]) ?_
          refine sxo_nil ?_
          exact sxq_case (lk_cons rfl (lk_cons rfl (lk_cons rfl lk_nil)))
        refine sxo_take (os := _) rfl ?_
        refine sxo_pick (b := true) rfl rfl rfl rfl ?_
        refine sxo_nil ?_
        exact sxq_meetP (((decide (x5 < 0)) || (decide (x1 < x5))), ())
      · refine sxo_isF (k := 10) rfl h14 ?_
        refine sxo_skip rfl rfl rfl ?_
        refine sxo_skip rfl rfl rfl ?_
        refine sxo_skip rfl rfl rfl ?_
        refine sxo_skip rfl rfl rfl ?_
        refine sxo_skip rfl rfl rfl ?_
        refine sxo_skip rfl rfl rfl ?_
        refine sxo_skip rfl rfl rfl ?_
        refine sxo_skip rfl rfl rfl ?_
        refine sxo_pick (b := false) rfl rfl rfl rfl ?_
        refine sxo_nil ?_
        exact sxq_meetP (false, ())
    · rintro ⟨x16, _⟩
      try dsimp only
      refine sxo_take (os := _) rfl ?_
      refine sxo_nil ?_
      refine sxq_next ?_
      refine sxc_if rfl (fun h17 => ?_) (fun h17 => ?_)
      · refine sxc_region ?_
        refine sxo_assign rfl rfl rfl ?_
        refine sxo_nil ?_
        exact sxq_meetP (3, ())
      · refine sxc_skip ?_
        exact sxq_meetP (x7, ())
  · rintro ⟨x13, _⟩
    try dsimp only
    refine sxc_seq ?_
    refine sxc_region ?_
    refine sxo_move rfl rfl rfl ?_
    refine sxo_assign rfl rfl rfl ?_
    refine sxo_nil ?_
    refine sxq_next ?_
    refine sxc_ret ?_
    exact sxq_doneP () (res1 rfl rfl)

theorem C_succ_must (F : Nat) (x1 : Bool) (r : (Unit ⊕ Unit)) (hm : M_succ_must F x1 = some r) :
    PureL Try.prog 58 [.bool x1] [] [] [] lostCh Unit (fun (_ : Unit) (_ : Unit) => .tuple #[]) (fun (_ : Unit) (_ : Unit) => []) (fun (_ : Unit) (_ : Unit) => []) (fun (_ : Unit) => []) r := by
  refine pureL_of Try.func58 rfl Try.ntmps58 rfl hm (fun w => ?_)
  refine sxc_env (l' := [(0, .bool x1)]) rfl ?_
  refine sxc_seq ?_
  refine sxc_region ?_
  refine sxo_move rfl rfl rfl ?_
  refine sxo_not rfl rfl rfl ?_
  refine sxo_nil ?_
  refine sxq_next ?_
  refine sxc_if rfl (fun h2 => ?_) (fun h2 => ?_)
  · refine sxc_region ?_
    refine sxo_build (cells := []) rfl st112 rfl (by kernel_rfl) rfl ?_
    refine sxo_iface rfl rfl (mkif112 _) rfl ?_
    refine sxo_panic rfl rfl ?_
    exact sxq_lostL .nil
  · refine sxc_skip ?_
    exact sxq_doneL () (.inr rfl) (res0 rfl) rfl .nil .nil

theorem C_unary_From (F : Nat) (x1 : Int) (x2 : List Int) (a3 : Option Addr) (c4 : Nat) (x5 : Int) (r : (Int × Int × Bool)) (hm : M_unary_From F x1 x2 x5 = some r) :
    Pure Try.prog 93 [.agg #[.int .i64 x1, .slice a3 x2.length c4], .int .i64 x5] [Sl (eI .u8) 1 (.slice a3 x2.length c4) x2] Unit (fun _ => .tuple #[.int .u64 r.1, .int .i64 r.2.1, .bool r.2.2]) (fun _ => []) (fun _ => []) := by
  refine pure_of Try.func93 rfl Try.ntmps93 rfl hm (fun w => ?_)
  refine sxc_env (l' := [(0, .agg #[.int .i64 x1, .slice a3 x2.length c4]), (1, .int .i64 x5)]) rfl ?_
  refine sxc_seq ?_
  refine sxc_region ?_
  refine sxo_box rfl rfl rfl (fun g6 => ?_)
  refine sxo_assign rfl rfl rfl ?_
  refine sxo_assign rfl rfl rfl ?_
  refine sxo_assign rfl rfl rfl ?_
  refine sxo_nil ?_
  refine sxq_next ?_
  refine sxc_join (fun ((_, _) : (Unit × Unit)) => []) (fun ((_, _) : (Unit × Unit)) => []) (fun ((_, _) : (Unit × Unit)) => []) (fun ((_, _) : (Unit × Unit)) => []) (fun ((_, _) : (Unit × Unit)) => M_unary_From_j2 F) ?_ ?_
  · refine sxc_seq ?_
    refine sxc_region ?_
    refine sxo_move rfl rfl rfl ?_
    refine sxo_assign rfl rfl rfl ?_
    refine sxo_nil ?_
    refine sxq_next ?_
    refine sxc_block ?_
    refine sxc_loopP (fun ((x33, _) : (Int × Unit)) => [(1, .int .i64 x5), (2, .pointer (some ⟨g6, 0, none⟩)), (7, .int .i64 x33)]) (fun ((x33, _) : (Int × Unit)) => [⟨g6, 27, [.int .i64 x1, .slice a3 x2.length c4]⟩]) (fun ((x33, _) : (Int × Unit)) => []) (fun ((x33, _) : (Int × Unit)) => [Sl (eI .u8) 1 (.slice a3 x2.length c4) x2]) (fun k (s : (Int × Unit)) => M_unary_From_l3 F x1 x2 x5 k s.1) (x5, ()) F ?_ (hB := (.cons 0 rfl .nil)) (hF := (fk_cons 0 rfl fk_nil))
    intro k40
    rintro ⟨x33, _⟩
    try dsimp only
    refine sxc_meq (m' := M_unary_From_b3 F x1 x2 x5 (M_unary_From_l3 F x1 x2 x5 k40) x33) rfl ?_
    refine sxc_seq ?_
    refine sxc_seq ?_
    refine sxc_region ?_
    refine sxo_move rfl rfl rfl ?_
    refine sxo_fieldAddr rfl rfl ff27_0 rfl ?_
    refine sxo_loadB (i := 0) rfl rfl tf3 rfl rfl (fun _ => rfl) rfl rfl ?_
    refine sxo_lss rfl rfl rfl rfl ?_
    refine sxo_nil ?_
    refine sxq_next ?_
    refine sxc_if rfl (fun h46 => ?_) (fun h46 => ?_)
    · refine sxc_skip ?_
      refine sxq_next ?_
      refine sxc_seq ?_
      refine sxc_block ?_
      refine sxc_seq ?_
      refine sxc_region ?_
      refine sxo_loadB (i := 0) rfl rfl tf27 rfl rfl (by simp) rfl rfl ?_
      refine sxo_move rfl rfl rfl ?_
      refine sxo_call ent46 rfl rfl rfl (fun x44 e44 => C_bits_At F x1 x2 a3 c4 x33 x44 e44) (.consF 0 rfl .nil) (fun x44 e44 => ?_)
      intro _
      refine sxo_eql rfl rfl rfl rfl ?_
      refine sxo_nil ?_
      refine sxq_next ?_
      refine sxc_if rfl (fun h45 => ?_) (fun h45 => ?_)
      · refine sxc_seq ?_
        refine sxc_region ?_
        refine sxo_move rfl rfl rfl ?_
        refine sxo_move rfl rfl rfl ?_
        refine sxo_sub rfl rfl rfl rfl ?_
        refine sxo_conv rfl Try.underlying3 Try.underlying36 rfl rfl ?_
        refine sxo_move rfl rfl rfl ?_
        refine sxo_add rfl rfl rfl rfl ?_
        refine sxo_assign rfl rfl rfl ?_
        refine sxo_assign rfl rfl rfl ?_
        refine sxo_assign rfl rfl rfl ?_
        refine sxo_nil ?_
        refine sxq_next ?_
        refine sxc_ret ?_
        refine sxq_blkR ?_
        refine sxq_thenR ?_
        refine sxq_thenR ?_
        refine sxq_blkR ?_
        refine sxq_thenR ?_
        exact sxq_doneP () (res3 rfl rfl rfl rfl)
      · refine sxc_skip ?_
        refine sxq_blkN ?_
        refine sxq_next ?_
        refine sxc_region ?_
        refine sxo_move rfl rfl rfl ?_
        refine sxo_add rfl rfl rfl rfl ?_
        refine sxo_assign rfl rfl rfl ?_
        refine sxo_nil ?_
        exact sxq_againP (iadd .i64 x33 1, ()) (hB := (.cons 0 rfl .nil)) (hF := (fk_cons 0 rfl fk_nil))
    · refine sxc_exit ?_
      refine sxq_thenX ?_
      refine sxq_thenX ?_
      refine sxq_blkX ?_
      exact sxq_meetP ((), ())
  · rintro ⟨_, _⟩
    try dsimp only
    refine sxc_seq ?_
    refine sxc_region ?_
    refine sxo_assign rfl rfl rfl ?_
    refine sxo_assign rfl rfl rfl ?_
    refine sxo_assign rfl rfl rfl ?_
    refine sxo_nil ?_
    refine sxq_next ?_
    refine sxc_ret ?_
    exact sxq_doneP () (res3 rfl rfl rfl rfl)

theorem C_elias_unaryLength (F : Nat) (x1 : Int) (x2 : List Int) (a3 : Option Addr) (c4 : Nat) (x5 : Int) (r : (Int × Int × Int)) (hm : M_elias_unaryLength F x1 x2 x5 = some r) :
    Pure Try.prog 90 [.agg #[.int .i64 x1, .slice a3 x2.length c4], .int .i64 x5] [Sl (eI .u8) 1 (.slice a3 x2.length c4) x2] Unit (fun _ => .tuple #[.int .u64 r.1, .int .i64 r.2.1, .int .i64 r.2.2]) (fun _ => []) (fun _ => []) := by
  refine pure_of Try.func90 rfl Try.ntmps90 rfl hm (fun w => ?_)
  refine sxc_env (l' := [(0, .agg #[.int .i64 x1, .slice a3 x2.length c4]), (1, .int .i64 x5)]) rfl ?_
  refine sxc_seq ?_
  refine sxc_region ?_
  refine sxo_box rfl rfl rfl (fun g6 => ?_)
  refine sxo_assign rfl rfl rfl ?_
  refine sxo_assign rfl rfl rfl ?_
  refine sxo_assign rfl rfl rfl ?_
  refine sxo_nil ?_
  refine sxq_next ?_
  refine sxc_seq ?_
  refine sxc_region ?_
  refine sxo_loadB (i := 0) rfl rfl tf27 rfl rfl (by simp) rfl rfl ?_
  refine sxo_move rfl rfl rfl ?_
  refine sxo_call ent93 rfl rfl rfl (fun x7 e7 => C_unary_From F x1 x2 a3 c4 x5 x7 e7) (.consF 0 rfl .nil) (fun x7 e7 => ?_)
  intro _
  refine sxo_move rfl rfl rfl ?_
  refine sxo_extract rfl rfl rfl rfl ?_
  refine sxo_extract rfl rfl rfl rfl ?_
  refine sxo_extract rfl rfl rfl rfl ?_
  refine sxo_assign rfl rfl rfl ?_
  refine sxo_assign rfl rfl rfl ?_
  refine sxo_assign rfl rfl rfl ?_
  refine sxo_nil ?_
  refine sxq_next ?_
  refine sxc_seq ?_
  refine sxc_seq ?_
  refine sxc_region ?_
  refine sxo_move rfl rfl rfl ?_
  refine sxo_not rfl rfl rfl ?_
  refine sxo_nil ?_
  refine sxq_next ?_
  refine sxc_if rfl (fun h9 => ?_) (fun h9 => ?_)
  · refine sxc_seq ?_
    refine sxc_region ?_
    refine sxo_assign rfl rfl rfl ?_
    refine sxo_assign rfl rfl rfl ?_
    refine sxo_assign rfl rfl rfl ?_
    refine sxo_nil ?_
    refine sxq_next ?_
    refine sxc_ret ?_
    refine sxq_thenR ?_
    exact sxq_doneP () (res3 rfl rfl rfl rfl)
  · refine sxc_skip ?_
    refine sxq_next ?_
    refine sxc_seq ?_
    refine sxc_region ?_
    refine sxo_move rfl rfl rfl ?_
    refine sxo_move rfl rfl rfl ?_
    refine sxo_assign rfl rfl rfl ?_
    refine sxo_assign rfl rfl rfl ?_
    refine sxo_assign rfl rfl rfl ?_
    refine sxo_nil ?_
    refine sxq_next ?_
    refine sxc_ret ?_
    exact sxq_doneP () (res3 rfl rfl rfl rfl)

theorem C_bits_Read (F : Nat) (x1 : Int) (x2 : List Int) (a3 : Option Addr) (c4 : Nat) (x5 : Int) (x6 : Int) (r : (Int × Bool)) (hm : M_bits_Read F x1 x2 x5 x6 = some r) :
    Pure Try.prog 32 [.agg #[.int .i64 x1, .slice a3 x2.length c4], .int .i64 x5, .int .i64 x6] [Sl (eI .u8) 1 (.slice a3 x2.length c4) x2] Unit (fun _ => .tuple #[.int .u64 r.1, .bool r.2]) (fun _ => []) (fun _ => []) := by
  refine pure_of Try.func32 rfl Try.ntmps32 rfl hm (fun w => ?_)
  refine sxc_env (l' := [(0, .agg #[.int .i64 x1, .slice a3 x2.length c4]), (1, .int .i64 x5), (2, .int .i64 x6)]) rfl ?_
  refine sxc_seq ?_
  refine sxc_region ?_
  refine sxo_box rfl rfl rfl (fun g7 => ?_)
  refine sxo_assign rfl rfl rfl ?_
  refine sxo_assign rfl rfl rfl ?_
  refine sxo_nil ?_
  refine sxq_next ?_
  refine sxc_seq ?_
  refine sxc_seq ?_
  refine sxc_region ?_
  refine sxo_fieldAddr rfl rfl ff27_0 rfl ?_
  refine sxo_loadB (i := 0) rfl rfl tf3 rfl rfl (fun _ => rfl) rfl rfl ?_
  refine sxo_move rfl rfl rfl ?_
  refine sxo_sub rfl rfl rfl rfl ?_
  refine sxo_move rfl rfl rfl ?_
  refine sxo_lss rfl rfl rfl rfl ?_
  refine sxo_nil ?_
  refine sxq_next ?_
  refine sxc_if rfl (fun h40 => ?_) (fun h40 => ?_)
  · refine sxc_seq ?_
    refine sxc_region ?_
    refine sxo_assign rfl rfl rfl ?_
    refine sxo_assign rfl rfl rfl ?_
    refine sxo_nil ?_
    refine sxq_next ?_
    refine sxc_ret ?_
    refine sxq_thenR ?_
    exact sxq_doneP () (res2 rfl rfl rfl)
  · refine sxc_skip ?_
    refine sxq_next ?_
    refine sxc_join (fun ((x24, _) : (Int × Unit)) => [(6, .int .u64 x24)]) (fun ((x24, _) : (Int × Unit)) => []) (fun ((x24, _) : (Int × Unit)) => []) (fun ((x24, _) : (Int × Unit)) => []) (fun ((x24, _) : (Int × Unit)) => M_bits_Read_j2 F x24) ?_ ?_
    · refine sxc_seq ?_
      refine sxc_region ?_
      refine sxo_move rfl rfl rfl ?_
      refine sxo_move rfl rfl rfl ?_
      refine sxo_nil ?_
      refine sxq_next ?_
      refine sxc_block ?_
      refine sxc_loopP (fun (((x29, x30), _) : ((Int × Int) × Unit)) => [(1, .int .i64 x5), (3, .pointer (some ⟨g7, 0, none⟩)), (6, .int .u64 x29), (15, .int .i64 x6), (16, .int .i64 x30)]) (fun (((x29, x30), _) : ((Int × Int) × Unit)) => [⟨g7, 27, [.int .i64 x1, .slice a3 x2.length c4]⟩]) (fun (((x29, x30), _) : ((Int × Int) × Unit)) => []) (fun (((x29, x30), _) : ((Int × Int) × Unit)) => [Sl (eI .u8) 1 (.slice a3 x2.length c4) x2]) (fun k (s : ((Int × Int) × Unit)) => M_bits_Read_l3 F x1 x2 x5 x6 k s.1) ((0, 0), ()) F ?_ (hB := (.cons 0 rfl .nil)) (hF := (fk_cons 0 rfl fk_nil))
      intro k35
      rintro ⟨⟨x29, x30⟩, _⟩
      try dsimp only
      refine sxc_meq (m' := M_bits_Read_b3 F x1 x2 x5 x6 (M_bits_Read_l3 F x1 x2 x5 x6 k35) x29 x30) rfl ?_
      refine sxc_seq ?_
      refine sxc_region ?_
      refine sxo_lss rfl rfl rfl rfl ?_
      refine sxo_nil ?_
      refine sxq_next ?_
      refine sxc_seq ?_
      refine sxc_if rfl (fun h39 => ?_) (fun h39 => ?_)
      · refine sxc_skip ?_
        refine sxq_next ?_
        refine sxc_seq ?_
        refine sxc_block ?_
        refine sxc_seq ?_
        refine sxc_region ?_
        refine sxo_move rfl rfl rfl ?_
        refine sxo_assign rfl rfl rfl ?_
        refine sxo_nil ?_
        refine sxq_next ?_
        refine sxc_region ?_
        refine sxo_move rfl rfl rfl ?_
        refine sxo_shl rfl rfl rfl rfl rfl ?_
        refine sxo_loadB (i := 0) rfl rfl tf27 rfl rfl (by simp) rfl rfl ?_
        refine sxo_move rfl rfl rfl ?_
        refine sxo_move rfl rfl rfl ?_
        refine sxo_add rfl rfl rfl rfl ?_
        refine sxo_call ent46 rfl rfl rfl (fun x38 e38 => C_bits_At F x1 x2 a3 c4 (iadd .i64 x5 x30) x38 e38) (.consF 0 rfl .nil) (fun x38 e38 => ?_)
        intro _
        refine sxo_or rfl rfl rfl rfl ?_
        refine sxo_assign rfl rfl rfl ?_
        refine sxo_nil ?_
        refine sxq_blkN ?_
        refine sxq_next ?_
        refine sxc_region ?_
        refine sxo_add rfl rfl rfl rfl ?_
        refine sxo_move rfl rfl rfl ?_
        refine sxo_nil ?_
        exact sxq_againP ((ior .u64 (ishl .u64 x29 1) x38, iadd .i64 x30 1), ()) (hB := (.cons 0 rfl .nil)) (hF := (fk_cons 0 rfl fk_nil))
      · refine sxc_exit ?_
        refine sxq_thenX ?_
        refine sxq_thenX ?_
        refine sxq_blkX ?_
        exact sxq_meetP (x29, ())
    · rintro ⟨x24, _⟩
      try dsimp only
      refine sxc_seq ?_
      refine sxc_region ?_
      refine sxo_move rfl rfl rfl ?_
      refine sxo_assign rfl rfl rfl ?_
      refine sxo_assign rfl rfl rfl ?_
      refine sxo_nil ?_
      refine sxq_next ?_
      refine sxc_ret ?_
      exact sxq_doneP () (res2 rfl rfl rfl)

theorem C_elias_reader_number_elias_unaryLength (F : Nat) (x1 : Int) (x2 : List Int) (a3 : Option Addr) (c4 : Nat) (x5 : Int) (r : (Int × Int × Int)) (hm : M_elias_reader_number_elias_unaryLength F x1 x2 x5 = some r) :
    Pure Try.prog 91 [.func (.func 90) #[] #[], .agg #[.int .i64 x1, .slice a3 x2.length c4], .int .i64 x5] [Sl (eI .u8) 1 (.slice a3 x2.length c4) x2] Unit (fun _ => .tuple #[.int .u64 r.1, .int .i64 r.2.1, .int .i64 r.2.2]) (fun _ => []) (fun _ => []) := by
  refine pure_of Try.func91 rfl Try.ntmps91 rfl hm (fun w => ?_)
  refine sxc_env (l' := [(0, .func (.func 90) #[] #[]), (1, .agg #[.int .i64 x1, .slice a3 x2.length c4]), (2, .int .i64 x5)]) rfl ?_
  refine sxc_seq ?_
  refine sxc_region ?_
  refine sxo_box rfl rfl rfl (fun g6 => ?_)
  refine sxo_assign rfl rfl rfl ?_
  refine sxo_assign rfl rfl rfl ?_
  refine sxo_assign rfl rfl rfl ?_
  refine sxo_nil ?_
  refine sxq_next ?_
  refine sxc_seq ?_
  refine sxc_region ?_
  refine sxo_move rfl rfl rfl ?_
  refine sxo_loadB (i := 0) rfl rfl tf27 rfl rfl (by simp) rfl rfl ?_
  refine sxo_move rfl rfl rfl ?_
  refine sxo_callV ent90 rfl rfl rfl rfl (fun x7 e7 => C_elias_unaryLength F x1 x2 a3 c4 x5 x7 e7) (.consF 0 rfl .nil) (fun x7 e7 => ?_)
  intro _
  refine sxo_move rfl rfl rfl ?_
  refine sxo_extract rfl rfl rfl rfl ?_
  refine sxo_extract rfl rfl rfl rfl ?_
  refine sxo_extract rfl rfl rfl rfl ?_
  refine sxo_assign rfl rfl rfl ?_
  refine sxo_assign rfl rfl rfl ?_
  refine sxo_assign rfl rfl rfl ?_
  refine sxo_nil ?_
  refine sxq_next ?_
  refine sxc_seq ?_
  refine sxc_seq ?_
  refine sxc_region ?_
  refine sxo_move rfl rfl rfl ?_
  refine sxo_neq rfl rfl rfl rfl ?_
  refine sxo_nil ?_
  refine sxq_next ?_
  refine sxc_if rfl (fun h20 => ?_) (fun h20 => ?_)
  · refine sxc_seq ?_
    refine sxc_region ?_
    refine sxo_move rfl rfl rfl ?_
    refine sxo_assign rfl rfl rfl ?_
    refine sxo_assign rfl rfl rfl ?_
    refine sxo_assign rfl rfl rfl ?_
    refine sxo_nil ?_
    refine sxq_next ?_
    refine sxc_ret ?_
    refine sxq_thenR ?_
    exact sxq_doneP () (res3 rfl rfl rfl rfl)
  · refine sxc_skip ?_
    refine sxq_next ?_
    refine sxc_seq ?_
    refine sxc_seq ?_
    refine sxc_region ?_
    refine sxo_move rfl rfl rfl ?_
    refine sxo_geq rfl rfl rfl rfl ?_
    refine sxo_nil ?_
    refine sxq_next ?_
    refine sxc_if rfl (fun h19 => ?_) (fun h19 => ?_)
    · refine sxc_seq ?_
      refine sxc_region ?_
      refine sxo_assign rfl rfl rfl ?_
      refine sxo_assign rfl rfl rfl ?_
      refine sxo_assign rfl rfl rfl ?_
      refine sxo_nil ?_
      refine sxq_next ?_
      refine sxc_ret ?_
      refine sxq_thenR ?_
      exact sxq_doneP () (res3 rfl rfl rfl rfl)
    · refine sxc_skip ?_
      refine sxq_next ?_
      refine sxc_seq ?_
      refine sxc_region ?_
      refine sxo_loadB (i := 0) rfl rfl tf27 rfl rfl (by simp) rfl rfl ?_
      refine sxo_move rfl rfl rfl ?_
      refine sxo_move rfl rfl rfl ?_
      refine sxo_conv rfl Try.underlying36 Try.underlying3 rfl rfl ?_
      refine sxo_call ent32 rfl rfl rfl (fun x10 e10 => C_bits_Read F x1 x2 a3 c4 x7.2.1 (iconv .i64 x7.1) x10 e10) (.consF 0 rfl .nil) (fun x10 e10 => ?_)
      intro _
      refine sxo_move rfl rfl rfl ?_
      refine sxo_extract rfl rfl rfl rfl ?_
      refine sxo_extract rfl rfl rfl rfl ?_
      refine sxo_assign rfl rfl rfl ?_
      refine sxo_assign rfl rfl rfl ?_
      refine sxo_nil ?_
      refine sxq_next ?_
      refine sxc_seq ?_
      refine sxc_seq ?_
      refine sxc_region ?_
      refine sxo_move rfl rfl rfl ?_
      refine sxo_not rfl rfl rfl ?_
      refine sxo_nil ?_
      refine sxq_next ?_
      refine sxc_if rfl (fun h18 => ?_) (fun h18 => ?_)
      · refine sxc_seq ?_
        refine sxc_region ?_
        refine sxo_assign rfl rfl rfl ?_
        refine sxo_assign rfl rfl rfl ?_
        refine sxo_assign rfl rfl rfl ?_
        refine sxo_nil ?_
        refine sxq_next ?_
        refine sxc_ret ?_
        refine sxq_thenR ?_
        exact sxq_doneP () (res3 rfl rfl rfl rfl)
      · refine sxc_skip ?_
        refine sxq_next ?_
        refine sxc_seq ?_
        refine sxc_seq ?_
        refine sxc_region ?_
        refine sxo_move rfl rfl rfl ?_
        refine sxo_move rfl rfl rfl ?_
        refine sxo_chk (fun h15 => ?_)
        refine sxo_shl rfl rfl rfl rfl h15 ?_
        refine sxo_sub rfl rfl rfl rfl ?_
        refine sxo_add rfl rfl rfl rfl ?_
        refine sxo_assign rfl rfl rfl ?_
        refine sxo_lett (fun x16 e16 => ?_)
        refine sxo_again (d := 12) (v := .int .u64 x16) rfl (by rw [e16] <;> rfl) ?_
        refine sxo_nil ?_
        refine sxq_next ?_
        refine sxc_seq ?_
        refine sxc_region ?_
        refine sxo_move rfl rfl rfl ?_
        refine sxo_gtr rfl rfl rfl rfl ?_
        refine sxo_nil ?_
        refine sxq_next ?_
        refine sxc_if rfl (fun h17 => ?_) (fun h17 => ?_)
        · refine sxc_seq ?_
          refine sxc_region ?_
          refine sxo_assign rfl rfl rfl ?_
          refine sxo_assign rfl rfl rfl ?_
          refine sxo_assign rfl rfl rfl ?_
          refine sxo_nil ?_
          refine sxq_next ?_
          refine sxc_ret ?_
          refine sxq_thenR ?_
          exact sxq_doneP () (res3 rfl rfl rfl rfl)
        · refine sxc_skip ?_
          refine sxq_next ?_
          refine sxc_seq ?_
          refine sxc_region ?_
          refine sxo_move rfl rfl rfl ?_
          refine sxo_move rfl rfl rfl ?_
          refine sxo_move rfl rfl rfl ?_
          refine sxo_conv rfl Try.underlying36 Try.underlying3 rfl rfl ?_
          refine sxo_add rfl rfl rfl rfl ?_
          refine sxo_assign rfl rfl rfl ?_
          refine sxo_assign rfl rfl rfl ?_
          refine sxo_assign rfl rfl rfl ?_
          refine sxo_nil ?_
          refine sxq_next ?_
          refine sxc_ret ?_
          exact sxq_doneP () (res3 rfl rfl rfl rfl)

theorem C_elias_FromGamma (F : Nat) (x1 : Int) (x2 : List Int) (a3 : Option Addr) (c4 : Nat) (x5 : Int) (r : (Int × Int × Int)) (hm : M_elias_FromGamma F x1 x2 x5 = some r) :
    Pure Try.prog 78 [.agg #[.int .i64 x1, .slice a3 x2.length c4], .int .i64 x5] [Sl (eI .u8) 1 (.slice a3 x2.length c4) x2] Unit (fun _ => .tuple #[.int .u64 r.1, .int .i64 r.2.1, .int .i64 r.2.2]) (fun _ => []) (fun _ => []) := by
  refine pure_of Try.func78 rfl Try.ntmps78 rfl hm (fun w => ?_)
  refine sxc_env (l' := [(0, .agg #[.int .i64 x1, .slice a3 x2.length c4]), (1, .int .i64 x5)]) rfl ?_
  refine sxc_seq ?_
  refine sxc_region ?_
  refine sxo_box rfl rfl rfl (fun g6 => ?_)
  refine sxo_assign rfl rfl rfl ?_
  refine sxo_assign rfl rfl rfl ?_
  refine sxo_assign rfl rfl rfl ?_
  refine sxo_nil ?_
  refine sxq_next ?_
  refine sxc_seq ?_
  refine sxc_region ?_
  refine sxo_loadB (i := 0) rfl rfl tf27 rfl rfl (by simp) rfl rfl ?_
  refine sxo_move rfl rfl rfl ?_
  refine sxo_call ent91 rfl rfl rfl (fun x7 e7 => C_elias_reader_number_elias_unaryLength F x1 x2 a3 c4 x5 x7 e7) (.consF 0 rfl .nil) (fun x7 e7 => ?_)
  intro _
  refine sxo_extract rfl rfl rfl rfl ?_
  refine sxo_extract rfl rfl rfl rfl ?_
  refine sxo_extract rfl rfl rfl rfl ?_
  refine sxo_assign rfl rfl rfl ?_
  refine sxo_assign rfl rfl rfl ?_
  refine sxo_assign rfl rfl rfl ?_
  refine sxo_nil ?_
  refine sxq_next ?_
  refine sxc_ret ?_
  exact sxq_doneP () (res3 rfl rfl rfl rfl)

theorem C_succ_reader_gamma (F : Nat) (g1 : Nat) (x2 : Int) (x3 : List Int) (a4 : Option Addr) (c5 : Nat) (x6 : Int) (x7 : Int) (r : ((Int × Int × Int) ⊕ (Int × Int))) (hm : M_succ_reader_gamma F x2 x3 x6 x7 = some r) :
    PureL Try.prog 67 [.pointer (some ⟨g1, 0, none⟩), .int .i64 x7] [⟨g1, 86, [.int .i64 x2, .slice a4 x3.length c5, .int .i64 x6]⟩] [] [Sl (eI .u8) 1 (.slice a4 x3.length c5) x3] lostCh Unit (fun (r : (Int × Int × Int)) (_ : Unit) => .int .i64 r.1) (fun (r : (Int × Int × Int)) (_ : Unit) => [⟨g1, 86, [.int .i64 r.2.1, .slice a4 x3.length c5, .int .i64 r.2.2]⟩]) (fun (_ : (Int × Int × Int)) (_ : Unit) => []) (fun (z : (Int × Int)) => [⟨g1, 86, [.int .i64 z.1, .slice a4 x3.length c5, .int .i64 z.2]⟩]) r := by
  refine pureL_of Try.func67 rfl Try.ntmps67 rfl hm (fun w => ?_)
  refine sxc_env (l' := [(0, .pointer (some ⟨g1, 0, none⟩)), (1, .int .i64 x7)]) rfl ?_
  refine sxc_seq ?_
  refine sxc_region ?_
  refine sxo_assign rfl rfl rfl ?_
  refine sxo_nil ?_
  refine sxq_next ?_
  refine sxc_seq ?_
  refine sxb_draw mixed [] [⟨g1, 86, [.int .i64 x2, .slice a4 x3.length c5, .int .i64 x6]⟩] [Sl (eI .u8) 1 (.slice a4 x3.length c5) x3] (.cons 0 rfl .nil) (gk_F 0 rfl gk_nil) 16 rfl ?_
  refine sxb_takeP 0 (.pointer (some ⟨g1, 0, none⟩)) rfl rfl rfl (yv_pv rfl) ?_
  refine sxb_takeP 1 (.pointer (some ⟨g1, 0, none⟩)) rfl rfl rfl (yv_pv rfl) ?_
  refine sxb_takeP 2 (.pointer (some ⟨g1, 0, none⟩)) rfl rfl rfl (yv_fieldAddr rfl ff86_0) ?_
  refine sxb_takeB 3 (.agg #[.int .i64 x2, .slice a4 x3.length c5]) rfl rfl rfl (yv_loadB (i := 0) rfl tf27 rfl rfl (by simp) rfl) ?_
  refine sxb_takeP 4 (.pointer (some ⟨g1, 0, none⟩)) rfl rfl rfl (yv_pv rfl) ?_
  refine sxb_takeP 5 (.pointer (some ⟨g1, 0, none⟩)) rfl rfl rfl (yv_pv rfl) ?_
  refine sxb_takeP 6 (.pointer (some ⟨g1, 2, none⟩)) rfl rfl rfl (yv_fieldAddr rfl ff86_1) ?_
  refine sxb_takeB 7 (.int .i64 x6) rfl rfl rfl (yv_loadB (i := 0) rfl tf3 rfl rfl (fun _ => rfl) rfl) ?_
  refine sxb_step 8 rfl (by kernel_rfl) rfl ?_
  refine sxo_call ent78 rfl rfl rfl (fun x9 e9 => C_elias_FromGamma F x2 x3 a4 c5 x6 x9 e9) (.consF 0 rfl .nil) (fun x9 e9 => ?_)
  intro _
  refine sxo_nil ?_
  refine sxq_anyB (.cons 0 rfl .nil) (gk_F 0 rfl gk_nil) ?_
  refine sxb_takeP 9 (.tuple #[.int .u64 x9.1, .int .i64 x9.2.1, .int .i64 x9.2.2]) rfl rfl rfl (yv_pv rfl) ?_
  refine sxb_takeP 10 (.int .u64 x9.1) rfl rfl rfl (yv_pv rfl) ?_
  refine sxb_takeP 11 (.int .i64 x9.2.1) rfl rfl rfl (yv_pv rfl) ?_
  refine sxb_takeP 12 (.int .i64 x9.2.2) rfl rfl rfl (yv_pv rfl) ?_
  refine sxb_takeP 13 (.int .u64 x9.1) rfl rfl rfl (yv_pv rfl) ?_
  refine sxb_takeP 14 (.int .i64 x9.2.1) rfl rfl rfl (yv_pv rfl) ?_
  refine sxb_takeP 15 (.int .i64 x9.2.2) rfl rfl rfl (yv_pv rfl) ?_
  refine sxb_done (by kernel_rfl) ?_
  refine sxq_np ?_ (by intro c h; cases h)
  refine sxq_next ?_
  refine sxc_seq ?_
  refine sxc_region ?_
  refine sxo_move rfl rfl rfl ?_
  refine sxo_eql rfl rfl rfl rfl ?_
  refine sxo_move rfl rfl rfl ?_
  refine sxo_case 5 ((x9.2.2 : Int) == 0) [(0, .pointer (some ⟨g1, 0, none⟩)), (5, .int .u64 x9.1), (6, .int .i64 x9.2.1), (28, .bool (((x9.2.2 : Int) == 0) && (decide (x9.1 ≤ (iconv .u64 x7)))))] (fun h10 => ?_) (fun h10 => ?_) ?_
  · refine sxo_take (os := _) rfl ?_
    refine sxo_isT (k := 23) rfl h10 ?_
    refine sxo_move rfl rfl rfl ?_
    refine sxo_move rfl rfl rfl ?_
    refine sxo_conv rfl Try.underlying3 Try.underlying36 rfl rfl ?_
    refine sxo_leq rfl rfl rfl rfl ?_
    refine sxo_pick (b := true) rfl rfl rfl rfl ?_
    refine sxo_again (d := 28) (v := .bool (((x9.2.2 : Int) == 0) && (decide (x9.1 ≤ (iconv .u64 x7))))) rfl (by rw [h10]; simp only [Bool.true_and]) ?_
    refine sxo_nil ?_
    exact sxq_case (lk_cons rfl (lk_cons rfl (lk_cons rfl (lk_cons rfl lk_nil))))
  · refine sxo_take (os := _) rfl ?_
    refine sxo_isF (k := 23) rfl h10 ?_
    refine sxo_skip rfl rfl rfl ?_
    refine sxo_skip rfl rfl rfl ?_
    refine sxo_skip rfl rfl rfl ?_
    refine sxo_skip rfl rfl rfl ?_
    refine sxo_pick (b := false) rfl rfl rfl rfl ?_
    refine sxo_again (d := 28) (v := .bool (((x9.2.2 : Int) == 0) && (decide (x9.1 ≤ (iconv .u64 x7))))) rfl (by rw [h10]; simp only [Bool.false_and]) ?_
    refine sxo_nil ?_
    exact sxq_case (lk_cons rfl (lk_cons rfl (lk_cons rfl (lk_cons rfl lk_nil))))
  refine sxo_take (os := _) rfl ?_
  refine sxo_callL ent58 rfl rfl rfl (fun x11 e11 => C_succ_must F (((x9.2.2 : Int) == 0) && (decide (x9.1 ≤ (iconv .u64 x7)))) x11 e11) .nil .nil .nil (fun x12 _ => ?_) (fun x11 e11 => ?_)
  · refine sxq_thenP ?_
    exact sxq_lostL (.cons 0 rfl .nil)
  intro _
  refine sxo_nil ?_
  refine sxq_next ?_
  refine sxc_seq ?_
  refine sxc_region ?_
  refine sxo_move rfl rfl rfl ?_
  refine sxo_move rfl rfl rfl ?_
  refine sxo_nilCheck rfl rfl rfl ?_
  refine sxo_fieldAddr rfl rfl ff86_1 rfl ?_
  refine sxo_storeB (i := 0) rfl rfl rfl tf3 rfl rfl rfl rfl rfl ?_
  refine sxo_nil ?_
  refine sxq_next ?_
  refine sxc_seq ?_
  refine sxc_region ?_
  refine sxo_move rfl rfl rfl ?_
  refine sxo_conv rfl Try.underlying36 Try.underlying3 rfl rfl ?_
  refine sxo_assign rfl rfl rfl ?_
  refine sxo_nil ?_
  refine sxq_next ?_
  refine sxc_ret ?_
  exact sxq_doneL () (.inl rfl) (res1 rfl rfl) rfl (.cons 0 rfl .nil) .nil

theorem C_parts_check (F : Nat) (x1 : List Int) (a2 : Option Addr) (c3 : Nat) (x4 : Int) (r : Int) (hm : M_parts_check F x1 x4 = some r) :
    Pure Try.prog 79 [.slice a2 x1.length c3, .int .i64 x4] [Sl (eI .i64) 1 (.slice a2 x1.length c3) x1] Unit (fun _ => .int .i64 r) (fun _ => []) (fun _ => []) := by
  refine pure_of Try.func79 rfl Try.ntmps79 rfl hm (fun w => ?_)
  refine sxc_env (l' := [(0, .slice a2 x1.length c3), (1, .int .i64 x4)]) rfl ?_
  refine sxc_seq ?_
  refine sxc_region ?_
  refine sxo_assign rfl rfl rfl ?_
  refine sxo_nil ?_
  refine sxq_next ?_
  refine sxc_seq ?_
  refine sxc_seq ?_
  refine sxc_region ?_
  refine sxo_move rfl rfl rfl ?_
  refine sxo_len rfl Try.underlying22 rfl rfl ?_
  refine sxo_move rfl rfl rfl ?_
  refine sxo_add rfl rfl rfl rfl ?_
  refine sxo_gtr rfl rfl rfl rfl ?_
  refine sxo_nil ?_
  refine sxq_next ?_
  refine sxc_if rfl (fun h195 => ?_) (fun h195 => ?_)
  · refine sxc_seq ?_
    refine sxc_region ?_
    refine sxo_assign rfl rfl rfl ?_
    refine sxo_nil ?_
    refine sxq_next ?_
    refine sxc_ret ?_
    refine sxq_thenR ?_
    exact sxq_doneP () (res1 rfl rfl)
  · refine sxc_skip ?_
    refine sxq_next ?_
    refine sxc_seq ?_
    refine sxc_region ?_
    refine sxo_assign rfl rfl rfl ?_
    refine sxo_nil ?_
    refine sxq_next ?_
    refine sxc_join (fun ((x99, _) : (Int × Unit)) => [(1, .int .i64 x4), (5, .int .i64 x99)]) (fun ((x99, _) : (Int × Unit)) => []) (fun ((x99, _) : (Int × Unit)) => []) (fun ((x99, _) : (Int × Unit)) => []) (fun ((x99, _) : (Int × Unit)) => M_parts_check_j14 F x4 x99) ?_ ?_
    · refine sxc_seq ?_
      refine sxc_region ?_
      refine sxo_move rfl rfl rfl ?_
      refine sxo_len rfl Try.underlying22 rfl rfl ?_
      refine sxo_move rfl rfl rfl ?_
      refine sxo_nil ?_
      refine sxq_next ?_
      refine sxc_block ?_
      refine sxc_loopP (fun (((x132, x133), _) : ((Int × Int) × Unit)) => [(1, .int .i64 x4), (5, .int .i64 x132), (13, .slice a2 x1.length c3), (14, .int .i64 (x1.length : Int)), (15, .int .i64 x133)]) (fun (((x132, x133), _) : ((Int × Int) × Unit)) => []) (fun (((x132, x133), _) : ((Int × Int) × Unit)) => []) (fun (((x132, x133), _) : ((Int × Int) × Unit)) => [Sl (eI .i64) 1 (.slice a2 x1.length c3) x1]) (fun k (s : ((Int × Int) × Unit)) => M_parts_check_l23 F x1 x4 k s.1) ((0, 0), ()) F ?_ (hF := (fk_cons 0 rfl fk_nil))
      intro k164
      rintro ⟨⟨x132, x133⟩, _⟩
      try dsimp only
      refine sxc_meq (m' := M_parts_check_b23 F x1 x4 (M_parts_check_l23 F x1 x4 k164) x132 x133) rfl ?_
      refine sxc_seq ?_
      refine sxc_region ?_
      refine sxo_lss rfl rfl rfl rfl ?_
      refine sxo_nil ?_
      refine sxq_next ?_
      refine sxc_seq ?_
      refine sxc_if rfl (fun h194 => ?_) (fun h194 => ?_)
      · refine sxc_skip ?_
        refine sxq_next ?_
        refine sxc_seq ?_
        refine sxc_block ?_
        refine sxc_seq ?_
        refine sxc_region ?_
        refine sxo_move rfl rfl rfl ?_
        refine sxo_indexF (j := 0) (eI_ok .i64) (by decide) rfl Try.underlying22 tf3 rfl rfl rfl rfl (fun x180 e180 b181 o182 => ?_)
        refine sxo_loadF (j := 0) rfl rfl tf3 rfl rfl (fun _ => rfl) rfl rfl ?_
        refine sxo_assign rfl rfl rfl ?_
        refine sxo_assign rfl rfl rfl ?_
        refine sxo_nil ?_
        refine sxq_next ?_
        refine sxc_seq ?_
        refine sxc_seq ?_
        refine sxc_region ?_
        refine sxo_move rfl rfl rfl ?_
        refine sxo_lss rfl rfl rfl rfl ?_
        refine sxo_move rfl rfl rfl ?_
        refine sxo_join 7 (fun ((x190, _) : (Bool × Unit)) => [(1, .int .i64 x4), (5, .int .i64 x132), (7, .int .i64 x180), (13, .slice a2 x1.length c3), (14, .int .i64 (x1.length : Int)), (15, .int .i64 x133), (29, .bool x190)]) (fun ((x190, _) : (Bool × Unit)) => []) (fun ((x190, _) : (Bool × Unit)) => []) (fun ((x190, _) : (Bool × Unit)) => [Sl (eI .i64) 1 (.slice a2 x1.length c3) x1]) (fun ((x190, _) : (Bool × Unit)) => M_parts_check_j27 F (M_parts_check_l23 F x1 x4 k164) x4 x132 x133 x180 x190) ?_ ?_
        · refine sxo_take (os := _) rfl ?_
          refine sxo_if (fun h188 => ?_) (fun h188 => ?_)
          · refine sxo_isT (k := 22) rfl h188 ?_
            refine sxo_skip rfl rfl rfl ?_
            refine sxo_skip rfl rfl rfl ?_
            refine sxo_skip rfl rfl rfl ?_
            refine sxo_skip rfl rfl rfl ?_
            refine sxo_skip rfl rfl rfl ?_
            refine sxo_skip rfl rfl rfl ?_
            refine sxo_pick (b := true) rfl rfl rfl rfl ?_
            refine sxo_nil ?_
            exact sxq_meetP (true, ()) (hF := (fk_cons 1 rfl fk_nil))
          · refine sxo_isF (k := 22) rfl h188 ?_
            refine sxo_move rfl rfl rfl ?_
            refine sxo_lss rfl rfl rfl rfl ?_
            refine sxo_move rfl rfl rfl ?_
            refine sxo_case 3 (decide (x180 < 1)) [(1, .int .i64 x4), (5, .int .i64 x132), (13, .slice a2 x1.length c3), (14, .int .i64 (x1.length : Int)), (15, .int .i64 x133), (7, .int .i64 x180), (22, .bool false), (23, .int .i64 x180), (24, .bool (decide (x180 < 1))), (25, .bool (decide (x180 < 1))), (28, .bool ((decide (x180 < 1)) && (decide (0 < x133))))] (fun h193 => ?_) (fun h193 => ?_) ?_
            · refine sxo_take (os := _) rfl ?_
              refine sxo_isT (k := 25) rfl h193 ?_
              refine sxo_move rfl rfl rfl ?_
              refine sxo_gtr rfl rfl rfl rfl ?_
              refine sxo_pick (b := true) rfl rfl rfl rfl ?_
              refine sxo_again (d := 28) (v := .bool ((decide (x180 < 1)) && (decide (0 < x133)))) rfl (by rw [h193]; simp only [Bool.true_and]) ?_
              refine sxo_again (d := 25) (v := .bool (decide (x180 < 1))) rfl (by rw [h193] <;> rfl) ?_
              refine sxo_nil ?_
              exact sxq_case (lk_cons rfl (lk_cons rfl (lk_cons rfl (lk_cons rfl (lk_cons rfl (lk_cons rfl (lk_cons rfl (lk_cons rfl (lk_cons rfl (lk_cons rfl (lk_cons rfl lk_nil)))))))))))
            · refine sxo_take (os := _) rfl ?_
              refine sxo_isF (k := 25) rfl h193 ?_
              refine sxo_skip rfl rfl rfl ?_
              refine sxo_skip rfl rfl rfl ?_
              refine sxo_pick (b := false) rfl rfl rfl rfl ?_
              refine sxo_again (d := 28) (v := .bool ((decide (x180 < 1)) && (decide (0 < x133)))) rfl (by rw [h193]; simp only [Bool.false_and]) ?_
              refine sxo_again (d := 25) (v := .bool (decide (x180 < 1))) rfl (by rw [h193] <;> rfl) ?_
              refine sxo_nil ?_
              exact sxq_case (lk_cons rfl (lk_cons rfl (lk_cons rfl (lk_cons rfl (lk_cons rfl (lk_cons rfl (lk_cons rfl (lk_cons rfl (lk_cons rfl (lk_cons rfl (lk_cons rfl lk_nil)))))))))))
            refine sxo_take (os := _) rfl ?_
            refine sxo_pick (b := false) rfl rfl rfl rfl ?_
            refine sxo_nil ?_
            exact sxq_meetP (((decide (x180 < 1)) && (decide (0 < x133))), ()) (hF := (fk_cons 1 rfl fk_nil))
        · rintro ⟨x190, _⟩
          try dsimp only
          refine sxo_take (os := _) rfl ?_
          refine sxo_nil ?_
          refine sxq_next ?_
          refine sxc_if rfl (fun h192 => ?_) (fun h192 => ?_)
          · refine sxc_seq ?_
            refine sxc_region ?_
            refine sxo_assign rfl rfl rfl ?_
            refine sxo_nil ?_
            refine sxq_next ?_
            refine sxc_ret ?_
            refine sxq_thenR ?_
            refine sxq_blkR ?_
            refine sxq_thenR ?_
            refine sxq_thenR ?_
            refine sxq_blkR ?_
            refine sxq_thenR ?_
            exact sxq_doneP () (res1 rfl rfl)
          · refine sxc_skip ?_
            refine sxq_next ?_
            refine sxc_region ?_
            refine sxo_move rfl rfl rfl ?_
            refine sxo_move rfl rfl rfl ?_
            refine sxo_move rfl rfl rfl ?_
            refine sxo_add rfl rfl rfl rfl ?_
            refine sxo_min rfl rfl rfl rfl ?_
            refine sxo_add rfl rfl rfl rfl ?_
            refine sxo_move rfl rfl rfl ?_
            refine sxo_add rfl rfl rfl rfl ?_
            refine sxo_min rfl rfl rfl rfl ?_
            refine sxo_assign rfl rfl rfl ?_
            refine sxo_lett (fun x191 e191 => ?_)
            refine sxo_again (d := 5) (v := .int .i64 x191) rfl (by rw [e191] <;> rfl) ?_
            refine sxo_nil ?_
            refine sxq_blkN ?_
            refine sxq_next ?_
            refine sxc_region ?_
            refine sxo_add rfl rfl rfl rfl ?_
            refine sxo_move rfl rfl rfl ?_
            refine sxo_nil ?_
            exact sxq_againP ((x191, iadd .i64 x133 1), ()) (hF := (fk_cons 0 rfl fk_nil))
      · refine sxc_exit ?_
        refine sxq_thenX ?_
        refine sxq_thenX ?_
        refine sxq_blkX ?_
        exact sxq_meetP (x132, ())
    · rintro ⟨x99, _⟩
      try dsimp only
      refine sxc_seq ?_
      refine sxc_seq ?_
      refine sxc_region ?_
      refine sxo_move rfl rfl rfl ?_
      refine sxo_move rfl rfl rfl ?_
      refine sxo_gtr rfl rfl rfl rfl ?_
      refine sxo_nil ?_
      refine sxq_next ?_
      refine sxc_if rfl (fun h101 => ?_) (fun h101 => ?_)
      · refine sxc_seq ?_
        refine sxc_region ?_
        refine sxo_assign rfl rfl rfl ?_
        refine sxo_nil ?_
        refine sxq_next ?_
        refine sxc_ret ?_
        refine sxq_thenR ?_
        exact sxq_doneP () (res1 rfl rfl)
      · refine sxc_skip ?_
        refine sxq_next ?_
        refine sxc_seq ?_
        refine sxc_region ?_
        refine sxo_assign rfl rfl rfl ?_
        refine sxo_nil ?_
        refine sxq_next ?_
        refine sxc_ret ?_
        exact sxq_doneP () (res1 rfl rfl)
end Go.Proofs.Ytidnfcdnhdbolaa
