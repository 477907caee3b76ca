/- Each Go function of this seat computes what its model says. -/
import Derived.Test.YtnlodcokfndnmaaGreatRows
import Derived.Test.YtnlodcokfndnmaaGreatModels
import Derived.Test.YtnlodcokfndnmaaGreatShelf
namespace Go.Proofs.YtnlodcokfndnmaaGreat
open Go SX
def eN30 (p : List Int × (Option Addr × Nat)) : List Value := [.slice p.2.1 p.1.length p.2.2]
def iN30 (p : List Int × (Option Addr × Nat)) : List (World → Prop) := [Sl (eI .i64) 1 (.slice p.2.1 p.1.length p.2.2) p.1]
theorem kI : EncOk eN30 1 := ⟨fun _ => rfl, fun _ => rfl⟩
def rN30 (p : List Int × (Option Addr × Nat)) : List RowF := [FoR (eI .i64) 3 1 (.slice p.2.1 p.1.length p.2.2) p.1]
theorem qnR : ∀ p, iN30 p = (rN30 p).map RowF.cells := fun _ => rfl
theorem qnK : ∀ f ∈ rN30 (([] : List Int), ((none, 0) : Option Addr × Nat)), f.v = .slice none 0 0 ∧ f.n = 0 ∧ f.cs = [] := by simp [rN30, FoR]
def eS137 (p : (Int × Int)) : List Value := [.int .i64 p.1, .int .i64 p.2]
theorem qa5 : EncOk eS137 2 := ⟨fun _ => rfl, fun _ => rfl⟩
instance tf3 : TyF Tryz.prog 3 false (.int .i64 0) 1 8 := .of (by kernel_rfl) (by kernel_rfl)
instance tf4 : TyF Tryz.prog 4 false (.bool false) 1 1 := .of (by kernel_rfl) (by kernel_rfl)
instance tf5 : TyF Tryz.prog 5 false (.int .u8 0) 1 1 := .of (by kernel_rfl) (by kernel_rfl)
instance tf22 : TyF Tryz.prog 22 false (.slice none 0 0) 1 24 := .of (by kernel_rfl) (by kernel_rfl)
instance tf24 : TyF Tryz.prog 24 true (.agg #[.slice none 0 0]) 1 24 := .of (by kernel_rfl) (by kernel_rfl)
instance tf26 : TyF Tryz.prog 26 true (.agg #[.int .i64 0, .int .i64 0, .int .i64 0]) 3 24 := .of (by kernel_rfl) (by kernel_rfl)
instance tf30 : TyF Tryz.prog 30 false (.slice none 0 0) 1 24 := .of (by kernel_rfl) (by kernel_rfl)
instance tf31 : TyF Tryz.prog 31 false (.slice none 0 0) 1 24 := .of (by kernel_rfl) (by kernel_rfl)
instance tf33 : TyF Tryz.prog 33 true (.agg #[.int .i64 0, .slice none 0 0]) 2 32 := .of (by kernel_rfl) (by kernel_rfl)
instance tf35 : TyF Tryz.prog 35 true (.agg #[.int .i64 0, .int .i64 0, .int .i64 0, .int .i64 0, .int .i64 0, .slice none 0 0]) 6 64 := .of (by kernel_rfl) (by kernel_rfl)
instance tf41 : TyF Tryz.prog 41 false (.int .u64 0) 1 8 := .of (by kernel_rfl) (by kernel_rfl)
instance tf67 : TyF Tryz.prog 67 true (.agg #[.int .i64 0, .int .i64 0, .slice none 0 0]) 3 40 := .of (by kernel_rfl) (by kernel_rfl)
instance tf79 : TyF Tryz.prog 79 false (.pointer none) 1 8 := .of (by kernel_rfl) (by kernel_rfl)
instance tf88 : TyF Tryz.prog 88 true (.agg #[]) 0 0 := .of (by kernel_rfl) (by kernel_rfl)
instance tf111 : TyF Tryz.prog 111 false (.slice none 0 0) 1 24 := .of (by kernel_rfl) (by kernel_rfl)
instance tf137 : TyF Tryz.prog 137 true (.agg #[.int .i64 0, .int .i64 0]) 2 16 := .of (by kernel_rfl) (by kernel_rfl)
instance ff24_0 : FdF Tryz.prog 24 0 0 := .of (by kernel_rfl)
instance ff26_0 : FdF Tryz.prog 26 0 0 := .of (by kernel_rfl)
instance ff26_1 : FdF Tryz.prog 26 1 1 := .of (by kernel_rfl)
instance ff26_2 : FdF Tryz.prog 26 2 2 := .of (by kernel_rfl)
instance ff33_0 : FdF Tryz.prog 33 0 0 := .of (by kernel_rfl)
instance ff33_1 : FdF Tryz.prog 33 1 1 := .of (by kernel_rfl)
instance ff35_0 : FdF Tryz.prog 35 0 0 := .of (by kernel_rfl)
instance ff35_1 : FdF Tryz.prog 35 1 1 := .of (by kernel_rfl)
instance ff35_2 : FdF Tryz.prog 35 2 4 := .of (by kernel_rfl)
instance ff52_0 : FdF Tryz.prog 52 0 0 := .of (by kernel_rfl)
instance ff52_1 : FdF Tryz.prog 52 1 6 := .of (by kernel_rfl)
instance ff52_2 : FdF Tryz.prog 52 2 7 := .of (by kernel_rfl)
instance ff67_0 : FdF Tryz.prog 67 0 0 := .of (by kernel_rfl)
instance ff67_1 : FdF Tryz.prog 67 1 1 := .of (by kernel_rfl)
instance ff75_0 : FdF Tryz.prog 75 0 0 := .of (by kernel_rfl)
instance ff75_1 : FdF Tryz.prog 75 1 2 := .of (by kernel_rfl)
instance ff85_0 : FdF Tryz.prog 85 0 0 := .of (by kernel_rfl)
instance ff94_0 : FdF Tryz.prog 94 0 0 := .of (by kernel_rfl)
instance ff94_1 : FdF Tryz.prog 94 1 2 := .of (by kernel_rfl)
instance ff137_0 : FdF Tryz.prog 137 0 0 := .of (by kernel_rfl)
instance ff137_1 : FdF Tryz.prog 137 1 1 := .of (by kernel_rfl)
instance ff142_0 : FdF Tryz.prog 142 0 0 := .of (by kernel_rfl)
instance ff142_1 : FdF Tryz.prog 142 1 1 := .of (by kernel_rfl)
instance ff149_0 : FdF Tryz.prog 149 0 0 := .of (by kernel_rfl)
instance ff149_1 : FdF Tryz.prog 149 1 1 := .of (by kernel_rfl)
instance ff149_2 : FdF Tryz.prog 149 2 2 := .of (by kernel_rfl)
instance st24 : StF Tryz.prog 24 [(0, 1)] (.agg #[.slice none 0 0]) := .of (by kernel_rfl) (by kernel_rfl)
instance st26 : StF Tryz.prog 26 [(0, 1), (1, 1), (2, 1)] (.agg #[.int .i64 0, .int .i64 0, .int .i64 0]) := .of (by kernel_rfl) (by kernel_rfl)
instance st33 : StF Tryz.prog 33 [(0, 1), (1, 1)] (.agg #[.int .i64 0, .slice none 0 0]) := .of (by kernel_rfl) (by kernel_rfl)
instance st35 : StF Tryz.prog 35 [(0, 1), (1, 3), (4, 2)] (.agg #[.int .i64 0, .int .i64 0, .int .i64 0, .int .i64 0, .int .i64 0, .slice none 0 0]) := .of (by kernel_rfl) (by kernel_rfl)
instance st52 : StF Tryz.prog 52 [(0, 6), (6, 1), (7, 1)] (.agg #[.int .i64 0, .int .i64 0, .int .i64 0, .int .i64 0, .int .i64 0, .slice none 0 0, .slice none 0 0, .slice none 0 0]) := .of (by kernel_rfl) (by kernel_rfl)
instance st67 : StF Tryz.prog 67 [(0, 1), (1, 2)] (.agg #[.int .i64 0, .int .i64 0, .slice none 0 0]) := .of (by kernel_rfl) (by kernel_rfl)
instance st75 : StF Tryz.prog 75 [(0, 2), (2, 1)] (.agg #[.int .i64 0, .slice none 0 0, .int .i64 0]) := .of (by kernel_rfl) (by kernel_rfl)
instance st85 : StF Tryz.prog 85 [(0, 2)] (.agg #[.int .i64 0, .slice none 0 0]) := .of (by kernel_rfl) (by kernel_rfl)
instance st88 : StF Tryz.prog 88 [] (.agg #[]) := .of (by kernel_rfl) (by kernel_rfl)
instance st94 : StF Tryz.prog 94 [(0, 2), (2, 1)] (.agg #[.int .i64 0, .slice none 0 0, .bool false]) := .of (by kernel_rfl) (by kernel_rfl)
instance st137 : StF Tryz.prog 137 [(0, 1), (1, 1)] (.agg #[.int .i64 0, .int .i64 0]) := .of (by kernel_rfl) (by kernel_rfl)
instance st142 : StF Tryz.prog 142 [(0, 1), (1, 1)] (.agg #[.int .i64 0, .bool false]) := .of (by kernel_rfl) (by kernel_rfl)
instance st149 : StF Tryz.prog 149 [(0, 1), (1, 1), (2, 1)] (.agg #[.slice none 0 0, .bool false, .int .i64 0]) := .of (by kernel_rfl) (by kernel_rfl)
instance se26 : StE3 Tryz.prog 26 .i64 .i64 .i64 := ⟨_, _, _, Tryz.underlying26, by kernel_rfl, by kernel_rfl, by decide, by decide, by decide, rfl, rfl, rfl, Tryz.underlying3, Tryz.underlying3, Tryz.underlying3⟩
theorem mixed : Tryz.prog.follows .mixedOrders = true := by kernel_rfl
instance en4 : EnC Tryz.prog 4 := ⟨qb Tryz.func4 rfl rfl⟩
instance en5 : EnC Tryz.prog 5 := ⟨qb Tryz.func5 rfl rfl⟩
instance en6 : EnC Tryz.prog 6 := ⟨qb Tryz.func6 rfl rfl⟩
instance en7 : EnC Tryz.prog 7 := ⟨qb Tryz.func7 rfl rfl⟩
instance en8 : EnC Tryz.prog 8 := ⟨qb Tryz.func8 rfl rfl⟩
instance en9 : EnC Tryz.prog 9 := ⟨qb Tryz.func9 rfl rfl⟩
instance en10 : EnC Tryz.prog 10 := ⟨qb Tryz.func10 rfl rfl⟩
instance en11 : EnC Tryz.prog 11 := ⟨qb Tryz.func11 rfl rfl⟩
instance en12 : EnC Tryz.prog 12 := ⟨qb Tryz.func12 rfl rfl⟩
instance en13 : EnC Tryz.prog 13 := ⟨qb Tryz.func13 rfl rfl⟩
instance en14 : EnC Tryz.prog 14 := ⟨qb Tryz.func14 rfl rfl⟩
instance en15 : EnC Tryz.prog 15 := ⟨qb Tryz.func15 rfl rfl⟩
instance en16 : EnC Tryz.prog 16 := ⟨qb Tryz.func16 rfl rfl⟩
instance en17 : EnC Tryz.prog 17 := ⟨qb Tryz.func17 rfl rfl⟩
instance en18 : EnC Tryz.prog 18 := ⟨qb Tryz.func18 rfl rfl⟩
instance en19 : EnC Tryz.prog 19 := ⟨qb Tryz.func19 rfl rfl⟩
instance en20 : EnC Tryz.prog 20 := ⟨qb Tryz.func20 rfl rfl⟩
instance en21 : EnC Tryz.prog 21 := ⟨qb Tryz.func21 rfl rfl⟩
instance en22 : EnC Tryz.prog 22 := ⟨qb Tryz.func22 rfl rfl⟩
instance en23 : EnC Tryz.prog 23 := ⟨qb Tryz.func23 rfl rfl⟩
instance en24 : EnC Tryz.prog 24 := ⟨qb Tryz.func24 rfl rfl⟩
instance en25 : EnC Tryz.prog 25 := ⟨qb Tryz.func25 rfl rfl⟩
instance en26 : EnC Tryz.prog 26 := ⟨qb Tryz.func26 rfl rfl⟩
instance en27 : EnC Tryz.prog 27 := ⟨qb Tryz.func27 rfl rfl⟩
instance en28 : EnC Tryz.prog 28 := ⟨qb Tryz.func28 rfl rfl⟩
instance en29 : EnC Tryz.prog 29 := ⟨qb Tryz.func29 rfl rfl⟩
instance en30 : EnC Tryz.prog 30 := ⟨qb Tryz.func30 rfl rfl⟩
instance en31 : EnC Tryz.prog 31 := ⟨qb Tryz.func31 rfl rfl⟩
instance en32 : EnC Tryz.prog 32 := ⟨qb Tryz.func32 rfl rfl⟩
instance en33 : EnC Tryz.prog 33 := ⟨qb Tryz.func33 rfl rfl⟩
theorem ent34 : Enters Tryz.prog 34 := qb Tryz.func34 rfl rfl
instance en34 : EnC Tryz.prog 34 := ⟨ent34⟩
instance en35 : EnC Tryz.prog 35 := ⟨qb Tryz.func35 rfl rfl⟩
theorem ent36 : Enters Tryz.prog 36 := qb Tryz.func36 rfl rfl
instance en36 : EnC Tryz.prog 36 := ⟨ent36⟩
theorem ent37 : Enters Tryz.prog 37 := qb Tryz.func37 rfl rfl
instance en37 : EnC Tryz.prog 37 := ⟨ent37⟩
theorem ent38 : Enters Tryz.prog 38 := qb Tryz.func38 rfl rfl
instance en38 : EnC Tryz.prog 38 := ⟨ent38⟩
instance en39 : EnC Tryz.prog 39 := ⟨qb Tryz.func39 rfl rfl⟩
instance en40 : EnC Tryz.prog 40 := ⟨qb Tryz.func40 rfl rfl⟩
instance en41 : EnC Tryz.prog 41 := ⟨qb Tryz.func41 rfl rfl⟩
instance en42 : EnC Tryz.prog 42 := ⟨qb Tryz.func42 rfl rfl⟩
instance en43 : EnC Tryz.prog 43 := ⟨qb Tryz.func43 rfl rfl⟩
instance en44 : EnC Tryz.prog 44 := ⟨qb Tryz.func44 rfl rfl⟩
theorem ent45 : Enters Tryz.prog 45 := qb Tryz.func45 rfl rfl
instance en45 : EnC Tryz.prog 45 := ⟨ent45⟩
instance en46 : EnC Tryz.prog 46 := ⟨qb Tryz.func46 rfl rfl⟩
instance en47 : EnC Tryz.prog 47 := ⟨qb Tryz.func47 rfl rfl⟩
theorem ent48 : Enters Tryz.prog 48 := qb Tryz.func48 rfl rfl
instance en48 : EnC Tryz.prog 48 := ⟨ent48⟩
instance en49 : EnC Tryz.prog 49 := ⟨qb Tryz.func49 rfl rfl⟩
theorem ent50 : Enters Tryz.prog 50 := qb Tryz.func50 rfl rfl
instance en50 : EnC Tryz.prog 50 := ⟨ent50⟩
theorem ent51 : Enters Tryz.prog 51 := qb Tryz.func51 rfl rfl
instance en51 : EnC Tryz.prog 51 := ⟨ent51⟩
instance en52 : EnC Tryz.prog 52 := ⟨qb Tryz.func52 rfl rfl⟩
instance en53 : EnC Tryz.prog 53 := ⟨qb Tryz.func53 rfl rfl⟩
instance en54 : EnC Tryz.prog 54 := ⟨qb Tryz.func54 rfl rfl⟩
instance en55 : EnC Tryz.prog 55 := ⟨qb Tryz.func55 rfl rfl⟩
instance en56 : EnC Tryz.prog 56 := ⟨qb Tryz.func56 rfl rfl⟩
instance en57 : EnC Tryz.prog 57 := ⟨qb Tryz.func57 rfl rfl⟩
instance en58 : EnC Tryz.prog 58 := ⟨qb Tryz.func58 rfl rfl⟩
instance en59 : EnC Tryz.prog 59 := ⟨qb Tryz.func59 rfl rfl⟩
instance en60 : EnC Tryz.prog 60 := ⟨qb Tryz.func60 rfl rfl⟩
instance en61 : EnC Tryz.prog 61 := ⟨qb Tryz.func61 rfl rfl⟩
instance en62 : EnC Tryz.prog 62 := ⟨qb Tryz.func62 rfl rfl⟩
instance en63 : EnC Tryz.prog 63 := ⟨qb Tryz.func63 rfl rfl⟩
instance en64 : EnC Tryz.prog 64 := ⟨qb Tryz.func64 rfl rfl⟩
instance en65 : EnC Tryz.prog 65 := ⟨qb Tryz.func65 rfl rfl⟩
instance en66 : EnC Tryz.prog 66 := ⟨qb Tryz.func66 rfl rfl⟩
instance en67 : EnC Tryz.prog 67 := ⟨qb Tryz.func67 rfl rfl⟩
instance en68 : EnC Tryz.prog 68 := ⟨qb Tryz.func68 rfl rfl⟩
instance en69 : EnC Tryz.prog 69 := ⟨qb Tryz.func69 rfl rfl⟩
instance en70 : EnC Tryz.prog 70 := ⟨qb Tryz.func70 rfl rfl⟩
instance en71 : EnC Tryz.prog 71 := ⟨qb Tryz.func71 rfl rfl⟩
instance en72 : EnC Tryz.prog 72 := ⟨qb Tryz.func72 rfl rfl⟩
instance en73 : EnC Tryz.prog 73 := ⟨qb Tryz.func73 rfl rfl⟩
instance en74 : EnC Tryz.prog 74 := ⟨qb Tryz.func74 rfl rfl⟩
instance en75 : EnC Tryz.prog 75 := ⟨qb Tryz.func75 rfl rfl⟩
instance en76 : EnC Tryz.prog 76 := ⟨qb Tryz.func76 rfl rfl⟩
instance en77 : EnC Tryz.prog 77 := ⟨qb Tryz.func77 rfl rfl⟩
instance en78 : EnC Tryz.prog 78 := ⟨qb Tryz.func78 rfl rfl⟩
instance en81 : EnC Tryz.prog 81 := ⟨qb Tryz.func81 rfl rfl⟩
instance en82 : EnC Tryz.prog 82 := ⟨qb Tryz.func82 rfl rfl⟩
instance en83 : EnC Tryz.prog 83 := ⟨qb Tryz.func83 rfl rfl⟩
instance en84 : EnC Tryz.prog 84 := ⟨qb Tryz.func84 rfl rfl⟩
instance en85 : EnC Tryz.prog 85 := ⟨qb Tryz.func85 rfl rfl⟩
instance en86 : EnC Tryz.prog 86 := ⟨qb Tryz.func86 rfl rfl⟩
instance en87 : EnC Tryz.prog 87 := ⟨qb Tryz.func87 rfl rfl⟩
instance en88 : EnC Tryz.prog 88 := ⟨qb Tryz.func88 rfl rfl⟩
instance en89 : EnC Tryz.prog 89 := ⟨qb Tryz.func89 rfl rfl⟩
instance en90 : EnC Tryz.prog 90 := ⟨qb Tryz.func90 rfl rfl⟩
instance en91 : EnC Tryz.prog 91 := ⟨qb Tryz.func91 rfl rfl⟩
instance en98 : EnC Tryz.prog 98 := ⟨qb Tryz.func98 rfl rfl⟩
instance en102 : EnC Tryz.prog 102 := ⟨qb Tryz.func102 rfl rfl⟩
theorem ent103 : Enters Tryz.prog 103 := qb Tryz.func103 rfl rfl
instance en103 : EnC Tryz.prog 103 := ⟨ent103⟩
instance en104 : EnC Tryz.prog 104 := ⟨qb Tryz.func104 rfl rfl⟩
instance en105 : EnC Tryz.prog 105 := ⟨qb Tryz.func105 rfl rfl⟩
instance en106 : EnC Tryz.prog 106 := ⟨qb Tryz.func106 rfl rfl⟩
instance en112 : EnC Tryz.prog 112 := ⟨qb Tryz.func112 rfl rfl⟩
theorem mkif88 (v : Value) (w : World) : (Instr.makeInterface 88 v).run Tryz.prog w = .ok (.iface 88 v) w := by simp [Instr.makeInterface, run_underlying Tryz.underlying88]
abbrev lostCh : List PanicEntry := [{ v := .iface 88 (.agg #[]), recovered := false }]
theorem idle36 (p q : Addr) : qeS Tryz.prog 36 #[.pointer (some p), .pointer (some q)] := by
  intro w
  refine callsD_of_wpS Tryz.func36 rfl fun c₀ cs hu => ?_
  apply wpS_seq
  apply wpS_region
  simp [wpOpsS, go_sem, recoverD, hu, Tryz.ntmps36, Exit.thenS]
  refine wpS_of_wp ?_
  go_wp2
  cases c₀
  simp_all [bodyPostS, results, Tryz.results36]
theorem qjF (w : World) : (Instr.typeAssert (.iface 88 (.agg #[])) 20 88 true).run Tryz.prog w = .ok (.tuple #[.agg #[], .bool true]) w := by
  simp [Instr.typeAssert, run_underlying Tryz.underlying88]
theorem eqn36 (x y : Operand) (w : World) : (do eqGuard .eql 20 x y (.iface 88 (.agg #[])) .nilIface; binOp .eql 20 (.iface 88 (.agg #[])) .nilIface : Sem Value).run Tryz.prog w = .ok (.bool false) w := by
  simp [go_sem]
set_option maxRecDepth 100000 in
theorem lost36 (g1 g2 : Nat) (v1 v2 : Value) : qeT Tryz.prog 36 #[.pointer (some ⟨g1, 0, none⟩), .pointer (some ⟨g2, 0, none⟩)] 88 (.agg #[]) [⟨g1, 30, [v1]⟩, ⟨g2, 4, [v2]⟩] [⟨g1, 30, [.slice none 0 0]⟩, ⟨g2, 4, [.bool false]⟩] := by
  intro w hp
  refine callsD_of_wpS Tryz.func36 rfl fun c₀ cs hu => ?_
  apply wpS_seq
  apply wpS_region
  simp [wpOpsS, go_sem, recoverD, hu, Tryz.ntmps36, Exit.thenS]
  refine wpS_of_wp (qbJ.1 ?_)
  refine (show SXC Tryz.prog none 11 [] (muts [⟨g1, 30, [v1]⟩, ⟨g2, 4, [v2]⟩] []) w _ _ [(0, .pointer (some ⟨g1, 0, none⟩)), (1, .pointer (some ⟨g2, 0, none⟩)), (5, .iface 88 (.agg #[]))] [⟨g1, 30, [v1]⟩, ⟨g2, 4, [v2]⟩] [] [] (some ()) () from ?_) rfl _ _ ⟨rfl, by simp, fun i v hv => ?_⟩ hp
  · refine qfe ?_
    refine qdE ?_
    refine qaG ?_
    refine qg9 rfl rfl rfl (eqn36 _ _) rfl ?_
    refine qcZ ?_
    refine qc0 ?_
    refine qae (b := false) rfl (fun h => by cases h) (fun _ => ?_)
    refine qdE ?_
    refine qaG ?_
    refine qf5 rfl rfl qjF rfl ?_
    refine qbP rfl rfl rfl rfl ?_
    refine qbP rfl rfl rfl rfl ?_
    refine qcZ ?_
    refine qc0 ?_
    refine qae (b := true) rfl (fun _ => ?_) (fun h => by cases h)
    refine qdE ?_
    refine qaG ?_
    refine qfg rfl tf88 rfl (fun g => ?_)
    refine vO (i := 0) rfl rfl rfl tf88 rfl rfl rfl rfl rfl ?_
    refine qcZ ?_
    refine qc0 ?_
    refine qaG ?_
    refine vO (i := 1) rfl rfl rfl tf30 rfl rfl rfl rfl rfl ?_
    refine vO (i := 2) rfl rfl rfl tf4 rfl rfl rfl rfl rfl ?_
    refine qcZ ?_
    refine qhc ?_
    intro _ a w' hf hp'
    exact ⟨hf.defers, _, rfl, _, results_none rfl _ _ _, rfl, rfl, hp'.pick (.cons 1 rfl (.cons 1 rfl .nil)) .nil (by simp)⟩
  · simp only [yC] at hv
    split at hv
    · rename_i h; subst h; simpa using hv
    · split at hv
      · rename_i h; subst h; simpa using hv
      · split at hv
        · rename_i h; subst h; simpa using hv
        · cases hv
instance un2 : UnF Tryz.prog 2 (.int .i64) := ⟨Tryz.underlying2⟩
instance un3 : UnF Tryz.prog 3 (.int .i64) := ⟨Tryz.underlying3⟩
instance un4 : UnF Tryz.prog 4 .bool := ⟨Tryz.underlying4⟩
instance un5 : UnF Tryz.prog 5 (.int .u8) := ⟨Tryz.underlying5⟩
instance un9 : UnF Tryz.prog 9 .string := ⟨Tryz.underlying9⟩
instance un22 : UnF Tryz.prog 22 (.slice 30) := ⟨Tryz.underlying22⟩
instance un30 : UnF Tryz.prog 30 (.slice 3) := ⟨Tryz.underlying30⟩
instance un31 : UnF Tryz.prog 31 (.slice 5) := ⟨Tryz.underlying31⟩
instance un41 : UnF Tryz.prog 41 (.int .u64) := ⟨Tryz.underlying41⟩
instance un102 : UnF Tryz.prog 102 (.int .u64) := ⟨Tryz.underlying102⟩
instance un111 : UnF Tryz.prog 111 (.slice 137) := ⟨Tryz.underlying111⟩
instance un126 : UnF Tryz.prog 126 (.slice 41) := ⟨Tryz.underlying126⟩
set_option maxRecDepth 100000 in
theorem au0 (p : List Nat) {A B : Prop} (t : B → Stp p A := by
  intro h
  repeat (first
    | exact stp0 h
    | (refine stc 0 ?_; refine stk (fun h => qcZ h) ?_)
    | (refine stc 1 ?_; refine stk (fun h => qc0 h) ?_)
    | (refine stc 2 ?_; refine stk (fun h => qdE h) ?_)
    | (refine stc 3 ?_; refine stk (fun h => qlh rfl rfl rfl h) ?_)
    | (refine stc 4 ?_; refine stk (fun h => qaG h) ?_)
    | (refine stc 5 ?_; refine stk (fun h => qhS rfl rfl rfl h) ?_)
    | (refine stc 6 ?_; refine qcV rfl rfl rfl (qaK rfl) ?_)
    | (refine stc 7 ?_; refine qmd rfl rfl rfl ?_)
    | (refine stc 8 ?_; refine stk (fun h => qli rfl rfl rfl h) ?_)
    | (refine stc 9 ?_; refine stk (fun h => qmj h) ?_)
    | (refine stc 10 ?_; refine stk (fun h => qnv rfl (And.left h) (And.right h)) ?_)
    | (refine stc 11 ?_; refine stk (fun h => qjC h) ?_)
    | (refine stc 12 ?_; refine stk (fun h => qk6 h) ?_)
    | (refine stc 13 ?_; refine stk (fun h => qeQ rfl rfl inferInstance rfl h) ?_)
    | (refine stc 14 ?_; refine stk (fun h => qfe h) ?_)
    | (refine stc 15 ?_; exact stz (qt ()))
    | (refine stc 16 ?_; refine stk (fun h => qmk rfl rfl rfl rfl h) ?_)
    | (refine stc 17 ?_; refine stk (fun h => qbP rfl rfl rfl rfl h) ?_)
    | (refine stc 18 ?_; refine stk (fun h => qjD h) ?_)
    | (refine stc 19 ?_; refine qcV rfl rfl rfl (jJ rfl inferInstance) ?_)
    | (refine stc 20 ?_; refine qme rfl (by kernel_rfl) rfl ?_)
    | (refine stc 21 ?_; refine stk (fun h => yE (i := 0) rfl rfl inferInstance rfl rfl (fun _ => rfl) rfl rfl h) ?_)
    | (refine stc 22 ?_; refine stk (fun h => qlk h) ?_)
    | (refine stc 23 ?_; refine stk (fun h => qms rfl UnF.u rfl rfl h) ?_)
    | (refine stc 24 ?_; first
      | (refine sta 0 ?_; refine stk (fun h => qmu rfl rfl rfl rfl h) ?_)
      | (refine sta 1 ?_; exact stz (qjA))
      | (refine sta 2 ?_; refine stk (fun h => qmm rfl rfl rfl h) ?_)
      | (refine sta 3 ?_; refine stk (fun h => qkT (by kernel_rfl) h) ?_)
      | (refine sta 4 ?_; refine stk (fun h => vO (i := 0) rfl rfl rfl inferInstance rfl rfl rfl rfl rfl h) ?_)
      | (refine sta 5 ?_; refine stk (fun h => qhc h) ?_)
      | (refine sta 6 ?_; refine stk (fun h => qfg rfl inferInstance rfl h) ?_)
      | (refine sta 7 ?_; refine stk (fun h => qhb (b := true) rfl rfl rfl rfl h) ?_)
      | (refine sta 8 ?_; refine stk (fun h => qhb (b := false) rfl rfl rfl rfl h) ?_)
      | (refine sta 9 ?_; refine stk (fun h => qk3 h) ?_)
      | (refine sta 10 ?_; refine stk (fun h => qll h) ?_)
      | (refine sta 11 ?_; refine stk (fun h => qmr rfl rfl rfl rfl h) ?_)
      | (refine sta 12 ?_; refine stk (fun h => qkZ h) ?_)
      | (refine sta 13 ?_; refine stk (fun h => qmD rfl rfl rfl rfl h) ?_)
      | (refine sta 14 ?_; refine stk (fun h => qf7 rfl rfl rfl h) ?_)
      | (refine sta 15 ?_; refine stk (fun h => yE (i := 0) rfl rfl inferInstance rfl rfl (by simp) rfl rfl h) ?_))
    | (refine stc 25 ?_; first
      | (refine sta 0 ?_; refine stk (fun h => qjB h) ?_)
      | (refine sta 1 ?_; refine stk (fun h => qk9 rfl UnF.u UnF.u rfl rfl h) ?_)
      | (refine sta 2 ?_; refine stk (fun h => qkY h) ?_)
      | (refine sta 3 ?_; refine stk (fun h => qmB rfl rfl rfl h) ?_)
      | (refine sta 4 ?_; refine qcU rfl rfl rfl (zd (i := 0) rfl inferInstance rfl rfl (fun _ => rfl) rfl) ?_)
      | (refine sta 5 ?_; refine stk (fun h => qmp rfl rfl rfl rfl h) ?_)
      | (refine sta 6 ?_; refine stk (fun h => yE (i := 1) rfl rfl inferInstance rfl rfl (by simp) rfl rfl h) ?_)
      | (refine sta 7 ?_; refine stk (fun h => qmA rfl rfl rfl rfl h) ?_)
      | (refine sta 8 ?_; refine stk (fun h => qcr Int (eI .i64) 3 1 h) ?_)
      | (refine sta 9 ?_; refine stk (fun h => qfh (j := 0) rfl rfl inferInstance rfl rfl (fun _ => rfl) rfl rfl h) ?_)
      | (refine sta 10 ?_; refine stk (fun h => vO (i := 1) rfl rfl rfl inferInstance rfl rfl rfl rfl rfl h) ?_)
      | (refine sta 11 ?_; refine stk (fun h => yE (i := 1) rfl rfl inferInstance rfl rfl (fun _ => rfl) rfl rfl h) ?_)
      | (refine sta 12 ?_; refine stk (fun h => qk0 h) ?_)
      | (refine sta 13 ?_; refine stk (fun h => qmq rfl rfl rfl rfl h) ?_)
      | (refine sta 14 ?_; exact stz (qa ((), ())))
      | (refine sta 15 ?_; refine stk (fun h => zG (.cons 0 rfl (.cons 1 rfl .nil)) (qy 0 rfl (qeL 1 rfl qn)) h) ?_))
    | (refine stc 26 ?_; first
      | (refine sta 0 ?_; exact stz (qfm (.cons 0 rfl .nil)))
      | (refine sta 1 ?_; refine stk (fun h => qld h) ?_)
      | (refine sta 2 ?_; refine stk (fun h => yE (i := 2) rfl rfl inferInstance rfl rfl (by simp) rfl rfl h) ?_)
      | (refine sta 3 ?_; refine stk (fun h => qnw (And.left h) (And.right h)) ?_)
      | (refine sta 4 ?_; refine stk (fun h => jR (j := 0) (qz .i64) (by decide) rfl UnF.u inferInstance rfl rfl rfl rfl h) ?_)
      | (refine sta 5 ?_; refine stk (fun h => qcr Int (eI .u8) 5 1 h) ?_)
      | (refine sta 6 ?_; refine stk (fun h => qmo h) ?_)
      | (refine sta 7 ?_; refine stk (fun h => qjq (And.left h) (And.right h)) ?_)
      | (refine sta 8 ?_; refine qcV rfl rfl rfl (qnA UnF.u rfl) ?_)
      | (refine sta 9 ?_; refine stk (fun h => zG (.cons 1 rfl (.cons 1 rfl .nil)) (qy 0 rfl qn) h) ?_)
      | (refine sta 10 ?_; refine stk (fun h => zG (.cons 1 rfl .nil) qn h) ?_)
      | (refine sta 11 ?_; refine stk (fun h => qmt rfl rfl rfl rfl h) ?_)
      | (refine sta 12 ?_; refine stk (fun h => qbt Int (eI .i64) 3 1 h) ?_)
      | (refine sta 13 ?_; refine stk (fun h => vO (i := 2) rfl rfl rfl inferInstance rfl rfl rfl rfl rfl h) ?_)
      | (refine sta 14 ?_; refine stk (fun h => qlj h) ?_)
      | (refine sta 15 ?_; refine stk (fun h => zG (.cons 0 rfl (.cons 0 rfl (.cons 0 rfl (.cons 0 rfl .nil)))) qn h) ?_))
    | (refine stc 27 ?_; first
      | (refine sta 0 ?_; refine stk (fun h => qnu (And.left h) (And.right h)) ?_)
      | (refine sta 1 ?_; refine stk (fun h => qk1 h) ?_)
      | (refine sta 2 ?_; refine stk (fun h => q8 qb3 h) ?_)
      | (refine sta 3 ?_; refine stk (fun h => qdu Int (eI .u8) 5 1 h) ?_)
      | (refine sta 4 ?_; refine stk (fun h => qeq (j := 0) kI (by decide) rfl UnF.u inferInstance rfl rfl rfl rfl h) ?_)
      | (refine sta 5 ?_; refine stk (fun h => qmi h) ?_)
      | (refine sta 6 ?_; refine stk (fun h => qf9 rfl rfl rfl rfl rfl h) ?_)
      | (refine sta 7 ?_; refine stk (fun h => qmv rfl rfl rfl rfl h) ?_)
      | (refine sta 8 ?_; refine stk (fun h => yE (i := 2) rfl rfl inferInstance rfl rfl (fun _ => rfl) rfl rfl h) ?_)
      | (refine sta 9 ?_; refine stk (fun h => qaI 24 rfl (by kernel_rfl) (.cons 0 rfl (.cons 1 rfl .nil)) h) ?_)
      | (refine sta 10 ?_; refine stk (fun h => qdu Int (eI .i64) 3 1 h) ?_)
      | (refine sta 11 ?_; refine stk (fun h => qln (List Int) (Option Addr × Nat) eN30 rN30 30 1 h) ?_)
      | (refine sta 12 ?_; refine stk (fun h => qg qi2 h) ?_)
      | (refine sta 13 ?_; refine stk (fun h => yE (i := 3) rfl rfl inferInstance rfl rfl (fun _ => rfl) rfl rfl h) ?_)
      | (refine sta 14 ?_; refine stk (fun h => qg qfu h) ?_)
      | (refine sta 15 ?_; refine stk (fun h => zG (.cons 1 rfl (.cons 1 rfl .nil)) (qy 0 rfl (qy 1 rfl (qy 2 rfl (qy 3 rfl qn)))) h) ?_))
    | (refine stc 28 ?_; first
      | (refine sta 0 ?_; refine stk (fun h => qg qfw h) ?_)
      | (refine sta 1 ?_; refine stk (fun h => qf8 rfl rfl rfl rfl rfl h) ?_)
      | (refine sta 2 ?_; refine stk (fun h => qml rfl rfl rfl rfl h) ?_)
      | (refine sta 3 ?_; refine stk (fun h => qg qhh h) ?_)
      | (refine sta 4 ?_; refine stk (fun h => q8 qgk h) ?_)
      | (refine sta 5 ?_; refine stk (fun h => jR (j := 1) (qz .i64) (by decide) rfl UnF.u inferInstance rfl rfl rfl rfl h) ?_)
      | (refine sta 6 ?_; refine qcU rfl rfl rfl (zd (i := 3) rfl inferInstance rfl rfl (fun _ => rfl) rfl) ?_)
      | (refine sta 7 ?_; refine qcU rfl rfl rfl (zd (i := 1) rfl inferInstance rfl rfl (fun _ => rfl) rfl) ?_)
      | (refine sta 8 ?_; refine stk (fun h => qg (fun h => qew F _ h) h) ?_)
      | (refine sta 9 ?_; refine stk (fun h => zG (.cons 0 rfl .nil) (qy 0 rfl qn) h) ?_)
      | (refine sta 10 ?_; refine stk (fun h => qf6 rfl rfl rfl h) ?_)
      | (refine sta 11 ?_; refine stk (fun h => qmC rfl rfl rfl rfl rfl h) ?_)
      | (refine sta 12 ?_; refine stk (fun h => qg5 (j := 0) rfl h) ?_)
      | (refine sta 13 ?_; refine stk (fun h => qg qcy h) ?_)
      | (refine sta 14 ?_; refine stk (fun h => zG .nil (qeL 0 rfl qn) h) ?_)
      | (refine sta 15 ?_; refine stk (fun h => qbd (j := 1) (qz .i64) (by decide) rfl h) ?_))
    | (refine stc 29 ?_; first
      | (refine sta 0 ?_; refine qcU rfl rfl rfl (zd (i := 2) rfl inferInstance rfl rfl (fun _ => rfl) rfl) ?_)
      | (refine sta 1 ?_; refine stk (fun h => jR (j := 0) qa5 (by decide) rfl UnF.u inferInstance rfl rfl rfl rfl h) ?_)
      | (refine sta 2 ?_; refine stk (fun h => qfh (j := 0) rfl rfl inferInstance rfl rfl (by simp) rfl rfl h) ?_)
      | (refine sta 3 ?_; exact stz (zu ()))
      | (refine sta 4 ?_; refine stk (fun h => qk2 h) ?_)
      | (refine sta 5 ?_; refine stk (fun h => zG (.cons 0 rfl (.cons 0 rfl .nil)) (qy 0 rfl qn) h) ?_)
      | (refine sta 6 ?_; refine stk (fun h => q8 qhj h) ?_)
      | (refine sta 7 ?_; refine stk (fun h => qg qfA h) ?_)
      | (refine sta 8 ?_; refine stk (fun h => qg qgl h) ?_)
      | (refine sta 9 ?_; refine stk (fun h => zW 0 (qz .i64) rfl UnF.u inferInstance rfl rfl rfl rfl rfl (.inr ⟨0, rfl⟩) rfl rfl h) ?_)
      | (refine sta 10 ?_; refine stk (fun h => qaH (j := 0) rfl UnF.u inferInstance rfl rfl rfl rfl h) ?_)
      | (refine sta 11 ?_; refine stk (fun h => zb 0 _ rfl rfl rfl (qaK rfl) rfl h) ?_)
      | (refine sta 12 ?_; refine stk (fun h => zb 1 _ rfl rfl rfl (qaK rfl) rfl h) ?_)
      | (refine sta 13 ?_; refine stk (fun h => zb 2 _ rfl rfl rfl (jJ rfl inferInstance) rfl h) ?_)
      | (refine sta 14 ?_; refine stk (fun h => zb 4 _ rfl rfl rfl (qaK rfl) rfl h) ?_)
      | (refine sta 15 ?_; refine stk (fun h => zG (.cons 0 rfl (.cons 0 rfl (.cons 0 rfl (.cons 0 rfl .nil)))) (qy 0 rfl qn) h) ?_))
    | (refine stc 30 ?_; first
      | (refine sta 0 ?_; refine stk (fun h => qcX (j := 0) kI (by decide) rfl h) ?_)
      | (refine sta 1 ?_; refine stk (fun h => qju rfl UnF.u rfl rfl rfl h) ?_)
      | (refine sta 2 ?_; refine stk (fun h => qae rfl (And.left h) (And.right h)) ?_)
      | (refine sta 3 ?_; refine qcV rfl rfl rfl (qmH UnF.u UnF.u rfl) ?_)
      | (refine sta 4 ?_; refine stk (fun h => q8 qhi h) ?_)
      | (refine sta 5 ?_; refine stk (fun h => q8 qct h) ?_)
      | (refine sta 6 ?_; refine stk (fun h => qg qgw h) ?_)
      | (refine sta 7 ?_; refine stk (fun h => qg qgo h) ?_)
      | (refine sta 8 ?_; refine stk (fun h => qaI 18 rfl (by kernel_rfl) (.cons 0 rfl .nil) h) ?_)
      | (refine sta 9 ?_; refine stk (fun h => qg qc4 h) ?_)
      | (refine sta 10 ?_; refine stk (fun h => q8 qcz h) ?_)
      | (refine sta 11 ?_; refine stk (fun h => qg qdy h) ?_)
      | (refine sta 12 ?_; refine stk (fun h => qg qcg h) ?_)
      | (refine sta 13 ?_; refine stk (fun h => qg j8 h) ?_)
      | (refine sta 14 ?_; refine stk (fun h => qbd (j := 0) (qz .i64) (by decide) rfl h) ?_)
      | (refine sta 15 ?_; refine stk (fun h => zG (.cons 0 rfl (.cons 0 rfl (.cons 0 rfl (.cons 0 rfl (.cons 0 rfl .nil))))) (qy 0 rfl qn) h) ?_))
    | (refine stc 31 ?_; first
      | (refine sta 0 ?_; refine stk (fun h => qdF rfl rfl rfl rfl rfl h) ?_)
      | (refine sta 1 ?_; refine stk (fun h => qmE rfl rfl rfl rfl h) ?_)
      | (refine sta 2 ?_; refine stk (fun h => qg qeJ h) ?_)
      | (refine sta 3 ?_; refine stk (fun h => qg qdO h) ?_)
      | (refine sta 4 ?_; refine stk (fun h => qer 2 rfl h) ?_)
      | (refine sta 5 ?_; refine stk (fun h => qg qhk h) ?_)
      | (refine sta 6 ?_; refine stk (fun h => q8 qck h) ?_)
      | (refine sta 7 ?_; refine stk (fun h => qg qgr h) ?_)
      | (refine sta 8 ?_; refine stk (fun h => q8 qeE h) ?_)
      | (refine sta 9 ?_; refine stk (fun h => qkX h) ?_)
      | (refine sta 10 ?_; refine stk (fun h => qbd (j := 0) (qz .u8) (by decide) rfl h) ?_)
      | (refine sta 11 ?_; refine stk (fun h => qg qfD h) ?_)
      | (refine sta 12 ?_; refine stk (fun h => qg qcu h) ?_)
      | (refine sta 13 ?_; refine stk (fun h => qg qdz h) ?_)
      | (refine sta 14 ?_; exact stz (qk5))
      | (refine sta 15 ?_; refine stk (fun h => qmn rfl UnF.u rfl rfl h) ?_))
    | (refine stc 32 ?_; first
      | (refine sta 0 ?_; refine stk (fun h => qlb (i := 0) (qz .i64) rfl UnF.u inferInstance rfl rfl rfl rfl h) ?_)
      | (refine sta 1 ?_; refine stk (fun h => qg qeI h) ?_)
      | (refine sta 2 ?_; refine stk (fun h => qcp 0 rfl h) ?_)
      | (refine sta 3 ?_; refine stk (fun h => qg qa3 h) ?_)
      | (refine sta 4 ?_; refine stk (fun h => q8 qbC h) ?_)
      | (refine sta 5 ?_; refine stk (fun h => qmx rfl rfl rfl rfl h) ?_)
      | (refine sta 6 ?_; refine stk (fun h => zb 5 _ rfl rfl rfl (qaK rfl) rfl h) ?_)
      | (refine sta 7 ?_; refine stk (fun h => zb 6 _ rfl rfl rfl (qaK rfl) rfl h) ?_)
      | (refine sta 8 ?_; refine stk (fun h => zb 7 _ rfl rfl rfl (qaK rfl) rfl h) ?_)
      | (refine sta 9 ?_; refine stk (fun h => zb 8 _ rfl rfl rfl (jJ rfl inferInstance) rfl h) ?_)
      | (refine sta 10 ?_; refine stk (fun h => zb 11 _ rfl rfl rfl (qaK rfl) rfl h) ?_)
      | (refine sta 11 ?_; refine stk (fun h => zb 12 _ rfl rfl rfl (qaK rfl) rfl h) ?_)
      | (refine sta 12 ?_; refine stk (fun h => zb 18 _ rfl rfl rfl (qaK rfl) rfl h) ?_)
      | (refine sta 13 ?_; refine stk (fun h => zG (.cons 0 rfl (.cons 0 rfl (.cons 0 rfl (.cons 0 rfl (.cons 0 rfl .nil))))) (qy 0 rfl (qy 1 rfl qn)) h) ?_)
      | (refine sta 14 ?_; refine stk (fun h => qg qgv h) ?_)
      | (refine sta 15 ?_; refine stk (fun h => zG (.cons 0 rfl .nil) qn h) ?_))
    | (refine stc 33 ?_; first
      | (refine sta 0 ?_; refine stk (fun h => qg qgp h) ?_)
      | (refine sta 1 ?_; refine stk (fun h => zG (.cons 0 rfl (.cons 0 rfl (.cons 0 rfl .nil))) qn h) ?_)
      | (refine sta 2 ?_; refine stk (fun h => qg qgq h) ?_)
      | (refine sta 3 ?_; refine stk (fun h => qaH (j := 3) rfl UnF.u inferInstance rfl rfl rfl rfl h) ?_)
      | (refine sta 4 ?_; refine stk (fun h => qg qex h) ?_)))) : Stv p B A := ⟨fun h => (t h).go⟩
theorem au (p : List Nat) {A B : Prop} (h : B) (t : Stv p B A := by exact au0 _) : A := t.go h
theorem av (p : List Nat) {A B C : Prop} (h : B) (k : C) (t : Stv p (B ∧ C) A := by exact au0 _) : A := t.go ⟨h, k⟩
theorem az (p : List Nat) {A : Prop} (t : Stv p True A := by exact au0 _) : A := t.go trivial
set_option maxHeartbeats 4000000 in
theorem qeD {F : Nat} {x1 : List (List Int)} {a2 : Option Addr} {c3 : Nat} {s3 : List (Option Addr × Nat)} {r : Int} (hm : j3 F x1 = some r) :
    Pure Tryz.prog 19 [.agg #[.slice a2 x1.length c3]] [SlN eN30 iN30 1 (.slice a2 x1.length c3) x1 s3] Unit (fun _ => .int .i64 r) (fun _ => []) (fun _ => []) := by
 refine qh Tryz.func19 rfl Tryz.ntmps19 rfl hm (fun w => ?_)
 refine au [25,2,2,4,24,2] ?_
 intro g4
 refine av [5,0,1,2,4,13,21,23,5,0,1,2,2,4,3,24,11,0,1,10] ?_ ?_
 intro _
 exact az [2,4,5,0,1,9,11,15]
 intro _
 refine au [12,1,2,4,5,0,1] ?_
 refine qf (fun ((x798, _) : (Int × Unit)) => ([(4, .int .i64 x798)], [], [], [], jA F x798)) ?_ ?_
 refine au [2,4,13,21,23,3,0,1,14] ?_
 refine qo (fun (((x1064, x1065), _) : ((Int × Int) × Unit)) => ([(3, .int .i64 (x1.length : Int)), (4, .int .i64 x1064), (16, .slice a2 x1.length c3), (17, .int .i64 (x1.length : Int)), (18, .int .i64 x1065)], [], [], [SlN eN30 iN30 1 (.slice a2 x1.length c3) x1 s3])) (fun k (s : ((Int × Int) × Unit)) => qL F x1 k s.1) ((0, 0), ()) F ?_
 intro k1329
 rintro ⟨⟨x1064, x1065⟩, _⟩
 try dsimp only
 refine qB (m' := vp F x1 (qL F x1 k1329) x1064 x1065) rfl ?_
 refine av [2,4,24,0,0,1,2,10] ?_ ?_
 intro _
 refine au [12,1] ?_
 refine qf (fun ((x1461, _) : (Int × Unit)) => ([(3, .int .i64 (x1.length : Int)), (4, .int .i64 x1461), (16, .slice a2 x1.length c3), (17, .int .i64 (x1.length : Int)), (18, .int .i64 x1065)], [], [], [SlN eN30 iN30 1 (.slice a2 x1.length c3) x1 s3], jB F (qL F x1 k1329) x1065 x1461)) ?_ ?_
 refine au [14,2,4,27,4] ?_
 intro x1462 e1462 g1465 b1463 o1464
 refine au [25,9,5,0,1,2,4,5,0,1] ?_
 refine qf (fun ((_, _) : (Unit × Unit)) => ([(3, .int .i64 (x1.length : Int)), (4, .int .i64 x1064), (6, .slice g1465.1 x1462.length g1465.2), (16, .slice a2 x1.length c3), (17, .int .i64 (x1.length : Int)), (18, .int .i64 x1065)], [], [], [Sl (eI .i64) 1 (.slice g1465.1 x1462.length g1465.2) x1462, SlN eN30 iN30 1 (.slice a2 x1.length c3) x1 s3], vr F (qL F x1 k1329) x1064 x1065 x1462)) ?_ ?_
 refine au [2,4,3,23,3,0,1,14] ?_
 refine qo (fun (((x1549, x1550), _) : ((Int × Int) × Unit)) => ([(3, .int .i64 (x1.length : Int)), (4, .int .i64 x1064), (6, .slice g1465.1 x1462.length g1465.2), (7, .int .i64 x1549), (16, .slice a2 x1.length c3), (17, .int .i64 (x1.length : Int)), (18, .int .i64 x1065), (22, .slice g1465.1 x1462.length g1465.2), (23, .int .i64 (x1462.length : Int)), (24, .int .i64 x1550)], [], [], [Sl (eI .i64) 1 (.slice g1465.1 x1462.length g1465.2) x1462, SlN eN30 iN30 1 (.slice a2 x1.length c3) x1 s3])) (fun k (s : ((Int × Int) × Unit)) => kq F (qL F x1 k1329) x1 x1064 x1065 x1462 k s.1) ((-1, 0), ()) F ?_
 intro k1571
 rintro ⟨⟨x1549, x1550⟩, _⟩
 try dsimp only
 refine qB (m' := vq F (qL F x1 k1329) x1 x1064 x1065 x1462 (kq F (qL F x1 k1329) x1 x1064 x1065 x1462 k1571) x1549 x1550) rfl ?_
 refine av [2,4,24,0,0,1,2,10] ?_ ?_
 intro _
 refine au [12,1,2,14,2,4,26,4] ?_
 intro x1582 e1582 b1583 o1584
 refine au [25,9,5,0,1,2,14,2,4,3,24,0,3] ?_
 refine qR 4 (decide (x1582 < 0)) [(3, .int .i64 (x1.length : Int)), (4, .int .i64 x1064), (6, .slice g1465.1 x1462.length g1465.2), (7, .int .i64 x1549), (16, .slice a2 x1.length c3), (17, .int .i64 (x1.length : Int)), (18, .int .i64 x1065), (22, .slice g1465.1 x1462.length g1465.2), (23, .int .i64 (x1462.length : Int)), (24, .int .i64 x1550), (9, .int .i64 x1582), (35, .bool ((decide (x1582 < 0)) || (decide ((x1.length : Int) ≤ x1582))))] (fun h1588 => ?_) (fun h1588 => ?_) ?_
 refine qc (os := _) rfl (qI (k := 31) rfl h1588 ?_)
 refine au [8,8,8,24,7] ?_
 refine qd (d := 35) (v := .bool ((decide (x1582 < 0)) || (decide ((x1.length : Int) ≤ x1582)))) rfl (by rw [h1588]; simp only [Bool.true_or]) ?_
 exact az [0,24,1]
 refine qc (os := _) rfl (qH (k := 31) rfl h1588 ?_)
 refine au [3,3,25,13,24,8] ?_
 refine qd (d := 35) (v := .bool ((decide (x1582 < 0)) || (decide ((x1.length : Int) ≤ x1582)))) rfl (by rw [h1588]; simp only [Bool.false_or]) ?_
 exact az [0,24,1]
 refine qc (os := _) rfl ?_
 refine av [5,0,1,10] ?_ ?_
 intro _
 exact az [2,4,5,0,1,9,22,11,22,11,11,22,11,22,11,11,22,11,15]
 intro _
 refine av [2,4,3,3,26,11,5,0,1,10] ?_ ?_
 intro _
 exact az [2,4,5,0,1,9,22,11,22,11,11,22,11,22,11,11,22,11,15]
 intro _
 refine au [12,24,5,1,4,3,5,0,24,5,1,4,16,3,0] ?_
 exact qi ((x1582, iadd .i64 x1550 1), ())
 intro _
 exact az [24,9,18,18,24,10,25,14]
 rintro ⟨_, _⟩
 try dsimp only
 refine au [4,3,3,23,16,5,0,24,5] ?_
 exact qa (iadd .i64 x1064 (x1462.length : Int), ())
 rintro ⟨x1461, _⟩
 try dsimp only
 refine au [4,16,3,0] ?_
 exact qi ((x1461, iadd .i64 x1065 1), ())
 intro _
 refine au [24,9,18,18,24,10] ?_
 exact qa (x1064, ())
 rintro ⟨x798, _⟩
 try dsimp only
 refine av [2,2,4,3,24,11,0,1,10] ?_ ?_
 intro _
 exact az [2,4,5,0,1,9,11,15]
 intro _
 exact az [12,1,2,4,5,0,1,9,15]
set_option maxHeartbeats 4000000 in
theorem qfA {F : Nat} {x1 : Int} {x2 : Int} {x3 : Int} {r : Int} (hm : vT F x1 x2 x3 = some r) :
    Pure Tryz.prog 20 [.agg #[.int .i64 x1, .int .i64 x2, .int .i64 x3]] [] Unit (fun _ => .int .i64 r) (fun _ => []) (fun _ => []) := by
 refine qh Tryz.func20 rfl Tryz.ntmps20 rfl hm (fun w => ?_)
 refine au [25,2,2,4,24,2] ?_
 intro g4
 refine au [5,0,1,2,2,4,13,21,24,0,3] ?_
 refine qR 4 (decide (x1 < 0)) [(1, .pointer (some ⟨g4, 0, none⟩)), (10, .bool ((decide (x1 < 0)) || (decide (7 < x1))))] (fun h12 => ?_) (fun h12 => ?_) ?_
 refine qc (os := _) rfl (qI (k := 6) rfl h12 ?_)
 refine au [8,8,8,24,7] ?_
 refine qd (d := 10) (v := .bool ((decide (x1 < 0)) || (decide (7 < x1)))) rfl (by rw [h12]; simp only [Bool.true_or]) ?_
 exact az [0,24,1]
 refine qc (os := _) rfl (qH (k := 6) rfl h12 ?_)
 refine au [13,21,24,11,24,8] ?_
 refine qd (d := 10) (v := .bool ((decide (x1 < 0)) || (decide (7 < x1)))) rfl (by rw [h12]; simp only [Bool.false_or]) ?_
 exact az [0,24,1]
 refine qc (os := _) rfl ?_
 refine au [3] ?_
 refine qR 4 ((decide (x1 < 0)) || (decide (7 < x1))) [(1, .pointer (some ⟨g4, 0, none⟩)), (15, .bool (((decide (x1 < 0)) || (decide (7 < x1))) || (decide (x2 < 0))))] (fun h13 => ?_) (fun h13 => ?_) ?_
 refine qc (os := _) rfl (qI (k := 11) rfl h13 ?_)
 refine au [8,8,8,24,7] ?_
 refine qd (d := 15) (v := .bool (((decide (x1 < 0)) || (decide (7 < x1))) || (decide (x2 < 0)))) rfl (by rw [h13]; simp only [Bool.true_or]) ?_
 exact az [0,24,1]
 refine qc (os := _) rfl (qH (k := 11) rfl h13 ?_)
 refine au [13,21,24,0,24,8] ?_
 refine qd (d := 15) (v := .bool (((decide (x1 < 0)) || (decide (7 < x1))) || (decide (x2 < 0)))) rfl (by rw [h13]; simp only [Bool.false_or]) ?_
 exact az [0,24,1]
 refine qc (os := _) rfl ?_
 refine au [3] ?_
 refine qR 4 (((decide (x1 < 0)) || (decide (7 < x1))) || (decide (x2 < 0))) [(1, .pointer (some ⟨g4, 0, none⟩)), (20, .bool ((((decide (x1 < 0)) || (decide (7 < x1))) || (decide (x2 < 0))) || ((x2 : Int) == 1)))] (fun h14 => ?_) (fun h14 => ?_) ?_
 refine qc (os := _) rfl (qI (k := 16) rfl h14 ?_)
 refine au [8,8,8,24,7] ?_
 refine qd (d := 20) (v := .bool ((((decide (x1 < 0)) || (decide (7 < x1))) || (decide (x2 < 0))) || ((x2 : Int) == 1))) rfl (by rw [h14]; simp only [Bool.true_or]) ?_
 exact az [0,24,1]
 refine qc (os := _) rfl (qH (k := 16) rfl h14 ?_)
 refine au [13,21,25,5,24,8] ?_
 refine qd (d := 20) (v := .bool ((((decide (x1 < 0)) || (decide (7 < x1))) || (decide (x2 < 0))) || ((x2 : Int) == 1))) rfl (by rw [h14]; simp only [Bool.false_or]) ?_
 exact az [0,24,1]
 refine qc (os := _) rfl ?_
 refine au [3] ?_
 refine qR 4 ((((decide (x1 < 0)) || (decide (7 < x1))) || (decide (x2 < 0))) || ((x2 : Int) == 1)) [(1, .pointer (some ⟨g4, 0, none⟩)), (25, .bool (((((decide (x1 < 0)) || (decide (7 < x1))) || (decide (x2 < 0))) || ((x2 : Int) == 1)) || (decide (300 < x2))))] (fun h15 => ?_) (fun h15 => ?_) ?_
 refine qc (os := _) rfl (qI (k := 21) rfl h15 ?_)
 refine au [8,8,8,24,7] ?_
 refine qd (d := 25) (v := .bool (((((decide (x1 < 0)) || (decide (7 < x1))) || (decide (x2 < 0))) || ((x2 : Int) == 1)) || (decide (300 < x2)))) rfl (by rw [h15]; simp only [Bool.true_or]) ?_
 exact az [0,24,1]
 refine qc (os := _) rfl (qH (k := 21) rfl h15 ?_)
 refine au [13,21,24,11,24,8] ?_
 refine qd (d := 25) (v := .bool (((((decide (x1 < 0)) || (decide (7 < x1))) || (decide (x2 < 0))) || ((x2 : Int) == 1)) || (decide (300 < x2)))) rfl (by rw [h15]; simp only [Bool.false_or]) ?_
 exact az [0,24,1]
 refine qc (os := _) rfl ?_
 refine au [3] ?_
 refine qR 4 (((((decide (x1 < 0)) || (decide (7 < x1))) || (decide (x2 < 0))) || ((x2 : Int) == 1)) || (decide (300 < x2))) [(1, .pointer (some ⟨g4, 0, none⟩)), (30, .bool ((((((decide (x1 < 0)) || (decide (7 < x1))) || (decide (x2 < 0))) || ((x2 : Int) == 1)) || (decide (300 < x2))) || (decide (x3 < 1))))] (fun h16 => ?_) (fun h16 => ?_) ?_
 refine qc (os := _) rfl (qI (k := 26) rfl h16 ?_)
 refine au [8,8,8,24,7] ?_
 refine qd (d := 30) (v := .bool ((((((decide (x1 < 0)) || (decide (7 < x1))) || (decide (x2 < 0))) || ((x2 : Int) == 1)) || (decide (300 < x2))) || (decide (x3 < 1)))) rfl (by rw [h16]; simp only [Bool.true_or]) ?_
 exact az [0,24,1]
 refine qc (os := _) rfl (qH (k := 26) rfl h16 ?_)
 refine au [13,21,24,0,24,8] ?_
 refine qd (d := 30) (v := .bool ((((((decide (x1 < 0)) || (decide (7 < x1))) || (decide (x2 < 0))) || ((x2 : Int) == 1)) || (decide (300 < x2))) || (decide (x3 < 1)))) rfl (by rw [h16]; simp only [Bool.false_or]) ?_
 exact az [0,24,1]
 refine qc (os := _) rfl ?_
 refine au [3] ?_
 refine qR 4 ((((((decide (x1 < 0)) || (decide (7 < x1))) || (decide (x2 < 0))) || ((x2 : Int) == 1)) || (decide (300 < x2))) || (decide (x3 < 1))) [(35, .bool (((((((decide (x1 < 0)) || (decide (7 < x1))) || (decide (x2 < 0))) || ((x2 : Int) == 1)) || (decide (300 < x2))) || (decide (x3 < 1))) || (decide (16 < x3))))] (fun h17 => ?_) (fun h17 => ?_) ?_
 refine qc (os := _) rfl (qI (k := 31) rfl h17 ?_)
 refine au [8,8,8,24,7] ?_
 refine qd (d := 35) (v := .bool (((((((decide (x1 < 0)) || (decide (7 < x1))) || (decide (x2 < 0))) || ((x2 : Int) == 1)) || (decide (300 < x2))) || (decide (x3 < 1))) || (decide (16 < x3)))) rfl (by rw [h17]; simp only [Bool.true_or]) ?_
 exact az [0,24,1]
 refine qc (os := _) rfl (qH (k := 31) rfl h17 ?_)
 refine au [13,21,24,11,24,8] ?_
 refine qd (d := 35) (v := .bool (((((((decide (x1 < 0)) || (decide (7 < x1))) || (decide (x2 < 0))) || ((x2 : Int) == 1)) || (decide (300 < x2))) || (decide (x3 < 1))) || (decide (16 < x3)))) rfl (by rw [h17]; simp only [Bool.false_or]) ?_
 exact az [0,24,1]
 refine qc (os := _) rfl ?_
 refine av [0,1,10] ?_ ?_
 intro _
 exact az [2,4,5,0,1,9,11,15]
 intro _
 exact az [12,1,2,4,5,0,1,9,15]
theorem qaT {F : Nat} {x1 : List Int} {a2 : Option Addr} {c3 : Nat} {r : List Int} (hm : kf F x1 = some r) :
    Pure Tryz.prog 44 [.slice a2 x1.length c3] [Sl (eI .u8) 1 (.slice a2 x1.length c3) x1] (Option Addr × Nat) (fun g => .slice g.1 r.length g.2) (fun g => [Ro (eI .u8) 5 1 (.slice g.1 r.length g.2) r]) (fun _ => []) := by
 refine qh Tryz.func44 rfl Tryz.ntmps44 rfl hm (fun w => ?_)
 refine av [25,2,2,4,5,0,1,2,2,4,3,30,1,0,1,30,2] ?_ ?_
 intro h11
 refine qg7 0 (qz .u8) (by decide) rfl h11 (fun h12 => ?_)
 subst h12
 refine qB (m' := some ([] : List Int)) rfl ?_
 refine au [2,4,5,0,1,9,11,26,5] ?_
 exact qt (none, 0)
 intro _
 refine au [12,1,2,4] ?_
 refine qV (vs := []) (ys := ([] : List Int)) (qz .u8) (by decide) rfl UnF.u inferInstance rfl rfl rfl rfl rfl (by decide) ?_
 intro a6 c7
 refine au [3] ?_
 refine zW 0 (qz .u8) rfl UnF.u inferInstance rfl rfl rfl rfl rfl (.inr ⟨0, rfl⟩) rfl rfl ?_
 intro x8 e8 a9 c10
 refine au [5,0,1,9] ?_
 exact qt (a9, c10)
theorem qhi {F : Nat} {x1 : Int} {x2 : List Int} {a3 : Option Addr} {c4 : Nat} {r : (Int × List Int)} (hm : qav F x1 x2 = some r) :
    PureM Tryz.prog 31 [.agg #[.int .i64 x1, .slice a3 x2.length c4]] [] [] [Sl (eI .u8) 1 (.slice a3 x2.length c4) x2] ((Option Addr × Nat) × Nat) (fun g => .pointer (some ⟨g.2, 0, none⟩)) (fun g => [⟨g.2, 85, [.int .i64 r.1, .slice g.1.1 r.2.length g.1.2]⟩]) (fun g => [Ro (eI .u8) 5 1 (.slice g.1.1 r.2.length g.1.2) r.2]) := by
 refine zS Tryz.func31 rfl Tryz.ntmps31 rfl hm (fun w => ?_)
 refine au [25,2,2,4,24,2] ?_
 intro g5
 refine au [5,0,1,2] ?_
 refine qr mixed [] [⟨g5, 33, [.int .i64 x1, .slice a3 x2.length c4]⟩] [Sl (eI .u8) 1 (.slice a3 x2.length c4) x2] (.cons 0 rfl .nil) (qy 0 rfl qn) 9 rfl ?_
 refine au [19,0,25,4,1,19,2,25,4,3,20,4] ?_
 refine qg qaT ?_
 rintro x10 e10 ⟨a11, c12⟩
 refine au [0,28,9] ?_
 refine qj 5 (.agg #[.int .i64 x1, .slice a11 x10.length c12]) rfl rfl rfl (qet (cells := [.int .i64 x1, .slice a11 x10.length c12]) st33 rfl (by kernel_rfl)) (qj 6 (.agg #[.int .i64 x1, .slice a11 x10.length c12]) rfl rfl rfl (qet (cells := [.int .i64 x1, .slice a11 x10.length c12]) st85 rfl (by kernel_rfl)) ?_)
 refine au [20,7,24,2] ?_
 intro g13
 refine au [0] ?_
 refine zG (.cons 1 rfl .nil) (qy 0 rfl qn) ?_
 refine au [6,8,24,3] ?_
 refine qv ?_ (by intro c h; cases h)
 refine au [1,9] ?_
 exact zu ((a11, c12), g13)
theorem qeA {F : Nat} {x1 : Int} {x2 : List Int} {a3 : Option Addr} {c4 : Nat} {x5 : Int} {x6 : Int} {r : Unit} (hm : qaY F x1 x2 x5 x6 = some r) :
    PureM Tryz.prog 32 [.agg #[.int .i64 x1, .slice a3 x2.length c4], .int .i64 x5, .int .i64 x6] [] [] [Sl (eI .u8) 1 (.slice a3 x2.length c4) x2] (Nat × Nat × Nat) (fun g => .func (.func 45) #[] #[.pointer (some ⟨g.1, 0, none⟩), .pointer (some ⟨g.2.1, 0, none⟩), .pointer (some ⟨g.2.2, 0, none⟩)]) (fun g => [⟨g.1, 3, [.int .i64 x5]⟩, ⟨g.2.1, 3, [.int .i64 x6]⟩, ⟨g.2.2, 33, [.int .i64 x1, .slice a3 x2.length c4]⟩]) (fun _ => []) := by
 refine zS Tryz.func32 rfl Tryz.ntmps32 rfl hm (fun w => ?_)
 refine au [25,12,2,4,24,2] ?_
 intro g7
 refine au [24,2] ?_
 intro g8
 refine au [24,2] ?_
 intro g9
 refine au [5,0,1,2,4,28,10,5,0,1,9] ?_
 exact zu (g8, g9, g7)
set_option maxHeartbeats 4000000 in
theorem qct {F : Nat} {g1 : Nat} {x2 : Int} {x3 : List Int} {a4 : Option Addr} {c5 : Nat} {x6 : Int} {r : (Int × List Int)} (hm : ye F x2 x3 x6 = some r) :
    PureM Tryz.prog 33 [.pointer (some ⟨g1, 0, none⟩), .int .u64 x6] [⟨g1, 85, [.int .i64 x2, .slice a4 x3.length c5]⟩] [Ro (eI .u8) 5 1 (.slice a4 x3.length c5) x3] [] (Option Addr × Nat) (fun _ => .tuple #[]) (fun g => [⟨g1, 85, [.int .i64 r.1, .slice g.1 r.2.length g.2]⟩]) (fun g => [Ro (eI .u8) 5 1 (.slice g.1 r.2.length g.2) r.2]) := by
 refine zS Tryz.func33 rfl Tryz.ntmps33 rfl hm (fun w => ?_)
 refine au [24,12] ?_
 refine qf (fun ((x15, (a13, c14)) : (List Int × (Option Addr × Nat))) => ([(0, .pointer (some ⟨g1, 0, none⟩)), (1, .int .u64 x6)], [⟨g1, 85, [.int .i64 x2, .slice a13 x15.length c14]⟩], [Ro (eI .u8) 5 1 (.slice a13 x15.length c14) x15], [], kh F x2 x6 x15)) ?_ ?_
 refine av [2,4,3,24,14,13,13,21,28,11,25,5,0,1,10] ?_ ?_
 intro _
 refine au [4,3,3,24,14,13,13,21] ?_
 refine qV (vs := [.int .u8 0]) (ys := ([0] : List Int)) (qz .u8) (by decide) rfl Tryz.underlying31 tf5 rfl rfl rfl rfl rfl (by decide) (fun a44 c45 => zW 1 (qz .u8) rfl Tryz.underlying31 tf5 rfl rfl rfl rfl rfl (.inl ⟨0, _, rfl⟩) rfl rfl (fun x46 e46 a47 c48 => ?_))
 refine au [24,14,13,13,24,4,0] ?_
 exact qa (x46, (a47, c48))
 intro _
 refine au [12] ?_
 exact qa (x3, (a4, c5))
 rintro ⟨x15, ⟨a13, c14⟩⟩
 try dsimp only
 refine au [2,28,12] ?_
 intro x30 e30 g31 h32
 replace h32 : a13 = some ⟨g31, 0, none⟩ := h32
 have h33 := qde (k := x15.length) (c := c14) h32
 refine au [27,5] ?_
 intro h34
 refine au [28,12] ?_
 intro x36 e36 g37 h38
 replace h38 : a13 = some ⟨g37, 0, none⟩ := h38
 have h39 := qde (k := x15.length) (c := c14) h38
 refine qr mixed [25] [⟨g1, 85, [.int .i64 x2, .slice a13 x15.length c14]⟩] [qs g31 ((iquo .i64 x2 8).toNat * 1) ((eI .u8) x30), qs g37 ((iquo .i64 x2 8).toNat * 1) ((eI .u8) x36)] (.cons 0 rfl .nil) (qj6 0 rfl (qdQ (qz .u8) e30 h32) (qj6 0 rfl (qdQ (qz .u8) e36 h38) qn)) 26 rfl ?_
 refine au [6,0,6,1,19,2,19,3,25,4,4,6,5,6,6,19,7,19,8,25,4,9] ?_
 refine qj 10 (.int .i64 (iquo .i64 x2 8)) rfl rfl rfl (qnC rfl rfl rfl) (qe (d := 26) (v := .slice (some ⟨g31, 0, none⟩) x15.length c14) rfl (by rw [h32] <;> rfl) (qj 11 (.pointer (some ⟨g31, (iquo .i64 x2 8).toNat * 1, none⟩)) rfl rfl rfl (qdI Tryz.underlying31 tf5 rfl rfl (qN e30).1 (yT e30)) (qe (d := 26) (v := .slice a13 x15.length c14) rfl (by rw [h32] <;> rfl) (qU 12 (.int .u8 x30) [[25]] rfl rfl rfl (kp (j := 0) rfl tf5 rfl rfl (fun _ => rfl) rfl) ?_))))
 refine au [6,13] ?_
 refine qj 14 (.int .u64 (ishl .u64 x6 7)) rfl rfl rfl (qdo rfl rfl rfl) ?_
 refine au [30,3,15,6,16,6,17,19,18,19,19,25,4,20] ?_
 refine qj 21 (.int .i64 (irem x2 8)) rfl rfl rfl (qgi rfl rfl rfl) (qj 22 (.int .u8 (ishr .u8 (iconv .u8 (ishl .u64 x6 7)) (irem x2 8))) rfl rfl rfl (qnD rfl rfl h34) ?_)
 refine au [6,23] ?_
 refine qe (d := 26) (v := .slice (some ⟨g37, 0, none⟩) x15.length c14) rfl (by rw [h38] <;> rfl) (qj 24 (.pointer (some ⟨g37, (iquo .i64 x2 8).toNat * 1, none⟩)) rfl rfl rfl (qdI Tryz.underlying31 tf5 rfl rfl (qN e36).1 (yT e36)) (qe (d := 26) (v := .slice a13 x15.length c14) rfl (by rw [h38] <;> rfl) ?_))
 refine au [20,25] ?_
 refine qbv (j := 0) (y' := ior .u8 x30 (ishr .u8 (iconv .u8 (ishl .u64 x6 7)) (irem x2 8))) (qz .u8) rfl rfl rfl tf5 rfl (qde h38) (qN e36).2.1 rfl (fun x41 e41 h42 => ?_)
 have h43 : x41.length = x15.length := by rw [← e41, List.length_set]
 refine qd (d := 26) (v := .slice a13 x41.length c14) rfl h42 (qcY (i := 0) (cs' := [.int .i64 x2, .slice a13 x41.length c14]) rfl (by rw [h42] <;> rfl) ?_)
 refine au [0] ?_
 refine qaI 25 rfl (by kernel_rfl) (.cons 0 (by rw [h43]; rfl) .nil) ?_
 refine au [24,3] ?_
 refine qv ?_ (by intro c h; cases h)
 refine au [1,4,3,24,14,13,13,21,16,24,14,13,13,24,4,0] ?_
 exact zu (a13, c14)
theorem qi2 {F : Nat} {x1 : Int} {x2 : List Int} {a3 : Option Addr} {c4 : Nat} {x5 : Int} {r : Int} (hm : vS F x1 x2 x5 = some r) :
    Pure Tryz.prog 41 [.agg #[.int .i64 x1, .slice a3 x2.length c4], .int .i64 x5] [Sl (eI .u8) 1 (.slice a3 x2.length c4) x2] Unit (fun _ => .int .u64 r) (fun _ => []) (fun _ => []) := by
 refine qh Tryz.func41 rfl Tryz.ntmps41 rfl hm (fun w => ?_)
 refine au [24,12,2,4,24,2] ?_
 intro g6
 refine au [5,0,1,2,4,13,21,3,28,1] ?_
 refine jR (j := 0) (qz .u8) (by decide) rfl UnF.u inferInstance rfl rfl rfl rfl ?_
 intro x7 e7 b8 o9
 refine au [25,9,3,28,11,24,13,26,6] ?_
 intro h10
 refine qf9 rfl rfl rfl rfl h10 ?_
 refine au [25,1,28,2,5,26,1] ?_
 intro x11 e11
 refine qd (d := 4) (v := .int .u64 x11) rfl (by rw [e11] <;> rfl) ?_
 exact az [0,1,9,15]
theorem qdx (F : Nat) {σ τ : Type} {J : Rounds σ τ} {yy : σ → Int → Option (σ ⊕ τ)} {L : Nat} (hY : YieldC Tryz.prog L (fun (p : Int) => [.int .u64 p]) J yy) (s0 : σ) (gs0 : J.γ) (g1 : Nat) (x2 : Int) (g3 : Nat) (x4 : Int) (g5 : Nat) (x6 : Int) (x7 : List Int) (a8 : Option Addr) (c9 : Nat) (r : σ ⊕ τ) (hm : qaf F yy x2 x4 x6 x7 s0 = some r) :
    PureM Tryz.prog 45 ([.func (.yield L) #[] #[], .pointer (some ⟨g1, 0, none⟩), .pointer (some ⟨g3, 0, none⟩), .pointer (some ⟨g5, 0, none⟩)]) ([⟨g1, 3, [.int .i64 x2]⟩, ⟨g3, 3, [.int .i64 x4]⟩, ⟨g5, 33, [.int .i64 x6, .slice a8 x7.length c9]⟩] ++ J.IB s0 gs0) (J.IR s0 gs0) [J.F, Sl (eI .u8) 1 (.slice a8 x7.length c9) x7] (J.G r) (fun _ => .tuple #[]) (fun g => [⟨g1, 3, [.int .i64 x2]⟩, ⟨g3, 3, [.int .i64 x4]⟩, ⟨g5, 33, [.int .i64 x6, .slice a8 x7.length c9]⟩] ++ J.bs r g) (fun g => J.rs r g) := by
 refine zS Tryz.func45 rfl Tryz.ntmps45 rfl hm (fun w => ?_)
 refine au [27,1,2,4,21,5,0,1,14] ?_
 refine qbX (fun (((x22, x23), g24) : ((Int × σ) × J.γ)) => [(0, .func (.yield L) #[] #[]), (2, .pointer (some ⟨g3, 0, none⟩)), (3, .pointer (some ⟨g5, 0, none⟩)), (5, .int .i64 x22)]) (fun (((x22, x23), g24) : ((Int × σ) × J.γ)) => [⟨g1, 3, [.int .i64 x2]⟩, ⟨g3, 3, [.int .i64 x4]⟩, ⟨g5, 33, [.int .i64 x6, .slice a8 x7.length c9]⟩] ++ J.IB x23 g24) (fun (((x22, x23), g24) : ((Int × σ) × J.γ)) => [] ++ J.IR x23 g24) (fun (((x22, x23), g24) : ((Int × σ) × J.γ)) => [Sl (eI .u8) 1 (.slice a8 x7.length c9) x7, J.F]) (fun k (s : ((Int × σ) × J.γ)) => zn F yy x4 x6 x7 k s.1) ((x2, s0), gs0) F ?_ (hB := (.cons 0 rfl (.cons 0 rfl (.cons 0 rfl (qK 0 rfl))))) (hR := (qK 0 rfl)) (hF := (qx 1 rfl (qx 0 rfl vY)))
 intro k37
 rintro ⟨⟨x22, x23⟩, g24⟩
 try dsimp only
 refine qB (m' := yL F yy x4 x6 x7 (zn F yy x4 x6 x7 k37) x22 x23) rfl ?_
 refine av [2,2,4,3,25,11,24,0,0,1,10] ?_ ?_
 intro _
 refine au [12,1,2,14,2,4,3,26,2,3,27,12] ?_
 intro x44 e44 _
 refine qfj hY x23 x44 g24 (B1 := [⟨g1, 3, [.int .i64 x2]⟩, ⟨g3, 3, [.int .i64 x4]⟩, ⟨g5, 33, [.int .i64 x6, .slice a8 x7.length c9]⟩]) (R1 := []) (j := 1) rfl rfl rfl rfl rfl rfl rfl (fun x45 _ g47 => ?_) (fun x46 _ g47 => ?_)
 refine au [25,3,0,1] ?_
 refine qae (b := false) rfl (fun h => by cases h) (fun _ => ?_)
 refine au [12,24,5,1,4,3,16,5,0] ?_
 exact qbw ((iadd .i64 x22 1, x45), g47) (hB := (.cons 0 rfl (.cons 0 rfl (.cons 0 rfl (qK 0 rfl))))) (hR := (qK 0 rfl)) (hF := (qx 0 rfl (qx 1 rfl vY)))
 refine au [25,3,0,1] ?_
 refine qae (b := true) rfl (fun _ => ?_) (fun h => by cases h)
 refine au [9,22,11,11,22] ?_
 exact qbZ (B0 := [⟨g1, 3, [.int .i64 x2]⟩, ⟨g3, 3, [.int .i64 x4]⟩, ⟨g5, 33, [.int .i64 x6, .slice a8 x7.length c9]⟩]) (x := .inr x46) g47 (.inl rfl) (res0 rfl) (.cons 0 rfl (.cons 0 rfl (.cons 0 rfl (qK 0 rfl)))) (qK 0 rfl)
 intro _
 refine au [24,9,18,18,24,10] ?_
 exact qbZ (B0 := [⟨g1, 3, [.int .i64 x2]⟩, ⟨g3, 3, [.int .i64 x4]⟩, ⟨g5, 33, [.int .i64 x6, .slice a8 x7.length c9]⟩]) (x := .inl x23) g24 (.inr rfl) (res0 rfl) (.cons 0 rfl (.cons 0 rfl (.cons 0 rfl (qK 0 rfl)))) (qK 0 rfl)
set_option maxHeartbeats 4000000 in
theorem qgk {F : Nat} {x1 : Int} {x2 : List Int} {a3 : Option Addr} {c4 : Nat} {x5 : Int} {x6 : List Int} {a7 : Option Addr} {c8 : Nat} {r : (Int × List Int)} (hm : yG F x1 x2 x5 x6 = some r) :
    PureM Tryz.prog 27 [.agg #[.int .i64 x1, .slice a3 x2.length c4], .agg #[.int .i64 x5, .slice a7 x6.length c8]] [] [] [Sl (eI .u8) 1 (.slice a3 x2.length c4) x2, Sl (eI .u8) 1 (.slice a7 x6.length c8) x6] (Option Addr × Nat) (fun g => .agg #[.int .i64 r.1, .slice g.1 r.2.length g.2]) (fun _ => []) (fun g => [Ro (eI .u8) 5 1 (.slice g.1 r.2.length g.2) r.2]) := by
 refine qgW Tryz.func27 rfl Tryz.ntmps27 rfl hm (fun w => ?_)
 refine au [24,12,2,4,24,2] ?_
 intro g9
 refine au [24,2] ?_
 intro g10
 refine au [24,6] ?_
 intro g11
 refine au [0,1,2,4,26,2,30,4] ?_
 rintro x12 e12 ⟨⟨a13, c14⟩, g15⟩
 refine au [24,6] ?_
 intro g16
 refine au [24,4,0,1,2,2,4] ?_
 refine yE (i := 3) rfl rfl inferInstance rfl rfl (by simp) rfl rfl ?_
 refine au [13,27,13] ?_
 refine q8 qeA ?_
 rintro x37 e37 ⟨g38, g39, g40⟩
 refine au [0,1,14] ?_
 refine qff (encs := (fun (p : Int) => [.int .u64 p])) (y := (fun ((x45, x48) : (Int × List Int)) (x53 : Int) => vJ F x45 x48 x53)) (lb := [.pointer (some ⟨g38, 0, none⟩), .pointer (some ⟨g39, 0, none⟩), .pointer (some ⟨g40, 0, none⟩)]) (fun ((x45, x48) : (Int × List Int)) ((a46, c47) : (Option Addr × Nat)) => [⟨g16, 79, [.pointer (some ⟨g15, 0, none⟩)]⟩, ⟨g15, 85, [.int .i64 x45, .slice a46 x48.length c47]⟩, ⟨g11, 33, [.int .i64 0, .slice none 0 0]⟩, ⟨g10, 33, [.int .i64 x5, .slice a7 x6.length c8]⟩, ⟨g9, 33, [.int .i64 x1, .slice a3 x2.length c4]⟩]) (fun ((x45, x48) : (Int × List Int)) ((a46, c47) : (Option Addr × Nat)) => [Ro (eI .u8) 5 1 (.slice a46 x48.length c47) x48]) (fun (_ : Empty) (_ : Unit) => []) (fun (_ : Empty) (_ : Unit) => []) (fun _ => .skip) (x12.1, x12.2) (a13, c14) rfl ent45 (fun _ => rfl) rfl (.cons 0 rfl (.cons 0 rfl (.cons 0 rfl .nil))) (.cons 0 rfl (.cons 0 rfl (.cons 0 rfl (.cons 0 rfl (.cons 0 rfl .nil))))) (.cons 0 rfl .nil) (.consF 1 rfl .nil) (fun z hz _ _ _ hY => qdx F hY (x12.1, x12.2) (a13, c14) g38 0 g39 x5 g40 x5 x6 a7 c8 z hz) ?_ ?_ ?_
 rintro rc1 L1 D1 ⟨x45, x48⟩ ⟨a46, c47⟩ x53 z w M _
 try dsimp only
 refine qg6 [(0, .agg #[.int .i64 x1, .slice a3 x2.length c4]), (1, .agg #[.int .i64 x5, .slice a7 x6.length c8]), (2, .pointer (some ⟨g9, 0, none⟩)), (3, .pointer (some ⟨g10, 0, none⟩)), (4, .pointer (some ⟨g11, 0, none⟩)), (5, .pointer (some ⟨g16, 0, none⟩)), (7, .agg #[.int .i64 x1, .slice a3 x2.length c4]), (8, .pointer (some ⟨g15, 0, none⟩)), (9, .agg #[.int .i64 x5, .slice a7 x6.length c8]), (10, .pointer (some ⟨g10, 0, none⟩)), (11, .int .i64 x5), (12, .func (.func 45) #[] #[.pointer (some ⟨g38, 0, none⟩), .pointer (some ⟨g39, 0, none⟩), .pointer (some ⟨g40, 0, none⟩)]), (13, .int .u64 x53)] (zB rfl (zB rfl (zB rfl (zB rfl (zB rfl (zB rfl (zB rfl (zB rfl (zB rfl (zB rfl (zB rfl (zB rfl (zB rfl qdc))))))))))))) ?_
 refine au [4,5,0] ?_
 refine qfk (i := 5) rfl ?_
 refine au [14,4,21,3,30,5] ?_
 rintro x54 e54 ⟨a55, c56⟩
 refine au [0,24,5] ?_
 exact qdm (rc := rc1) rfl (.cons 5 rfl .nil) rfl (a55, c56) (.cons 2 rfl (.cons 1 rfl (.cons 1 rfl (.cons 1 rfl (.cons 1 rfl (.cons 0 rfl (.cons 0 rfl .nil))))))) (.cons 0 rfl .nil)
 rintro ⟨x45, x48⟩ _ ⟨a46, c47⟩ D1
 try dsimp only
 refine au [24,5,1,2,4] ?_
 refine yE (i := 4) rfl rfl inferInstance rfl rfl (fun _ => rfl) rfl rfl ?_
 refine au [24,14,13] ?_
 refine yE (i := 5) rfl rfl inferInstance rfl rfl (by simp) rfl rfl (vO (i := 6) rfl rfl rfl inferInstance rfl rfl rfl rfl rfl ?_)
 refine au [0,1,9] ?_
 exact qfl [D1] (a46, c47) (.inl rfl) rfl (.cons 0 rfl .nil) (resL (rs := [.cell 4 33]) rfl (.cell (i := 5) rfl tf33 rfl rfl (by simp) rfl ResOk.nil) rfl) (fun h => by subst h; rfl) (fun h => by subst h; exact .nil) (fun h => by subst h; exact (.cons 0 rfl .nil))
 intro t; exact t.elim
set_option maxHeartbeats 4000000 in
theorem qcy {F : Nat} {x1 : Int} {r : Int} (hm : kr F x1 = some r) :
    Pure Tryz.prog 87 [.int .u64 x1] [] Unit (fun _ => .int .i64 r) (fun _ => []) (fun _ => []) := by
 refine qh Tryz.func87 rfl Tryz.ntmps87 rfl hm (fun w => ?_)
 refine au [25,2,2,4,5,0,1] ?_
 refine qf (fun (((x3, x4), _) : ((Int × Int) × Unit)) => ([(0, .int .u64 x3), (2, .int .i64 x4)], [], [], [], kj F x3 x4)) ?_ ?_
 refine av [2,4,3,25,13,0,1,10] ?_ ?_
 intro _
 refine au [2,4,3,27,6,5,0,1,4,5,0] ?_
 exact qa ((ishr .u64 x1 32, (32 : Int)), ())
 intro _
 refine au [12] ?_
 exact qa ((x1, (0 : Int)), ())
 rintro ⟨⟨x3, x4⟩, _⟩
 try dsimp only
 refine qf (fun (((x6, x7), _) : ((Int × Int) × Unit)) => ([(0, .int .u64 x6), (2, .int .i64 x7)], [], [], [], km F x6 x7)) ?_ ?_
 refine av [2,4,3,25,13,0,1,10] ?_ ?_
 intro _
 refine au [2,4,3,27,6,5,0,1,4,3,16,5,0] ?_
 exact qa ((ishr .u64 x3 16, iadd .i64 x4 16), ())
 intro _
 refine au [12] ?_
 exact qa ((x3, x4), ())
 rintro ⟨⟨x6, x7⟩, _⟩
 try dsimp only
 refine qf (fun (((x9, x10), _) : ((Int × Int) × Unit)) => ([(0, .int .u64 x9), (2, .int .i64 x10)], [], [], [], kn F x9 x10)) ?_ ?_
 refine av [2,4,3,25,13,0,1,10] ?_ ?_
 intro _
 refine au [2,4,3,27,6,5,0,1,4,3,16,5,0] ?_
 exact qa ((ishr .u64 x6 8, iadd .i64 x7 8), ())
 intro _
 refine au [12] ?_
 exact qa ((x6, x7), ())
 rintro ⟨⟨x9, x10⟩, _⟩
 try dsimp only
 refine au [2,4,3,3,25,1] ?_
 refine qhT (xs := ([0, 1, 2, 2, 3, 3, 3, 3, 4, 4, 4, 4, 4, 4, 4, 4, 5, 5, 5, 5, 5, 5, 5, 5, 5, 5, 5, 5, 5, 5, 5, 5, 6, 6, 6, 6, 6, 6, 6, 6, 6, 6, 6, 6, 6, 6, 6, 6, 6, 6, 6, 6, 6, 6, 6, 6, 6, 6, 6, 6, 6, 6, 6, 6, 7, 7, 7, 7, 7, 7, 7, 7, 7, 7, 7, 7, 7, 7, 7, 7, 7, 7, 7, 7, 7, 7, 7, 7, 7, 7, 7, 7, 7, 7, 7, 7, 7, 7, 7, 7, 7, 7, 7, 7, 7, 7, 7, 7, 7, 7, 7, 7, 7, 7, 7, 7, 7, 7, 7, 7, 7, 7, 7, 7, 7, 7, 7, 7, 8, 8, 8, 8, 8, 8, 8, 8, 8, 8, 8, 8, 8, 8, 8, 8, 8, 8, 8, 8, 8, 8, 8, 8, 8, 8, 8, 8, 8, 8, 8, 8, 8, 8, 8, 8, 8, 8, 8, 8, 8, 8, 8, 8, 8, 8, 8, 8, 8, 8, 8, 8, 8, 8, 8, 8, 8, 8, 8, 8, 8, 8, 8, 8, 8, 8, 8, 8, 8, 8, 8, 8, 8, 8, 8, 8, 8, 8, 8, 8, 8, 8, 8, 8, 8, 8, 8, 8, 8, 8, 8, 8, 8, 8, 8, 8, 8, 8, 8, 8, 8, 8, 8, 8, 8, 8, 8, 8, 8, 8, 8, 8, 8, 8, 8, 8, 8, 8, 8, 8, 8, 8, 8, 8, 8, 8, 8, 8] : List Int)) rfl UnF.u rfl rfl (by kernel_rfl) rfl ?_
 intro x11 e11
 exact az [25,1,16,5,0,1,9,15]
theorem qft {F : Nat} {x1 : Int} {r : Int} (hm : qaj F x1 = some r) :
    Pure Tryz.prog 65 [.int .u64 x1] [] Unit (fun _ => .int .i64 r) (fun _ => []) (fun _ => []) := by
 refine qh Tryz.func65 rfl Tryz.ntmps65 rfl hm (fun w => ?_)
 refine au [25,2,2,4,5,0,1,2,4,3,16,28,13] ?_
 intro x2 e2 _
 exact az [24,13,5,0,1,9,15]
theorem qbD {F : Nat} {g1 : Nat} {x2 : Int} {x3 : List Int} {a4 : Option Addr} {c5 : Nat} {x6 : Int} {x7 : Int} {r : (Int × List Int)} (hm : yf F x2 x3 x6 x7 = some r) :
    PureM Tryz.prog 88 [.pointer (some ⟨g1, 0, none⟩), .int .u64 x6, .int .i64 x7] [⟨g1, 85, [.int .i64 x2, .slice a4 x3.length c5]⟩] [Ro (eI .u8) 5 1 (.slice a4 x3.length c5) x3] [] (Option Addr × Nat) (fun _ => .tuple #[]) (fun g => [⟨g1, 85, [.int .i64 r.1, .slice g.1 r.2.length g.2]⟩]) (fun g => [Ro (eI .u8) 5 1 (.slice g.1 r.2.length g.2) r.2]) := by
 refine zS Tryz.func88 rfl Tryz.ntmps88 rfl hm (fun w => ?_)
 refine au [25,12,2,4,3,24,13,5,0,1,14] ?_
 refine qo (fun (((x18, x19, x22), (a20, c21)) : ((Int × Int × List Int) × (Option Addr × Nat))) => ([(0, .pointer (some ⟨g1, 0, none⟩)), (1, .int .u64 x6), (6, .int .i64 x18)], [⟨g1, 85, [.int .i64 x19, .slice a20 x22.length c21]⟩], [Ro (eI .u8) 5 1 (.slice a20 x22.length c21) x22], [])) (fun k (s : ((Int × Int × List Int) × (Option Addr × Nat))) => zj F x6 k s.1) ((isub .i64 x7 1, x2, x3), (a4, c5)) F ?_
 intro k33
 rintro ⟨⟨x18, x19, x22⟩, ⟨a20, c21⟩⟩
 try dsimp only
 refine qB (m' := zi F x6 (zj F x6 k33) x18 x19 x22) rfl ?_
 refine av [2,2,4,3,25,13,0,1,10] ?_ ?_
 intro _
 refine au [12,1,2,14,4,3,3,3,26,6] ?_
 intro h39
 refine qf9 rfl rfl rfl rfl h39 ?_
 refine au [28,2,30,5] ?_
 rintro x40 e40 ⟨a41, c42⟩
 refine au [0,24,5,1,4,3,24,13,5,0] ?_
 exact qi ((isub .i64 x18 1, x40.1, x40.2), (a41, c42))
 intro _
 refine au [24,9,18,18,24,10] ?_
 exact zu (a20, c21)
theorem qhh {F : Nat} {x1 : Int} {x2 : List Int} {a3 : Option Addr} {c4 : Nat} {x5 : Int} {x6 : Int} {r : (Int × List Int)} (hm : vI F x1 x2 x5 x6 = some r) :
    Pure Tryz.prog 66 [.agg #[.int .i64 x1, .slice a3 x2.length c4], .int .u64 x5, .int .i64 x6] [Sl (eI .u8) 1 (.slice a3 x2.length c4) x2] (Option Addr × Nat) (fun g => .agg #[.int .i64 r.1, .slice g.1 r.2.length g.2]) (fun g => [Ro (eI .u8) 5 1 (.slice g.1 r.2.length g.2) r.2]) (fun _ => []) := by
 refine qh Tryz.func66 rfl Tryz.ntmps66 rfl hm (fun w => ?_)
 refine au [25,12,2,4,24,2] ?_
 intro g7
 refine au [24,6] ?_
 intro g8
 refine au [0,1,2,4,25,6,30,4] ?_
 rintro x9 e9 ⟨⟨a10, c11⟩, g12⟩
 refine au [5,0,1,2,4,3,3,3] ?_
 refine q8 qbD ?_
 rintro x13 e13 ⟨a14, c15⟩
 refine au [0,1,2,4,3,24,14,13,24,15,25,10,0,1,9] ?_
 exact za (a14, c15) (resL (rs := [.cell 6 33]) rfl (.cell (i := 1) rfl tf33 rfl rfl (by simp) rfl ResOk.nil) rfl) (fun h => by subst h; exact (.cons 0 rfl .nil))
theorem qgw {F : Nat} {x1 : Int} {r : (Int × List Int)} (hm : qac F x1 = some r) :
    Pure Tryz.prog 67 [.int .u64 x1] [] (Option Addr × Nat) (fun g => .agg #[.int .i64 r.1, .slice g.1 r.2.length g.2]) (fun g => [Ro (eI .u8) 5 1 (.slice g.1 r.2.length g.2) r.2]) (fun _ => []) := by
 refine qh Tryz.func67 rfl Tryz.ntmps67 rfl hm (fun w => ?_)
 refine au [25,2,2,4,24,6] ?_
 intro g2
 refine au [0,1,2,4,3,25,1,3,16,28,1] ?_
 refine qlg (qz .u8) rfl UnF.u inferInstance rfl rfl rfl rfl rfl rfl rfl ?_
 intro x3 e3 a4 c5
 refine qF (cells := [.int .i64 (iconv .i64 x1), .slice a4 x3.length c5]) rfl st33 rfl (by kernel_rfl) rfl ?_
 refine au [28,3] ?_
 rintro x6 e6 ⟨a7, c8⟩
 refine au [24,4,0,1,9] ?_
 exact za (a7, c8) (resL (rs := [.cell 2 33]) rfl (.cell (i := 0) rfl tf33 rfl rfl (by simp) rfl ResOk.nil) rfl) (fun h => by subst h; exact (.cons 0 rfl .nil))
theorem qgm {F : Nat} {x1 : Int} {x2 : Int} {r : Int} (hm : qaL F x1 x2 = some r) :
    Pure Tryz.prog 68 [.int .u64 x1, .int .i64 x2] [] Unit (fun _ => .int .u64 r) (fun _ => []) (fun _ => []) := by
 refine qh Tryz.func68 rfl Tryz.ntmps68 rfl hm (fun w => ?_)
 refine au [24,12,2,4,5,0,1,2,4,3,3,26,6] ?_
 intro h3
 refine qdF rfl rfl rfl rfl h3 ?_
 refine au [24,13,28,2,5,26,1] ?_
 intro x4 e4
 refine qd (d := 4) (v := .int .u64 x4) rfl (by rw [e4] <;> rfl) ?_
 exact az [0,1,9,15]
theorem qc4 {F : Nat} {x1 : Int} {r : (Int × List Int)} (hm : yx F x1 = some r) :
    Pure Tryz.prog 42 [.int .u64 x1] [] (Option Addr × Nat) (fun g => .agg #[.int .i64 r.1, .slice g.1 r.2.length g.2]) (fun g => [Ro (eI .u8) 5 1 (.slice g.1 r.2.length g.2) r.2]) (fun _ => []) := by
 refine qh Tryz.func42 rfl Tryz.ntmps42 rfl hm (fun w => ?_)
 refine au [25,2,2,4,24,6] ?_
 intro g2
 refine au [0,1,2,4,3] ?_
 refine qg qft ?_
 intro x3 e3 _
 refine au [5,0,1,2,4,3,25,1,30,6] ?_
 rintro x4 e4 ⟨a5, c6⟩
 refine au [3,16,3] ?_
 refine qg qgm ?_
 intro x7 e7 _
 refine au [3,28,3] ?_
 rintro x8 e8 ⟨a9, c10⟩
 refine au [24,4,0,1,9] ?_
 exact za (a9, c10) (resL (rs := [.cell 2 33]) rfl (.cell (i := 0) rfl tf33 rfl rfl (by simp) rfl ResOk.nil) rfl) (fun h => by subst h; exact (.cons 0 rfl .nil))
theorem qgo {F : Nat} {x1 : Int} {r : Bool} (hm : j9 F x1 = some r) :
    Pure Tryz.prog 56 [.int .i64 x1] [] Unit (fun _ => .bool r) (fun _ => []) (fun _ => []) := by
 refine qh Tryz.func56 rfl Tryz.ntmps56 rfl hm (fun w => ?_)
 refine au [25,2,2,4,5,0,1,2,4,3,25,13,3] ?_
 refine qR 3 (decide (0 ≤ x1)) [(8, .bool ((decide (0 ≤ x1)) && (decide (x1 ≤ 1048576))))] (fun h2 => ?_) (fun h2 => ?_) ?_
 refine qc (os := _) rfl (qI (k := 5) rfl h2 ?_)
 refine au [3,26,11,24,7] ?_
 refine qd (d := 8) (v := .bool ((decide (0 ≤ x1)) && (decide (x1 ≤ 1048576)))) rfl (by rw [h2]; simp only [Bool.true_and]) ?_
 exact az [0,24,1]
 refine qc (os := _) rfl (qH (k := 5) rfl h2 ?_)
 refine au [8,8,24,8] ?_
 refine qd (d := 8) (v := .bool ((decide (0 ≤ x1)) && (decide (x1 ≤ 1048576)))) rfl (by rw [h2]; simp only [Bool.false_and]) ?_
 exact az [0,24,1]
 refine qc (os := _) rfl ?_
 exact az [5,0,1,9,15]
set_option maxHeartbeats 4000000 in
theorem qfu {F : Nat} {x1 : List Int} {a2 : Option Addr} {c3 : Nat} {r : Int} (hm : yh F x1 = some r) :
    Pure Tryz.prog 39 [.slice a2 x1.length c3] [Sl (eI .i64) 1 (.slice a2 x1.length c3) x1] Unit (fun _ => .int .i64 r) (fun _ => []) (fun _ => []) := by
 refine qh Tryz.func39 rfl Tryz.ntmps39 rfl hm (fun w => ?_)
 refine av [25,2,2,4,5,0,1,2,2,4,3,23,24,11,0,1,10] ?_ ?_
 intro _
 exact az [2,4,5,0,1,9,11,15]
 intro _
 refine au [12,1,2,4,5,0,1] ?_
 refine qf (fun ((_, _) : (Unit × Unit)) => ([], [], [], [], qbz F)) ?_ ?_
 refine au [2,4,3,23,3,0,1,14] ?_
 refine qo (fun (((x88, x89), _) : ((Int × Int) × Unit)) => ([(3, .int .i64 x88), (9, .slice a2 x1.length c3), (10, .int .i64 (x1.length : Int)), (11, .int .i64 x89)], [], [], [Sl (eI .i64) 1 (.slice a2 x1.length c3) x1])) (fun k (s : ((Int × Int) × Unit)) => k6 F x1 k s.1) ((-1, 0), ()) F ?_
 intro k110
 rintro ⟨⟨x88, x89⟩, _⟩
 try dsimp only
 refine qB (m' := jh F x1 (k6 F x1 k110) x88 x89) rfl ?_
 refine av [2,4,24,0,0,1,2,10] ?_ ?_
 intro _
 refine au [12,1,2,14,2,4,26,4] ?_
 intro x121 e121 b122 o123
 refine au [25,9,5,0,1,2,14,2,4,3,30,7] ?_
 intro x127 e127 _
 refine av [25,3,5,0,1,10] ?_ ?_
 intro _
 exact az [2,4,5,0,1,9,22,11,22,11,11,22,11,15]
 intro _
 refine av [2,4,3,3,26,11,5,0,1,10] ?_ ?_
 intro _
 exact az [2,4,5,0,1,9,22,11,22,11,11,22,11,15]
 intro _
 refine au [12,24,5,1,4,3,5,0,24,5,1,4,16,3,0] ?_
 exact qi ((x121, iadd .i64 x89 1), ())
 intro _
 exact az [24,9,18,18,24,10,25,14]
 rintro ⟨_, _⟩
 try dsimp only
 exact az [2,4,5,0,1,9,15]
set_option maxHeartbeats 4000000 in
theorem qcz {F : Nat} {g1 : Nat} {x2 : Int} {x3 : List Int} {a4 : Option Addr} {c5 : Nat} {x6 : Bool} {x7 : Int} {x8 : List Int} {a9 : Option Addr} {c10 : Nat} {r : (Int × List Int × Bool)} (hm : kw F x2 x3 x6 x7 x8 = some r) :
    PureM Tryz.prog 64 [.pointer (some ⟨g1, 0, none⟩), .agg #[.int .i64 x7, .slice a9 x8.length c10]] [⟨g1, 94, [.int .i64 x2, .slice a4 x3.length c5, .bool x6]⟩] [Ro (eI .u8) 5 1 (.slice a4 x3.length c5) x3] [Sl (eI .u8) 1 (.slice a9 x8.length c10) x8] (Option Addr × Nat) (fun _ => .tuple #[]) (fun g => [⟨g1, 94, [.int .i64 r.1, .slice g.1 r.2.1.length g.2, .bool r.2.2]⟩]) (fun g => [Ro (eI .u8) 5 1 (.slice g.1 r.2.1.length g.2) r.2.1]) := by
 refine zS Tryz.func64 rfl Tryz.ntmps64 rfl hm (fun w => ?_)
 refine au [24,12,2,4,24,2] ?_
 intro g11
 refine au [0,1] ?_
 refine qf (fun ((x13, _) : (Bool × Unit)) => ([(0, .pointer (some ⟨g1, 0, none⟩)), (3, .pointer (some ⟨g11, 0, none⟩))], [⟨g11, 33, [.int .i64 x7, .slice a9 x8.length c10]⟩, ⟨g1, 94, [.int .i64 x2, .slice a4 x3.length c5, .bool x13]⟩], [Ro (eI .u8) 5 1 (.slice a4 x3.length c5) x3], [Sl (eI .u8) 1 (.slice a9 x8.length c10) x8], ko F x2 x3 x7 x8 x13)) ?_ ?_
 refine av [26,7] ?_ ?_
 intro h18
 refine qr mixed [18] [⟨g11, 33, [.int .i64 x7, .slice a9 x8.length c10]⟩] [Sl (eI .u8) 1 (.slice a9 x8.length c10) x8, (BlkD.is ⟨g1, 94, [.int .i64 x2, .slice a4 x3.length c5, .bool x6]⟩)] (.cons 0 rfl .nil) (qy 0 rfl (qeL 1 rfl qn)) 19 rfl ?_
 refine au [6,0,6,1,6,2,19,3] ?_
 refine qU 4 (.bool x6) [[18]] rfl rfl rfl (vP (j := 1) rfl tf4 rfl rfl (fun _ => rfl) rfl) ?_
 refine au [6,5] ?_
 refine qe (d := 9) (v := .bool true) rfl (by rw [h18] <;> rfl) ?_
 refine au [7,6,7,7,7,8,7,9,7,10,7,11,7,12,7,13,7,14,6,15,6,16,19,17,20,18,25,10,0,30,8,24,3] ?_
 exact qv (qa (true, ())) (by intro c h; cases h)
 intro h18
 refine qr mixed [18] [⟨g11, 33, [.int .i64 x7, .slice a9 x8.length c10]⟩] [Sl (eI .u8) 1 (.slice a9 x8.length c10) x8, (BlkD.is ⟨g1, 94, [.int .i64 x2, .slice a4 x3.length c5, .bool x6]⟩)] (.cons 0 rfl .nil) (qy 0 rfl (qeL 1 rfl qn)) 19 rfl ?_
 refine au [6,0,6,1,6,2,19,3] ?_
 refine qU 4 (.bool x6) [[18]] rfl rfl rfl (vP (j := 1) rfl tf4 rfl rfl (fun _ => rfl) rfl) ?_
 refine au [6,5] ?_
 refine qe (d := 9) (v := .bool false) rfl (by rw [h18] <;> rfl) ?_
 refine au [6,6,6,7,19,8,19,9] ?_
 refine qU 10 (.int .i64 x2) [[18]] rfl rfl rfl (vP (j := 1) rfl tf3 rfl rfl (fun _ => rfl) rfl) ?_
 refine au [19,11,25,4,12,6,13,6,14,6,15,6,16,19,17,20,18,25,10,0,30,8,24,3] ?_
 exact qv (qa ((decide (8192 < (iadd .i64 x2 x7))), ())) (by intro c h; cases h)
 rintro ⟨x13, _⟩
 try dsimp only
 refine av [2,4,3,24,14,13,25,11,25,3,0,1,10] ?_ ?_
 intro _
 refine qr mixed [9] [⟨g11, 33, [.int .i64 x7, .slice a9 x8.length c10]⟩] [Sl (eI .u8) 1 (.slice a9 x8.length c10) x8, (BlkD.is ⟨g1, 94, [.int .i64 x2, .slice a4 x3.length c5, .bool x13]⟩)] (.cons 0 rfl .nil) (qy 0 rfl (qeL 1 rfl qn)) 10 rfl ?_
 refine au [6,0,6,1,6,2,19,3] ?_
 refine qU 4 (.agg #[.int .i64 x2, .slice a4 x3.length c5]) [[9]] rfl rfl rfl (vP (j := 1) rfl tf33 rfl rfl (by simp) rfl) (kA 5 (.agg #[.int .i64 x7, .slice a9 x8.length c10]) rfl rfl rfl (zd (i := 0) rfl tf33 rfl rfl (by simp) rfl) ?_)
 refine au [20,6,28,4] ?_
 rintro x14 e14 ⟨a15, c16⟩
 refine au [0] ?_
 refine zG (.cons 0 rfl .nil) (qy 0 rfl (qeL 1 rfl qn)) ?_
 refine au [6,7,19,8,20,9,25,10,0] ?_
 refine qaI 9 rfl (by kernel_rfl) (.cons 0 rfl .nil) ?_
 refine au [24,3] ?_
 exact qv (zu (a15, c16)) (by intro c h; cases h)
 intro _
 refine au [12] ?_
 exact zu (a4, c5)
theorem qb3 {F : Nat} {g1 : Nat} {x2 : Int} {x3 : List Int} {a4 : Option Addr} {c5 : Nat} {x6 : Bool} {x7 : Int} {r : (Int × List Int × Bool)} (hm : qD F x2 x3 x6 x7 = some r) :
    PureM Tryz.prog 57 [.pointer (some ⟨g1, 0, none⟩), .int .i64 x7] [⟨g1, 94, [.int .i64 x2, .slice a4 x3.length c5, .bool x6]⟩] [Ro (eI .u8) 5 1 (.slice a4 x3.length c5) x3] [] (Option Addr × Nat) (fun _ => .tuple #[]) (fun g => [⟨g1, 94, [.int .i64 r.1, .slice g.1 r.2.1.length g.2, .bool r.2.2]⟩]) (fun g => [Ro (eI .u8) 5 1 (.slice g.1 r.2.1.length g.2) r.2.1]) := by
 refine zS Tryz.func57 rfl Tryz.ntmps57 rfl hm (fun w => ?_)
 refine au [24,12,4,3,3,25,1,30,9] ?_
 rintro x8 e8 ⟨a9, c10⟩
 refine au [30,10] ?_
 rintro x11 e11 ⟨a12, c13⟩
 refine au [0] ?_
 exact zu (a12, c13)
theorem qdy {F : Nat} {x1 : Int} {r : Bool} (hm : jg F x1 = some r) :
    Pure Tryz.prog 112 [.int .i64 x1] [] Unit (fun _ => .bool r) (fun _ => []) (fun _ => []) := by
 refine qh Tryz.func112 rfl Tryz.ntmps112 rfl hm (fun w => ?_)
 exact az [25,2,2,4,5,0,1,2,4,3,3,25,7,5,0,1,9,15]
set_option maxHeartbeats 4000000 in
theorem qdM {F : Nat} {x1 : Int} {x2 : Int} {r : Bool} (hm : jx F x1 x2 = some r) :
    Pure Tryz.prog 98 [.int .i64 x1, .int .i64 x2] [] Unit (fun _ => .bool r) (fun _ => []) (fun _ => []) := by
 refine qh Tryz.func98 rfl Tryz.ntmps98 rfl hm (fun w => ?_)
 refine au [24,12,2,4,5,0,1,2,4,3,30,11] ?_
 intro x3 e3 _
 refine au [3] ?_
 refine vj 4 (fun ((x6, _) : (Bool × Unit)) => ([(0, .int .i64 x1), (1, .int .i64 x2), (11, .bool x6)], [], [], [], vl F x1 x2 x6)) ?_ ?_
 refine qc (os := _) rfl ?_
 refine av [26,3] ?_ ?_
 intro h4
 refine qI (k := 7) rfl h4 ?_
 refine au [3,30,11] ?_
 intro x8 e8 _
 refine au [25,3,24,7,0] ?_
 exact qa ((!x8), ())
 intro h4
 refine qH (k := 7) rfl h4 ?_
 refine au [8,8,8,24,8,0] ?_
 exact qa (false, ())
 rintro ⟨x6, _⟩
 try dsimp only
 refine qc (os := _) rfl ?_
 refine au [3] ?_
 refine qR 4 x6 [(16, .bool (x6 || (decide (x1 < x2))))] (fun h7 => ?_) (fun h7 => ?_) ?_
 refine qc (os := _) rfl (qI (k := 12) rfl h7 ?_)
 refine au [8,8,8,24,7] ?_
 refine qd (d := 16) (v := .bool (x6 || (decide (x1 < x2)))) rfl (by rw [h7]; simp only [Bool.true_or]) ?_
 exact az [0,24,1]
 refine qc (os := _) rfl (qH (k := 12) rfl h7 ?_)
 refine au [3,3,24,0,24,8] ?_
 refine qd (d := 16) (v := .bool (x6 || (decide (x1 < x2)))) rfl (by rw [h7]; simp only [Bool.false_or]) ?_
 exact az [0,24,1]
 refine qc (os := _) rfl ?_
 exact az [5,0,1,9,15]
theorem qcg {F : Nat} {x1 : Int} {r : Bool} (hm : yQ F x1 = some r) :
    Pure Tryz.prog 102 [.int .i64 x1] [] Unit (fun _ => .bool r) (fun _ => []) (fun _ => []) := by
 refine qh Tryz.func102 rfl Tryz.ntmps102 rfl hm (fun w => ?_)
 exact az [25,2,2,4,5,0,1,2,4,3,3,25,7,5,0,1,9,15]
set_option maxHeartbeats 4000000 in
theorem j8 {F : Nat} {x1 : List Int} {a2 : Option Addr} {c3 : Nat} {x4 : Int} {r : (Int × Bool)} (hm : q5 F x1 x4 = some r) :
    Pure Tryz.prog 81 [.slice a2 x1.length c3, .int .i64 x4] [Sl (eI .i64) 1 (.slice a2 x1.length c3) x1] Unit (fun _ => .tuple #[.int .i64 r.1, .bool r.2]) (fun _ => []) (fun _ => []) := by
 refine qh Tryz.func81 rfl Tryz.ntmps81 rfl hm (fun w => ?_)
 refine au [24,12,2,4,5,5,0,1,2,4,3,23,5,0,1,2,4,3,5,5,0,1] ?_
 refine qf (fun ((x32, _) : (Int × Unit)) => ([(0, .slice a2 x1.length c3), (1, .int .i64 x4), (6, .int .i64 (x1.length : Int)), (7, .int .i64 x32)], [], [], [Sl (eI .i64) 1 (.slice a2 x1.length c3) x1], zN F x1 x4 x32)) ?_ ?_
 refine au [14] ?_
 refine qo (fun (((x85, x86), _) : ((Int × Int) × Unit)) => ([(0, .slice a2 x1.length c3), (1, .int .i64 x4), (6, .int .i64 (x1.length : Int)), (7, .int .i64 x85), (8, .int .i64 x86)], [], [], [Sl (eI .i64) 1 (.slice a2 x1.length c3) x1])) (fun k (s : ((Int × Int) × Unit)) => qw F x1 x4 k s.1) ((0, (x1.length : Int)), ()) F ?_
 intro k95
 rintro ⟨⟨x85, x86⟩, _⟩
 try dsimp only
 refine qB (m' := q9 F x1 x4 (qw F x1 x4 k95) x85 x86) rfl ?_
 refine av [2,2,4,3,3,24,0,0,1,10] ?_ ?_
 intro _
 refine au [12,1,14,2,4,3,3,16,25,1,27,6,25,1,5,26,1] ?_
 intro x97 e97
 refine qd (d := 9) (v := .int .i64 x97) rfl (by rw [e97] <;> rfl) ?_
 refine au [0,1,2,4,3,3,26,4] ?_
 intro x98 e98 b99 o100
 refine au [25,9,3] ?_
 refine qg qdM ?_
 intro x101 e101 _
 refine av [0,1,10] ?_ ?_
 intro _
 refine au [4,3,16,5,0,24,5] ?_
 exact qi ((iadd .i64 x97 1, x86), ())
 intro _
 refine au [4,3,5,0,24,5] ?_
 exact qi ((x85, x97), ())
 intro _
 refine au [24,9,18,18,24,10] ?_
 exact qa (x85, ())
 rintro ⟨x32, _⟩
 try dsimp only
 refine au [2,4,3,3,3,24,0,3] ?_
 refine vj 18 (fun ((x55, _) : (Bool × Unit)) => ([(31, .int .i64 x32), (53, .bool x55)], [], [], [], zO F x32 x55)) ?_ ?_
 refine qc (os := _) rfl ?_
 refine av [26,3] ?_ ?_
 intro h33
 refine qI (k := 35) rfl h33 ?_
 refine au [3,3,26,4] ?_
 intro x56 e56 b57 o58
 refine au [25,9,3,25,5,3] ?_
 refine vj 10 (fun ((x68, _) : (Bool × Unit)) => ([(31, .int .i64 x32), (35, .bool true), (52, .bool x68)], [], [], [], zP F x32 x68)) ?_ ?_
 refine qc (os := _) rfl ?_
 refine av [26,3] ?_ ?_
 intro h59
 refine qI (k := 42) rfl h59 ?_
 refine au [8,8,8,8,8,8,8,8,8,24,7,0] ?_
 exact qa (true, ())
 intro h59
 refine qH (k := 42) rfl h59 ?_
 refine au [3,3,28,5] ?_
 intro x69 e69 b70 o71
 refine au [25,9,30,12] ?_
 intro x72 e72 _
 refine au [3] ?_
 refine vj 3 (fun ((x75, _) : (Bool × Unit)) => ([(31, .int .i64 x32), (35, .bool true), (42, .bool false), (51, .bool x75)], [], [], [], zQ F x32 x75)) ?_ ?_
 refine qc (os := _) rfl ?_
 refine av [26,3] ?_ ?_
 intro h73
 refine qI (k := 48) rfl h73 ?_
 refine au [3,30,12] ?_
 intro x76 e76 _
 refine au [24,7,0] ?_
 exact qa (x76, ())
 intro h73
 refine qH (k := 48) rfl h73 ?_
 refine au [8,8,24,8,0] ?_
 exact qa (false, ())
 rintro ⟨x75, _⟩
 try dsimp only
 refine qc (os := _) rfl ?_
 refine au [24,8,0] ?_
 exact qa (x75, ())
 rintro ⟨x68, _⟩
 try dsimp only
 refine qc (os := _) rfl ?_
 refine au [24,7,0] ?_
 exact qa (x68, ())
 intro h33
 refine qH (k := 35) rfl h33 ?_
 refine au [8,8,8,8,8,8,8,8,8,8,8,8,8,8,8,8,8,24,8,0] ?_
 exact qa (false, ())
 rintro ⟨x55, _⟩
 try dsimp only
 refine qc (os := _) rfl ?_
 exact az [5,5,0,1,9,15]
set_option maxHeartbeats 4000000 in
theorem qcf {F : Nat} {g1 : Nat} {x2 : List Int} {a3 : Option Addr} {c4 : Nat} {x5 : Bool} {x6 : Int} {x7 : Bool} {r : (List Int × Bool × Int)} (hm : yP F x2 x5 x6 x7 = some r) :
    PureM Tryz.prog 82 [.pointer (some ⟨g1, 0, none⟩), .bool x7] [⟨g1, 149, [.slice a3 x2.length c4, .bool x5, .int .i64 x6]⟩] [Ro (eI .i64) 3 1 (.slice a3 x2.length c4) x2] [] (Option Addr × Nat) (fun _ => .tuple #[]) (fun g => [⟨g1, 149, [.slice g.1 r.1.length g.2, .bool r.2.1, .int .i64 r.2.2]⟩]) (fun g => [Ro (eI .i64) 3 1 (.slice g.1 r.1.length g.2) r.1]) := by
 refine zS Tryz.func82 rfl Tryz.ntmps82 rfl hm (fun w => ?_)
 refine au [24,12] ?_
 refine qf (fun (((x21, x22, x23), (a19, c20)) : ((List Int × Bool × Int) × (Option Addr × Nat))) => ([(0, .pointer (some ⟨g1, 0, none⟩))], [⟨g1, 149, [.slice a19 x21.length c20, .bool x22, .int .i64 x23]⟩], [Ro (eI .i64) 3 1 (.slice a19 x21.length c20) x21], [], kT F x21 x22 x23)) ?_ ?_
 refine au [2,4,3,3,24,14,13,21] ?_
 refine qmy rfl UnF.u rfl rfl rfl ?_
 refine av [0,1,10] ?_ ?_
 intro _
 refine au [2] ?_
 refine qr mixed [13] [] [(BlkD.is ⟨g1, 149, [.slice a3 x2.length c4, .bool x5, .int .i64 x6]⟩)] .nil (qeL 0 rfl qn) 14 rfl ?_
 refine au [6,0,6,1,6,2,19,3] ?_
 refine qU 4 (.slice a3 x2.length c4) [[13]] rfl rfl rfl (vP (j := 0) rfl tf30 rfl rfl (fun _ => rfl) rfl) ?_
 refine au [6,5,6,6,19,7] ?_
 refine qU 8 (.int .i64 x6) [[13]] rfl rfl rfl (vP (j := 0) rfl tf3 rfl rfl (fun _ => rfl) rfl) ?_
 refine au [20,9] ?_
 refine qV (vs := [.int .i64 x6]) (ys := ([x6] : List Int)) (qz .i64) (by decide) rfl Tryz.underlying30 tf3 rfl rfl rfl rfl rfl (by decide) (fun a29 c30 => ?_)
 refine au [0,28,14,20,10] ?_
 refine zW 1 (qz .i64) rfl Tryz.underlying30 tf3 rfl rfl rfl rfl rfl (.inl ⟨0, _, rfl⟩) rfl rfl (fun x31 e31 a32 c33 => ?_)
 refine au [0,28,14,6,11,19,12,20,13,24,4,0] ?_
 refine qaI 13 rfl (by kernel_rfl) .nil ?_
 refine au [24,3] ?_
 refine qv ?_ (by intro c h; cases h)
 refine au [1,4,3,3,3,24,14,13,24,4,24,14,13,24,4,0] ?_
 exact qa ((x31, x7, (0 : Int)), (a32, c33))
 intro _
 refine au [12] ?_
 exact qa ((x2, x5, x6), (a3, c4))
 rintro ⟨⟨x21, x22, x23⟩, ⟨a19, c20⟩⟩
 try dsimp only
 refine au [4,3,24,14,13,21,16,24,14,13,24,4,0] ?_
 exact zu (a19, c20)
set_option maxHeartbeats 4000000 in
theorem qgt {F : Nat} {x1 : List Int} {a2 : Option Addr} {c3 : Nat} {x4 : List Int} {a5 : Option Addr} {c6 : Nat} {r : (List Int × List Int)} (hm : qaP F x1 x4 = some r) :
    Pure Tryz.prog 58 [.slice a2 x1.length c3, .slice a5 x4.length c6] [Sl (eI .i64) 1 (.slice a2 x1.length c3) x1, Sl (eI .i64) 1 (.slice a5 x4.length c6) x4] ((Option Addr × Nat) × (Option Addr × Nat)) (fun g => .tuple #[.slice g.1.1 r.1.length g.1.2, .slice g.2.1 r.2.length g.2.2]) (fun g => [Ro (eI .i64) 3 1 (.slice g.1.1 r.1.length g.1.2) r.1, Ro (eI .i64) 3 1 (.slice g.2.1 r.2.length g.2.2) r.2]) (fun _ => []) := by
 refine qh Tryz.func58 rfl Tryz.ntmps58 rfl hm (fun w => ?_)
 refine au [24,12,2,4,5,5,0,1,2,4] ?_
 refine qF (cells := [.slice none 0 0, .bool true, .int .i64 0]) rfl st149 rfl (by kernel_rfl) rfl ?_
 refine au [24,2] ?_
 intro g7
 refine au [5,0,1] ?_
 refine qf (fun (((x66, x67, x68), (a64, c65)) : ((List Int × Bool × Int) × (Option Addr × Nat))) => ([(0, .slice a2 x1.length c3), (1, .slice a5 x4.length c6), (5, .slice none 0 0), (6, .pointer (some ⟨g7, 0, none⟩))], [⟨g7, 149, [.slice a64 x66.length c65, .bool x67, .int .i64 x68]⟩], [Ro (eI .i64) 3 1 (.slice a64 x66.length c65) x66], [Sl (eI .i64) 1 (.slice a2 x1.length c3) x1, Sl (eI .i64) 1 (.slice a5 x4.length c6) x4], qaz F x1 x4 x66 x67 x68)) ?_ ?_
 refine au [2,4,3,23,3,0,1,14,26,12] ?_
 refine qo (fun (((x249, x252, x253, x254), (a250, c251)) : ((Int × List Int × Bool × Int) × (Option Addr × Nat))) => ([(0, .slice a2 x1.length c3), (1, .slice a5 x4.length c6), (5, .slice none 0 0), (6, .pointer (some ⟨g7, 0, none⟩)), (17, .slice a2 x1.length c3), (18, .int .i64 (x1.length : Int)), (19, .int .i64 x249)], [⟨g7, 149, [.slice a250 x252.length c251, .bool x253, .int .i64 x254]⟩], [Ro (eI .i64) 3 1 (.slice a250 x252.length c251) x252], [Sl (eI .i64) 1 (.slice a2 x1.length c3) x1, Sl (eI .i64) 1 (.slice a5 x4.length c6) x4])) (fun k (s : ((Int × List Int × Bool × Int) × (Option Addr × Nat))) => k7 F x1 x4 k s.1) ((0, ([] : List Int), true, 0), (none, 0)) F ?_
 intro k271
 rintro ⟨⟨x249, x252, x253, x254⟩, ⟨a250, c251⟩⟩
 try dsimp only
 refine qB (m' := jn F x1 x4 (k7 F x1 x4 k271) x249 x252 x253 x254) rfl ?_
 refine av [2,4,24,0,0,1,2,10] ?_ ?_
 intro _
 refine au [12,1,2,14,2,4,26,4] ?_
 intro x280 e280 b281 o282
 refine au [25,9,5,0,1,2,4,3,3,30,13] ?_
 intro x283 e283 _
 refine au [3,17,17,5,5,0,1,4,3,3] ?_
 refine q8 qcf ?_
 rintro x284 e284 ⟨a285, c286⟩
 refine au [0,24,5,1,4,16,3,0] ?_
 exact qi ((iadd .i64 x249 1, x284.1, x284.2.1, x284.2.2), (a285, c286))
 intro _
 refine au [24,9,18,18,24,10] ?_
 exact qa ((x252, x253, x254), (a250, c251))
 rintro ⟨⟨x66, x67, x68⟩, ⟨a64, c65⟩⟩
 try dsimp only
 refine qf (fun ((x151, (a149, c150)) : (List Int × (Option Addr × Nat))) => ([(5, .slice a149 x151.length c150), (6, .pointer (some ⟨g7, 0, none⟩))], [⟨g7, 149, [.slice a64 x66.length c65, .bool x67, .int .i64 x68]⟩], [Ro (eI .i64) 3 1 (.slice a149 x151.length c150) x151, Ro (eI .i64) 3 1 (.slice a64 x66.length c65) x66], [], qaA F x66 x151)) ?_ ?_
 refine au [2,4,3,23,3,0,1,14,26,12] ?_
 refine qo (fun (((x179, x180), (a177, c178)) : ((List Int × Int) × (Option Addr × Nat))) => ([(0, .slice a2 x1.length c3), (5, .slice a177 x179.length c178), (6, .pointer (some ⟨g7, 0, none⟩)), (33, .slice a5 x4.length c6), (34, .int .i64 (x4.length : Int)), (35, .int .i64 x180)], [⟨g7, 149, [.slice a64 x66.length c65, .bool x67, .int .i64 x68]⟩], [Ro (eI .i64) 3 1 (.slice a177 x179.length c178) x179, Ro (eI .i64) 3 1 (.slice a64 x66.length c65) x66], [Sl (eI .i64) 1 (.slice a2 x1.length c3) x1, Sl (eI .i64) 1 (.slice a5 x4.length c6) x4])) (fun k (s : ((List Int × Int) × (Option Addr × Nat))) => kC F x1 x4 x66 k s.1) ((([] : List Int), 0), (none, 0)) F ?_
 intro k206
 rintro ⟨⟨x179, x180⟩, ⟨a177, c178⟩⟩
 try dsimp only
 refine qB (m' := jm F x1 x4 x66 (kC F x1 x4 x66 k206) x179 x180) rfl ?_
 refine av [2,4,24,0,0,1,2,10] ?_ ?_
 intro _
 refine au [12,1] ?_
 refine qf (fun ((x220, (a218, c219)) : (List Int × (Option Addr × Nat))) => ([(0, .slice a2 x1.length c3), (5, .slice a218 x220.length c219), (6, .pointer (some ⟨g7, 0, none⟩)), (33, .slice a5 x4.length c6), (34, .int .i64 (x4.length : Int)), (35, .int .i64 x180)], [⟨g7, 149, [.slice a64 x66.length c65, .bool x67, .int .i64 x68]⟩], [Ro (eI .i64) 3 1 (.slice a218 x220.length c219) x220, Ro (eI .i64) 3 1 (.slice a64 x66.length c65) x66], [Sl (eI .i64) 1 (.slice a2 x1.length c3) x1, Sl (eI .i64) 1 (.slice a5 x4.length c6) x4], jo F (kC F x1 x4 x66 k206) x180 x220)) ?_ ?_
 refine au [14,2,4,28,5] ?_
 intro x221 e221 b222 o223
 refine au [25,9,5,0,1,2,4,3,3,30,13] ?_
 intro x224 e224 _
 refine av [3,17,17,5,5,0,1,2,4,3,25,3,0,1,10] ?_ ?_
 intro _
 refine au [4,3,3] ?_
 refine qV (vs := [.int .i64 x221]) (ys := ([x221] : List Int)) (qz .i64) (by decide) rfl Tryz.underlying30 tf3 rfl rfl rfl rfl rfl (by decide) (fun a225 c226 => zW 1 (qz .i64) rfl Tryz.underlying30 tf3 rfl rfl rfl rfl rfl (.inl ⟨0, _, rfl⟩) rfl rfl (fun x227 e227 a228 c229 => ?_))
 refine au [5,0,24,5] ?_
 exact qa (x227, (a228, c229))
 intro _
 refine au [12,24,5] ?_
 exact qa (x179, (a177, c178))
 rintro ⟨x220, ⟨a218, c219⟩⟩
 try dsimp only
 refine au [4,16,3,0] ?_
 exact qi ((x220, iadd .i64 x180 1), (a218, c219))
 intro _
 refine au [24,9,18,18,24,10] ?_
 exact qa (x179, (a177, c178))
 rintro ⟨x151, ⟨a149, c150⟩⟩
 try dsimp only
 refine au [2,4,3,24,14,13,21,3,5,5,0,1,9] ?_
 exact qt ((a64, c65), (a149, c150))
theorem qbF {F : Nat} {g1 : Nat} {x2 : Int} {x3 : List Int} {a4 : Option Addr} {c5 : Nat} {x6 : Bool} {x7 : List Int} {a8 : Option Addr} {c9 : Nat} {r : (Int × List Int × Bool)} (hm : yl F x2 x3 x6 x7 = some r) :
    PureM Tryz.prog 59 [.pointer (some ⟨g1, 0, none⟩), .slice a8 x7.length c9] [⟨g1, 94, [.int .i64 x2, .slice a4 x3.length c5, .bool x6]⟩] [Ro (eI .u8) 5 1 (.slice a4 x3.length c5) x3] [Sl (eI .i64) 1 (.slice a8 x7.length c9) x7] (Option Addr × Nat) (fun _ => .tuple #[]) (fun g => [⟨g1, 94, [.int .i64 r.1, .slice g.1 r.2.1.length g.2, .bool r.2.2]⟩]) (fun g => [Ro (eI .u8) 5 1 (.slice g.1 r.2.1.length g.2) r.2.1]) := by
 refine zS Tryz.func59 rfl Tryz.ntmps59 rfl hm (fun w => ?_)
 refine au [24,12,2,4,3,3,23,27,2] ?_
 rintro x10 e10 ⟨a11, c12⟩
 refine au [0,1,2,4,3,23,3,0,1,14] ?_
 refine qo (fun (((x27, x28, x31, x32), (a29, c30)) : ((Int × Int × List Int × Bool) × (Option Addr × Nat))) => ([(0, .pointer (some ⟨g1, 0, none⟩)), (10, .slice a8 x7.length c9), (11, .int .i64 (x7.length : Int)), (12, .int .i64 x27)], [⟨g1, 94, [.int .i64 x28, .slice a29 x31.length c30, .bool x32]⟩], [Ro (eI .u8) 5 1 (.slice a29 x31.length c30) x31], [Sl (eI .i64) 1 (.slice a8 x7.length c9) x7])) (fun k (s : ((Int × Int × List Int × Bool) × (Option Addr × Nat))) => zl F x7 k s.1) ((0, x10.1, x10.2.1, x10.2.2), (a11, c12)) F ?_
 intro k47
 rintro ⟨⟨x27, x28, x31, x32⟩, ⟨a29, c30⟩⟩
 try dsimp only
 refine qB (m' := kx F x7 (zl F x7 k47) x27 x28 x31 x32) rfl ?_
 refine av [2,4,24,0,0,1,2,10] ?_ ?_
 intro _
 refine au [12,1,2,14,2,4,3,26,4] ?_
 intro x55 e55 b56 o57
 refine au [25,9,5,5,0,1,4,3,3,3,27,7,24,13,27,2] ?_
 rintro x58 e58 ⟨a59, c60⟩
 refine au [0,24,5,1,4,16,3,0] ?_
 exact qi ((iadd .i64 x27 1, x58.1, x58.2.1, x58.2.2), (a59, c60))
 intro _
 refine au [24,9,18,18,24,10] ?_
 exact zu (a29, c30)
theorem qgu {F : Nat} {x1 : List Int} {a2 : Option Addr} {c3 : Nat} {r : Unit} (hm : qbH F x1 = some r) :
    PureM Tryz.prog 83 [.slice a2 x1.length c3] [] [] [Sl (eI .i64) 1 (.slice a2 x1.length c3) x1] Nat (fun g => .func (.func 103) #[] #[.pointer (some ⟨g, 0, none⟩)]) (fun g => [⟨g, 30, [.slice a2 x1.length c3]⟩]) (fun _ => []) := by
 refine zS Tryz.func83 rfl Tryz.ntmps83 rfl hm (fun w => ?_)
 refine au [25,2,2,4,24,2] ?_
 intro g4
 refine au [5,0,1,2,4,28,10,5,0,1,9] ?_
 exact zu g4
set_option maxHeartbeats 4000000 in
theorem qeG (F : Nat) {σ τ : Type} {J : Rounds σ τ} {yy : σ → (Int × Int) → Option (σ ⊕ τ)} {L : Nat} (hY : YieldC Tryz.prog L (fun (p : (Int × Int)) => [.agg #[.int .i64 p.1, .int .i64 p.2]]) J yy) (s0 : σ) (gs0 : J.γ) (g1 : Nat) (x2 : List Int) (a3 : Option Addr) (c4 : Nat) (r : σ ⊕ τ) (hm : jb F yy x2 s0 = some r) :
    PureM Tryz.prog 103 ([.func (.yield L) #[] #[], .pointer (some ⟨g1, 0, none⟩)]) ([⟨g1, 30, [.slice a3 x2.length c4]⟩] ++ J.IB s0 gs0) (J.IR s0 gs0) [J.F, Sl (eI .i64) 1 (.slice a3 x2.length c4) x2] (J.G r) (fun _ => .tuple #[]) (fun g => [⟨g1, 30, [.slice a3 x2.length c4]⟩] ++ J.bs r g) (fun g => J.rs r g) := by
 refine zS Tryz.func103 rfl Tryz.ntmps103 rfl hm (fun w => ?_)
 refine au [24,12,2,4,5,0,1,14] ?_
 refine qbX (fun (((x266, x267), g268) : ((Int × σ) × J.γ)) => [(0, .func (.yield L) #[] #[]), (1, .pointer (some ⟨g1, 0, none⟩)), (3, .int .i64 x266)]) (fun (((x266, x267), g268) : ((Int × σ) × J.γ)) => [⟨g1, 30, [.slice a3 x2.length c4]⟩] ++ J.IB x267 g268) (fun (((x266, x267), g268) : ((Int × σ) × J.γ)) => [] ++ J.IR x267 g268) (fun (((x266, x267), g268) : ((Int × σ) × J.γ)) => [Sl (eI .i64) 1 (.slice a3 x2.length c4) x2, J.F]) (fun k (s : ((Int × σ) × J.γ)) => qA F yy x2 k s.1) ((0, s0), gs0) F ?_ (hB := (.cons 0 rfl (qK 0 rfl))) (hR := (qK 0 rfl)) (hF := (qx 1 rfl (qx 0 rfl vY)))
 intro k530
 rintro ⟨⟨x266, x267⟩, g268⟩
 try dsimp only
 refine qB (m' := vw F yy x2 (qA F yy x2 k530) x266 x267) rfl ?_
 refine av [2,2,4,3,21,23,24,0,0,1,10] ?_ ?_
 intro _
 refine au [12,1,14,2,4,5,0,1] ?_
 refine qen (fun ((x654, _) : (Int × Unit)) => [(0, .func (.yield L) #[] #[]), (1, .pointer (some ⟨g1, 0, none⟩)), (3, .int .i64 x266), (4, .int .i64 x654)]) (fun ((x654, _) : (Int × Unit)) => [⟨g1, 30, [.slice a3 x2.length c4]⟩] ++ J.IB x267 g268) (fun ((x654, _) : (Int × Unit)) => [] ++ J.IR x267 g268) (fun ((x654, _) : (Int × Unit)) => [Sl (eI .i64) 1 (.slice a3 x2.length c4) x2, J.F]) (fun ((x654, _) : (Int × Unit)) => vy F yy (qA F yy x2 k530) x2 x266 x267 x654) ?_ ?_
 refine au [14] ?_
 refine qbX (fun ((x709, _) : (Int × Unit)) => [(0, .func (.yield L) #[] #[]), (1, .pointer (some ⟨g1, 0, none⟩)), (3, .int .i64 x266), (4, .int .i64 x709)]) (fun ((x709, _) : (Int × Unit)) => [⟨g1, 30, [.slice a3 x2.length c4]⟩] ++ J.IB x267 g268) (fun ((x709, _) : (Int × Unit)) => [] ++ J.IR x267 g268) (fun ((x709, _) : (Int × Unit)) => [Sl (eI .i64) 1 (.slice a3 x2.length c4) x2, J.F]) (fun k (s : (Int × Unit)) => zL F yy (qA F yy x2 k530) x2 x266 x267 k s.1) (1, ()) F ?_ (hB := (.cons 0 rfl (qK 0 rfl))) (hR := (qK 0 rfl)) (hF := (qx 0 rfl (qx 1 rfl vY)))
 intro k750
 rintro ⟨x709, _⟩
 try dsimp only
 refine qB (m' := vx F yy (qA F yy x2 k530) x2 x266 x267 (zL F yy (qA F yy x2 k530) x2 x266 x267 k750) x709) rfl ?_
 refine au [2] ?_
 refine qen (fun ((x780, _) : (Bool × Unit)) => [(0, .func (.yield L) #[] #[]), (1, .pointer (some ⟨g1, 0, none⟩)), (3, .int .i64 x266), (4, .int .i64 x709), (29, .bool x780)]) (fun ((x780, _) : (Bool × Unit)) => [⟨g1, 30, [.slice a3 x2.length c4]⟩] ++ J.IB x267 g268) (fun ((x780, _) : (Bool × Unit)) => [] ++ J.IR x267 g268) (fun ((x780, _) : (Bool × Unit)) => [Sl (eI .i64) 1 (.slice a3 x2.length c4) x2, J.F]) (fun ((x780, _) : (Bool × Unit)) => vz F yy (qA F yy x2 k530) (zL F yy (qA F yy x2 k530) x2 x266 x267 k750) x2 x266 x267 x709 x780) ?_ ?_
 refine av [26,7] ?_ ?_
 intro h782
 refine au [30,14] ?_
 intro x783 e783 b784 o785 h786
 replace h786 : a3 = some ⟨b784, o785, none⟩ := h786
 refine au [28,15] ?_
 intro x787 e787 b788 o789 h790
 replace h790 : a3 = some ⟨b788, o789, none⟩ := h790
 refine qr mixed [] [⟨g1, 30, [.slice a3 x2.length c4]⟩] [qs b788 (o789 + x266.toNat * 1) ((eI .i64) x787), qs b784 (o785 + (iadd .i64 x266 x709).toNat * 1) ((eI .i64) x783), Sl (eI .i64) 1 (.slice a3 x2.length c4) x2, J.F] (.cons 0 rfl .nil) (qy 0 rfl (qy 1 rfl (qy 2 rfl (qy 3 rfl qn)))) 21 rfl ?_
 refine au [6,0,6,1,6,2,25,4,3,26,8,4,6,5,6,6] ?_
 refine qe (d := 15) (v := .bool true) rfl (by rw [h782] <;> rfl) ?_
 refine au [25,4,7,6,8,6,9,6,10] ?_
 refine qe (d := 16) (v := .slice (some ⟨b784, o785, none⟩) x2.length c4) rfl (by rw [h786] <;> rfl) (qj 11 (.pointer (some ⟨b784, (o785 + (iadd .i64 x266 x709).toNat * 1), none⟩)) rfl rfl rfl (v6 Tryz.underlying30 tf3 rfl rfl (qN e783).1 (yT e783)) (qe (d := 16) (v := .slice a3 x2.length c4) rfl (by rw [h786] <;> rfl) (qU 12 (.int .i64 x783) [] rfl rfl rfl (kp (j := 1) rfl tf3 rfl rfl (fun _ => rfl) rfl) ?_)))
 refine au [25,4,13,6,14] ?_
 refine qe (d := 22) (v := .slice (some ⟨b788, o789, none⟩) x2.length c4) rfl (by rw [h790] <;> rfl) (qj 15 (.pointer (some ⟨b788, (o789 + x266.toNat * 1), none⟩)) rfl rfl rfl (v6 Tryz.underlying30 tf3 rfl rfl (qN e787).1 (yT e787)) (qe (d := 22) (v := .slice a3 x2.length c4) rfl (by rw [h790] <;> rfl) (qU 16 (.int .i64 x787) [] rfl rfl rfl (kp (j := 0) rfl tf3 rfl rfl (fun _ => rfl) rfl) ?_)))
 refine au [6,17,6,18,6,19,6,20,24,3] ?_
 exact qv (qb0 (((x783 : Int) == (iadd .i64 x787 x709)), ()) (hB := (.cons 0 rfl (qK 0 rfl))) (hR := (qK 0 rfl)) (hF := (qx 2 rfl (qx 3 rfl vY)))) (by intro c h; cases h)
 intro h782
 refine qr mixed [] [⟨g1, 30, [.slice a3 x2.length c4]⟩] [Sl (eI .i64) 1 (.slice a3 x2.length c4) x2, J.F] (.cons 0 rfl .nil) (qy 0 rfl (qy 1 rfl qn)) 21 rfl ?_
 refine au [6,0,6,1,6,2,25,4,3,26,8,4,6,5,6,6] ?_
 refine qe (d := 15) (v := .bool false) rfl (by rw [h782] <;> rfl) ?_
 refine au [7,7,7,8,7,9,7,10,7,11,7,12,7,13,7,14,7,15,7,16,7,17,7,18,7,19,6,20,24,3] ?_
 exact qv (qb0 (false, ()) (hB := (.cons 0 rfl (qK 0 rfl))) (hR := (qK 0 rfl)) (hF := (qx 0 rfl (qx 1 rfl vY)))) (by intro c h; cases h)
 rintro ⟨x780, _⟩
 try dsimp only
 refine av [10] ?_ ?_
 intro _
 refine au [12,1,14,4,3,16,5,0,24,5] ?_
 exact qbw (iadd .i64 x709 1, ()) (hB := (.cons 0 rfl (qK 0 rfl))) (hR := (qK 0 rfl)) (hF := (qx 0 rfl (qx 1 rfl vY)))
 intro _
 refine au [24,9,18,18,24,10] ?_
 exact qb0 (x709, ()) (hB := (.cons 0 rfl (qK 0 rfl))) (hR := (qK 0 rfl)) (hF := (qx 0 rfl (qx 1 rfl vY)))
 rintro ⟨x654, _⟩
 try dsimp only
 refine au [2,2,4,3,21,3,26,4] ?_
 intro x662 e662 b663 o664
 refine au [25,9,3] ?_
 refine qF (cells := [.int .i64 x662, .int .i64 x654]) rfl st137 rfl (by kernel_rfl) rfl (qfj hY x267 (x662, x654) g268 (B1 := [⟨g1, 30, [.slice a3 x2.length c4]⟩]) (R1 := []) (j := 2) rfl rfl rfl rfl rfl rfl rfl (fun x665 _ g667 => ?_) (fun x666 _ g667 => ?_))
 refine au [25,3,0,1] ?_
 refine qae (b := false) rfl (fun h => by cases h) (fun _ => ?_)
 refine au [12,1,4,3,3,16,5,0,24,5] ?_
 exact qbw ((iadd .i64 x266 x654, x665), g667) (hB := (.cons 0 rfl (qK 0 rfl))) (hR := (qK 0 rfl)) (hF := (qx 1 rfl (qx 2 rfl vY)))
 refine au [25,3,0,1] ?_
 refine qae (b := true) rfl (fun _ => ?_) (fun h => by cases h)
 refine au [9,11,22,11,22] ?_
 exact qbZ (B0 := [⟨g1, 30, [.slice a3 x2.length c4]⟩]) (x := .inr x666) g667 (.inl rfl) (res0 rfl) (.cons 0 rfl (qK 0 rfl)) (qK 0 rfl)
 intro _
 refine au [24,9,18,18,24,10] ?_
 exact qbZ (B0 := [⟨g1, 30, [.slice a3 x2.length c4]⟩]) (x := .inl x267) g268 (.inr rfl) (res0 rfl) (.cons 0 rfl (qK 0 rfl)) (qK 0 rfl)
set_option maxHeartbeats 4000000 in
theorem qhm {F : Nat} {x1 : List Int} {a2 : Option Addr} {c3 : Nat} {x4 : Int} {r : (List (Int × Int) × List Int)} (hm : qbi F x1 x4 = some r) :
    PureM Tryz.prog 60 [.slice a2 x1.length c3, .int .i64 x4] [] [] [Sl (eI .i64) 1 (.slice a2 x1.length c3) x1] ((Option Addr × Nat) × (Option Addr × Nat)) (fun g => .tuple #[.slice g.1.1 r.1.length g.1.2, .slice g.2.1 r.2.length g.2.2]) (fun _ => []) (fun g => [Ro eS137 137 2 (.slice g.1.1 r.1.length g.1.2) r.1, Ro (eI .i64) 3 1 (.slice g.2.1 r.2.length g.2.2) r.2]) := by
 refine qgW Tryz.func60 rfl Tryz.ntmps60 rfl hm (fun w => ?_)
 refine au [24,12,2,4,24,2] ?_
 intro g5
 refine au [24,6] ?_
 intro g6
 refine au [24,6] ?_
 intro g7
 refine au [0,1,2,2,4,3] ?_
 refine q8 qgu ?_
 intro x188 e188 g189
 refine au [0,1,14,26,12] ?_
 refine qbt (Int × Int) eS137 137 2 (qff (encs := (fun (p : (Int × Int)) => [.agg #[.int .i64 p.1, .int .i64 p.2]])) (y := (fun ((x252, x255) : (List Int × List (Int × Int))) ((x312, x313) : (Int × Int)) => ja F x4 x252 x255 x312 x313)) (lb := [.pointer (some ⟨g189, 0, none⟩)]) (fun ((x252, x255) : (List Int × List (Int × Int))) ((a250, c251, a253, c254) : (Option Addr × Nat × Option Addr × Nat)) => [⟨g7, 30, [.slice a250 x252.length c251]⟩, ⟨g6, 111, [.slice a253 x255.length c254]⟩, ⟨g5, 3, [.int .i64 x4]⟩]) (fun ((x252, x255) : (List Int × List (Int × Int))) ((a250, c251, a253, c254) : (Option Addr × Nat × Option Addr × Nat)) => [Ro (eI .i64) 3 1 (.slice a250 x252.length c251) x252, Ro eS137 137 2 (.slice a253 x255.length c254) x255]) (fun (_ : Empty) (_ : Unit) => []) (fun (_ : Empty) (_ : Unit) => []) (fun _ => .skip) (([] : List Int), ([] : List (Int × Int))) (none, 0, none, 0) rfl ent103 (fun _ => rfl) rfl (.cons 0 rfl .nil) (.cons 0 rfl (.cons 0 rfl (.cons 0 rfl .nil))) (.cons 1 rfl (.cons 0 rfl .nil)) (.consF 0 rfl .nil) (fun z hz _ _ _ hY => qeG F hY (([] : List Int), ([] : List (Int × Int))) (none, 0, none, 0) g189 x1 a2 c3 z hz) ?_ ?_ ?_)
 rintro rc1 L1 D1 ⟨x252, x255⟩ ⟨a250, c251, a253, c254⟩ ⟨x312, x313⟩ z w M _
 try dsimp only
 refine qg6 [(0, .slice a2 x1.length c3), (1, .int .i64 x4), (3, .pointer (some ⟨g5, 0, none⟩)), (4, .pointer (some ⟨g6, 0, none⟩)), (5, .pointer (some ⟨g7, 0, none⟩)), (8, .slice a2 x1.length c3), (9, .func (.func 103) #[] #[.pointer (some ⟨g189, 0, none⟩)]), (10, .agg #[.int .i64 x312, .int .i64 x313])] (zB rfl (zB rfl (zB rfl (zB rfl (zB rfl (zB rfl (zB rfl (zB rfl qdc)))))))) ?_
 refine au [4,24,6] ?_
 intro g314
 refine au [24,4,0] ?_
 refine qfk (i := 4) rfl ?_
 refine av [14,2,2,4,13,21,27,13,25,13,0,1,10] ?_ ?_
 intro _
 refine au [2,4,27,8,24,15] ?_
 refine qV (vs := [.agg #[.int .i64 x312, .int .i64 x313]]) (ys := ([(x312, x313)] : List (Int × Int))) qa5 (by decide) rfl Tryz.underlying111 tf137 rfl rfl rfl rfl rfl (by decide) (fun a321 c322 => zW 2 qa5 rfl Tryz.underlying111 tf137 rfl rfl rfl rfl rfl (.inl ⟨0, _, rfl⟩) rfl rfl (fun x323 e323 a324 c325 => ?_))
 refine au [26,13,0,1,24,9,18,24,10] ?_
 exact qdm (rc := rc1) rfl (.cons 4 rfl .nil) rfl (a250, c251, a324, c325) (.cons 2 rfl (.cons 2 rfl (.cons 2 rfl (.cons 0 rfl (.cons 1 rfl .nil))))) (.cons 2 rfl (.cons 0 rfl .nil))
 intro _
 refine au [12,1,2,4,13,21,3,0,1,14] ?_
 refine qo (fun (((x338, x341), (a339, c340)) : ((Int × List Int) × (Option Addr × Nat))) => ([(3, .pointer (some ⟨g5, 0, none⟩)), (4, .pointer (some ⟨g6, 0, none⟩)), (5, .pointer (some ⟨g7, 0, none⟩)), (6, .pointer (some ⟨g314, 0, none⟩)), (20, .int .i64 x313), (21, .int .i64 x338)], [⟨g314, 137, [.int .i64 x312, .int .i64 x313]⟩, ⟨g7, 30, [.slice a339 x341.length c340]⟩, ⟨g6, 111, [.slice a253 x255.length c254]⟩, ⟨g5, 3, [.int .i64 x4]⟩, (blkO L1 (.loop (bsy rc1))), (dblk D1)], [Ro (eI .i64) 3 1 (.slice a339 x341.length c340) x341, Ro eS137 137 2 (.slice a253 x255.length c254) x255], [])) (fun k (s : ((Int × List Int) × (Option Addr × Nat))) => vi F x255 x312 x313 k s.1) ((0, x252), (a250, c251)) F ?_
 intro k354
 rintro ⟨⟨x338, x341⟩, ⟨a339, c340⟩⟩
 try dsimp only
 refine qB (m' := j6 F x255 x312 x313 (vi F x255 x312 x313 k354) x338 x341) rfl ?_
 refine av [2,4,24,0,0,1,2,10] ?_ ?_
 intro _
 refine au [12,1,2,14,2,4,3,5,0,1,4,25,11,13,21,3,16] ?_
 refine qV (vs := [.int .i64 (iadd .i64 x312 x338)]) (ys := ([iadd .i64 x312 x338] : List Int)) (qz .i64) (by decide) rfl Tryz.underlying30 tf3 rfl rfl rfl rfl rfl (by decide) (fun a361 c362 => zW 1 (qz .i64) rfl Tryz.underlying30 tf3 rfl rfl rfl rfl rfl (.inl ⟨0, _, rfl⟩) rfl rfl (fun x363 e363 a364 c365 => ?_))
 refine au [25,10,0,24,5,1,4,16,3,0] ?_
 exact qi ((iadd .i64 x338 1, x363), (a364, c365))
 intro _
 refine au [24,9,18,18,24,10,24,5] ?_
 exact qdm (rc := rc1) rfl (.cons 4 rfl .nil) rfl (a339, c340, a253, c254) (.cons 2 rfl (.cons 2 rfl (.cons 2 rfl (.cons 0 rfl (.cons 1 rfl .nil))))) (.cons 0 rfl (.cons 0 rfl .nil))
 rintro ⟨x252, x255⟩ _ ⟨a250, c251, a253, c254⟩ D1
 try dsimp only
 refine au [24,5,1,2] ?_
 refine qr mixed [] [(dblk D1), ⟨g189, 30, [.slice a2 x1.length c3]⟩, ⟨g7, 30, [.slice a250 x252.length c251]⟩, ⟨g6, 111, [.slice a253 x255.length c254]⟩, ⟨g5, 3, [.int .i64 x4]⟩] [Sl (eI .i64) 1 (.slice a2 x1.length c3) x1] (.cons 0 rfl (.cons 0 rfl (.cons 0 rfl (.cons 0 rfl (.cons 0 rfl .nil))))) (qy 0 rfl qn) 4 rfl ?_
 refine au [28,6,0,29,0,1,20,2] ?_
 refine vO (i := 3) rfl rfl rfl inferInstance rfl rfl rfl rfl rfl ?_
 refine au [0,30,15,20,3,26,13,0,30,15,24,3] ?_
 refine qv ?_ (by intro c h; cases h)
 refine au [1,9] ?_
 exact qfl [D1] ((a253, c254), (a250, c251)) (.inl rfl) rfl (.cons 0 rfl .nil) (resL (rs := [.cell 4 111, .cell 5 30]) rfl (.cell (i := 2) rfl tf111 rfl rfl (fun _ => rfl) rfl (.cell (i := 1) rfl tf30 rfl rfl (fun _ => rfl) rfl ResOk.nil)) rfl) (fun h => by subst h; rfl) (fun h => by subst h; exact .nil) (fun h => by subst h; exact (.cons 1 rfl (.cons 0 rfl .nil)))
 intro t; exact t.elim
theorem qeJ {F : Nat} {x1 : Int} {r : Int} (hm : jd F x1 = some r) :
    Pure Tryz.prog 84 [.int .i64 x1] [] Unit (fun _ => .int .u64 r) (fun _ => []) (fun _ => []) := by
 refine qh Tryz.func84 rfl Tryz.ntmps84 rfl hm (fun w => ?_)
 refine au [25,2,2,4,5,0,1,2,4,3,25,1,31,0,3,27,6,25,1,31,1,5,26,1] ?_
 intro x2 e2
 refine qd (d := 2) (v := .int .u64 x2) rfl (by rw [e2] <;> rfl) ?_
 exact az [0,1,9,15]
end Go.Proofs.YtnlodcokfndnmaaGreat
