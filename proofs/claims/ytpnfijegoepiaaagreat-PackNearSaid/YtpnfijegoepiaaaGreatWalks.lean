/- Each Go function of this seat computes what its model says. -/
import Derived.Test.YtpnfijegoepiaaaGreatRows
import Derived.Test.YtpnfijegoepiaaaGreatModels
import Derived.Test.YtpnfijegoepiaaaGreatShelf
namespace Go.Proofs.YtpnfijegoepiaaaGreat
open Go SX
def eN37 (p : List Int × (Option Addr × Nat)) : List Value := [.slice p.2.1 p.1.length p.2.2]
def iN37 (p : List Int × (Option Addr × Nat)) : List (World → Prop) := [Sl (eI .i64) 1 (.slice p.2.1 p.1.length p.2.2) p.1]
theorem vQ : EncOk eN37 1 := ⟨fun _ => rfl, fun _ => rfl⟩
def rN37 (p : List Int × (Option Addr × Nat)) : List RowF := [FoR (eI .i64) 3 1 (.slice p.2.1 p.1.length p.2.2) p.1]
theorem qoM : ∀ p, iN37 p = (rN37 p).map RowF.cells := fun _ => rfl
theorem qoF : ∀ f ∈ rN37 (([] : List Int), ((none, 0) : Option Addr × Nat)), f.v = .slice none 0 0 ∧ f.n = 0 ∧ f.cs = [] := by simp [rN37, FoR]
def eS141 (p : (Int × Int)) : List Value := [.int .i64 p.1, .int .i64 p.2]
theorem qbJ : EncOk eS141 2 := ⟨fun _ => rfl, fun _ => rfl⟩
instance tf3 : TyF Tryz.prog 3 false (.int .i64 0) 1 8 := .of (by kernel_rfl) (by kernel_rfl)
instance tf4 : TyF Tryz.prog 4 false (.bool false) 1 1 := .of (by kernel_rfl) (by kernel_rfl)
instance tf5 : TyF Tryz.prog 5 false (.int .u8 0) 1 1 := .of (by kernel_rfl) (by kernel_rfl)
instance tf22 : TyF Tryz.prog 22 false (.slice none 0 0) 1 24 := .of (by kernel_rfl) (by kernel_rfl)
instance tf24 : TyF Tryz.prog 24 true (.agg #[.slice none 0 0]) 1 24 := .of (by kernel_rfl) (by kernel_rfl)
instance tf26 : TyF Tryz.prog 26 true (.agg #[.int .i64 0, .int .i64 0, .int .i64 0]) 3 24 := .of (by kernel_rfl) (by kernel_rfl)
instance tf27 : TyF Tryz.prog 27 false (.slice none 0 0) 1 24 := .of (by kernel_rfl) (by kernel_rfl)
instance tf29 : TyF Tryz.prog 29 true (.agg #[.int .i64 0, .slice none 0 0]) 2 32 := .of (by kernel_rfl) (by kernel_rfl)
instance tf31 : TyF Tryz.prog 31 true (.agg #[.int .i64 0, .int .i64 0, .int .i64 0, .int .i64 0, .int .i64 0, .slice none 0 0]) 6 64 := .of (by kernel_rfl) (by kernel_rfl)
instance tf37 : TyF Tryz.prog 37 false (.slice none 0 0) 1 24 := .of (by kernel_rfl) (by kernel_rfl)
instance tf50 : TyF Tryz.prog 50 false (.int .u64 0) 1 8 := .of (by kernel_rfl) (by kernel_rfl)
instance tf92 : TyF Tryz.prog 92 false (.pointer none) 1 8 := .of (by kernel_rfl) (by kernel_rfl)
instance tf117 : TyF Tryz.prog 117 false (.slice none 0 0) 1 24 := .of (by kernel_rfl) (by kernel_rfl)
instance tf131 : TyF Tryz.prog 131 true (.agg #[.int .i64 0, .int .i64 0, .slice none 0 0]) 3 40 := .of (by kernel_rfl) (by kernel_rfl)
instance tf141 : TyF Tryz.prog 141 true (.agg #[.int .i64 0, .int .i64 0]) 2 16 := .of (by kernel_rfl) (by kernel_rfl)
instance tf168 : TyF Tryz.prog 168 true (.agg #[]) 0 0 := .of (by kernel_rfl) (by kernel_rfl)
instance ff24_0 : FdF Tryz.prog 24 0 0 := .of (by kernel_rfl)
instance ff26_0 : FdF Tryz.prog 26 0 0 := .of (by kernel_rfl)
instance ff26_1 : FdF Tryz.prog 26 1 1 := .of (by kernel_rfl)
instance ff26_2 : FdF Tryz.prog 26 2 2 := .of (by kernel_rfl)
instance ff29_0 : FdF Tryz.prog 29 0 0 := .of (by kernel_rfl)
instance ff29_1 : FdF Tryz.prog 29 1 1 := .of (by kernel_rfl)
instance ff31_0 : FdF Tryz.prog 31 0 0 := .of (by kernel_rfl)
instance ff31_1 : FdF Tryz.prog 31 1 1 := .of (by kernel_rfl)
instance ff31_2 : FdF Tryz.prog 31 2 4 := .of (by kernel_rfl)
instance ff66_0 : FdF Tryz.prog 66 0 0 := .of (by kernel_rfl)
instance ff66_1 : FdF Tryz.prog 66 1 6 := .of (by kernel_rfl)
instance ff66_2 : FdF Tryz.prog 66 2 7 := .of (by kernel_rfl)
instance ff90_0 : FdF Tryz.prog 90 0 0 := .of (by kernel_rfl)
instance ff90_1 : FdF Tryz.prog 90 1 2 := .of (by kernel_rfl)
instance ff94_0 : FdF Tryz.prog 94 0 0 := .of (by kernel_rfl)
instance ff131_0 : FdF Tryz.prog 131 0 0 := .of (by kernel_rfl)
instance ff131_1 : FdF Tryz.prog 131 1 1 := .of (by kernel_rfl)
instance ff137_0 : FdF Tryz.prog 137 0 0 := .of (by kernel_rfl)
instance ff137_1 : FdF Tryz.prog 137 1 2 := .of (by kernel_rfl)
instance ff141_0 : FdF Tryz.prog 141 0 0 := .of (by kernel_rfl)
instance ff141_1 : FdF Tryz.prog 141 1 1 := .of (by kernel_rfl)
instance ff153_0 : FdF Tryz.prog 153 0 0 := .of (by kernel_rfl)
instance ff153_1 : FdF Tryz.prog 153 1 1 := .of (by kernel_rfl)
instance ff153_2 : FdF Tryz.prog 153 2 2 := .of (by kernel_rfl)
instance ff162_0 : FdF Tryz.prog 162 0 0 := .of (by kernel_rfl)
instance ff162_1 : FdF Tryz.prog 162 1 1 := .of (by kernel_rfl)
instance st24 : StF Tryz.prog 24 [(0, 1)] (.agg #[.slice none 0 0]) := .of (by kernel_rfl) (by kernel_rfl)
instance st26 : StF Tryz.prog 26 [(0, 1), (1, 1), (2, 1)] (.agg #[.int .i64 0, .int .i64 0, .int .i64 0]) := .of (by kernel_rfl) (by kernel_rfl)
instance st29 : StF Tryz.prog 29 [(0, 1), (1, 1)] (.agg #[.int .i64 0, .slice none 0 0]) := .of (by kernel_rfl) (by kernel_rfl)
instance st31 : StF Tryz.prog 31 [(0, 1), (1, 3), (4, 2)] (.agg #[.int .i64 0, .int .i64 0, .int .i64 0, .int .i64 0, .int .i64 0, .slice none 0 0]) := .of (by kernel_rfl) (by kernel_rfl)
instance st66 : StF Tryz.prog 66 [(0, 6), (6, 1), (7, 1)] (.agg #[.int .i64 0, .int .i64 0, .int .i64 0, .int .i64 0, .int .i64 0, .slice none 0 0, .slice none 0 0, .slice none 0 0]) := .of (by kernel_rfl) (by kernel_rfl)
instance st90 : StF Tryz.prog 90 [(0, 2), (2, 1)] (.agg #[.int .i64 0, .slice none 0 0, .bool false]) := .of (by kernel_rfl) (by kernel_rfl)
instance st94 : StF Tryz.prog 94 [(0, 2)] (.agg #[.int .i64 0, .slice none 0 0]) := .of (by kernel_rfl) (by kernel_rfl)
instance st131 : StF Tryz.prog 131 [(0, 1), (1, 2)] (.agg #[.int .i64 0, .int .i64 0, .slice none 0 0]) := .of (by kernel_rfl) (by kernel_rfl)
instance st137 : StF Tryz.prog 137 [(0, 2), (2, 1)] (.agg #[.int .i64 0, .slice none 0 0, .int .i64 0]) := .of (by kernel_rfl) (by kernel_rfl)
instance st141 : StF Tryz.prog 141 [(0, 1), (1, 1)] (.agg #[.int .i64 0, .int .i64 0]) := .of (by kernel_rfl) (by kernel_rfl)
instance st153 : StF Tryz.prog 153 [(0, 1), (1, 1), (2, 1)] (.agg #[.slice none 0 0, .bool false, .int .i64 0]) := .of (by kernel_rfl) (by kernel_rfl)
instance st162 : StF Tryz.prog 162 [(0, 1), (1, 1)] (.agg #[.int .i64 0, .bool false]) := .of (by kernel_rfl) (by kernel_rfl)
instance st168 : StF Tryz.prog 168 [] (.agg #[]) := .of (by kernel_rfl) (by kernel_rfl)
instance se26 : StE3 Tryz.prog 26 .i64 .i64 .i64 := ⟨_, _, _, Tryz.underlying26, by kernel_rfl, by kernel_rfl, by decide, by decide, by decide, rfl, rfl, rfl, Tryz.underlying3, Tryz.underlying3, Tryz.underlying3⟩
theorem mixed : Tryz.prog.follows .mixedOrders = true := by kernel_rfl
instance en9 : EnC Tryz.prog 9 := ⟨qd Tryz.func9 rfl rfl⟩
instance en10 : EnC Tryz.prog 10 := ⟨qd Tryz.func10 rfl rfl⟩
instance en11 : EnC Tryz.prog 11 := ⟨qd Tryz.func11 rfl rfl⟩
instance en15 : EnC Tryz.prog 15 := ⟨qd Tryz.func15 rfl rfl⟩
instance en17 : EnC Tryz.prog 17 := ⟨qd Tryz.func17 rfl rfl⟩
instance en18 : EnC Tryz.prog 18 := ⟨qd Tryz.func18 rfl rfl⟩
instance en20 : EnC Tryz.prog 20 := ⟨qd Tryz.func20 rfl rfl⟩
instance en21 : EnC Tryz.prog 21 := ⟨qd Tryz.func21 rfl rfl⟩
instance en22 : EnC Tryz.prog 22 := ⟨qd Tryz.func22 rfl rfl⟩
theorem ent23 : Enters Tryz.prog 23 := qd Tryz.func23 rfl rfl
instance en23 : EnC Tryz.prog 23 := ⟨ent23⟩
instance en24 : EnC Tryz.prog 24 := ⟨qd Tryz.func24 rfl rfl⟩
instance en25 : EnC Tryz.prog 25 := ⟨qd Tryz.func25 rfl rfl⟩
instance en26 : EnC Tryz.prog 26 := ⟨qd Tryz.func26 rfl rfl⟩
instance en27 : EnC Tryz.prog 27 := ⟨qd Tryz.func27 rfl rfl⟩
instance en28 : EnC Tryz.prog 28 := ⟨qd Tryz.func28 rfl rfl⟩
instance en29 : EnC Tryz.prog 29 := ⟨qd Tryz.func29 rfl rfl⟩
instance en30 : EnC Tryz.prog 30 := ⟨qd Tryz.func30 rfl rfl⟩
instance en31 : EnC Tryz.prog 31 := ⟨qd Tryz.func31 rfl rfl⟩
instance en38 : EnC Tryz.prog 38 := ⟨qd Tryz.func38 rfl rfl⟩
instance en39 : EnC Tryz.prog 39 := ⟨qd Tryz.func39 rfl rfl⟩
instance en41 : EnC Tryz.prog 41 := ⟨qd Tryz.func41 rfl rfl⟩
instance en42 : EnC Tryz.prog 42 := ⟨qd Tryz.func42 rfl rfl⟩
instance en43 : EnC Tryz.prog 43 := ⟨qd Tryz.func43 rfl rfl⟩
instance en44 : EnC Tryz.prog 44 := ⟨qd Tryz.func44 rfl rfl⟩
instance en45 : EnC Tryz.prog 45 := ⟨qd Tryz.func45 rfl rfl⟩
instance en46 : EnC Tryz.prog 46 := ⟨qd Tryz.func46 rfl rfl⟩
instance en47 : EnC Tryz.prog 47 := ⟨qd Tryz.func47 rfl rfl⟩
instance en48 : EnC Tryz.prog 48 := ⟨qd Tryz.func48 rfl rfl⟩
instance en49 : EnC Tryz.prog 49 := ⟨qd Tryz.func49 rfl rfl⟩
instance en50 : EnC Tryz.prog 50 := ⟨qd Tryz.func50 rfl rfl⟩
instance en51 : EnC Tryz.prog 51 := ⟨qd Tryz.func51 rfl rfl⟩
instance en52 : EnC Tryz.prog 52 := ⟨qd Tryz.func52 rfl rfl⟩
instance en53 : EnC Tryz.prog 53 := ⟨qd Tryz.func53 rfl rfl⟩
instance en54 : EnC Tryz.prog 54 := ⟨qd Tryz.func54 rfl rfl⟩
instance en55 : EnC Tryz.prog 55 := ⟨qd Tryz.func55 rfl rfl⟩
instance en56 : EnC Tryz.prog 56 := ⟨qd Tryz.func56 rfl rfl⟩
instance en57 : EnC Tryz.prog 57 := ⟨qd Tryz.func57 rfl rfl⟩
instance en66 : EnC Tryz.prog 66 := ⟨qd Tryz.func66 rfl rfl⟩
instance en67 : EnC Tryz.prog 67 := ⟨qd Tryz.func67 rfl rfl⟩
instance en68 : EnC Tryz.prog 68 := ⟨qd Tryz.func68 rfl rfl⟩
instance en69 : EnC Tryz.prog 69 := ⟨qd Tryz.func69 rfl rfl⟩
instance en70 : EnC Tryz.prog 70 := ⟨qd Tryz.func70 rfl rfl⟩
instance en71 : EnC Tryz.prog 71 := ⟨qd Tryz.func71 rfl rfl⟩
instance en72 : EnC Tryz.prog 72 := ⟨qd Tryz.func72 rfl rfl⟩
instance en73 : EnC Tryz.prog 73 := ⟨qd Tryz.func73 rfl rfl⟩
instance en74 : EnC Tryz.prog 74 := ⟨qd Tryz.func74 rfl rfl⟩
instance en75 : EnC Tryz.prog 75 := ⟨qd Tryz.func75 rfl rfl⟩
instance en76 : EnC Tryz.prog 76 := ⟨qd Tryz.func76 rfl rfl⟩
instance en77 : EnC Tryz.prog 77 := ⟨qd Tryz.func77 rfl rfl⟩
theorem ent78 : Enters Tryz.prog 78 := qd Tryz.func78 rfl rfl
instance en78 : EnC Tryz.prog 78 := ⟨ent78⟩
instance en79 : EnC Tryz.prog 79 := ⟨qd Tryz.func79 rfl rfl⟩
instance en80 : EnC Tryz.prog 80 := ⟨qd Tryz.func80 rfl rfl⟩
instance en81 : EnC Tryz.prog 81 := ⟨qd Tryz.func81 rfl rfl⟩
instance en82 : EnC Tryz.prog 82 := ⟨qd Tryz.func82 rfl rfl⟩
instance en83 : EnC Tryz.prog 83 := ⟨qd Tryz.func83 rfl rfl⟩
instance en94 : EnC Tryz.prog 94 := ⟨qd Tryz.func94 rfl rfl⟩
instance en95 : EnC Tryz.prog 95 := ⟨qd Tryz.func95 rfl rfl⟩
instance en96 : EnC Tryz.prog 96 := ⟨qd Tryz.func96 rfl rfl⟩
instance en97 : EnC Tryz.prog 97 := ⟨qd Tryz.func97 rfl rfl⟩
instance en98 : EnC Tryz.prog 98 := ⟨qd Tryz.func98 rfl rfl⟩
instance en99 : EnC Tryz.prog 99 := ⟨qd Tryz.func99 rfl rfl⟩
instance en100 : EnC Tryz.prog 100 := ⟨qd Tryz.func100 rfl rfl⟩
instance en101 : EnC Tryz.prog 101 := ⟨qd Tryz.func101 rfl rfl⟩
instance en102 : EnC Tryz.prog 102 := ⟨qd Tryz.func102 rfl rfl⟩
instance en103 : EnC Tryz.prog 103 := ⟨qd Tryz.func103 rfl rfl⟩
theorem ent104 : Enters Tryz.prog 104 := qd Tryz.func104 rfl rfl
instance en104 : EnC Tryz.prog 104 := ⟨ent104⟩
instance en105 : EnC Tryz.prog 105 := ⟨qd Tryz.func105 rfl rfl⟩
theorem ent106 : Enters Tryz.prog 106 := qd Tryz.func106 rfl rfl
instance en106 : EnC Tryz.prog 106 := ⟨ent106⟩
theorem ent107 : Enters Tryz.prog 107 := qd Tryz.func107 rfl rfl
instance en107 : EnC Tryz.prog 107 := ⟨ent107⟩
theorem ent108 : Enters Tryz.prog 108 := qd Tryz.func108 rfl rfl
instance en108 : EnC Tryz.prog 108 := ⟨ent108⟩
instance en112 : EnC Tryz.prog 112 := ⟨qd Tryz.func112 rfl rfl⟩
instance en113 : EnC Tryz.prog 113 := ⟨qd Tryz.func113 rfl rfl⟩
instance en114 : EnC Tryz.prog 114 := ⟨qd Tryz.func114 rfl rfl⟩
instance en115 : EnC Tryz.prog 115 := ⟨qd Tryz.func115 rfl rfl⟩
instance en116 : EnC Tryz.prog 116 := ⟨qd Tryz.func116 rfl rfl⟩
theorem ent117 : Enters Tryz.prog 117 := qd Tryz.func117 rfl rfl
instance en117 : EnC Tryz.prog 117 := ⟨ent117⟩
instance en118 : EnC Tryz.prog 118 := ⟨qd Tryz.func118 rfl rfl⟩
instance en119 : EnC Tryz.prog 119 := ⟨qd Tryz.func119 rfl rfl⟩
instance en120 : EnC Tryz.prog 120 := ⟨qd Tryz.func120 rfl rfl⟩
theorem ent121 : Enters Tryz.prog 121 := qd Tryz.func121 rfl rfl
instance en121 : EnC Tryz.prog 121 := ⟨ent121⟩
instance en122 : EnC Tryz.prog 122 := ⟨qd Tryz.func122 rfl rfl⟩
theorem ent123 : Enters Tryz.prog 123 := qd Tryz.func123 rfl rfl
instance en123 : EnC Tryz.prog 123 := ⟨ent123⟩
theorem ent124 : Enters Tryz.prog 124 := qd Tryz.func124 rfl rfl
instance en124 : EnC Tryz.prog 124 := ⟨ent124⟩
instance en125 : EnC Tryz.prog 125 := ⟨qd Tryz.func125 rfl rfl⟩
instance en126 : EnC Tryz.prog 126 := ⟨qd Tryz.func126 rfl rfl⟩
instance en127 : EnC Tryz.prog 127 := ⟨qd Tryz.func127 rfl rfl⟩
instance en128 : EnC Tryz.prog 128 := ⟨qd Tryz.func128 rfl rfl⟩
instance en133 : EnC Tryz.prog 133 := ⟨qd Tryz.func133 rfl rfl⟩
instance en134 : EnC Tryz.prog 134 := ⟨qd Tryz.func134 rfl rfl⟩
instance en135 : EnC Tryz.prog 135 := ⟨qd Tryz.func135 rfl rfl⟩
instance en136 : EnC Tryz.prog 136 := ⟨qd Tryz.func136 rfl rfl⟩
instance en137 : EnC Tryz.prog 137 := ⟨qd Tryz.func137 rfl rfl⟩
instance en138 : EnC Tryz.prog 138 := ⟨qd Tryz.func138 rfl rfl⟩
instance en139 : EnC Tryz.prog 139 := ⟨qd Tryz.func139 rfl rfl⟩
instance en140 : EnC Tryz.prog 140 := ⟨qd Tryz.func140 rfl rfl⟩
instance en141 : EnC Tryz.prog 141 := ⟨qd Tryz.func141 rfl rfl⟩
instance en142 : EnC Tryz.prog 142 := ⟨qd Tryz.func142 rfl rfl⟩
instance en143 : EnC Tryz.prog 143 := ⟨qd Tryz.func143 rfl rfl⟩
instance en144 : EnC Tryz.prog 144 := ⟨qd Tryz.func144 rfl rfl⟩
instance en148 : EnC Tryz.prog 148 := ⟨qd Tryz.func148 rfl rfl⟩
instance en149 : EnC Tryz.prog 149 := ⟨qd Tryz.func149 rfl rfl⟩
instance en150 : EnC Tryz.prog 150 := ⟨qd Tryz.func150 rfl rfl⟩
theorem qmS (v : Value) (w : World) : (Instr.makeInterface 168 v).run Tryz.prog w = .ok (.iface 168 v) w := by simp [Instr.makeInterface, run_underlying Tryz.underlying168]
abbrev lostCh : List PanicEntry := [{ v := .iface 168 (.agg #[]), recovered := false }]
theorem qmN (p q : Addr) : qfE Tryz.prog 106 #[.pointer (some p), .pointer (some q)] := by
  intro w
  refine callsD_of_wpS Tryz.func106 rfl fun c₀ cs hu => ?_
  apply wpS_seq
  apply wpS_region
  simp [wpOpsS, go_sem, recoverD, hu, Tryz.ntmps106, Exit.thenS]
  refine wpS_of_wp ?_
  go_wp2
  cases c₀
  simp_all [bodyPostS, results, Tryz.results106]
theorem qj0 (w : World) : (Instr.typeAssert (.iface 168 (.agg #[])) 20 168 true).run Tryz.prog w = .ok (.tuple #[.agg #[], .bool true]) w := by
  simp [Instr.typeAssert, run_underlying Tryz.underlying168]
theorem eqn106 (x y : Operand) (w : World) : (do eqGuard .eql 20 x y (.iface 168 (.agg #[])) .nilIface; binOp .eql 20 (.iface 168 (.agg #[])) .nilIface : Sem Value).run Tryz.prog w = .ok (.bool false) w := by
  simp [go_sem]
set_option maxRecDepth 100000 in
theorem qds (g1 g2 : Nat) (v1 v2 : Value) : qfF Tryz.prog 106 #[.pointer (some ⟨g1, 0, none⟩), .pointer (some ⟨g2, 0, none⟩)] 168 (.agg #[]) [⟨g1, 37, [v1]⟩, ⟨g2, 4, [v2]⟩] [⟨g1, 37, [.slice none 0 0]⟩, ⟨g2, 4, [.bool false]⟩] := by
  intro w hp
  refine callsD_of_wpS Tryz.func106 rfl fun c₀ cs hu => ?_
  apply wpS_seq
  apply wpS_region
  simp [wpOpsS, go_sem, recoverD, hu, Tryz.ntmps106, Exit.thenS]
  refine wpS_of_wp (qcm.1 ?_)
  refine (show SXC Tryz.prog none 11 [] (muts [⟨g1, 37, [v1]⟩, ⟨g2, 4, [v2]⟩] []) w _ _ [(0, .pointer (some ⟨g1, 0, none⟩)), (1, .pointer (some ⟨g2, 0, none⟩)), (5, .iface 168 (.agg #[]))] [⟨g1, 37, [v1]⟩, ⟨g2, 4, [v2]⟩] [] [] (some ()) () from ?_) rfl _ _ ⟨rfl, by simp, fun i v hv => ?_⟩ hp
  · refine qf3 ?_
    refine qej ?_
    refine qbe ?_
    refine qh2 rfl rfl rfl (eqn106 _ _) rfl ?_
    refine qdC ?_
    refine qdD ?_
    refine qaM (b := false) rfl (fun h => by cases h) (fun _ => ?_)
    refine qej ?_
    refine qbe ?_
    refine qgX rfl rfl qj0 rfl ?_
    refine qct rfl rfl rfl rfl ?_
    refine qct rfl rfl rfl rfl ?_
    refine qdC ?_
    refine qdD ?_
    refine qaM (b := true) rfl (fun _ => ?_) (fun h => by cases h)
    refine qej ?_
    refine qbe ?_
    refine qf4 rfl tf168 rfl (fun g => ?_)
    refine ja (i := 0) rfl rfl rfl tf168 rfl rfl rfl rfl rfl ?_
    refine qdC ?_
    refine qdD ?_
    refine qbe ?_
    refine ja (i := 1) rfl rfl rfl tf37 rfl rfl rfl rfl rfl ?_
    refine ja (i := 2) rfl rfl rfl tf4 rfl rfl rfl rfl rfl ?_
    refine qdC ?_
    refine qh5 ?_
    intro _ a w' hf hp'
    exact ⟨hf.defers, _, rfl, _, results_none rfl _ _ _, rfl, rfl, hp'.pick (.cons 1 rfl (.cons 1 rfl .nil)) .nil (by simp)⟩
  · simp only [yH] at hv
    split at hv
    · rename_i h; subst h; simpa using hv
    · split at hv
      · rename_i h; subst h; simpa using hv
      · split at hv
        · rename_i h; subst h; simpa using hv
        · cases hv
instance un2 : UnF Tryz.prog 2 (.int .i64) := ⟨Tryz.underlying2⟩
instance un3 : UnF Tryz.prog 3 (.int .i64) := ⟨Tryz.underlying3⟩
instance un4 : UnF Tryz.prog 4 .bool := ⟨Tryz.underlying4⟩
instance un5 : UnF Tryz.prog 5 (.int .u8) := ⟨Tryz.underlying5⟩
instance un9 : UnF Tryz.prog 9 .string := ⟨Tryz.underlying9⟩
instance un22 : UnF Tryz.prog 22 (.slice 37) := ⟨Tryz.underlying22⟩
instance un27 : UnF Tryz.prog 27 (.slice 5) := ⟨Tryz.underlying27⟩
instance un37 : UnF Tryz.prog 37 (.slice 3) := ⟨Tryz.underlying37⟩
instance un50 : UnF Tryz.prog 50 (.int .u64) := ⟨Tryz.underlying50⟩
instance un117 : UnF Tryz.prog 117 (.slice 141) := ⟨Tryz.underlying117⟩
instance un123 : UnF Tryz.prog 123 (.slice 50) := ⟨Tryz.underlying123⟩
instance un128 : UnF Tryz.prog 128 (.int .u64) := ⟨Tryz.underlying128⟩
set_option maxRecDepth 100000 in
theorem au0 (p : List Nat) {A B : Prop} (t : B → Stp p A := by
  intro h
  repeat (first
    | exact stp0 h
    | (refine stc 0 ?_; refine stk (fun h => qdC h) ?_)
    | (refine stc 1 ?_; refine stk (fun h => qmg rfl rfl rfl h) ?_)
    | (refine stc 2 ?_; refine stk (fun h => qdD h) ?_)
    | (refine stc 3 ?_; refine stk (fun h => qej h) ?_)
    | (refine stc 4 ?_; refine stk (fun h => qbe h) ?_)
    | (refine stc 5 ?_; refine stk (fun h => qiP rfl rfl rfl h) ?_)
    | (refine stc 6 ?_; refine qe3 rfl rfl rfl (qbi rfl) ?_)
    | (refine stc 7 ?_; refine stk (fun h => qmh rfl rfl rfl h) ?_)
    | (refine stc 8 ?_; refine qnb rfl rfl rfl ?_)
    | (refine stc 9 ?_; refine stk (fun h => qnh h) ?_)
    | (refine stc 10 ?_; refine stk (fun h => qor rfl (And.left h) (And.right h)) ?_)
    | (refine stc 11 ?_; refine stk (fun h => ql6 h) ?_)
    | (refine stc 12 ?_; refine stk (fun h => qky h) ?_)
    | (refine stc 13 ?_; refine stk (fun h => qfC rfl rfl inferInstance rfl h) ?_)
    | (refine stc 14 ?_; refine stk (fun h => qct rfl rfl rfl rfl h) ?_)
    | (refine stc 15 ?_; exact stz (qkw))
    | (refine stc 16 ?_; exact stz (qu ()))
    | (refine stc 17 ?_; refine stk (fun h => qf3 h) ?_)
    | (refine stc 18 ?_; refine stk (fun h => qni rfl rfl rfl rfl h) ?_)
    | (refine stc 19 ?_; refine stk (fun h => qh4 (b := true) rfl rfl rfl rfl h) ?_)
    | (refine stc 20 ?_; refine stk (fun h => qh4 (b := false) rfl rfl rfl rfl h) ?_)
    | (refine stc 21 ?_; refine stk (fun h => qkz h) ?_)
    | (refine stc 22 ?_; refine stk (fun h => ja (i := 0) rfl rfl rfl inferInstance rfl rfl rfl rfl rfl h) ?_)
    | (refine stc 23 ?_; refine qe3 rfl rfl rfl (j7 rfl inferInstance) ?_)
    | (refine stc 24 ?_; first
      | (refine sta 0 ?_; refine qnc rfl (by kernel_rfl) rfl ?_)
      | (refine sta 1 ?_; refine stk (fun h => yJ (i := 0) rfl rfl inferInstance rfl rfl (fun _ => rfl) rfl rfl h) ?_)
      | (refine sta 2 ?_; refine stk (fun h => qnq rfl UnF.u rfl rfl h) ?_)
      | (refine sta 3 ?_; refine stk (fun h => qnk rfl rfl rfl h) ?_)
      | (refine sta 4 ?_; refine stk (fun h => qns rfl rfl rfl rfl h) ?_)
      | (refine sta 5 ?_; refine stk (fun h => qmj h) ?_)
      | (refine sta 6 ?_; refine stk (fun h => qlS (by kernel_rfl) h) ?_)
      | (refine sta 7 ?_; refine stk (fun h => qf4 rfl inferInstance rfl h) ?_)
      | (refine sta 8 ?_; refine stk (fun h => qh5 h) ?_)
      | (refine sta 9 ?_; refine stk (fun h => qnn rfl rfl rfl rfl h) ?_)
      | (refine sta 10 ?_; refine stk (fun h => qnp rfl rfl rfl rfl h) ?_)
      | (refine sta 11 ?_; refine stk (fun h => yJ (i := 0) rfl rfl inferInstance rfl rfl (by simp) rfl rfl h) ?_)
      | (refine sta 12 ?_; refine stk (fun h => qlY h) ?_)
      | (refine sta 13 ?_; refine stk (fun h => ql2 h) ?_)
      | (refine sta 14 ?_; refine stk (fun h => qmk h) ?_)
      | (refine sta 15 ?_; refine stk (fun h => qnB rfl rfl rfl rfl h) ?_))
    | (refine stc 25 ?_; first
      | (refine sta 0 ?_; refine stk (fun h => qny rfl rfl rfl rfl h) ?_)
      | (refine sta 1 ?_; refine stk (fun h => qg0 rfl rfl rfl h) ?_)
      | (refine sta 2 ?_; refine stk (fun h => yJ (i := 1) rfl rfl inferInstance rfl rfl (by simp) rfl rfl h) ?_)
      | (refine sta 3 ?_; refine stk (fun h => yJ (i := 1) rfl rfl inferInstance rfl rfl (fun _ => rfl) rfl rfl h) ?_)
      | (refine sta 4 ?_; refine stk (fun h => qkx h) ?_)
      | (refine sta 5 ?_; refine stk (fun h => qnz rfl rfl rfl h) ?_)
      | (refine sta 6 ?_; refine stk (fun h => ql9 rfl UnF.u UnF.u rfl rfl h) ?_)
      | (refine sta 7 ?_; refine stk (fun h => qos (And.left h) (And.right h)) ?_)
      | (refine sta 8 ?_; refine stk (fun h => qlX h) ?_)
      | (refine sta 9 ?_; refine stk (fun h => qda Int (eI .i64) 3 1 h) ?_)
      | (refine sta 10 ?_; refine qdA rfl rfl rfl (zd (i := 0) rfl inferInstance rfl rfl (fun _ => rfl) rfl) ?_)
      | (refine sta 11 ?_; refine stk (fun h => ja (i := 1) rfl rfl rfl inferInstance rfl rfl rfl rfl rfl h) ?_)
      | (refine sta 12 ?_; refine stk (fun h => qf5 (j := 0) rfl rfl inferInstance rfl rfl (fun _ => rfl) rfl rfl h) ?_)
      | (refine sta 13 ?_; refine stk (fun h => qlZ h) ?_)
      | (refine sta 14 ?_; refine stk (fun h => yJ (i := 2) rfl rfl inferInstance rfl rfl (by simp) rfl rfl h) ?_)
      | (refine sta 15 ?_; exact stz (qa ((), ()))))
    | (refine stc 26 ?_; first
      | (refine sta 0 ?_; refine stk (fun h => qda Int (eI .u8) 5 1 h) ?_)
      | (refine sta 1 ?_; refine stk (fun h => zE (.cons 0 rfl (.cons 1 rfl .nil)) (qO 0 rfl (qfw 1 rfl qr)) h) ?_)
      | (refine sta 2 ?_; exact stz (qf9 (.cons 0 rfl .nil)))
      | (refine sta 3 ?_; refine stk (fun h => qno rfl rfl rfl rfl h) ?_)
      | (refine sta 4 ?_; refine stk (fun h => qnm h) ?_)
      | (refine sta 5 ?_; refine stk (fun h => qmd h) ?_)
      | (refine sta 6 ?_; refine stk (fun h => yJ (i := 3) rfl rfl inferInstance rfl rfl (fun _ => rfl) rfl rfl h) ?_)
      | (refine sta 7 ?_; refine qdA rfl rfl rfl (zd (i := 1) rfl inferInstance rfl rfl (fun _ => rfl) rfl) ?_)
      | (refine sta 8 ?_; refine stk (fun h => qaj (j := 0) (qv .i64) (by decide) rfl UnF.u inferInstance rfl rfl rfl rfl h) ?_)
      | (refine sta 9 ?_; refine stk (fun h => ql0 h) ?_)
      | (refine sta 10 ?_; refine stk (fun h => qkm (And.left h) (And.right h)) ?_)
      | (refine sta 11 ?_; refine stk (fun h => yJ (i := 2) rfl rfl inferInstance rfl rfl (fun _ => rfl) rfl rfl h) ?_)
      | (refine sta 12 ?_; refine stk (fun h => qd9 Int (eI .u8) 5 1 h) ?_)
      | (refine sta 13 ?_; refine stk (fun h => zE (.cons 1 rfl (.cons 1 rfl .nil)) (qO 0 rfl qr) h) ?_)
      | (refine sta 14 ?_; refine stk (fun h => qd9 Int (eI .i64) 3 1 h) ?_)
      | (refine sta 15 ?_; refine stk (fun h => zE (.cons 1 rfl .nil) qr h) ?_))
    | (refine stc 27 ?_; first
      | (refine sta 0 ?_; refine stk (fun h => qnr rfl rfl rfl rfl h) ?_)
      | (refine sta 1 ?_; refine stk (fun h => qb7 Int (eI .i64) 3 1 h) ?_)
      | (refine sta 2 ?_; refine stk (fun h => ja (i := 2) rfl rfl rfl inferInstance rfl rfl rfl rfl rfl h) ?_)
      | (refine sta 3 ?_; refine stk (fun h => qg qgh h) ?_)
      | (refine sta 4 ?_; refine stk (fun h => qmi h) ?_)
      | (refine sta 5 ?_; refine stk (fun h => zE (.cons 0 rfl (.cons 0 rfl (.cons 0 rfl (.cons 0 rfl .nil)))) qr h) ?_)
      | (refine sta 6 ?_; refine stk (fun h => qoq (And.left h) (And.right h)) ?_)
      | (refine sta 7 ?_; refine stk (fun h => q9 qcI h) ?_)
      | (refine sta 8 ?_; refine stk (fun h => qnt rfl rfl rfl rfl h) ?_)
      | (refine sta 9 ?_; refine qdA rfl rfl rfl (zd (i := 3) rfl inferInstance rfl rfl (fun _ => rfl) rfl) ?_)
      | (refine sta 10 ?_; refine stk (fun h => qiQ (j := 0) vQ (by decide) rfl UnF.u inferInstance rfl rfl rfl rfl h) ?_)
      | (refine sta 11 ?_; refine stk (fun h => qng h) ?_)
      | (refine sta 12 ?_; refine stk (fun h => qel rfl rfl rfl rfl rfl h) ?_)
      | (refine sta 13 ?_; refine qe3 rfl rfl rfl (qow UnF.u rfl) ?_)
      | (refine sta 14 ?_; refine stk (fun h => qbg 24 rfl (by kernel_rfl) (.cons 0 rfl (.cons 1 rfl .nil)) h) ?_)
      | (refine sta 15 ?_; refine stk (fun h => qmm (List Int) (Option Addr × Nat) eN37 rN37 37 1 h) ?_))
    | (refine stc 28 ?_; first
      | (refine sta 0 ?_; refine stk (fun h => qg qjY h) ?_)
      | (refine sta 1 ?_; refine stk (fun h => qg qgj h) ?_)
      | (refine sta 2 ?_; refine stk (fun h => q9 qha h) ?_)
      | (refine sta 3 ?_; refine stk (fun h => qg qia h) ?_)
      | (refine sta 4 ?_; refine stk (fun h => qg qgp h) ?_)
      | (refine sta 5 ?_; refine stk (fun h => qg qgq h) ?_)
      | (refine sta 6 ?_; refine stk (fun h => zE (.cons 1 rfl (.cons 1 rfl .nil)) (qO 0 rfl (qO 1 rfl (qO 2 rfl (qO 3 rfl qr)))) h) ?_)
      | (refine sta 7 ?_; refine stk (fun h => qg qgl h) ?_)
      | (refine sta 8 ?_; refine stk (fun h => qg qgf h) ?_)
      | (refine sta 9 ?_; refine stk (fun h => zE (.cons 1 rfl (.cons 1 rfl (.cons 1 rfl (.cons 1 rfl .nil)))) (qO 0 rfl (qO 1 rfl (qO 2 rfl (qO 3 rfl qr)))) h) ?_)
      | (refine sta 10 ?_; refine stk (fun h => qgZ rfl rfl rfl h) ?_)
      | (refine sta 11 ?_; refine stk (fun h => ql3 (j := 0) rfl h) ?_)
      | (refine sta 12 ?_; refine stk (fun h => qg1 rfl rfl rfl rfl rfl h) ?_)
      | (refine sta 13 ?_; refine stk (fun h => qnj rfl rfl rfl rfl h) ?_)
      | (refine sta 14 ?_; refine stk (fun h => yJ (i := 3) rfl rfl inferInstance rfl rfl (by simp) rfl rfl h) ?_)
      | (refine sta 15 ?_; refine qdA rfl rfl rfl (zd (i := 2) rfl inferInstance rfl rfl (fun _ => rfl) rfl) ?_))
    | (refine stc 29 ?_; first
      | (refine sta 0 ?_; refine stk (fun h => ql1 h) ?_)
      | (refine sta 1 ?_; refine stk (fun h => qg qhc h) ?_)
      | (refine sta 2 ?_; refine stk (fun h => qbf (j := 0) rfl UnF.u inferInstance rfl rfl rfl rfl h) ?_)
      | (refine sta 3 ?_; refine stk (fun h => qlW h) ?_)
      | (refine sta 4 ?_; refine stk (fun h => qg (fun h => qfe F _ h) h) ?_)
      | (refine sta 5 ?_; refine stk (fun h => qnA rfl rfl rfl rfl rfl h) ?_)
      | (refine sta 6 ?_; refine stk (fun h => zE (.cons 0 rfl .nil) (qO 0 rfl qr) h) ?_)
      | (refine sta 7 ?_; refine stk (fun h => q9 qdc h) ?_)
      | (refine sta 8 ?_; refine stk (fun h => qg qdh h) ?_)
      | (refine sta 9 ?_; refine stk (fun h => qaj (j := 1) (qv .i64) (by decide) rfl UnF.u inferInstance rfl rfl rfl rfl h) ?_)
      | (refine sta 10 ?_; refine stk (fun h => zE .nil (qfw 0 rfl qr) h) ?_)
      | (refine sta 11 ?_; refine stk (fun h => qaj (j := 0) qbJ (by decide) rfl UnF.u inferInstance rfl rfl rfl rfl h) ?_)
      | (refine sta 12 ?_; refine stk (fun h => qf5 (j := 0) rfl rfl inferInstance rfl rfl (by simp) rfl rfl h) ?_)
      | (refine sta 13 ?_; exact stz (zv ()))
      | (refine sta 14 ?_; refine stk (fun h => zE (.cons 0 rfl (.cons 0 rfl .nil)) (qO 0 rfl qr) h) ?_)
      | (refine sta 15 ?_; refine stk (fun h => q9 qif h) ?_))
    | (refine stc 30 ?_; first
      | (refine sta 0 ?_; refine stk (fun h => qbR (j := 0) (qv .u8) (by decide) rfl h) ?_)
      | (refine sta 1 ?_; refine stk (fun h => kh 0 (qv .i64) rfl UnF.u inferInstance rfl rfl rfl rfl rfl (.inr ⟨0, rfl⟩) rfl rfl h) ?_)
      | (refine sta 2 ?_; refine stk (fun h => yJ (i := 4) rfl rfl inferInstance rfl rfl (by simp) rfl rfl h) ?_)
      | (refine sta 3 ?_; refine stk (fun h => zi 0 _ rfl rfl rfl (qbi rfl) rfl h) ?_)
      | (refine sta 4 ?_; refine stk (fun h => zi 1 _ rfl rfl rfl (qbi rfl) rfl h) ?_)
      | (refine sta 5 ?_; refine stk (fun h => zi 2 _ rfl rfl rfl (j7 rfl inferInstance) rfl h) ?_)
      | (refine sta 6 ?_; refine stk (fun h => zi 4 _ rfl rfl rfl (qbi rfl) rfl h) ?_)
      | (refine sta 7 ?_; refine stk (fun h => zE (.cons 0 rfl (.cons 0 rfl (.cons 0 rfl (.cons 0 rfl .nil)))) (qO 0 rfl qr) h) ?_)
      | (refine sta 8 ?_; refine stk (fun h => qg qhm h) ?_)
      | (refine sta 9 ?_; refine stk (fun h => qbf (j := 1) rfl UnF.u inferInstance rfl rfl rfl rfl h) ?_)
      | (refine sta 10 ?_; refine stk (fun h => qkq rfl UnF.u rfl rfl rfl h) ?_)
      | (refine sta 11 ?_; refine stk (fun h => qaM rfl (And.left h) (And.right h)) ?_)
      | (refine sta 12 ?_; refine stk (fun h => q9 qie h) ?_)
      | (refine sta 13 ?_; refine stk (fun h => q9 qfk h) ?_)
      | (refine sta 14 ?_; refine stk (fun h => yJ (i := 4) rfl rfl inferInstance rfl rfl (fun _ => rfl) rfl rfl h) ?_)
      | (refine sta 15 ?_; refine stk (fun h => yJ (i := 5) rfl rfl inferInstance rfl rfl (by simp) rfl rfl h) ?_))
    | (refine stc 31 ?_; first
      | (refine sta 0 ?_; refine stk (fun h => ja (i := 6) rfl rfl rfl inferInstance rfl rfl rfl rfl rfl h) ?_)
      | (refine sta 1 ?_; refine stk (fun h => qg qhf h) ?_)
      | (refine sta 2 ?_; refine stk (fun h => qbg 18 rfl (by kernel_rfl) (.cons 0 rfl .nil) h) ?_)
      | (refine sta 3 ?_; refine stk (fun h => qg qho h) ?_)
      | (refine sta 4 ?_; refine stk (fun h => qg qdK h) ?_)
      | (refine sta 5 ?_; refine stk (fun h => q9 qdi h) ?_)
      | (refine sta 6 ?_; refine stk (fun h => qg qeb h) ?_)
      | (refine sta 7 ?_; refine stk (fun h => qg qcU h) ?_)
      | (refine sta 8 ?_; refine stk (fun h => qg qaF h) ?_)
      | (refine sta 9 ?_; refine stk (fun h => qbR (j := 0) (qv .i64) (by decide) rfl h) ?_)
      | (refine sta 10 ?_; refine stk (fun h => qf8 (i := 4) rfl h) ?_)
      | (refine sta 11 ?_; refine stk (fun h => zE (.cons 0 rfl (.cons 0 rfl (.cons 0 rfl (.cons 0 rfl (.cons 0 rfl .nil))))) (qO 0 rfl qr) h) ?_)
      | (refine sta 12 ?_; refine stk (fun h => qek rfl rfl rfl rfl rfl h) ?_)
      | (refine sta 13 ?_; refine stk (fun h => qnC rfl rfl rfl rfl h) ?_)
      | (refine sta 14 ?_; refine stk (fun h => qg qfu h) ?_)
      | (refine sta 15 ?_; refine stk (fun h => qg qeq h) ?_))
    | (refine stc 32 ?_; first
      | (refine sta 0 ?_; refine stk (fun h => qfa 2 rfl h) ?_)
      | (refine sta 1 ?_; refine stk (fun h => qg qig h) ?_)
      | (refine sta 2 ?_; refine stk (fun h => qg qgr h) ?_)
      | (refine sta 3 ?_; refine stk (fun h => q9 qcY h) ?_)
      | (refine sta 4 ?_; refine stk (fun h => qfa 0 rfl h) ?_)
      | (refine sta 5 ?_; refine stk (fun h => qb7 Int (eI .u8) 5 1 h) ?_)
      | (refine sta 6 ?_; refine stk (fun h => qg qhi h) ?_)
      | (refine sta 7 ?_; refine stk (fun h => q9 qfp h) ?_)
      | (refine sta 8 ?_; refine stk (fun h => qg qgs h) ?_)
      | (refine sta 9 ?_; refine stk (fun h => qg qdd h) ?_)
      | (refine sta 10 ?_; refine stk (fun h => qg qec h) ?_)
      | (refine sta 11 ?_; exact stz (ql5))
      | (refine sta 12 ?_; refine stk (fun h => qnl rfl UnF.u rfl rfl h) ?_)
      | (refine sta 13 ?_; refine stk (fun h => qmb (i := 0) (qv .i64) rfl UnF.u inferInstance rfl rfl rfl rfl h) ?_)
      | (refine sta 14 ?_; refine stk (fun h => qg qft h) ?_)
      | (refine sta 15 ?_; refine stk (fun h => qc7 0 rfl h) ?_))
    | (refine stc 33 ?_; first
      | (refine sta 0 ?_; refine stk (fun h => qg qbF h) ?_)
      | (refine sta 1 ?_; refine stk (fun h => q9 qcg h) ?_)
      | (refine sta 2 ?_; refine stk (fun h => qnv rfl rfl rfl rfl h) ?_)
      | (refine sta 3 ?_; refine stk (fun h => zi 5 _ rfl rfl rfl (qbi rfl) rfl h) ?_)
      | (refine sta 4 ?_; refine stk (fun h => zi 6 _ rfl rfl rfl (qbi rfl) rfl h) ?_)
      | (refine sta 5 ?_; refine stk (fun h => zi 7 _ rfl rfl rfl (qbi rfl) rfl h) ?_)
      | (refine sta 6 ?_; refine stk (fun h => zi 8 _ rfl rfl rfl (j7 rfl inferInstance) rfl h) ?_)
      | (refine sta 7 ?_; refine stk (fun h => zi 11 _ rfl rfl rfl (qbi rfl) rfl h) ?_)
      | (refine sta 8 ?_; refine stk (fun h => zi 12 _ rfl rfl rfl (qbi rfl) rfl h) ?_)
      | (refine sta 9 ?_; refine stk (fun h => zi 18 _ rfl rfl rfl (qbi rfl) rfl h) ?_)
      | (refine sta 10 ?_; refine stk (fun h => zE (.cons 0 rfl (.cons 0 rfl (.cons 0 rfl (.cons 0 rfl (.cons 0 rfl .nil))))) (qO 0 rfl (qO 1 rfl qr)) h) ?_)
      | (refine sta 11 ?_; refine stk (fun h => qbR (j := 2) (qv .u8) (by decide) rfl h) ?_)
      | (refine sta 12 ?_; refine stk (fun h => qg qgg h) ?_)
      | (refine sta 13 ?_; refine stk (fun h => zE (.cons 0 rfl .nil) qr h) ?_)
      | (refine sta 14 ?_; refine stk (fun h => qg qhg h) ?_)
      | (refine sta 15 ?_; refine stk (fun h => zE (.cons 0 rfl (.cons 0 rfl (.cons 0 rfl .nil))) qr h) ?_))
    | (refine stc 34 ?_; first
      | (refine sta 0 ?_; refine stk (fun h => qg qhh h) ?_)
      | (refine sta 1 ?_; refine stk (fun h => qbf (j := 3) rfl UnF.u inferInstance rfl rfl rfl rfl h) ?_)
      | (refine sta 2 ?_; refine stk (fun h => qg qhn h) ?_)
      | (refine sta 3 ?_; refine stk (fun h => qg qid h) ?_)
      | (refine sta 4 ?_; refine stk (fun h => qg qic h) ?_)
      | (refine sta 5 ?_; refine stk (fun h => q9 qib h) ?_)))) : Stv p B A := ⟨fun h => (t h).go⟩
theorem au (p : List Nat) {A B : Prop} (h : B) (t : Stv p B A := by exact au0 _) : A := t.go h
theorem av (p : List Nat) {A B C : Prop} (h : B) (k : C) (t : Stv p (B ∧ C) A := by exact au0 _) : A := t.go ⟨h, k⟩
theorem az (p : List Nat) {A : Prop} (t : Stv p True A := by exact au0 _) : A := t.go trivial
theorem qgp {F : Nat} {x1 : Int} {x2 : Int} {x3 : Int} {r : Int} (hm : yn F x1 x2 x3 = some r) :
    Pure Tryz.prog 43 [.agg #[.int .i64 x1, .int .i64 x2, .int .i64 x3]] [] Unit (fun _ => .int .i64 r) (fun _ => []) (fun _ => []) := by
 refine qj Tryz.func43 rfl Tryz.ntmps43 rfl hm (fun w => ?_)
 refine au [25,8,3,4,24,3] ?_
 intro g4
 refine au [5,0,2,3,3,4,13,24,1,24,4,1] ?_
 refine qk 4 (decide (x1 < 0)) [(1, .pointer (some ⟨g4, 0, none⟩)), (10, .bool ((decide (x1 < 0)) || (decide (7 < x1))))] (fun h12 => ?_) (fun h12 => ?_) ?_
 refine qb (os := _) rfl (qi (k := 6) rfl h12 ?_)
 refine au [7,7,7,19] ?_
 refine qc (d := 10) (v := .bool ((decide (x1 < 0)) || (decide (7 < x1)))) rfl (by rw [h12]; simp only [Bool.true_or]) ?_
 exact az [0,15]
 refine qb (os := _) rfl (qh (k := 6) rfl h12 ?_)
 refine au [13,24,1,24,10,20] ?_
 refine qc (d := 10) (v := .bool ((decide (x1 < 0)) || (decide (7 < x1)))) rfl (by rw [h12]; simp only [Bool.false_or]) ?_
 exact az [0,15]
 refine qb (os := _) rfl ?_
 refine au [1] ?_
 refine qk 4 ((decide (x1 < 0)) || (decide (7 < x1))) [(1, .pointer (some ⟨g4, 0, none⟩)), (15, .bool (((decide (x1 < 0)) || (decide (7 < x1))) || (decide (x2 < 0))))] (fun h13 => ?_) (fun h13 => ?_) ?_
 refine qb (os := _) rfl (qi (k := 11) rfl h13 ?_)
 refine au [7,7,7,19] ?_
 refine qc (d := 15) (v := .bool (((decide (x1 < 0)) || (decide (7 < x1))) || (decide (x2 < 0)))) rfl (by rw [h13]; simp only [Bool.true_or]) ?_
 exact az [0,15]
 refine qb (os := _) rfl (qh (k := 11) rfl h13 ?_)
 refine au [13,24,1,24,4,20] ?_
 refine qc (d := 15) (v := .bool (((decide (x1 < 0)) || (decide (7 < x1))) || (decide (x2 < 0)))) rfl (by rw [h13]; simp only [Bool.false_or]) ?_
 exact az [0,15]
 refine qb (os := _) rfl ?_
 refine au [1] ?_
 refine qk 4 (((decide (x1 < 0)) || (decide (7 < x1))) || (decide (x2 < 0))) [(1, .pointer (some ⟨g4, 0, none⟩)), (20, .bool ((((decide (x1 < 0)) || (decide (7 < x1))) || (decide (x2 < 0))) || ((x2 : Int) == 1)))] (fun h14 => ?_) (fun h14 => ?_) ?_
 refine qb (os := _) rfl (qi (k := 16) rfl h14 ?_)
 refine au [7,7,7,19] ?_
 refine qc (d := 20) (v := .bool ((((decide (x1 < 0)) || (decide (7 < x1))) || (decide (x2 < 0))) || ((x2 : Int) == 1))) rfl (by rw [h14]; simp only [Bool.true_or]) ?_
 exact az [0,15]
 refine qb (os := _) rfl (qh (k := 16) rfl h14 ?_)
 refine au [13,24,1,24,9,20] ?_
 refine qc (d := 20) (v := .bool ((((decide (x1 < 0)) || (decide (7 < x1))) || (decide (x2 < 0))) || ((x2 : Int) == 1))) rfl (by rw [h14]; simp only [Bool.false_or]) ?_
 exact az [0,15]
 refine qb (os := _) rfl ?_
 refine au [1] ?_
 refine qk 4 ((((decide (x1 < 0)) || (decide (7 < x1))) || (decide (x2 < 0))) || ((x2 : Int) == 1)) [(1, .pointer (some ⟨g4, 0, none⟩)), (25, .bool (((((decide (x1 < 0)) || (decide (7 < x1))) || (decide (x2 < 0))) || ((x2 : Int) == 1)) || (decide (300 < x2))))] (fun h15 => ?_) (fun h15 => ?_) ?_
 refine qb (os := _) rfl (qi (k := 21) rfl h15 ?_)
 refine au [7,7,7,19] ?_
 refine qc (d := 25) (v := .bool (((((decide (x1 < 0)) || (decide (7 < x1))) || (decide (x2 < 0))) || ((x2 : Int) == 1)) || (decide (300 < x2)))) rfl (by rw [h15]; simp only [Bool.true_or]) ?_
 exact az [0,15]
 refine qb (os := _) rfl (qh (k := 21) rfl h15 ?_)
 refine au [13,24,1,24,10,20] ?_
 refine qc (d := 25) (v := .bool (((((decide (x1 < 0)) || (decide (7 < x1))) || (decide (x2 < 0))) || ((x2 : Int) == 1)) || (decide (300 < x2)))) rfl (by rw [h15]; simp only [Bool.false_or]) ?_
 exact az [0,15]
 refine qb (os := _) rfl ?_
 refine au [1] ?_
 refine qk 4 (((((decide (x1 < 0)) || (decide (7 < x1))) || (decide (x2 < 0))) || ((x2 : Int) == 1)) || (decide (300 < x2))) [(1, .pointer (some ⟨g4, 0, none⟩)), (30, .bool ((((((decide (x1 < 0)) || (decide (7 < x1))) || (decide (x2 < 0))) || ((x2 : Int) == 1)) || (decide (300 < x2))) || (decide (x3 < 1))))] (fun h16 => ?_) (fun h16 => ?_) ?_
 refine qb (os := _) rfl (qi (k := 26) rfl h16 ?_)
 refine au [7,7,7,19] ?_
 refine qc (d := 30) (v := .bool ((((((decide (x1 < 0)) || (decide (7 < x1))) || (decide (x2 < 0))) || ((x2 : Int) == 1)) || (decide (300 < x2))) || (decide (x3 < 1)))) rfl (by rw [h16]; simp only [Bool.true_or]) ?_
 exact az [0,15]
 refine qb (os := _) rfl (qh (k := 26) rfl h16 ?_)
 refine au [13,24,1,24,4,20] ?_
 refine qc (d := 30) (v := .bool ((((((decide (x1 < 0)) || (decide (7 < x1))) || (decide (x2 < 0))) || ((x2 : Int) == 1)) || (decide (300 < x2))) || (decide (x3 < 1)))) rfl (by rw [h16]; simp only [Bool.false_or]) ?_
 exact az [0,15]
 refine qb (os := _) rfl ?_
 refine au [1] ?_
 refine qk 4 ((((((decide (x1 < 0)) || (decide (7 < x1))) || (decide (x2 < 0))) || ((x2 : Int) == 1)) || (decide (300 < x2))) || (decide (x3 < 1))) [(35, .bool (((((((decide (x1 < 0)) || (decide (7 < x1))) || (decide (x2 < 0))) || ((x2 : Int) == 1)) || (decide (300 < x2))) || (decide (x3 < 1))) || (decide (16 < x3))))] (fun h17 => ?_) (fun h17 => ?_) ?_
 refine qb (os := _) rfl (qi (k := 31) rfl h17 ?_)
 refine au [7,7,7,19] ?_
 refine qc (d := 35) (v := .bool (((((((decide (x1 < 0)) || (decide (7 < x1))) || (decide (x2 < 0))) || ((x2 : Int) == 1)) || (decide (300 < x2))) || (decide (x3 < 1))) || (decide (16 < x3)))) rfl (by rw [h17]; simp only [Bool.true_or]) ?_
 exact az [0,15]
 refine qb (os := _) rfl (qh (k := 31) rfl h17 ?_)
 refine au [13,24,1,24,10,20] ?_
 refine qc (d := 35) (v := .bool (((((((decide (x1 < 0)) || (decide (7 < x1))) || (decide (x2 < 0))) || ((x2 : Int) == 1)) || (decide (300 < x2))) || (decide (x3 < 1))) || (decide (16 < x3)))) rfl (by rw [h17]; simp only [Bool.false_or]) ?_
 exact az [0,15]
 refine qb (os := _) rfl ?_
 refine av [0,2,10] ?_ ?_
 intro _
 exact az [3,4,5,0,2,9,12,16]
 intro _
 exact az [11,2,3,4,5,0,2,9,16]
set_option maxHeartbeats 4000000 in
theorem qfo {F : Nat} {x1 : List (List Int)} {a2 : Option Addr} {c3 : Nat} {s3 : List (Option Addr × Nat)} {r : Int} (hm : qaA F x1 = some r) :
    Pure Tryz.prog 54 [.agg #[.slice a2 x1.length c3]] [SlN eN37 iN37 1 (.slice a2 x1.length c3) x1 s3] Unit (fun _ => .int .i64 r) (fun _ => []) (fun _ => []) := by
 refine qj Tryz.func54 rfl Tryz.ntmps54 rfl hm (fun w => ?_)
 refine au [25,8,3,4,24,3] ?_
 intro g4
 refine av [5,0,2,3,4,13,24,1,24,2,5,0,2,3,3,4,1,24,10,0,2,10] ?_ ?_
 intro _
 exact az [3,4,5,0,2,9,12,16]
 intro _
 refine au [11,2,3,4,5,0,2] ?_
 refine qe (fun ((x798, _) : (Int × Unit)) => ([(4, .int .i64 x798)], [], [], [], jV F x798)) ?_ ?_
 refine au [3,4,13,24,1,24,2,1,0,2,17] ?_
 refine qt (fun (((x1064, x1065), _) : ((Int × Int) × Unit)) => ([(3, .int .i64 (x1.length : Int)), (4, .int .i64 x1064), (16, .slice a2 x1.length c3), (17, .int .i64 (x1.length : Int)), (18, .int .i64 x1065)], [], [], [SlN eN37 iN37 1 (.slice a2 x1.length c3) x1 s3])) (fun k (s : ((Int × Int) × Unit)) => qM F x1 k s.1) ((0, 0), ()) F ?_
 intro k1329
 rintro ⟨⟨x1064, x1065⟩, _⟩
 try dsimp only
 refine qJ (m' := vA F x1 (qM F x1 k1329) x1064 x1065) rfl ?_
 refine av [3,4,24,4,0,2,3,10] ?_ ?_
 intro _
 refine au [11,2] ?_
 refine qe (fun ((x1461, _) : (Int × Unit)) => ([(3, .int .i64 (x1.length : Int)), (4, .int .i64 x1461), (16, .slice a2 x1.length c3), (17, .int .i64 (x1.length : Int)), (18, .int .i64 x1065)], [], [], [SlN eN37 iN37 1 (.slice a2 x1.length c3) x1 s3], jW F (qM F x1 k1329) x1065 x1461)) ?_ ?_
 refine au [17,3,4,27,10] ?_
 intro x1462 e1462 g1465 b1463 o1464
 refine au [25,12,5,0,2,3,4,5,0,2] ?_
 refine qe (fun ((_, _) : (Unit × Unit)) => ([(3, .int .i64 (x1.length : Int)), (4, .int .i64 x1064), (6, .slice g1465.1 x1462.length g1465.2), (16, .slice a2 x1.length c3), (17, .int .i64 (x1.length : Int)), (18, .int .i64 x1065)], [], [], [Sl (eI .i64) 1 (.slice g1465.1 x1462.length g1465.2) x1462, SlN eN37 iN37 1 (.slice a2 x1.length c3) x1 s3], vC F (qM F x1 k1329) x1064 x1065 x1462)) ?_ ?_
 refine au [3,4,1,24,2,1,0,2,17] ?_
 refine qt (fun (((x1549, x1550), _) : ((Int × Int) × Unit)) => ([(3, .int .i64 (x1.length : Int)), (4, .int .i64 x1064), (6, .slice g1465.1 x1462.length g1465.2), (7, .int .i64 x1549), (16, .slice a2 x1.length c3), (17, .int .i64 (x1.length : Int)), (18, .int .i64 x1065), (22, .slice g1465.1 x1462.length g1465.2), (23, .int .i64 (x1462.length : Int)), (24, .int .i64 x1550)], [], [], [Sl (eI .i64) 1 (.slice g1465.1 x1462.length g1465.2) x1462, SlN eN37 iN37 1 (.slice a2 x1.length c3) x1 s3])) (fun k (s : ((Int × Int) × Unit)) => kr F (qM F x1 k1329) x1 x1064 x1065 x1462 k s.1) ((-1, 0), ()) F ?_
 intro k1571
 rintro ⟨⟨x1549, x1550⟩, _⟩
 try dsimp only
 refine qJ (m' := vB F (qM F x1 k1329) x1 x1064 x1065 x1462 (kr F (qM F x1 k1329) x1 x1064 x1065 x1462 k1571) x1549 x1550) rfl ?_
 refine av [3,4,24,4,0,2,3,10] ?_ ?_
 intro _
 refine au [11,2,3,17,3,4,26,8] ?_
 intro x1582 e1582 b1583 o1584
 refine au [25,12,5,0,2,3,17,3,4,1,24,4,1] ?_
 refine qk 4 (decide (x1582 < 0)) [(3, .int .i64 (x1.length : Int)), (4, .int .i64 x1064), (6, .slice g1465.1 x1462.length g1465.2), (7, .int .i64 x1549), (16, .slice a2 x1.length c3), (17, .int .i64 (x1.length : Int)), (18, .int .i64 x1065), (22, .slice g1465.1 x1462.length g1465.2), (23, .int .i64 (x1462.length : Int)), (24, .int .i64 x1550), (9, .int .i64 x1582), (35, .bool ((decide (x1582 < 0)) || (decide ((x1.length : Int) ≤ x1582))))] (fun h1588 => ?_) (fun h1588 => ?_) ?_
 refine qb (os := _) rfl (qi (k := 31) rfl h1588 ?_)
 refine au [7,7,7,19] ?_
 refine qc (d := 35) (v := .bool ((decide (x1582 < 0)) || (decide ((x1.length : Int) ≤ x1582)))) rfl (by rw [h1588]; simp only [Bool.true_or]) ?_
 exact az [0,15]
 refine qb (os := _) rfl (qh (k := 31) rfl h1588 ?_)
 refine au [1,1,26,3,20] ?_
 refine qc (d := 35) (v := .bool ((decide (x1582 < 0)) || (decide ((x1.length : Int) ≤ x1582)))) rfl (by rw [h1588]; simp only [Bool.false_or]) ?_
 exact az [0,15]
 refine qb (os := _) rfl ?_
 refine av [5,0,2,10] ?_ ?_
 intro _
 exact az [3,4,5,0,2,9,24,5,12,24,5,12,12,24,5,12,24,5,12,12,24,5,12,16]
 intro _
 refine av [3,4,1,1,27,0,5,0,2,10] ?_ ?_
 intro _
 exact az [3,4,5,0,2,9,24,5,12,24,5,12,12,24,5,12,24,5,12,12,24,5,12,16]
 intro _
 refine au [11,24,8,2,4,1,5,0,24,8,2,4,18,1,0] ?_
 exact qm ((x1582, iadd .i64 x1550 1), ())
 intro _
 exact az [24,13,21,21,24,14,25,15]
 rintro ⟨_, _⟩
 try dsimp only
 refine au [4,1,1,24,2,18,5,0,24,8] ?_
 exact qa (iadd .i64 x1064 (x1462.length : Int), ())
 rintro ⟨x1461, _⟩
 try dsimp only
 refine au [4,18,1,0] ?_
 exact qm ((x1461, iadd .i64 x1065 1), ())
 intro _
 refine au [24,13,21,21,24,14] ?_
 exact qa (x1064, ())
 rintro ⟨x798, _⟩
 try dsimp only
 refine av [3,3,4,1,24,10,0,2,10] ?_ ?_
 intro _
 exact az [3,4,5,0,2,9,12,16]
 intro _
 exact az [11,2,3,4,5,0,2,9,16]
theorem qfk {F : Nat} {x1 : Int} {x2 : List Int} {a3 : Option Addr} {c4 : Nat} {x5 : Int} {x6 : Int} {r : Unit} (hm : ju F x1 x2 x5 x6 = some r) :
    PureM Tryz.prog 50 [.agg #[.int .i64 x1, .slice a3 x2.length c4], .int .i64 x5, .int .i64 x6] [] [] [Sl (eI .u8) 1 (.slice a3 x2.length c4) x2] (Nat × Nat × Nat) (fun g => .func (.func 78) #[] #[.pointer (some ⟨g.1, 0, none⟩), .pointer (some ⟨g.2.1, 0, none⟩), .pointer (some ⟨g.2.2, 0, none⟩)]) (fun g => [⟨g.1, 3, [.int .i64 x5]⟩, ⟨g.2.1, 3, [.int .i64 x6]⟩, ⟨g.2.2, 29, [.int .i64 x1, .slice a3 x2.length c4]⟩]) (fun _ => []) := by
 refine zC Tryz.func50 rfl Tryz.ntmps50 rfl hm (fun w => ?_)
 refine au [25,13,3,4,24,3] ?_
 intro g7
 refine au [24,3] ?_
 intro g8
 refine au [24,3] ?_
 intro g9
 refine au [5,0,2,3,4,28,10,5,0,2,9] ?_
 exact zv (g8, g9, g7)
theorem qdc {F : Nat} {g1 : Nat} {x2 : Int} {x3 : List Int} {a4 : Option Addr} {c5 : Nat} {x6 : Int} {r : (Int × List Int)} (hm : kq F x2 x3 x6 = some r) :
    PureM Tryz.prog 51 [.pointer (some ⟨g1, 0, none⟩), .int .u64 x6] [⟨g1, 94, [.int .i64 x2, .slice a4 x3.length c5]⟩] [Ro (eI .u8) 5 1 (.slice a4 x3.length c5) x3] [] (Option Addr × Nat) (fun _ => .tuple #[]) (fun g => [⟨g1, 94, [.int .i64 r.1, .slice g.1 r.2.length g.2]⟩]) (fun g => [Ro (eI .u8) 5 1 (.slice g.1 r.2.length g.2) r.2]) := by
 refine zC Tryz.func51 rfl Tryz.ntmps51 rfl hm (fun w => ?_)
 refine au [24,12] ?_
 refine qe (fun ((x15, (a13, c14)) : (List Int × (Option Addr × Nat))) => ([(0, .pointer (some ⟨g1, 0, none⟩)), (1, .int .u64 x6)], [⟨g1, 94, [.int .i64 x2, .slice a13 x15.length c14]⟩], [Ro (eI .u8) 5 1 (.slice a13 x15.length c14) x15], [], kj F x2 x6 x15)) ?_ ?_
 refine av [3,4,1,25,1,13,13,24,1,29,5,24,9,0,2,10] ?_ ?_
 intro _
 refine au [4,1,1,25,1,13,13,24,1] ?_
 refine qF (vs := [.int .u8 0]) (ys := ([0] : List Int)) (qv .u8) (by decide) rfl Tryz.underlying27 tf5 rfl rfl rfl rfl rfl (by decide) (fun a44 c45 => kh 1 (qv .u8) rfl Tryz.underlying27 tf5 rfl rfl rfl rfl rfl (.inl ⟨0, _, rfl⟩) rfl rfl (fun x46 e46 a47 c48 => ?_))
 refine au [25,1,13,13,22,0] ?_
 exact qa (x46, (a47, c48))
 intro _
 refine au [11] ?_
 exact qa (x3, (a4, c5))
 rintro ⟨x15, ⟨a13, c14⟩⟩
 try dsimp only
 refine au [3,28,11] ?_
 intro x30 e30 g31 h32
 replace h32 : a13 = some ⟨g31, 0, none⟩ := h32
 have h33 := qeM (k := x15.length) (c := c14) h32
 refine au [27,11] ?_
 intro h34
 refine au [28,11] ?_
 intro x36 e36 g37 h38
 replace h38 : a13 = some ⟨g37, 0, none⟩ := h38
 have h39 := qeM (k := x15.length) (c := c14) h38
 refine qs mixed [25] [⟨g1, 94, [.int .i64 x2, .slice a13 x15.length c14]⟩] [qI g31 ((iquo .i64 x2 8).toNat * 1) ((eI .u8) x30), qI g37 ((iquo .i64 x2 8).toNat * 1) ((eI .u8) x36)] (.cons 0 rfl .nil) (qkW 0 rfl (qes (qv .u8) e30 h32) (qkW 0 rfl (qes (qv .u8) e36 h38) qr)) 26 rfl ?_
 refine au [6,0,6,1,23,2,23,3,25,10,4,6,5,6,6,23,7,23,8,25,10,9] ?_
 refine qn 10 (.int .i64 (iquo .i64 x2 8)) rfl rfl rfl (qox rfl rfl rfl) (qf (d := 26) (v := .slice (some ⟨g31, 0, none⟩) x15.length c14) rfl (by rw [h32] <;> rfl) (qn 11 (.pointer (some ⟨g31, (iquo .i64 x2 8).toNat * 1, none⟩)) rfl rfl rfl (qdI Tryz.underlying27 tf5 rfl rfl (qP e30).1 (v8 e30)) (qf (d := 26) (v := .slice a13 x15.length c14) rfl (by rw [h32] <;> rfl) (q8 12 (.int .u8 x30) [[25]] rfl rfl rfl (kE (j := 0) rfl tf5 rfl rfl (fun _ => rfl) rfl) ?_))))
 refine au [6,13] ?_
 refine qn 14 (.int .u64 (ishl .u64 x6 7)) rfl rfl rfl (qd1 rfl rfl rfl) (qn 15 _ rfl rfl rfl (qnF UnF.u UnF.u rfl) ?_)
 refine au [6,16,6,17,23,18,23,19,25,10,20] ?_
 refine qn 21 (.int .i64 (irem x2 8)) rfl rfl rfl (qg9 rfl rfl rfl) (qn 22 (.int .u8 (ishr .u8 (iconv .u8 (ishl .u64 x6 7)) (irem x2 8))) rfl rfl rfl (qoy rfl rfl h34) ?_)
 refine au [6,23] ?_
 refine qf (d := 26) (v := .slice (some ⟨g37, 0, none⟩) x15.length c14) rfl (by rw [h38] <;> rfl) (qn 24 (.pointer (some ⟨g37, (iquo .i64 x2 8).toNat * 1, none⟩)) rfl rfl rfl (qdI Tryz.underlying27 tf5 rfl rfl (qP e36).1 (v8 e36)) (qf (d := 26) (v := .slice a13 x15.length c14) rfl (by rw [h38] <;> rfl) ?_))
 refine au [24,0,25] ?_
 refine qc9 (j := 0) (y' := ior .u8 x30 (ishr .u8 (iconv .u8 (ishl .u64 x6 7)) (irem x2 8))) (qv .u8) rfl rfl rfl tf5 rfl (qeM h38) (qP e36).2.1 rfl (fun x41 e41 h42 => ?_)
 have h43 : x41.length = x15.length := by rw [← e41, List.length_set]
 refine qc (d := 26) (v := .slice a13 x41.length c14) rfl h42 (qgY (i := 0) (cs' := [.int .i64 x2, .slice a13 x41.length c14]) rfl (by rw [h42] <;> rfl) ?_)
 refine au [0] ?_
 refine qbg 25 rfl (by kernel_rfl) (.cons 0 (by rw [h43]; rfl) .nil) ?_
 refine au [24,6] ?_
 refine qy ?_ (by intro c h; cases h)
 refine au [2,4,1,25,1,13,13,24,1,18,25,1,13,13,22,0] ?_
 exact zv (a13, c14)
theorem qbt {F : Nat} {x1 : List Int} {a2 : Option Addr} {c3 : Nat} {r : List Int} (hm : kf F x1 = some r) :
    Pure Tryz.prog 102 [.slice a2 x1.length c3] [Sl (eI .u8) 1 (.slice a2 x1.length c3) x1] (Option Addr × Nat) (fun g => .slice g.1 r.length g.2) (fun g => [Ro (eI .u8) 5 1 (.slice g.1 r.length g.2) r]) (fun _ => []) := by
 refine qj Tryz.func102 rfl Tryz.ntmps102 rfl hm (fun w => ?_)
 refine av [25,8,3,4,5,0,2,3,3,4,1,30,10,0,2,30,11] ?_ ?_
 intro h11
 refine qh0 0 (qv .u8) (by decide) rfl h11 (fun h12 => ?_)
 subst h12
 refine qJ (m' := some ([] : List Int)) rfl ?_
 refine au [3,4,5,0,2,9,12,26,0] ?_
 exact qu (none, 0)
 intro _
 refine au [11,2,3,4] ?_
 refine qF (vs := []) (ys := ([] : List Int)) (qv .u8) (by decide) rfl UnF.u inferInstance rfl rfl rfl rfl rfl (by decide) ?_
 intro a6 c7
 refine au [1] ?_
 refine kh 0 (qv .u8) rfl UnF.u inferInstance rfl rfl rfl rfl rfl (.inr ⟨0, rfl⟩) rfl rfl ?_
 intro x8 e8 a9 c10
 refine au [5,0,2,9] ?_
 exact qu (a9, c10)
theorem qie {F : Nat} {x1 : Int} {x2 : List Int} {a3 : Option Addr} {c4 : Nat} {r : (Int × List Int)} (hm : qa2 F x1 x2 = some r) :
    PureM Tryz.prog 80 [.agg #[.int .i64 x1, .slice a3 x2.length c4]] [] [] [Sl (eI .u8) 1 (.slice a3 x2.length c4) x2] ((Option Addr × Nat) × Nat) (fun g => .pointer (some ⟨g.2, 0, none⟩)) (fun g => [⟨g.2, 94, [.int .i64 r.1, .slice g.1.1 r.2.length g.1.2]⟩]) (fun g => [Ro (eI .u8) 5 1 (.slice g.1.1 r.2.length g.1.2) r.2]) := by
 refine zC Tryz.func80 rfl Tryz.ntmps80 rfl hm (fun w => ?_)
 refine au [25,8,3,4,24,3] ?_
 intro g5
 refine au [5,0,2,3] ?_
 refine qs mixed [] [⟨g5, 29, [.int .i64 x1, .slice a3 x2.length c4]⟩] [Sl (eI .u8) 1 (.slice a3 x2.length c4) x2] (.cons 0 rfl .nil) (qO 0 rfl qr) 9 rfl ?_
 refine au [23,0,25,10,1,23,2,25,10,3,24,0,4] ?_
 refine qg qbt ?_
 rintro x10 e10 ⟨a11, c12⟩
 refine au [0,29,6] ?_
 refine qn 5 (.agg #[.int .i64 x1, .slice a11 x10.length c12]) rfl rfl rfl (qdH (cells := [.int .i64 x1, .slice a11 x10.length c12]) st29 rfl (by kernel_rfl)) (qn 6 (.agg #[.int .i64 x1, .slice a11 x10.length c12]) rfl rfl rfl (qdH (cells := [.int .i64 x1, .slice a11 x10.length c12]) st94 rfl (by kernel_rfl)) ?_)
 refine au [24,0,7,24,3] ?_
 intro g13
 refine au [0] ?_
 refine zE (.cons 1 rfl .nil) (qO 0 rfl qr) ?_
 refine au [6,8,24,6] ?_
 refine qy ?_ (by intro c h; cases h)
 refine au [2,9] ?_
 exact zv ((a11, c12), g13)
theorem qjY {F : Nat} {x1 : Int} {x2 : List Int} {a3 : Option Addr} {c4 : Nat} {x5 : Int} {r : Int} (hm : jm F x1 x2 x5 = some r) :
    Pure Tryz.prog 79 [.agg #[.int .i64 x1, .slice a3 x2.length c4], .int .i64 x5] [Sl (eI .u8) 1 (.slice a3 x2.length c4) x2] Unit (fun _ => .int .u64 r) (fun _ => []) (fun _ => []) := by
 refine qj Tryz.func79 rfl Tryz.ntmps79 rfl hm (fun w => ?_)
 refine au [24,12,3,4,24,3] ?_
 intro g6
 refine au [5,0,2,3,4,13,24,1,1,28,12] ?_
 refine qaj (j := 0) (qv .u8) (by decide) rfl UnF.u inferInstance rfl rfl rfl rfl ?_
 intro x7 e7 b8 o9
 refine au [25,12,1,29,5,24,15,26,4] ?_
 intro h10
 refine qel rfl rfl rfl rfl h10 ?_
 refine au [25,6,28,13,5,26,5] ?_
 intro x11 e11
 refine qc (d := 4) (v := .int .u64 x11) rfl (by rw [e11] <;> rfl) ?_
 exact az [0,2,9,16]
theorem qca (F : Nat) {σ τ : Type} {J : Rounds σ τ} {yy : σ → Int → Option (σ ⊕ τ)} {L : Nat} (hY : YieldC Tryz.prog L (fun (p : Int) => [.int .u64 p]) J yy) (s0 : σ) (gs0 : J.γ) (g1 : Nat) (x2 : Int) (g3 : Nat) (x4 : Int) (g5 : Nat) (x6 : Int) (x7 : List Int) (a8 : Option Addr) (c9 : Nat) (r : σ ⊕ τ) (hm : vd F yy x2 x4 x6 x7 s0 = some r) :
    PureM Tryz.prog 78 ([.func (.yield L) #[] #[], .pointer (some ⟨g1, 0, none⟩), .pointer (some ⟨g3, 0, none⟩), .pointer (some ⟨g5, 0, none⟩)]) ([⟨g1, 3, [.int .i64 x2]⟩, ⟨g3, 3, [.int .i64 x4]⟩, ⟨g5, 29, [.int .i64 x6, .slice a8 x7.length c9]⟩] ++ J.IB s0 gs0) (J.IR s0 gs0) [J.F, Sl (eI .u8) 1 (.slice a8 x7.length c9) x7] (J.G r) (fun _ => .tuple #[]) (fun g => [⟨g1, 3, [.int .i64 x2]⟩, ⟨g3, 3, [.int .i64 x4]⟩, ⟨g5, 29, [.int .i64 x6, .slice a8 x7.length c9]⟩] ++ J.bs r g) (fun g => J.rs r g) := by
 refine zC Tryz.func78 rfl Tryz.ntmps78 rfl hm (fun w => ?_)
 refine au [26,9,3,4,24,1,5,0,2,17] ?_
 refine qcC (fun (((x22, x23), g24) : ((Int × σ) × J.γ)) => [(0, .func (.yield L) #[] #[]), (2, .pointer (some ⟨g3, 0, none⟩)), (3, .pointer (some ⟨g5, 0, none⟩)), (5, .int .i64 x22)]) (fun (((x22, x23), g24) : ((Int × σ) × J.γ)) => [⟨g1, 3, [.int .i64 x2]⟩, ⟨g3, 3, [.int .i64 x4]⟩, ⟨g5, 29, [.int .i64 x6, .slice a8 x7.length c9]⟩] ++ J.IB x23 g24) (fun (((x22, x23), g24) : ((Int × σ) × J.γ)) => [] ++ J.IR x23 g24) (fun (((x22, x23), g24) : ((Int × σ) × J.γ)) => [Sl (eI .u8) 1 (.slice a8 x7.length c9) x7, J.F]) (fun k (s : ((Int × σ) × J.γ)) => zb F yy x4 x6 x7 k s.1) ((x2, s0), gs0) F ?_ (hB := (.cons 0 rfl (.cons 0 rfl (.cons 0 rfl (qL 0 rfl))))) (hR := (qL 0 rfl)) (hF := (qB 1 rfl (qB 0 rfl jQ)))
 intro k37
 rintro ⟨⟨x22, x23⟩, g24⟩
 try dsimp only
 refine qJ (m' := yQ F yy x4 x6 x7 (zb F yy x4 x6 x7 k37) x22 x23) rfl ?_
 refine av [3,3,4,1,25,3,24,4,0,2,10] ?_ ?_
 intro _
 refine au [11,2,3,17,3,4,1,25,14,1,28,0] ?_
 intro x44 e44 _
 refine qf7 hY x23 x44 g24 (B1 := [⟨g1, 3, [.int .i64 x2]⟩, ⟨g3, 3, [.int .i64 x4]⟩, ⟨g5, 29, [.int .i64 x6, .slice a8 x7.length c9]⟩]) (R1 := []) (j := 1) rfl rfl rfl rfl rfl rfl rfl (fun x45 _ g47 => ?_) (fun x46 _ g47 => ?_)
 refine au [25,5,0,2] ?_
 refine qaM (b := false) rfl (fun h => by cases h) (fun _ => ?_)
 refine au [11,24,8,2,4,1,18,5,0] ?_
 exact qb8 ((iadd .i64 x22 1, x45), g47) (hB := (.cons 0 rfl (.cons 0 rfl (.cons 0 rfl (qL 0 rfl))))) (hR := (qL 0 rfl)) (hF := (qB 0 rfl (qB 1 rfl jQ)))
 refine au [25,5,0,2] ?_
 refine qaM (b := true) rfl (fun _ => ?_) (fun h => by cases h)
 refine au [9,24,5,12,12,24,5] ?_
 exact qcD (B0 := [⟨g1, 3, [.int .i64 x2]⟩, ⟨g3, 3, [.int .i64 x4]⟩, ⟨g5, 29, [.int .i64 x6, .slice a8 x7.length c9]⟩]) (x := .inr x46) g47 (.inl rfl) (res0 rfl) (.cons 0 rfl (.cons 0 rfl (.cons 0 rfl (qL 0 rfl)))) (qL 0 rfl)
 intro _
 refine au [24,13,21,21,24,14] ?_
 exact qcD (B0 := [⟨g1, 3, [.int .i64 x2]⟩, ⟨g3, 3, [.int .i64 x4]⟩, ⟨g5, 29, [.int .i64 x6, .slice a8 x7.length c9]⟩]) (x := .inl x23) g24 (.inr rfl) (res0 rfl) (.cons 0 rfl (.cons 0 rfl (.cons 0 rfl (qL 0 rfl)))) (qL 0 rfl)
theorem qha {F : Nat} {x1 : Int} {x2 : List Int} {a3 : Option Addr} {c4 : Nat} {x5 : Int} {x6 : List Int} {a7 : Option Addr} {c8 : Nat} {r : (Int × List Int)} (hm : yg F x1 x2 x5 x6 = some r) :
    PureM Tryz.prog 53 [.agg #[.int .i64 x1, .slice a3 x2.length c4], .agg #[.int .i64 x5, .slice a7 x6.length c8]] [] [] [Sl (eI .u8) 1 (.slice a3 x2.length c4) x2, Sl (eI .u8) 1 (.slice a7 x6.length c8) x6] (Option Addr × Nat) (fun g => .agg #[.int .i64 r.1, .slice g.1 r.2.length g.2]) (fun _ => []) (fun g => [Ro (eI .u8) 5 1 (.slice g.1 r.2.length g.2) r.2]) := by
 refine qeR Tryz.func53 rfl Tryz.ntmps53 rfl hm (fun w => ?_)
 refine au [24,12,3,4,24,3] ?_
 intro g9
 refine au [24,3] ?_
 intro g10
 refine au [24,7] ?_
 intro g11
 refine au [0,2,3,4,25,14,30,12] ?_
 rintro x12 e12 ⟨⟨a13, c14⟩, g15⟩
 refine au [24,7] ?_
 intro g16
 refine au [22,0,2,3,3,4,28,14,13,26,6,30,13] ?_
 rintro x37 e37 ⟨g38, g39, g40⟩
 refine au [0,2,17] ?_
 refine qdZ (encs := (fun (p : Int) => [.int .u64 p])) (y := (fun ((x45, x48) : (Int × List Int)) (x53 : Int) => vU F x45 x48 x53)) (lb := [.pointer (some ⟨g38, 0, none⟩), .pointer (some ⟨g39, 0, none⟩), .pointer (some ⟨g40, 0, none⟩)]) (fun ((x45, x48) : (Int × List Int)) ((a46, c47) : (Option Addr × Nat)) => [⟨g16, 92, [.pointer (some ⟨g15, 0, none⟩)]⟩, ⟨g15, 94, [.int .i64 x45, .slice a46 x48.length c47]⟩, ⟨g11, 29, [.int .i64 0, .slice none 0 0]⟩, ⟨g10, 29, [.int .i64 x5, .slice a7 x6.length c8]⟩, ⟨g9, 29, [.int .i64 x1, .slice a3 x2.length c4]⟩]) (fun ((x45, x48) : (Int × List Int)) ((a46, c47) : (Option Addr × Nat)) => [Ro (eI .u8) 5 1 (.slice a46 x48.length c47) x48]) (fun (_ : Empty) (_ : Unit) => []) (fun (_ : Empty) (_ : Unit) => []) (fun _ => .skip) (x12.1, x12.2) (a13, c14) rfl ent78 (fun _ => rfl) rfl (.cons 0 rfl (.cons 0 rfl (.cons 0 rfl .nil))) (.cons 0 rfl (.cons 0 rfl (.cons 0 rfl (.cons 0 rfl (.cons 0 rfl .nil))))) (.cons 0 rfl .nil) (.consF 1 rfl .nil) (fun z hz _ _ _ hY => qca F hY (x12.1, x12.2) (a13, c14) g38 0 g39 x5 g40 x5 x6 a7 c8 z hz) ?_ ?_ ?_
 rintro rc1 L1 D1 ⟨x45, x48⟩ ⟨a46, c47⟩ x53 z w M _
 try dsimp only
 refine qe6 [(0, .agg #[.int .i64 x1, .slice a3 x2.length c4]), (1, .agg #[.int .i64 x5, .slice a7 x6.length c8]), (2, .pointer (some ⟨g9, 0, none⟩)), (3, .pointer (some ⟨g10, 0, none⟩)), (4, .pointer (some ⟨g11, 0, none⟩)), (5, .pointer (some ⟨g16, 0, none⟩)), (7, .agg #[.int .i64 x1, .slice a3 x2.length c4]), (8, .pointer (some ⟨g15, 0, none⟩)), (9, .agg #[.int .i64 x5, .slice a7 x6.length c8]), (10, .pointer (some ⟨g10, 0, none⟩)), (11, .int .i64 x5), (12, .func (.func 78) #[] #[.pointer (some ⟨g38, 0, none⟩), .pointer (some ⟨g39, 0, none⟩), .pointer (some ⟨g40, 0, none⟩)]), (13, .int .u64 x53)] (qD rfl (qD rfl (qD rfl (qD rfl (qD rfl (qD rfl (qD rfl (qD rfl (qD rfl (qD rfl (qD rfl (qD rfl (qD rfl qc4))))))))))))) ?_
 refine au [4,5,0] ?_
 refine qf8 (i := 5) rfl ?_
 refine au [17,4,24,1,1,29,7] ?_
 rintro x54 e54 ⟨a55, c56⟩
 refine au [0,24,8] ?_
 exact qcG (rc := rc1) rfl (.cons 5 rfl .nil) rfl (a55, c56) (.cons 2 rfl (.cons 1 rfl (.cons 1 rfl (.cons 1 rfl (.cons 1 rfl (.cons 0 rfl (.cons 0 rfl .nil))))))) (.cons 0 rfl .nil)
 rintro ⟨x45, x48⟩ _ ⟨a46, c47⟩ D1
 try dsimp only
 refine au [24,8,2,3,4,30,14,25,1,13,30,15,31,0,0,2,9] ?_
 exact qcE [D1] (a46, c47) (.inl rfl) rfl (.cons 0 rfl .nil) (resL (rs := [.cell 4 29]) rfl (.cell (i := 5) rfl tf29 rfl rfl (by simp) rfl ResOk.nil) rfl) (fun h => by subst h; rfl) (fun h => by subst h; exact .nil) (fun h => by subst h; exact (.cons 0 rfl .nil))
 intro t; exact t.elim
theorem qhf {F : Nat} {x1 : Int} {r : Bool} (hm : qaG F x1 = some r) :
    Pure Tryz.prog 69 [.int .i64 x1] [] Unit (fun _ => .bool r) (fun _ => []) (fun _ => []) := by
 refine qj Tryz.func69 rfl Tryz.ntmps69 rfl hm (fun w => ?_)
 refine au [25,8,3,4,5,0,2,3,4,1,26,3,1] ?_
 refine qk 3 (decide (0 ≤ x1)) [(8, .bool ((decide (0 ≤ x1)) && (decide (x1 ≤ 1048576))))] (fun h2 => ?_) (fun h2 => ?_) ?_
 refine qb (os := _) rfl (qi (k := 5) rfl h2 ?_)
 refine au [1,27,0,19] ?_
 refine qc (d := 8) (v := .bool ((decide (0 ≤ x1)) && (decide (x1 ≤ 1048576)))) rfl (by rw [h2]; simp only [Bool.true_and]) ?_
 exact az [0,15]
 refine qb (os := _) rfl (qh (k := 5) rfl h2 ?_)
 refine au [7,7,20] ?_
 refine qc (d := 8) (v := .bool ((decide (0 ≤ x1)) && (decide (x1 ≤ 1048576)))) rfl (by rw [h2]; simp only [Bool.false_and]) ?_
 exact az [0,15]
 refine qb (os := _) rfl ?_
 exact az [5,0,2,9,16]
theorem qgj {F : Nat} {x1 : List Int} {a2 : Option Addr} {c3 : Nat} {r : Int} (hm : yk F x1 = some r) :
    Pure Tryz.prog 47 [.slice a2 x1.length c3] [Sl (eI .i64) 1 (.slice a2 x1.length c3) x1] Unit (fun _ => .int .i64 r) (fun _ => []) (fun _ => []) := by
 refine qj Tryz.func47 rfl Tryz.ntmps47 rfl hm (fun w => ?_)
 refine av [25,8,3,4,5,0,2,3,3,4,1,24,2,24,10,0,2,10] ?_ ?_
 intro _
 exact az [3,4,5,0,2,9,12,16]
 intro _
 refine au [11,2,3,4,5,0,2] ?_
 refine qe (fun ((_, _) : (Unit × Unit)) => ([], [], [], [], qcc F)) ?_ ?_
 refine au [3,4,1,24,2,1,0,2,17] ?_
 refine qt (fun (((x88, x89), _) : ((Int × Int) × Unit)) => ([(3, .int .i64 x88), (9, .slice a2 x1.length c3), (10, .int .i64 (x1.length : Int)), (11, .int .i64 x89)], [], [], [Sl (eI .i64) 1 (.slice a2 x1.length c3) x1])) (fun k (s : ((Int × Int) × Unit)) => kZ F x1 k s.1) ((-1, 0), ()) F ?_
 intro k110
 rintro ⟨⟨x88, x89⟩, _⟩
 try dsimp only
 refine qJ (m' := jF F x1 (kZ F x1 k110) x88 x89) rfl ?_
 refine av [3,4,24,4,0,2,3,10] ?_ ?_
 intro _
 refine au [11,2,3,17,3,4,26,8] ?_
 intro x121 e121 b122 o123
 refine au [25,12,5,0,2,3,17,3,4,1,31,1] ?_
 intro x127 e127 _
 refine av [25,5,5,0,2,10] ?_ ?_
 intro _
 exact az [3,4,5,0,2,9,24,5,12,24,5,12,12,24,5,12,16]
 intro _
 refine av [3,4,1,1,27,0,5,0,2,10] ?_ ?_
 intro _
 exact az [3,4,5,0,2,9,24,5,12,24,5,12,12,24,5,12,16]
 intro _
 refine au [11,24,8,2,4,1,5,0,24,8,2,4,18,1,0] ?_
 exact qm ((x121, iadd .i64 x89 1), ())
 intro _
 exact az [24,13,21,21,24,14,25,15]
 rintro ⟨_, _⟩
 try dsimp only
 exact az [3,4,5,0,2,9,16]
theorem qgr {F : Nat} {x1 : Int} {x2 : List Int} {a3 : Option Addr} {c4 : Nat} {x5 : Int} {x6 : Int} {x7 : Int} {r : Int} (hm : j1 F x1 x2 x5 x6 x7 = some r) :
    Pure Tryz.prog 48 [.int .i64 x1, .slice a3 x2.length c4, .agg #[.int .i64 x5, .int .i64 x6, .int .i64 x7]] [Sl (eI .i64) 1 (.slice a3 x2.length c4) x2] Unit (fun _ => .int .i64 r) (fun _ => []) (fun _ => []) := by
 refine qj Tryz.func48 rfl Tryz.ntmps48 rfl hm (fun w => ?_)
 refine au [25,13,3,4,24,3] ?_
 intro g8
 refine au [5,0,2,3,3,4,1,24,4,1] ?_
 refine qk 3 (decide (x1 < 0)) [(1, .slice a3 x2.length c4), (5, .pointer (some ⟨g8, 0, none⟩)), (12, .bool ((decide (x1 < 0)) || (decide (1048576 < x1))))] (fun h11 => ?_) (fun h11 => ?_) ?_
 refine qb (os := _) rfl (qi (k := 9) rfl h11 ?_)
 refine au [7,7,19] ?_
 refine qc (d := 12) (v := .bool ((decide (x1 < 0)) || (decide (1048576 < x1)))) rfl (by rw [h11]; simp only [Bool.true_or]) ?_
 exact az [0,15]
 refine qb (os := _) rfl (qh (k := 9) rfl h11 ?_)
 refine au [1,24,10,20] ?_
 refine qc (d := 12) (v := .bool ((decide (x1 < 0)) || (decide (1048576 < x1)))) rfl (by rw [h11]; simp only [Bool.false_or]) ?_
 exact az [0,15]
 refine qb (os := _) rfl ?_
 refine av [0,2,10] ?_ ?_
 intro _
 exact az [3,4,5,0,2,9,12,16]
 intro _
 refine av [11,2,3,3,4,13,24,1,24,10,0,2,10] ?_ ?_
 intro _
 refine au [3,4,1,28,1] ?_
 intro x14 e14 _
 exact az [5,0,2,9,12,16]
 intro _
 exact az [11,2,3,4,5,0,2,9,16]
theorem qdi {F : Nat} {g1 : Nat} {x2 : Int} {x3 : List Int} {a4 : Option Addr} {c5 : Nat} {x6 : Bool} {x7 : Int} {x8 : List Int} {a9 : Option Addr} {c10 : Nat} {r : (Int × List Int × Bool)} (hm : kx F x2 x3 x6 x7 x8 = some r) :
    PureM Tryz.prog 77 [.pointer (some ⟨g1, 0, none⟩), .agg #[.int .i64 x7, .slice a9 x8.length c10]] [⟨g1, 90, [.int .i64 x2, .slice a4 x3.length c5, .bool x6]⟩] [Ro (eI .u8) 5 1 (.slice a4 x3.length c5) x3] [Sl (eI .u8) 1 (.slice a9 x8.length c10) x8] (Option Addr × Nat) (fun _ => .tuple #[]) (fun g => [⟨g1, 90, [.int .i64 r.1, .slice g.1 r.2.1.length g.2, .bool r.2.2]⟩]) (fun g => [Ro (eI .u8) 5 1 (.slice g.1 r.2.1.length g.2) r.2.1]) := by
 refine zC Tryz.func77 rfl Tryz.ntmps77 rfl hm (fun w => ?_)
 refine au [24,12,3,4,24,3] ?_
 intro g11
 refine au [0,2] ?_
 refine qe (fun ((x13, _) : (Bool × Unit)) => ([(0, .pointer (some ⟨g1, 0, none⟩)), (3, .pointer (some ⟨g11, 0, none⟩))], [⟨g11, 29, [.int .i64 x7, .slice a9 x8.length c10]⟩, ⟨g1, 90, [.int .i64 x2, .slice a4 x3.length c5, .bool x13]⟩], [Ro (eI .u8) 5 1 (.slice a4 x3.length c5) x3], [Sl (eI .u8) 1 (.slice a9 x8.length c10) x8], kp F x2 x3 x7 x8 x13)) ?_ ?_
 refine av [26,10] ?_ ?_
 intro h18
 refine qs mixed [18] [⟨g11, 29, [.int .i64 x7, .slice a9 x8.length c10]⟩] [Sl (eI .u8) 1 (.slice a9 x8.length c10) x8, (BlkD.is ⟨g1, 90, [.int .i64 x2, .slice a4 x3.length c5, .bool x6]⟩)] (.cons 0 rfl .nil) (qO 0 rfl (qfw 1 rfl qr)) 19 rfl ?_
 refine au [6,0,6,1,6,2,23,3] ?_
 refine q8 4 (.bool x6) [[18]] rfl rfl rfl (jb (j := 1) rfl tf4 rfl rfl (fun _ => rfl) rfl) ?_
 refine au [6,5] ?_
 refine qf (d := 9) (v := .bool true) rfl (by rw [h18] <;> rfl) ?_
 refine au [8,6,8,7,8,8,8,9,8,10,8,11,8,12,8,13,8,14,6,15,6,16,23,17,24,0,18,25,11,0,31,2,24,6] ?_
 exact qy (qa (true, ())) (by intro c h; cases h)
 intro h18
 refine qs mixed [18] [⟨g11, 29, [.int .i64 x7, .slice a9 x8.length c10]⟩] [Sl (eI .u8) 1 (.slice a9 x8.length c10) x8, (BlkD.is ⟨g1, 90, [.int .i64 x2, .slice a4 x3.length c5, .bool x6]⟩)] (.cons 0 rfl .nil) (qO 0 rfl (qfw 1 rfl qr)) 19 rfl ?_
 refine au [6,0,6,1,6,2,23,3] ?_
 refine q8 4 (.bool x6) [[18]] rfl rfl rfl (jb (j := 1) rfl tf4 rfl rfl (fun _ => rfl) rfl) ?_
 refine au [6,5] ?_
 refine qf (d := 9) (v := .bool false) rfl (by rw [h18] <;> rfl) ?_
 refine au [6,6,6,7,23,8,23,9] ?_
 refine q8 10 (.int .i64 x2) [[18]] rfl rfl rfl (jb (j := 1) rfl tf3 rfl rfl (fun _ => rfl) rfl) ?_
 refine au [23,11,25,10,12,6,13,6,14,6,15,6,16,23,17,24,0,18,25,11,0,31,2,24,6] ?_
 exact qy (qa ((decide (8192 < (iadd .i64 x2 x7))), ())) (by intro c h; cases h)
 rintro ⟨x13, _⟩
 try dsimp only
 refine av [3,4,1,25,1,13,25,3,25,5,0,2,10] ?_ ?_
 intro _
 refine qs mixed [9] [⟨g11, 29, [.int .i64 x7, .slice a9 x8.length c10]⟩] [Sl (eI .u8) 1 (.slice a9 x8.length c10) x8, (BlkD.is ⟨g1, 90, [.int .i64 x2, .slice a4 x3.length c5, .bool x13]⟩)] (.cons 0 rfl .nil) (qO 0 rfl (qfw 1 rfl qr)) 10 rfl ?_
 refine au [6,0,6,1,6,2,23,3] ?_
 refine q8 4 (.agg #[.int .i64 x2, .slice a4 x3.length c5]) [[9]] rfl rfl rfl (jb (j := 1) rfl tf29 rfl rfl (by simp) rfl) (ke 5 (.agg #[.int .i64 x7, .slice a9 x8.length c10]) rfl rfl rfl (zd (i := 0) rfl tf29 rfl rfl (by simp) rfl) ?_)
 refine au [24,0,6,28,2] ?_
 rintro x14 e14 ⟨a15, c16⟩
 refine au [0] ?_
 refine zE (.cons 0 rfl .nil) (qO 0 rfl (qfw 1 rfl qr)) ?_
 refine au [6,7,23,8,24,0,9,25,11,0] ?_
 refine qbg 9 rfl (by kernel_rfl) (.cons 0 rfl .nil) ?_
 refine au [24,6] ?_
 exact qy (zv (a15, c16)) (by intro c h; cases h)
 intro _
 refine au [11] ?_
 exact zv (a4, c5)
theorem qci {F : Nat} {g1 : Nat} {x2 : Int} {x3 : List Int} {a4 : Option Addr} {c5 : Nat} {x6 : Int} {x7 : Int} {r : (Int × List Int)} (hm : yi F x2 x3 x6 x7 = some r) :
    PureM Tryz.prog 94 [.pointer (some ⟨g1, 0, none⟩), .int .u64 x6, .int .i64 x7] [⟨g1, 94, [.int .i64 x2, .slice a4 x3.length c5]⟩] [Ro (eI .u8) 5 1 (.slice a4 x3.length c5) x3] [] (Option Addr × Nat) (fun _ => .tuple #[]) (fun g => [⟨g1, 94, [.int .i64 r.1, .slice g.1 r.2.length g.2]⟩]) (fun g => [Ro (eI .u8) 5 1 (.slice g.1 r.2.length g.2) r.2]) := by
 refine zC Tryz.func94 rfl Tryz.ntmps94 rfl hm (fun w => ?_)
 refine au [25,13,3,4,1,24,15,5,0,2,17] ?_
 refine qt (fun (((x18, x19, x22), (a20, c21)) : ((Int × Int × List Int) × (Option Addr × Nat))) => ([(0, .pointer (some ⟨g1, 0, none⟩)), (1, .int .u64 x6), (6, .int .i64 x18)], [⟨g1, 94, [.int .i64 x19, .slice a20 x22.length c21]⟩], [Ro (eI .u8) 5 1 (.slice a20 x22.length c21) x22], [])) (fun k (s : ((Int × Int × List Int) × (Option Addr × Nat))) => zl F x6 k s.1) ((isub .i64 x7 1, x2, x3), (a4, c5)) F ?_
 intro k33
 rintro ⟨⟨x18, x19, x22⟩, ⟨a20, c21⟩⟩
 try dsimp only
 refine qJ (m' := zk F x6 (zl F x6 k33) x18 x19 x22) rfl ?_
 refine av [3,3,4,1,26,3,0,2,10] ?_ ?_
 intro _
 refine au [11,2,3,17,4,1,1,1,26,4] ?_
 intro h39
 refine qel rfl rfl rfl rfl h39 ?_
 refine au [28,13,29,7] ?_
 rintro x40 e40 ⟨a41, c42⟩
 refine au [0,24,8,2,4,1,24,15,5,0] ?_
 exact qm ((isub .i64 x18 1, x40.1, x40.2), (a41, c42))
 intro _
 refine au [24,13,21,21,24,14] ?_
 exact zv (a20, c21)
theorem qia {F : Nat} {x1 : Int} {x2 : List Int} {a3 : Option Addr} {c4 : Nat} {x5 : Int} {x6 : Int} {r : (Int × List Int)} (hm : yP F x1 x2 x5 x6 = some r) :
    Pure Tryz.prog 67 [.agg #[.int .i64 x1, .slice a3 x2.length c4], .int .u64 x5, .int .i64 x6] [Sl (eI .u8) 1 (.slice a3 x2.length c4) x2] (Option Addr × Nat) (fun g => .agg #[.int .i64 r.1, .slice g.1 r.2.length g.2]) (fun g => [Ro (eI .u8) 5 1 (.slice g.1 r.2.length g.2) r.2]) (fun _ => []) := by
 refine qj Tryz.func67 rfl Tryz.ntmps67 rfl hm (fun w => ?_)
 refine au [25,13,3,4,24,3] ?_
 intro g7
 refine au [24,7] ?_
 intro g8
 refine au [0,2,3,4,25,2,30,12] ?_
 rintro x9 e9 ⟨⟨a10, c11⟩, g12⟩
 refine au [5,0,2,3,4,1,1,1] ?_
 refine q9 qci ?_
 rintro x13 e13 ⟨a14, c15⟩
 refine au [0,2,3,4,1,25,1,13,24,11,25,11,0,2,9] ?_
 exact qR (a14, c15) (resL (rs := [.cell 6 29]) rfl (.cell (i := 1) rfl tf29 rfl rfl (by simp) rfl ResOk.nil) rfl) (fun h => by subst h; exact (.cons 0 rfl .nil))
theorem qdh {F : Nat} {x1 : Int} {r : Int} (hm : ku F x1 = some r) :
    Pure Tryz.prog 133 [.int .u64 x1] [] Unit (fun _ => .int .i64 r) (fun _ => []) (fun _ => []) := by
 refine qj Tryz.func133 rfl Tryz.ntmps133 rfl hm (fun w => ?_)
 refine au [25,8,3,4,5,0,2] ?_
 refine qe (fun (((x3, x4), _) : ((Int × Int) × Unit)) => ([(0, .int .u64 x3), (2, .int .i64 x4)], [], [], [], km F x3 x4)) ?_ ?_
 refine av [3,4,1,26,3,0,2,10] ?_ ?_
 intro _
 refine au [3,4,1,27,12,5,0,2,4,5,0] ?_
 exact qa ((ishr .u64 x1 32, (32 : Int)), ())
 intro _
 refine au [11] ?_
 exact qa ((x1, (0 : Int)), ())
 rintro ⟨⟨x3, x4⟩, _⟩
 try dsimp only
 refine qe (fun (((x6, x7), _) : ((Int × Int) × Unit)) => ([(0, .int .u64 x6), (2, .int .i64 x7)], [], [], [], kn F x6 x7)) ?_ ?_
 refine av [3,4,1,26,3,0,2,10] ?_ ?_
 intro _
 refine au [3,4,1,27,12,5,0,2,4,1,18,5,0] ?_
 exact qa ((ishr .u64 x3 16, iadd .i64 x4 16), ())
 intro _
 refine au [11] ?_
 exact qa ((x3, x4), ())
 rintro ⟨⟨x6, x7⟩, _⟩
 try dsimp only
 refine qe (fun (((x9, x10), _) : ((Int × Int) × Unit)) => ([(0, .int .u64 x9), (2, .int .i64 x10)], [], [], [], ko F x9 x10)) ?_ ?_
 refine av [3,4,1,26,3,0,2,10] ?_ ?_
 intro _
 refine au [3,4,1,27,12,5,0,2,4,1,18,5,0] ?_
 exact qa ((ishr .u64 x6 8, iadd .i64 x7 8), ())
 intro _
 refine au [11] ?_
 exact qa ((x6, x7), ())
 rintro ⟨⟨x9, x10⟩, _⟩
 try dsimp only
 refine au [3,4,1,1,25,6] ?_
 refine qiR (xs := ([0, 1, 2, 2, 3, 3, 3, 3, 4, 4, 4, 4, 4, 4, 4, 4, 5, 5, 5, 5, 5, 5, 5, 5, 5, 5, 5, 5, 5, 5, 5, 5, 6, 6, 6, 6, 6, 6, 6, 6, 6, 6, 6, 6, 6, 6, 6, 6, 6, 6, 6, 6, 6, 6, 6, 6, 6, 6, 6, 6, 6, 6, 6, 6, 7, 7, 7, 7, 7, 7, 7, 7, 7, 7, 7, 7, 7, 7, 7, 7, 7, 7, 7, 7, 7, 7, 7, 7, 7, 7, 7, 7, 7, 7, 7, 7, 7, 7, 7, 7, 7, 7, 7, 7, 7, 7, 7, 7, 7, 7, 7, 7, 7, 7, 7, 7, 7, 7, 7, 7, 7, 7, 7, 7, 7, 7, 7, 7, 8, 8, 8, 8, 8, 8, 8, 8, 8, 8, 8, 8, 8, 8, 8, 8, 8, 8, 8, 8, 8, 8, 8, 8, 8, 8, 8, 8, 8, 8, 8, 8, 8, 8, 8, 8, 8, 8, 8, 8, 8, 8, 8, 8, 8, 8, 8, 8, 8, 8, 8, 8, 8, 8, 8, 8, 8, 8, 8, 8, 8, 8, 8, 8, 8, 8, 8, 8, 8, 8, 8, 8, 8, 8, 8, 8, 8, 8, 8, 8, 8, 8, 8, 8, 8, 8, 8, 8, 8, 8, 8, 8, 8, 8, 8, 8, 8, 8, 8, 8, 8, 8, 8, 8, 8, 8, 8, 8, 8, 8, 8, 8, 8, 8, 8, 8, 8, 8, 8, 8, 8, 8, 8, 8, 8, 8, 8, 8] : List Int)) rfl UnF.u rfl rfl (by kernel_rfl) rfl ?_
 intro x11 e11
 exact az [25,6,18,5,0,2,9,16]
theorem qgi {F : Nat} {x1 : Int} {r : Int} (hm : qaO F x1 = some r) :
    Pure Tryz.prog 112 [.int .u64 x1] [] Unit (fun _ => .int .i64 r) (fun _ => []) (fun _ => []) := by
 refine qj Tryz.func112 rfl Tryz.ntmps112 rfl hm (fun w => ?_)
 refine au [25,8,3,4,5,0,2,3,4,1,18,29,8] ?_
 intro x2 e2 _
 exact az [24,15,5,0,2,9,16]
theorem qho {F : Nat} {x1 : Int} {r : (Int × List Int)} (hm : qaK F x1 = some r) :
    Pure Tryz.prog 113 [.int .u64 x1] [] (Option Addr × Nat) (fun g => .agg #[.int .i64 r.1, .slice g.1 r.2.length g.2]) (fun g => [Ro (eI .u8) 5 1 (.slice g.1 r.2.length g.2) r.2]) (fun _ => []) := by
 refine qj Tryz.func113 rfl Tryz.ntmps113 rfl hm (fun w => ?_)
 refine au [25,8,3,4,24,7] ?_
 intro g2
 refine au [0,2,3,4,1,25,6,1,18,28,12] ?_
 refine qmf (qv .u8) rfl UnF.u inferInstance rfl rfl rfl rfl rfl rfl rfl ?_
 intro x3 e3 a4 c5
 refine ql (cells := [.int .i64 (iconv .i64 x1), .slice a4 x3.length c5]) rfl st29 rfl (by kernel_rfl) rfl ?_
 refine au [28,3] ?_
 rintro x6 e6 ⟨a7, c8⟩
 refine au [22,0,2,9] ?_
 exact qR (a7, c8) (resL (rs := [.cell 2 29]) rfl (.cell (i := 0) rfl tf29 rfl rfl (by simp) rfl ResOk.nil) rfl) (fun h => by subst h; exact (.cons 0 rfl .nil))
theorem qhd {F : Nat} {x1 : Int} {x2 : Int} {r : Int} (hm : qbj F x1 x2 = some r) :
    Pure Tryz.prog 114 [.int .u64 x1, .int .i64 x2] [] Unit (fun _ => .int .u64 r) (fun _ => []) (fun _ => []) := by
 refine qj Tryz.func114 rfl Tryz.ntmps114 rfl hm (fun w => ?_)
 refine au [24,12,3,4,5,0,2,3,4,1,1,26,4] ?_
 intro h3
 refine qek rfl rfl rfl rfl h3 ?_
 refine au [24,15,28,13,5,26,5] ?_
 intro x4 e4
 refine qc (d := 4) (v := .int .u64 x4) rfl (by rw [e4] <;> rfl) ?_
 exact az [0,2,9,16]
theorem qdK {F : Nat} {x1 : Int} {r : (Int × List Int)} (hm : yD F x1 = some r) :
    Pure Tryz.prog 95 [.int .u64 x1] [] (Option Addr × Nat) (fun g => .agg #[.int .i64 r.1, .slice g.1 r.2.length g.2]) (fun g => [Ro (eI .u8) 5 1 (.slice g.1 r.2.length g.2) r.2]) (fun _ => []) := by
 refine qj Tryz.func95 rfl Tryz.ntmps95 rfl hm (fun w => ?_)
 refine au [25,8,3,4,24,7] ?_
 intro g2
 refine au [0,2,3,4,1] ?_
 refine qg qgi ?_
 intro x3 e3 _
 refine au [5,0,2,3,4,1,25,6,31,3] ?_
 rintro x4 e4 ⟨a5, c6⟩
 refine au [1,18,1] ?_
 refine qg qhd ?_
 intro x7 e7 _
 refine au [1,28,3] ?_
 rintro x8 e8 ⟨a9, c10⟩
 refine au [22,0,2,9] ?_
 exact qR (a9, c10) (resL (rs := [.cell 2 29]) rfl (.cell (i := 0) rfl tf29 rfl rfl (by simp) rfl ResOk.nil) rfl) (fun h => by subst h; exact (.cons 0 rfl .nil))
theorem qcI {F : Nat} {g1 : Nat} {x2 : Int} {x3 : List Int} {a4 : Option Addr} {c5 : Nat} {x6 : Bool} {x7 : Int} {r : (Int × List Int × Bool)} (hm : qH F x2 x3 x6 x7 = some r) :
    PureM Tryz.prog 70 [.pointer (some ⟨g1, 0, none⟩), .int .i64 x7] [⟨g1, 90, [.int .i64 x2, .slice a4 x3.length c5, .bool x6]⟩] [Ro (eI .u8) 5 1 (.slice a4 x3.length c5) x3] [] (Option Addr × Nat) (fun _ => .tuple #[]) (fun g => [⟨g1, 90, [.int .i64 r.1, .slice g.1 r.2.1.length g.2, .bool r.2.2]⟩]) (fun g => [Ro (eI .u8) 5 1 (.slice g.1 r.2.1.length g.2) r.2.1]) := by
 refine zC Tryz.func70 rfl Tryz.ntmps70 rfl hm (fun w => ?_)
 refine au [24,12,4,1,1,25,6,31,4] ?_
 rintro x8 e8 ⟨a9, c10⟩
 refine au [31,5] ?_
 rintro x11 e11 ⟨a12, c13⟩
 refine au [0] ?_
 exact zv (a12, c13)
theorem qeb {F : Nat} {x1 : Int} {r : Bool} (hm : jE F x1 = some r) :
    Pure Tryz.prog 134 [.int .i64 x1] [] Unit (fun _ => .bool r) (fun _ => []) (fun _ => []) := by
 refine qj Tryz.func134 rfl Tryz.ntmps134 rfl hm (fun w => ?_)
 exact az [25,8,3,4,5,0,2,3,4,1,1,25,0,5,0,2,9,16]
theorem qeo {F : Nat} {x1 : Int} {x2 : Int} {r : Bool} (hm : jS F x1 x2 = some r) :
    Pure Tryz.prog 115 [.int .i64 x1, .int .i64 x2] [] Unit (fun _ => .bool r) (fun _ => []) (fun _ => []) := by
 refine qj Tryz.func115 rfl Tryz.ntmps115 rfl hm (fun w => ?_)
 refine au [24,12,3,4,5,0,2,3,4,1,31,6] ?_
 intro x3 e3 _
 refine au [1] ?_
 refine qE 4 (fun ((x6, _) : (Bool × Unit)) => ([(0, .int .i64 x1), (1, .int .i64 x2), (11, .bool x6)], [], [], [], vw F x1 x2 x6)) ?_ ?_
 refine qb (os := _) rfl ?_
 refine av [25,7] ?_ ?_
 intro h4
 refine qi (k := 7) rfl h4 ?_
 refine au [1,31,6] ?_
 intro x8 e8 _
 refine au [25,5,19,0] ?_
 exact qa ((!x8), ())
 intro h4
 refine qh (k := 7) rfl h4 ?_
 refine au [7,7,7,20,0] ?_
 exact qa (false, ())
 rintro ⟨x6, _⟩
 try dsimp only
 refine qb (os := _) rfl ?_
 refine au [1] ?_
 refine qk 4 x6 [(16, .bool (x6 || (decide (x1 < x2))))] (fun h7 => ?_) (fun h7 => ?_) ?_
 refine qb (os := _) rfl (qi (k := 12) rfl h7 ?_)
 refine au [7,7,7,19] ?_
 refine qc (d := 16) (v := .bool (x6 || (decide (x1 < x2)))) rfl (by rw [h7]; simp only [Bool.true_or]) ?_
 exact az [0,15]
 refine qb (os := _) rfl (qh (k := 12) rfl h7 ?_)
 refine au [1,1,24,4,20] ?_
 refine qc (d := 16) (v := .bool (x6 || (decide (x1 < x2)))) rfl (by rw [h7]; simp only [Bool.false_or]) ?_
 exact az [0,15]
 refine qb (os := _) rfl ?_
 exact az [5,0,2,9,16]
theorem qcU {F : Nat} {x1 : Int} {r : Bool} (hm : yV F x1 = some r) :
    Pure Tryz.prog 116 [.int .i64 x1] [] Unit (fun _ => .bool r) (fun _ => []) (fun _ => []) := by
 refine qj Tryz.func116 rfl Tryz.ntmps116 rfl hm (fun w => ?_)
 exact az [25,8,3,4,5,0,2,3,4,1,1,25,0,5,0,2,9,16]
theorem qaF {F : Nat} {x1 : List Int} {a2 : Option Addr} {c3 : Nat} {x4 : Int} {r : (Int × Bool)} (hm : za F x1 x4 = some r) :
    Pure Tryz.prog 96 [.slice a2 x1.length c3, .int .i64 x4] [Sl (eI .i64) 1 (.slice a2 x1.length c3) x1] Unit (fun _ => .tuple #[.int .i64 r.1, .bool r.2]) (fun _ => []) (fun _ => []) := by
 refine qj Tryz.func96 rfl Tryz.ntmps96 rfl hm (fun w => ?_)
 refine au [24,12,3,4,5,5,0,2,3,4,1,24,2,5,0,2,3,4,1,5,5,0,2] ?_
 refine qe (fun ((x32, _) : (Int × Unit)) => ([(0, .slice a2 x1.length c3), (1, .int .i64 x4), (6, .int .i64 (x1.length : Int)), (7, .int .i64 x32)], [], [], [Sl (eI .i64) 1 (.slice a2 x1.length c3) x1], zM F x1 x4 x32)) ?_ ?_
 refine au [17] ?_
 refine qt (fun (((x85, x86), _) : ((Int × Int) × Unit)) => ([(0, .slice a2 x1.length c3), (1, .int .i64 x4), (6, .int .i64 (x1.length : Int)), (7, .int .i64 x85), (8, .int .i64 x86)], [], [], [Sl (eI .i64) 1 (.slice a2 x1.length c3) x1])) (fun k (s : ((Int × Int) × Unit)) => qz F x1 x4 k s.1) ((0, (x1.length : Int)), ()) F ?_
 intro k95
 rintro ⟨⟨x85, x86⟩, _⟩
 try dsimp only
 refine qJ (m' := zg F x1 x4 (qz F x1 x4 k95) x85 x86) rfl ?_
 refine av [3,3,4,1,1,24,4,0,2,10] ?_ ?_
 intro _
 refine au [11,2,17,3,4,1,1,18,25,6,27,12,25,6,5,26,5] ?_
 intro x97 e97
 refine qc (d := 9) (v := .int .i64 x97) rfl (by rw [e97] <;> rfl) ?_
 refine au [0,2,3,4,1,1,26,8] ?_
 intro x98 e98 b99 o100
 refine au [25,12,1] ?_
 refine qg qeo ?_
 intro x101 e101 _
 refine av [0,2,10] ?_ ?_
 intro _
 refine au [4,1,18,5,0,24,8] ?_
 exact qm ((iadd .i64 x97 1, x86), ())
 intro _
 refine au [4,1,5,0,24,8] ?_
 exact qm ((x85, x97), ())
 intro _
 refine au [24,13,21,21,24,14] ?_
 exact qa (x85, ())
 rintro ⟨x32, _⟩
 try dsimp only
 refine au [3,4,1,1,1,24,4,1] ?_
 refine qE 18 (fun ((x55, _) : (Bool × Unit)) => ([(31, .int .i64 x32), (53, .bool x55)], [], [], [], zN F x32 x55)) ?_ ?_
 refine qb (os := _) rfl ?_
 refine av [25,7] ?_ ?_
 intro h33
 refine qi (k := 35) rfl h33 ?_
 refine au [1,1,26,8] ?_
 intro x56 e56 b57 o58
 refine au [25,12,1,24,9,1] ?_
 refine qE 10 (fun ((x68, _) : (Bool × Unit)) => ([(31, .int .i64 x32), (35, .bool true), (52, .bool x68)], [], [], [], zO F x32 x68)) ?_ ?_
 refine qb (os := _) rfl ?_
 refine av [25,7] ?_ ?_
 intro h59
 refine qi (k := 42) rfl h59 ?_
 refine au [7,7,7,7,7,7,7,7,7,19,0] ?_
 exact qa (true, ())
 intro h59
 refine qh (k := 42) rfl h59 ?_
 refine au [1,1,29,9] ?_
 intro x69 e69 b70 o71
 refine au [25,12,31,7] ?_
 intro x72 e72 _
 refine au [1] ?_
 refine qE 3 (fun ((x75, _) : (Bool × Unit)) => ([(31, .int .i64 x32), (35, .bool true), (42, .bool false), (51, .bool x75)], [], [], [], zP F x32 x75)) ?_ ?_
 refine qb (os := _) rfl ?_
 refine av [25,7] ?_ ?_
 intro h73
 refine qi (k := 48) rfl h73 ?_
 refine au [1,31,7] ?_
 intro x76 e76 _
 refine au [19,0] ?_
 exact qa (x76, ())
 intro h73
 refine qh (k := 48) rfl h73 ?_
 refine au [7,7,20,0] ?_
 exact qa (false, ())
 rintro ⟨x75, _⟩
 try dsimp only
 refine qb (os := _) rfl ?_
 refine au [20,0] ?_
 exact qa (x75, ())
 rintro ⟨x68, _⟩
 try dsimp only
 refine qb (os := _) rfl ?_
 refine au [19,0] ?_
 exact qa (x68, ())
 intro h33
 refine qh (k := 35) rfl h33 ?_
 refine au [7,7,7,7,7,7,7,7,7,7,7,7,7,7,7,7,7,20,0] ?_
 exact qa (false, ())
 rintro ⟨x55, _⟩
 try dsimp only
 refine qb (os := _) rfl ?_
 exact az [5,5,0,2,9,16]
theorem qcT {F : Nat} {g1 : Nat} {x2 : List Int} {a3 : Option Addr} {c4 : Nat} {x5 : Bool} {x6 : Int} {x7 : Bool} {r : (List Int × Bool × Int)} (hm : yU F x2 x5 x6 x7 = some r) :
    PureM Tryz.prog 97 [.pointer (some ⟨g1, 0, none⟩), .bool x7] [⟨g1, 153, [.slice a3 x2.length c4, .bool x5, .int .i64 x6]⟩] [Ro (eI .i64) 3 1 (.slice a3 x2.length c4) x2] [] (Option Addr × Nat) (fun _ => .tuple #[]) (fun g => [⟨g1, 153, [.slice g.1 r.1.length g.2, .bool r.2.1, .int .i64 r.2.2]⟩]) (fun g => [Ro (eI .i64) 3 1 (.slice g.1 r.1.length g.2) r.1]) := by
 refine zC Tryz.func97 rfl Tryz.ntmps97 rfl hm (fun w => ?_)
 refine au [24,12] ?_
 refine qe (fun (((x21, x22, x23), (a19, c20)) : ((List Int × Bool × Int) × (Option Addr × Nat))) => ([(0, .pointer (some ⟨g1, 0, none⟩))], [⟨g1, 153, [.slice a19 x21.length c20, .bool x22, .int .i64 x23]⟩], [Ro (eI .i64) 3 1 (.slice a19 x21.length c20) x21], [], kU F x21 x22 x23)) ?_ ?_
 refine au [3,4,1,1,25,1,13,24,1] ?_
 refine qnw rfl UnF.u rfl rfl rfl ?_
 refine av [0,2,10] ?_ ?_
 intro _
 refine au [3] ?_
 refine qs mixed [13] [] [(BlkD.is ⟨g1, 153, [.slice a3 x2.length c4, .bool x5, .int .i64 x6]⟩)] .nil (qfw 0 rfl qr) 14 rfl ?_
 refine au [6,0,6,1,6,2,23,3] ?_
 refine q8 4 (.slice a3 x2.length c4) [[13]] rfl rfl rfl (jb (j := 0) rfl tf37 rfl rfl (fun _ => rfl) rfl) ?_
 refine au [6,5,6,6,23,7] ?_
 refine q8 8 (.int .i64 x6) [[13]] rfl rfl rfl (jb (j := 0) rfl tf3 rfl rfl (fun _ => rfl) rfl) ?_
 refine au [24,0,9] ?_
 refine qF (vs := [.int .i64 x6]) (ys := ([x6] : List Int)) (qv .i64) (by decide) rfl Tryz.underlying37 tf3 rfl rfl rfl rfl rfl (by decide) (fun a29 c30 => ?_)
 refine au [0,29,10,24,0,10] ?_
 refine kh 1 (qv .i64) rfl Tryz.underlying37 tf3 rfl rfl rfl rfl rfl (.inl ⟨0, _, rfl⟩) rfl rfl (fun x31 e31 a32 c33 => ?_)
 refine au [0,29,10,6,11,23,12,24,0,13,22,0] ?_
 refine qbg 13 rfl (by kernel_rfl) .nil ?_
 refine au [24,6] ?_
 refine qy ?_ (by intro c h; cases h)
 refine au [2,4,1,1,1,25,1,13,22,25,1,13,22,0] ?_
 exact qa ((x31, x7, (0 : Int)), (a32, c33))
 intro _
 refine au [11] ?_
 exact qa ((x2, x5, x6), (a3, c4))
 rintro ⟨⟨x21, x22, x23⟩, ⟨a19, c20⟩⟩
 try dsimp only
 refine au [4,1,25,1,13,24,1,18,25,1,13,22,0] ?_
 exact zv (a19, c20)
theorem qhk {F : Nat} {x1 : List Int} {a2 : Option Addr} {c3 : Nat} {x4 : List Int} {a5 : Option Addr} {c6 : Nat} {r : (List Int × List Int)} (hm : qbn F x1 x4 = some r) :
    Pure Tryz.prog 71 [.slice a2 x1.length c3, .slice a5 x4.length c6] [Sl (eI .i64) 1 (.slice a2 x1.length c3) x1, Sl (eI .i64) 1 (.slice a5 x4.length c6) x4] ((Option Addr × Nat) × (Option Addr × Nat)) (fun g => .tuple #[.slice g.1.1 r.1.length g.1.2, .slice g.2.1 r.2.length g.2.2]) (fun g => [Ro (eI .i64) 3 1 (.slice g.1.1 r.1.length g.1.2) r.1, Ro (eI .i64) 3 1 (.slice g.2.1 r.2.length g.2.2) r.2]) (fun _ => []) := by
 refine qj Tryz.func71 rfl Tryz.ntmps71 rfl hm (fun w => ?_)
 refine au [24,12,3,4,5,5,0,2,3,4] ?_
 refine ql (cells := [.slice none 0 0, .bool true, .int .i64 0]) rfl st153 rfl (by kernel_rfl) rfl ?_
 refine au [24,3] ?_
 intro g7
 refine au [5,0,2] ?_
 refine qe (fun (((x66, x67, x68), (a64, c65)) : ((List Int × Bool × Int) × (Option Addr × Nat))) => ([(0, .slice a2 x1.length c3), (1, .slice a5 x4.length c6), (5, .slice none 0 0), (6, .pointer (some ⟨g7, 0, none⟩))], [⟨g7, 153, [.slice a64 x66.length c65, .bool x67, .int .i64 x68]⟩], [Ro (eI .i64) 3 1 (.slice a64 x66.length c65) x66], [Sl (eI .i64) 1 (.slice a2 x1.length c3) x1, Sl (eI .i64) 1 (.slice a5 x4.length c6) x4], qa6 F x1 x4 x66 x67 x68)) ?_ ?_
 refine au [3,4,1,24,2,1,0,2,17,27,1] ?_
 refine qt (fun (((x249, x252, x253, x254), (a250, c251)) : ((Int × List Int × Bool × Int) × (Option Addr × Nat))) => ([(0, .slice a2 x1.length c3), (1, .slice a5 x4.length c6), (5, .slice none 0 0), (6, .pointer (some ⟨g7, 0, none⟩)), (17, .slice a2 x1.length c3), (18, .int .i64 (x1.length : Int)), (19, .int .i64 x249)], [⟨g7, 153, [.slice a250 x252.length c251, .bool x253, .int .i64 x254]⟩], [Ro (eI .i64) 3 1 (.slice a250 x252.length c251) x252], [Sl (eI .i64) 1 (.slice a2 x1.length c3) x1, Sl (eI .i64) 1 (.slice a5 x4.length c6) x4])) (fun k (s : ((Int × List Int × Bool × Int) × (Option Addr × Nat))) => k6 F x1 x4 k s.1) ((0, ([] : List Int), true, 0), (none, 0)) F ?_
 intro k271
 rintro ⟨⟨x249, x252, x253, x254⟩, ⟨a250, c251⟩⟩
 try dsimp only
 refine qJ (m' := jK F x1 x4 (k6 F x1 x4 k271) x249 x252 x253 x254) rfl ?_
 refine av [3,4,24,4,0,2,3,10] ?_ ?_
 intro _
 refine au [11,2,3,17,3,4,26,8] ?_
 intro x280 e280 b281 o282
 refine au [25,12,5,0,2,3,4,1,1,31,8] ?_
 intro x283 e283 _
 refine au [1,14,14,5,5,0,2,4,1,1] ?_
 refine q9 qcT ?_
 rintro x284 e284 ⟨a285, c286⟩
 refine au [0,24,8,2,4,18,1,0] ?_
 exact qm ((iadd .i64 x249 1, x284.1, x284.2.1, x284.2.2), (a285, c286))
 intro _
 refine au [24,13,21,21,24,14] ?_
 exact qa ((x252, x253, x254), (a250, c251))
 rintro ⟨⟨x66, x67, x68⟩, ⟨a64, c65⟩⟩
 try dsimp only
 refine qe (fun ((x151, (a149, c150)) : (List Int × (Option Addr × Nat))) => ([(5, .slice a149 x151.length c150), (6, .pointer (some ⟨g7, 0, none⟩))], [⟨g7, 153, [.slice a64 x66.length c65, .bool x67, .int .i64 x68]⟩], [Ro (eI .i64) 3 1 (.slice a149 x151.length c150) x151, Ro (eI .i64) 3 1 (.slice a64 x66.length c65) x66], [], qa7 F x66 x151)) ?_ ?_
 refine au [3,4,1,24,2,1,0,2,17,27,1] ?_
 refine qt (fun (((x179, x180), (a177, c178)) : ((List Int × Int) × (Option Addr × Nat))) => ([(0, .slice a2 x1.length c3), (5, .slice a177 x179.length c178), (6, .pointer (some ⟨g7, 0, none⟩)), (33, .slice a5 x4.length c6), (34, .int .i64 (x4.length : Int)), (35, .int .i64 x180)], [⟨g7, 153, [.slice a64 x66.length c65, .bool x67, .int .i64 x68]⟩], [Ro (eI .i64) 3 1 (.slice a177 x179.length c178) x179, Ro (eI .i64) 3 1 (.slice a64 x66.length c65) x66], [Sl (eI .i64) 1 (.slice a2 x1.length c3) x1, Sl (eI .i64) 1 (.slice a5 x4.length c6) x4])) (fun k (s : ((List Int × Int) × (Option Addr × Nat))) => kC F x1 x4 x66 k s.1) ((([] : List Int), 0), (none, 0)) F ?_
 intro k206
 rintro ⟨⟨x179, x180⟩, ⟨a177, c178⟩⟩
 try dsimp only
 refine qJ (m' := jJ F x1 x4 x66 (kC F x1 x4 x66 k206) x179 x180) rfl ?_
 refine av [3,4,24,4,0,2,3,10] ?_ ?_
 intro _
 refine au [11,2] ?_
 refine qe (fun ((x220, (a218, c219)) : (List Int × (Option Addr × Nat))) => ([(0, .slice a2 x1.length c3), (5, .slice a218 x220.length c219), (6, .pointer (some ⟨g7, 0, none⟩)), (33, .slice a5 x4.length c6), (34, .int .i64 (x4.length : Int)), (35, .int .i64 x180)], [⟨g7, 153, [.slice a64 x66.length c65, .bool x67, .int .i64 x68]⟩], [Ro (eI .i64) 3 1 (.slice a218 x220.length c219) x220, Ro (eI .i64) 3 1 (.slice a64 x66.length c65) x66], [Sl (eI .i64) 1 (.slice a2 x1.length c3) x1, Sl (eI .i64) 1 (.slice a5 x4.length c6) x4], jL F (kC F x1 x4 x66 k206) x180 x220)) ?_ ?_
 refine au [17,3,4,29,9] ?_
 intro x221 e221 b222 o223
 refine au [25,12,5,0,2,3,4,1,1,31,8] ?_
 intro x224 e224 _
 refine av [1,14,14,5,5,0,2,3,4,1,25,5,0,2,10] ?_ ?_
 intro _
 refine au [4,1,1] ?_
 refine qF (vs := [.int .i64 x221]) (ys := ([x221] : List Int)) (qv .i64) (by decide) rfl Tryz.underlying37 tf3 rfl rfl rfl rfl rfl (by decide) (fun a225 c226 => kh 1 (qv .i64) rfl Tryz.underlying37 tf3 rfl rfl rfl rfl rfl (.inl ⟨0, _, rfl⟩) rfl rfl (fun x227 e227 a228 c229 => ?_))
 refine au [5,0,24,8] ?_
 exact qa (x227, (a228, c229))
 intro _
 refine au [11,24,8] ?_
 exact qa (x179, (a177, c178))
 rintro ⟨x220, ⟨a218, c219⟩⟩
 try dsimp only
 refine au [4,18,1,0] ?_
 exact qm ((x220, iadd .i64 x180 1), (a218, c219))
 intro _
 refine au [24,13,21,21,24,14] ?_
 exact qa (x179, (a177, c178))
 rintro ⟨x151, ⟨a149, c150⟩⟩
 try dsimp only
 refine au [3,4,1,25,1,13,24,1,1,5,5,0,2,9] ?_
 exact qu ((a64, c65), (a149, c150))
theorem qck {F : Nat} {g1 : Nat} {x2 : Int} {x3 : List Int} {a4 : Option Addr} {c5 : Nat} {x6 : Bool} {x7 : List Int} {a8 : Option Addr} {c9 : Nat} {r : (Int × List Int × Bool)} (hm : yq F x2 x3 x6 x7 = some r) :
    PureM Tryz.prog 72 [.pointer (some ⟨g1, 0, none⟩), .slice a8 x7.length c9] [⟨g1, 90, [.int .i64 x2, .slice a4 x3.length c5, .bool x6]⟩] [Ro (eI .u8) 5 1 (.slice a4 x3.length c5) x3] [Sl (eI .i64) 1 (.slice a8 x7.length c9) x7] (Option Addr × Nat) (fun _ => .tuple #[]) (fun g => [⟨g1, 90, [.int .i64 r.1, .slice g.1 r.2.1.length g.2, .bool r.2.2]⟩]) (fun g => [Ro (eI .u8) 5 1 (.slice g.1 r.2.1.length g.2) r.2.1]) := by
 refine zC Tryz.func72 rfl Tryz.ntmps72 rfl hm (fun w => ?_)
 refine au [24,12,3,4,1,1,24,2,27,7] ?_
 rintro x10 e10 ⟨a11, c12⟩
 refine au [0,2,3,4,1,24,2,1,0,2,17] ?_
 refine qt (fun (((x27, x28, x31, x32), (a29, c30)) : ((Int × Int × List Int × Bool) × (Option Addr × Nat))) => ([(0, .pointer (some ⟨g1, 0, none⟩)), (10, .slice a8 x7.length c9), (11, .int .i64 (x7.length : Int)), (12, .int .i64 x27)], [⟨g1, 90, [.int .i64 x28, .slice a29 x31.length c30, .bool x32]⟩], [Ro (eI .u8) 5 1 (.slice a29 x31.length c30) x31], [Sl (eI .i64) 1 (.slice a8 x7.length c9) x7])) (fun k (s : ((Int × Int × List Int × Bool) × (Option Addr × Nat))) => zn F x7 k s.1) ((0, x10.1, x10.2.1, x10.2.2), (a11, c12)) F ?_
 intro k47
 rintro ⟨⟨x27, x28, x31, x32⟩, ⟨a29, c30⟩⟩
 try dsimp only
 refine qJ (m' := ky F x7 (zn F x7 k47) x27 x28 x31 x32) rfl ?_
 refine av [3,4,24,4,0,2,3,10] ?_ ?_
 intro _
 refine au [11,2,3,17,3,4,1,26,8] ?_
 intro x55 e55 b56 o57
 refine au [25,12,5,5,0,2,4,1,1,1,27,8,24,15,27,7] ?_
 rintro x58 e58 ⟨a59, c60⟩
 refine au [0,24,8,2,4,18,1,0] ?_
 exact qm ((iadd .i64 x27 1, x58.1, x58.2.1, x58.2.2), (a59, c60))
 intro _
 refine au [24,13,21,21,24,14] ?_
 exact zv (a29, c30)
theorem qhl {F : Nat} {x1 : List Int} {a2 : Option Addr} {c3 : Nat} {r : Unit} (hm : qcl F x1 = some r) :
    PureM Tryz.prog 98 [.slice a2 x1.length c3] [] [] [Sl (eI .i64) 1 (.slice a2 x1.length c3) x1] Nat (fun g => .func (.func 117) #[] #[.pointer (some ⟨g, 0, none⟩)]) (fun g => [⟨g, 37, [.slice a2 x1.length c3]⟩]) (fun _ => []) := by
 refine zC Tryz.func98 rfl Tryz.ntmps98 rfl hm (fun w => ?_)
 refine au [25,8,3,4,24,3] ?_
 intro g4
 refine au [5,0,2,3,4,28,10,5,0,2,9] ?_
 exact zv g4
theorem qfr (F : Nat) {σ τ : Type} {J : Rounds σ τ} {yy : σ → (Int × Int) → Option (σ ⊕ τ)} {L : Nat} (hY : YieldC Tryz.prog L (fun (p : (Int × Int)) => [.agg #[.int .i64 p.1, .int .i64 p.2]]) J yy) (s0 : σ) (gs0 : J.γ) (g1 : Nat) (x2 : List Int) (a3 : Option Addr) (c4 : Nat) (r : σ ⊕ τ) (hm : jx F yy x2 s0 = some r) :
    PureM Tryz.prog 117 ([.func (.yield L) #[] #[], .pointer (some ⟨g1, 0, none⟩)]) ([⟨g1, 37, [.slice a3 x2.length c4]⟩] ++ J.IB s0 gs0) (J.IR s0 gs0) [J.F, Sl (eI .i64) 1 (.slice a3 x2.length c4) x2] (J.G r) (fun _ => .tuple #[]) (fun g => [⟨g1, 37, [.slice a3 x2.length c4]⟩] ++ J.bs r g) (fun g => J.rs r g) := by
 refine zC Tryz.func117 rfl Tryz.ntmps117 rfl hm (fun w => ?_)
 refine au [24,12,3,4,5,0,2,17] ?_
 refine qcC (fun (((x266, x267), g268) : ((Int × σ) × J.γ)) => [(0, .func (.yield L) #[] #[]), (1, .pointer (some ⟨g1, 0, none⟩)), (3, .int .i64 x266)]) (fun (((x266, x267), g268) : ((Int × σ) × J.γ)) => [⟨g1, 37, [.slice a3 x2.length c4]⟩] ++ J.IB x267 g268) (fun (((x266, x267), g268) : ((Int × σ) × J.γ)) => [] ++ J.IR x267 g268) (fun (((x266, x267), g268) : ((Int × σ) × J.γ)) => [Sl (eI .i64) 1 (.slice a3 x2.length c4) x2, J.F]) (fun k (s : ((Int × σ) × J.γ)) => qA F yy x2 k s.1) ((0, s0), gs0) F ?_ (hB := (.cons 0 rfl (qL 0 rfl))) (hR := (qL 0 rfl)) (hF := (qB 1 rfl (qB 0 rfl jQ)))
 intro k530
 rintro ⟨⟨x266, x267⟩, g268⟩
 try dsimp only
 refine qJ (m' := vG F yy x2 (qA F yy x2 k530) x266 x267) rfl ?_
 refine av [3,3,4,1,24,1,24,2,24,4,0,2,10] ?_ ?_
 intro _
 refine au [11,2,17,3,4,5,0,2] ?_
 refine qe5 (fun ((x654, _) : (Int × Unit)) => [(0, .func (.yield L) #[] #[]), (1, .pointer (some ⟨g1, 0, none⟩)), (3, .int .i64 x266), (4, .int .i64 x654)]) (fun ((x654, _) : (Int × Unit)) => [⟨g1, 37, [.slice a3 x2.length c4]⟩] ++ J.IB x267 g268) (fun ((x654, _) : (Int × Unit)) => [] ++ J.IR x267 g268) (fun ((x654, _) : (Int × Unit)) => [Sl (eI .i64) 1 (.slice a3 x2.length c4) x2, J.F]) (fun ((x654, _) : (Int × Unit)) => vI F yy (qA F yy x2 k530) x2 x266 x267 x654) ?_ ?_
 refine au [17] ?_
 refine qcC (fun ((x709, _) : (Int × Unit)) => [(0, .func (.yield L) #[] #[]), (1, .pointer (some ⟨g1, 0, none⟩)), (3, .int .i64 x266), (4, .int .i64 x709)]) (fun ((x709, _) : (Int × Unit)) => [⟨g1, 37, [.slice a3 x2.length c4]⟩] ++ J.IB x267 g268) (fun ((x709, _) : (Int × Unit)) => [] ++ J.IR x267 g268) (fun ((x709, _) : (Int × Unit)) => [Sl (eI .i64) 1 (.slice a3 x2.length c4) x2, J.F]) (fun k (s : (Int × Unit)) => zK F yy (qA F yy x2 k530) x2 x266 x267 k s.1) (1, ()) F ?_ (hB := (.cons 0 rfl (qL 0 rfl))) (hR := (qL 0 rfl)) (hF := (qB 0 rfl (qB 1 rfl jQ)))
 intro k750
 rintro ⟨x709, _⟩
 try dsimp only
 refine qJ (m' := vH F yy (qA F yy x2 k530) x2 x266 x267 (zK F yy (qA F yy x2 k530) x2 x266 x267 k750) x709) rfl ?_
 refine au [3] ?_
 refine qe5 (fun ((x780, _) : (Bool × Unit)) => [(0, .func (.yield L) #[] #[]), (1, .pointer (some ⟨g1, 0, none⟩)), (3, .int .i64 x266), (4, .int .i64 x709), (29, .bool x780)]) (fun ((x780, _) : (Bool × Unit)) => [⟨g1, 37, [.slice a3 x2.length c4]⟩] ++ J.IB x267 g268) (fun ((x780, _) : (Bool × Unit)) => [] ++ J.IR x267 g268) (fun ((x780, _) : (Bool × Unit)) => [Sl (eI .i64) 1 (.slice a3 x2.length c4) x2, J.F]) (fun ((x780, _) : (Bool × Unit)) => vJ F yy (qA F yy x2 k530) (zK F yy (qA F yy x2 k530) x2 x266 x267 k750) x2 x266 x267 x709 x780) ?_ ?_
 refine av [26,10] ?_ ?_
 intro h782
 refine au [31,9] ?_
 intro x783 e783 b784 o785 h786
 replace h786 : a3 = some ⟨b784, o785, none⟩ := h786
 refine qbR (j := 1) (qv .i64) (by decide) rfl ?_
 intro x787 e787 b788 o789 h790
 replace h790 : a3 = some ⟨b788, o789, none⟩ := h790
 refine qs mixed [] [⟨g1, 37, [.slice a3 x2.length c4]⟩] [qI b788 (o789 + x266.toNat * 1) ((eI .i64) x787), qI b784 (o785 + (iadd .i64 x266 x709).toNat * 1) ((eI .i64) x783), Sl (eI .i64) 1 (.slice a3 x2.length c4) x2, J.F] (.cons 0 rfl .nil) (qO 0 rfl (qO 1 rfl (qO 2 rfl (qO 3 rfl qr)))) 21 rfl ?_
 refine au [6,0,6,1,6,2,25,10,3,27,13,4,6,5,6,6] ?_
 refine qf (d := 15) (v := .bool true) rfl (by rw [h782] <;> rfl) ?_
 refine au [25,10,7,6,8,6,9,6,10] ?_
 refine qf (d := 16) (v := .slice (some ⟨b784, o785, none⟩) x2.length c4) rfl (by rw [h786] <;> rfl) (qn 11 (.pointer (some ⟨b784, (o785 + (iadd .i64 x266 x709).toNat * 1), none⟩)) rfl rfl rfl (qan Tryz.underlying37 tf3 rfl rfl (qP e783).1 (v8 e783)) (qf (d := 16) (v := .slice a3 x2.length c4) rfl (by rw [h786] <;> rfl) (q8 12 (.int .i64 x783) [] rfl rfl rfl (kE (j := 1) rfl tf3 rfl rfl (fun _ => rfl) rfl) ?_)))
 refine au [25,10,13,6,14] ?_
 refine qf (d := 22) (v := .slice (some ⟨b788, o789, none⟩) x2.length c4) rfl (by rw [h790] <;> rfl) (qn 15 (.pointer (some ⟨b788, (o789 + x266.toNat * 1), none⟩)) rfl rfl rfl (qan Tryz.underlying37 tf3 rfl rfl (qP e787).1 (v8 e787)) (qf (d := 22) (v := .slice a3 x2.length c4) rfl (by rw [h790] <;> rfl) (q8 16 (.int .i64 x787) [] rfl rfl rfl (kE (j := 0) rfl tf3 rfl rfl (fun _ => rfl) rfl) ?_)))
 refine au [6,17,6,18,6,19,6,20,24,6] ?_
 exact qy (qcF (((x783 : Int) == (iadd .i64 x787 x709)), ()) (hB := (.cons 0 rfl (qL 0 rfl))) (hR := (qL 0 rfl)) (hF := (qB 2 rfl (qB 3 rfl jQ)))) (by intro c h; cases h)
 intro h782
 refine qs mixed [] [⟨g1, 37, [.slice a3 x2.length c4]⟩] [Sl (eI .i64) 1 (.slice a3 x2.length c4) x2, J.F] (.cons 0 rfl .nil) (qO 0 rfl (qO 1 rfl qr)) 21 rfl ?_
 refine au [6,0,6,1,6,2,25,10,3,27,13,4,6,5,6,6] ?_
 refine qf (d := 15) (v := .bool false) rfl (by rw [h782] <;> rfl) ?_
 refine au [8,7,8,8,8,9,8,10,8,11,8,12,8,13,8,14,8,15,8,16,8,17,8,18,8,19,6,20,24,6] ?_
 exact qy (qcF (false, ()) (hB := (.cons 0 rfl (qL 0 rfl))) (hR := (qL 0 rfl)) (hF := (qB 0 rfl (qB 1 rfl jQ)))) (by intro c h; cases h)
 rintro ⟨x780, _⟩
 try dsimp only
 refine av [10] ?_ ?_
 intro _
 refine au [11,2,17,4,1,18,5,0,24,8] ?_
 exact qb8 (iadd .i64 x709 1, ()) (hB := (.cons 0 rfl (qL 0 rfl))) (hR := (qL 0 rfl)) (hF := (qB 0 rfl (qB 1 rfl jQ)))
 intro _
 refine au [24,13,21,21,24,14] ?_
 exact qcF (x709, ()) (hB := (.cons 0 rfl (qL 0 rfl))) (hR := (qL 0 rfl)) (hF := (qB 0 rfl (qB 1 rfl jQ)))
 rintro ⟨x654, _⟩
 try dsimp only
 refine au [3,3,4,1,24,1,1,26,8] ?_
 intro x662 e662 b663 o664
 refine au [25,12,1] ?_
 refine ql (cells := [.int .i64 x662, .int .i64 x654]) rfl st141 rfl (by kernel_rfl) rfl (qf7 hY x267 (x662, x654) g268 (B1 := [⟨g1, 37, [.slice a3 x2.length c4]⟩]) (R1 := []) (j := 2) rfl rfl rfl rfl rfl rfl rfl (fun x665 _ g667 => ?_) (fun x666 _ g667 => ?_))
 refine au [25,5,0,2] ?_
 refine qaM (b := false) rfl (fun h => by cases h) (fun _ => ?_)
 refine au [11,2,4,1,1,18,5,0,24,8] ?_
 exact qb8 ((iadd .i64 x266 x654, x665), g667) (hB := (.cons 0 rfl (qL 0 rfl))) (hR := (qL 0 rfl)) (hF := (qB 1 rfl (qB 2 rfl jQ)))
 refine au [25,5,0,2] ?_
 refine qaM (b := true) rfl (fun _ => ?_) (fun h => by cases h)
 refine au [9,12,24,5,12,24,5] ?_
 exact qcD (B0 := [⟨g1, 37, [.slice a3 x2.length c4]⟩]) (x := .inr x666) g667 (.inl rfl) (res0 rfl) (.cons 0 rfl (qL 0 rfl)) (qL 0 rfl)
 intro _
 refine au [24,13,21,21,24,14] ?_
 exact qcD (B0 := [⟨g1, 37, [.slice a3 x2.length c4]⟩]) (x := .inl x267) g268 (.inr rfl) (res0 rfl) (.cons 0 rfl (qL 0 rfl)) (qL 0 rfl)
end Go.Proofs.YtpnfijegoepiaaaGreat
