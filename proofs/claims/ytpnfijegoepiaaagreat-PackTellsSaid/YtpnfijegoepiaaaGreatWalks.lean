/- Each Go function of this seat computes what its model says. -/
import Derived.Test.YtpnfijegoepiaaaGreatRows
import Derived.Test.YtpnfijegoepiaaaGreatModels
import Derived.Test.YtpnfijegoepiaaaGreatShelf
namespace Go.Proofs.YtpnfijegoepiaaaGreat
open Go SX
def eN37 (p : List Int × (Option Addr × Nat)) : List Value := [.slice p.2.1 p.1.length p.2.2]
def iN37 (p : List Int × (Option Addr × Nat)) : List (World → Prop) := [Sl (eI .i64) 1 (.slice p.2.1 p.1.length p.2.2) p.1]
theorem kY : EncOk eN37 1 := ⟨fun _ => rfl, fun _ => rfl⟩
def rN37 (p : List Int × (Option Addr × Nat)) : List RowF := [FoR (eI .i64) 3 1 (.slice p.2.1 p.1.length p.2.2) p.1]
theorem qtE : ∀ p, iN37 p = (rN37 p).map RowF.cells := fun _ => rfl
theorem qtx : ∀ f ∈ rN37 (([] : List Int), ((none, 0) : Option Addr × Nat)), f.v = .slice none 0 0 ∧ f.n = 0 ∧ f.cs = [] := by simp [rN37, FoR]
def eS141 (p : (Int × Int)) : List Value := [.int .i64 p.1, .int .i64 p.2]
theorem kb : EncOk eS141 2 := ⟨fun _ => rfl, fun _ => rfl⟩
instance tf3 : TyF Tryz.prog 3 false (.int .i64 0) 1 8 := .of (by kernel_rfl) (by kernel_rfl)
instance tf4 : TyF Tryz.prog 4 false (.bool false) 1 1 := .of (by kernel_rfl) (by kernel_rfl)
instance tf5 : TyF Tryz.prog 5 false (.int .u8 0) 1 1 := .of (by kernel_rfl) (by kernel_rfl)
instance tf22 : TyF Tryz.prog 22 false (.slice none 0 0) 1 24 := .of (by kernel_rfl) (by kernel_rfl)
instance tf24 : TyF Tryz.prog 24 true (.agg #[.slice none 0 0]) 1 24 := .of (by kernel_rfl) (by kernel_rfl)
instance tf26 : TyF Tryz.prog 26 true (.agg #[.int .i64 0, .int .i64 0, .int .i64 0]) 3 24 := .of (by kernel_rfl) (by kernel_rfl)
instance tf27 : TyF Tryz.prog 27 false (.slice none 0 0) 1 24 := .of (by kernel_rfl) (by kernel_rfl)
instance tf29 : TyF Tryz.prog 29 true (.agg #[.int .i64 0, .slice none 0 0]) 2 32 := .of (by kernel_rfl) (by kernel_rfl)
instance tf31 : TyF Tryz.prog 31 true (.agg #[.int .i64 0, .int .i64 0, .int .i64 0, .int .i64 0, .int .i64 0, .slice none 0 0]) 6 64 := .of (by kernel_rfl) (by kernel_rfl)
instance tf37 : TyF Tryz.prog 37 false (.slice none 0 0) 1 24 := .of (by kernel_rfl) (by kernel_rfl)
instance tf50 : TyF Tryz.prog 50 false (.int .u64 0) 1 8 := .of (by kernel_rfl) (by kernel_rfl)
instance tf92 : TyF Tryz.prog 92 false (.pointer none) 1 8 := .of (by kernel_rfl) (by kernel_rfl)
instance tf117 : TyF Tryz.prog 117 false (.slice none 0 0) 1 24 := .of (by kernel_rfl) (by kernel_rfl)
instance tf131 : TyF Tryz.prog 131 true (.agg #[.int .i64 0, .int .i64 0, .slice none 0 0]) 3 40 := .of (by kernel_rfl) (by kernel_rfl)
instance tf141 : TyF Tryz.prog 141 true (.agg #[.int .i64 0, .int .i64 0]) 2 16 := .of (by kernel_rfl) (by kernel_rfl)
instance tf168 : TyF Tryz.prog 168 true (.agg #[]) 0 0 := .of (by kernel_rfl) (by kernel_rfl)
instance ff24_0 : FdF Tryz.prog 24 0 0 := .of (by kernel_rfl)
instance ff26_0 : FdF Tryz.prog 26 0 0 := .of (by kernel_rfl)
instance ff26_1 : FdF Tryz.prog 26 1 1 := .of (by kernel_rfl)
instance ff26_2 : FdF Tryz.prog 26 2 2 := .of (by kernel_rfl)
instance ff29_0 : FdF Tryz.prog 29 0 0 := .of (by kernel_rfl)
instance ff29_1 : FdF Tryz.prog 29 1 1 := .of (by kernel_rfl)
instance ff31_0 : FdF Tryz.prog 31 0 0 := .of (by kernel_rfl)
instance ff31_1 : FdF Tryz.prog 31 1 1 := .of (by kernel_rfl)
instance ff31_2 : FdF Tryz.prog 31 2 4 := .of (by kernel_rfl)
instance ff66_0 : FdF Tryz.prog 66 0 0 := .of (by kernel_rfl)
instance ff66_1 : FdF Tryz.prog 66 1 6 := .of (by kernel_rfl)
instance ff66_2 : FdF Tryz.prog 66 2 7 := .of (by kernel_rfl)
instance ff90_0 : FdF Tryz.prog 90 0 0 := .of (by kernel_rfl)
instance ff90_1 : FdF Tryz.prog 90 1 2 := .of (by kernel_rfl)
instance ff94_0 : FdF Tryz.prog 94 0 0 := .of (by kernel_rfl)
instance ff131_0 : FdF Tryz.prog 131 0 0 := .of (by kernel_rfl)
instance ff131_1 : FdF Tryz.prog 131 1 1 := .of (by kernel_rfl)
instance ff137_0 : FdF Tryz.prog 137 0 0 := .of (by kernel_rfl)
instance ff137_1 : FdF Tryz.prog 137 1 2 := .of (by kernel_rfl)
instance ff141_0 : FdF Tryz.prog 141 0 0 := .of (by kernel_rfl)
instance ff141_1 : FdF Tryz.prog 141 1 1 := .of (by kernel_rfl)
instance ff153_0 : FdF Tryz.prog 153 0 0 := .of (by kernel_rfl)
instance ff153_1 : FdF Tryz.prog 153 1 1 := .of (by kernel_rfl)
instance ff153_2 : FdF Tryz.prog 153 2 2 := .of (by kernel_rfl)
instance ff162_0 : FdF Tryz.prog 162 0 0 := .of (by kernel_rfl)
instance ff162_1 : FdF Tryz.prog 162 1 1 := .of (by kernel_rfl)
instance st24 : StF Tryz.prog 24 [(0, 1)] (.agg #[.slice none 0 0]) := .of (by kernel_rfl) (by kernel_rfl)
instance st26 : StF Tryz.prog 26 [(0, 1), (1, 1), (2, 1)] (.agg #[.int .i64 0, .int .i64 0, .int .i64 0]) := .of (by kernel_rfl) (by kernel_rfl)
instance st29 : StF Tryz.prog 29 [(0, 1), (1, 1)] (.agg #[.int .i64 0, .slice none 0 0]) := .of (by kernel_rfl) (by kernel_rfl)
instance st31 : StF Tryz.prog 31 [(0, 1), (1, 3), (4, 2)] (.agg #[.int .i64 0, .int .i64 0, .int .i64 0, .int .i64 0, .int .i64 0, .slice none 0 0]) := .of (by kernel_rfl) (by kernel_rfl)
instance st66 : StF Tryz.prog 66 [(0, 6), (6, 1), (7, 1)] (.agg #[.int .i64 0, .int .i64 0, .int .i64 0, .int .i64 0, .int .i64 0, .slice none 0 0, .slice none 0 0, .slice none 0 0]) := .of (by kernel_rfl) (by kernel_rfl)
instance st90 : StF Tryz.prog 90 [(0, 2), (2, 1)] (.agg #[.int .i64 0, .slice none 0 0, .bool false]) := .of (by kernel_rfl) (by kernel_rfl)
instance st94 : StF Tryz.prog 94 [(0, 2)] (.agg #[.int .i64 0, .slice none 0 0]) := .of (by kernel_rfl) (by kernel_rfl)
instance st131 : StF Tryz.prog 131 [(0, 1), (1, 2)] (.agg #[.int .i64 0, .int .i64 0, .slice none 0 0]) := .of (by kernel_rfl) (by kernel_rfl)
instance st137 : StF Tryz.prog 137 [(0, 2), (2, 1)] (.agg #[.int .i64 0, .slice none 0 0, .int .i64 0]) := .of (by kernel_rfl) (by kernel_rfl)
instance st141 : StF Tryz.prog 141 [(0, 1), (1, 1)] (.agg #[.int .i64 0, .int .i64 0]) := .of (by kernel_rfl) (by kernel_rfl)
instance st153 : StF Tryz.prog 153 [(0, 1), (1, 1), (2, 1)] (.agg #[.slice none 0 0, .bool false, .int .i64 0]) := .of (by kernel_rfl) (by kernel_rfl)
instance st162 : StF Tryz.prog 162 [(0, 1), (1, 1)] (.agg #[.int .i64 0, .bool false]) := .of (by kernel_rfl) (by kernel_rfl)
instance st168 : StF Tryz.prog 168 [] (.agg #[]) := .of (by kernel_rfl) (by kernel_rfl)
instance se26 : StE3 Tryz.prog 26 .i64 .i64 .i64 := ⟨_, _, _, Tryz.underlying26, by kernel_rfl, by kernel_rfl, by decide, by decide, by decide, rfl, rfl, rfl, Tryz.underlying3, Tryz.underlying3, Tryz.underlying3⟩
theorem mixed : Tryz.prog.follows .mixedOrders = true := by kernel_rfl
instance en9 : EnC Tryz.prog 9 := ⟨qd Tryz.func9 rfl rfl⟩
instance en10 : EnC Tryz.prog 10 := ⟨qd Tryz.func10 rfl rfl⟩
instance en11 : EnC Tryz.prog 11 := ⟨qd Tryz.func11 rfl rfl⟩
instance en12 : EnC Tryz.prog 12 := ⟨qd Tryz.func12 rfl rfl⟩
instance en13 : EnC Tryz.prog 13 := ⟨qd Tryz.func13 rfl rfl⟩
instance en14 : EnC Tryz.prog 14 := ⟨qd Tryz.func14 rfl rfl⟩
instance en15 : EnC Tryz.prog 15 := ⟨qd Tryz.func15 rfl rfl⟩
instance en16 : EnC Tryz.prog 16 := ⟨qd Tryz.func16 rfl rfl⟩
instance en17 : EnC Tryz.prog 17 := ⟨qd Tryz.func17 rfl rfl⟩
instance en18 : EnC Tryz.prog 18 := ⟨qd Tryz.func18 rfl rfl⟩
instance en19 : EnC Tryz.prog 19 := ⟨qd Tryz.func19 rfl rfl⟩
instance en20 : EnC Tryz.prog 20 := ⟨qd Tryz.func20 rfl rfl⟩
instance en24 : EnC Tryz.prog 24 := ⟨qd Tryz.func24 rfl rfl⟩
instance en26 : EnC Tryz.prog 26 := ⟨qd Tryz.func26 rfl rfl⟩
instance en28 : EnC Tryz.prog 28 := ⟨qd Tryz.func28 rfl rfl⟩
instance en29 : EnC Tryz.prog 29 := ⟨qd Tryz.func29 rfl rfl⟩
instance en30 : EnC Tryz.prog 30 := ⟨qd Tryz.func30 rfl rfl⟩
instance en31 : EnC Tryz.prog 31 := ⟨qd Tryz.func31 rfl rfl⟩
instance en32 : EnC Tryz.prog 32 := ⟨qd Tryz.func32 rfl rfl⟩
instance en33 : EnC Tryz.prog 33 := ⟨qd Tryz.func33 rfl rfl⟩
instance en34 : EnC Tryz.prog 34 := ⟨qd Tryz.func34 rfl rfl⟩
instance en35 : EnC Tryz.prog 35 := ⟨qd Tryz.func35 rfl rfl⟩
instance en36 : EnC Tryz.prog 36 := ⟨qd Tryz.func36 rfl rfl⟩
instance en37 : EnC Tryz.prog 37 := ⟨qd Tryz.func37 rfl rfl⟩
instance en38 : EnC Tryz.prog 38 := ⟨qd Tryz.func38 rfl rfl⟩
instance en39 : EnC Tryz.prog 39 := ⟨qd Tryz.func39 rfl rfl⟩
instance en40 : EnC Tryz.prog 40 := ⟨qd Tryz.func40 rfl rfl⟩
instance en41 : EnC Tryz.prog 41 := ⟨qd Tryz.func41 rfl rfl⟩
instance en43 : EnC Tryz.prog 43 := ⟨qd Tryz.func43 rfl rfl⟩
instance en46 : EnC Tryz.prog 46 := ⟨qd Tryz.func46 rfl rfl⟩
instance en47 : EnC Tryz.prog 47 := ⟨qd Tryz.func47 rfl rfl⟩
instance en48 : EnC Tryz.prog 48 := ⟨qd Tryz.func48 rfl rfl⟩
instance en49 : EnC Tryz.prog 49 := ⟨qd Tryz.func49 rfl rfl⟩
instance en50 : EnC Tryz.prog 50 := ⟨qd Tryz.func50 rfl rfl⟩
instance en51 : EnC Tryz.prog 51 := ⟨qd Tryz.func51 rfl rfl⟩
instance en52 : EnC Tryz.prog 52 := ⟨qd Tryz.func52 rfl rfl⟩
instance en53 : EnC Tryz.prog 53 := ⟨qd Tryz.func53 rfl rfl⟩
instance en54 : EnC Tryz.prog 54 := ⟨qd Tryz.func54 rfl rfl⟩
instance en55 : EnC Tryz.prog 55 := ⟨qd Tryz.func55 rfl rfl⟩
instance en56 : EnC Tryz.prog 56 := ⟨qd Tryz.func56 rfl rfl⟩
instance en57 : EnC Tryz.prog 57 := ⟨qd Tryz.func57 rfl rfl⟩
instance en58 : EnC Tryz.prog 58 := ⟨qd Tryz.func58 rfl rfl⟩
instance en59 : EnC Tryz.prog 59 := ⟨qd Tryz.func59 rfl rfl⟩
instance en60 : EnC Tryz.prog 60 := ⟨qd Tryz.func60 rfl rfl⟩
instance en61 : EnC Tryz.prog 61 := ⟨qd Tryz.func61 rfl rfl⟩
instance en62 : EnC Tryz.prog 62 := ⟨qd Tryz.func62 rfl rfl⟩
instance en63 : EnC Tryz.prog 63 := ⟨qd Tryz.func63 rfl rfl⟩
instance en64 : EnC Tryz.prog 64 := ⟨qd Tryz.func64 rfl rfl⟩
instance en65 : EnC Tryz.prog 65 := ⟨qd Tryz.func65 rfl rfl⟩
instance en67 : EnC Tryz.prog 67 := ⟨qd Tryz.func67 rfl rfl⟩
instance en68 : EnC Tryz.prog 68 := ⟨qd Tryz.func68 rfl rfl⟩
instance en69 : EnC Tryz.prog 69 := ⟨qd Tryz.func69 rfl rfl⟩
instance en70 : EnC Tryz.prog 70 := ⟨qd Tryz.func70 rfl rfl⟩
instance en71 : EnC Tryz.prog 71 := ⟨qd Tryz.func71 rfl rfl⟩
instance en72 : EnC Tryz.prog 72 := ⟨qd Tryz.func72 rfl rfl⟩
instance en73 : EnC Tryz.prog 73 := ⟨qd Tryz.func73 rfl rfl⟩
instance en74 : EnC Tryz.prog 74 := ⟨qd Tryz.func74 rfl rfl⟩
instance en75 : EnC Tryz.prog 75 := ⟨qd Tryz.func75 rfl rfl⟩
instance en76 : EnC Tryz.prog 76 := ⟨qd Tryz.func76 rfl rfl⟩
instance en77 : EnC Tryz.prog 77 := ⟨qd Tryz.func77 rfl rfl⟩
theorem ent78 : Enters Tryz.prog 78 := qd Tryz.func78 rfl rfl
instance en78 : EnC Tryz.prog 78 := ⟨ent78⟩
instance en79 : EnC Tryz.prog 79 := ⟨qd Tryz.func79 rfl rfl⟩
instance en80 : EnC Tryz.prog 80 := ⟨qd Tryz.func80 rfl rfl⟩
instance en81 : EnC Tryz.prog 81 := ⟨qd Tryz.func81 rfl rfl⟩
instance en82 : EnC Tryz.prog 82 := ⟨qd Tryz.func82 rfl rfl⟩
instance en83 : EnC Tryz.prog 83 := ⟨qd Tryz.func83 rfl rfl⟩
instance en84 : EnC Tryz.prog 84 := ⟨qd Tryz.func84 rfl rfl⟩
instance en85 : EnC Tryz.prog 85 := ⟨qd Tryz.func85 rfl rfl⟩
instance en86 : EnC Tryz.prog 86 := ⟨qd Tryz.func86 rfl rfl⟩
instance en87 : EnC Tryz.prog 87 := ⟨qd Tryz.func87 rfl rfl⟩
instance en88 : EnC Tryz.prog 88 := ⟨qd Tryz.func88 rfl rfl⟩
instance en89 : EnC Tryz.prog 89 := ⟨qd Tryz.func89 rfl rfl⟩
instance en90 : EnC Tryz.prog 90 := ⟨qd Tryz.func90 rfl rfl⟩
instance en91 : EnC Tryz.prog 91 := ⟨qd Tryz.func91 rfl rfl⟩
instance en92 : EnC Tryz.prog 92 := ⟨qd Tryz.func92 rfl rfl⟩
instance en93 : EnC Tryz.prog 93 := ⟨qd Tryz.func93 rfl rfl⟩
instance en94 : EnC Tryz.prog 94 := ⟨qd Tryz.func94 rfl rfl⟩
instance en95 : EnC Tryz.prog 95 := ⟨qd Tryz.func95 rfl rfl⟩
instance en96 : EnC Tryz.prog 96 := ⟨qd Tryz.func96 rfl rfl⟩
instance en97 : EnC Tryz.prog 97 := ⟨qd Tryz.func97 rfl rfl⟩
instance en98 : EnC Tryz.prog 98 := ⟨qd Tryz.func98 rfl rfl⟩
instance en99 : EnC Tryz.prog 99 := ⟨qd Tryz.func99 rfl rfl⟩
instance en100 : EnC Tryz.prog 100 := ⟨qd Tryz.func100 rfl rfl⟩
instance en101 : EnC Tryz.prog 101 := ⟨qd Tryz.func101 rfl rfl⟩
instance en102 : EnC Tryz.prog 102 := ⟨qd Tryz.func102 rfl rfl⟩
instance en103 : EnC Tryz.prog 103 := ⟨qd Tryz.func103 rfl rfl⟩
theorem ent104 : Enters Tryz.prog 104 := qd Tryz.func104 rfl rfl
instance en104 : EnC Tryz.prog 104 := ⟨ent104⟩
instance en105 : EnC Tryz.prog 105 := ⟨qd Tryz.func105 rfl rfl⟩
theorem ent106 : Enters Tryz.prog 106 := qd Tryz.func106 rfl rfl
instance en106 : EnC Tryz.prog 106 := ⟨ent106⟩
theorem ent107 : Enters Tryz.prog 107 := qd Tryz.func107 rfl rfl
instance en107 : EnC Tryz.prog 107 := ⟨ent107⟩
theorem ent108 : Enters Tryz.prog 108 := qd Tryz.func108 rfl rfl
instance en108 : EnC Tryz.prog 108 := ⟨ent108⟩
instance en109 : EnC Tryz.prog 109 := ⟨qd Tryz.func109 rfl rfl⟩
instance en110 : EnC Tryz.prog 110 := ⟨qd Tryz.func110 rfl rfl⟩
instance en111 : EnC Tryz.prog 111 := ⟨qd Tryz.func111 rfl rfl⟩
instance en112 : EnC Tryz.prog 112 := ⟨qd Tryz.func112 rfl rfl⟩
instance en113 : EnC Tryz.prog 113 := ⟨qd Tryz.func113 rfl rfl⟩
instance en114 : EnC Tryz.prog 114 := ⟨qd Tryz.func114 rfl rfl⟩
instance en115 : EnC Tryz.prog 115 := ⟨qd Tryz.func115 rfl rfl⟩
instance en116 : EnC Tryz.prog 116 := ⟨qd Tryz.func116 rfl rfl⟩
theorem ent117 : Enters Tryz.prog 117 := qd Tryz.func117 rfl rfl
instance en117 : EnC Tryz.prog 117 := ⟨ent117⟩
instance en118 : EnC Tryz.prog 118 := ⟨qd Tryz.func118 rfl rfl⟩
instance en119 : EnC Tryz.prog 119 := ⟨qd Tryz.func119 rfl rfl⟩
instance en120 : EnC Tryz.prog 120 := ⟨qd Tryz.func120 rfl rfl⟩
theorem ent121 : Enters Tryz.prog 121 := qd Tryz.func121 rfl rfl
instance en121 : EnC Tryz.prog 121 := ⟨ent121⟩
instance en122 : EnC Tryz.prog 122 := ⟨qd Tryz.func122 rfl rfl⟩
theorem ent123 : Enters Tryz.prog 123 := qd Tryz.func123 rfl rfl
instance en123 : EnC Tryz.prog 123 := ⟨ent123⟩
theorem ent124 : Enters Tryz.prog 124 := qd Tryz.func124 rfl rfl
instance en124 : EnC Tryz.prog 124 := ⟨ent124⟩
instance en125 : EnC Tryz.prog 125 := ⟨qd Tryz.func125 rfl rfl⟩
instance en126 : EnC Tryz.prog 126 := ⟨qd Tryz.func126 rfl rfl⟩
instance en127 : EnC Tryz.prog 127 := ⟨qd Tryz.func127 rfl rfl⟩
instance en128 : EnC Tryz.prog 128 := ⟨qd Tryz.func128 rfl rfl⟩
instance en129 : EnC Tryz.prog 129 := ⟨qd Tryz.func129 rfl rfl⟩
instance en130 : EnC Tryz.prog 130 := ⟨qd Tryz.func130 rfl rfl⟩
instance en131 : EnC Tryz.prog 131 := ⟨qd Tryz.func131 rfl rfl⟩
instance en132 : EnC Tryz.prog 132 := ⟨qd Tryz.func132 rfl rfl⟩
instance en133 : EnC Tryz.prog 133 := ⟨qd Tryz.func133 rfl rfl⟩
instance en134 : EnC Tryz.prog 134 := ⟨qd Tryz.func134 rfl rfl⟩
instance en135 : EnC Tryz.prog 135 := ⟨qd Tryz.func135 rfl rfl⟩
instance en136 : EnC Tryz.prog 136 := ⟨qd Tryz.func136 rfl rfl⟩
instance en137 : EnC Tryz.prog 137 := ⟨qd Tryz.func137 rfl rfl⟩
instance en138 : EnC Tryz.prog 138 := ⟨qd Tryz.func138 rfl rfl⟩
instance en139 : EnC Tryz.prog 139 := ⟨qd Tryz.func139 rfl rfl⟩
instance en140 : EnC Tryz.prog 140 := ⟨qd Tryz.func140 rfl rfl⟩
instance en141 : EnC Tryz.prog 141 := ⟨qd Tryz.func141 rfl rfl⟩
instance en142 : EnC Tryz.prog 142 := ⟨qd Tryz.func142 rfl rfl⟩
instance en143 : EnC Tryz.prog 143 := ⟨qd Tryz.func143 rfl rfl⟩
instance en144 : EnC Tryz.prog 144 := ⟨qd Tryz.func144 rfl rfl⟩
instance en147 : EnC Tryz.prog 147 := ⟨qd Tryz.func147 rfl rfl⟩
instance en148 : EnC Tryz.prog 148 := ⟨qd Tryz.func148 rfl rfl⟩
instance en149 : EnC Tryz.prog 149 := ⟨qd Tryz.func149 rfl rfl⟩
instance en150 : EnC Tryz.prog 150 := ⟨qd Tryz.func150 rfl rfl⟩
theorem qrR (v : Value) (w : World) : (Instr.makeInterface 168 v).run Tryz.prog w = .ok (.iface 168 v) w := by simp [Instr.makeInterface, run_underlying Tryz.underlying168]
abbrev lostCh : List PanicEntry := [{ v := .iface 168 (.agg #[]), recovered := false }]
theorem qrM (p q : Addr) : qjo Tryz.prog 106 #[.pointer (some p), .pointer (some q)] := by
  intro w
  refine callsD_of_wpS Tryz.func106 rfl fun c₀ cs hu => ?_
  apply wpS_seq
  apply wpS_region
  simp [wpOpsS, go_sem, recoverD, hu, Tryz.ntmps106, Exit.thenS]
  refine wpS_of_wp ?_
  go_wp2
  cases c₀
  simp_all [bodyPostS, results, Tryz.results106]
theorem qoR (w : World) : (Instr.typeAssert (.iface 168 (.agg #[])) 20 168 true).run Tryz.prog w = .ok (.tuple #[.agg #[], .bool true]) w := by
  simp [Instr.typeAssert, run_underlying Tryz.underlying168]
theorem eqn106 (x y : Operand) (w : World) : (do eqGuard .eql 20 x y (.iface 168 (.agg #[])) .nilIface; binOp .eql 20 (.iface 168 (.agg #[])) .nilIface : Sem Value).run Tryz.prog w = .ok (.bool false) w := by
  simp [go_sem]
set_option maxRecDepth 100000 in
theorem qgL (g1 g2 : Nat) (v1 v2 : Value) : qjp Tryz.prog 106 #[.pointer (some ⟨g1, 0, none⟩), .pointer (some ⟨g2, 0, none⟩)] 168 (.agg #[]) [⟨g1, 37, [v1]⟩, ⟨g2, 4, [v2]⟩] [⟨g1, 37, [.slice none 0 0]⟩, ⟨g2, 4, [.bool false]⟩] := by
  intro w hp
  refine callsD_of_wpS Tryz.func106 rfl fun c₀ cs hu => ?_
  apply wpS_seq
  apply wpS_region
  simp [wpOpsS, go_sem, recoverD, hu, Tryz.ntmps106, Exit.thenS]
  refine wpS_of_wp (qfr.1 ?_)
  refine (show SXC Tryz.prog none 11 [] (muts [⟨g1, 37, [v1]⟩, ⟨g2, 4, [v2]⟩] []) w _ _ [(0, .pointer (some ⟨g1, 0, none⟩)), (1, .pointer (some ⟨g2, 0, none⟩)), (5, .iface 168 (.agg #[]))] [⟨g1, 37, [v1]⟩, ⟨g2, 4, [v2]⟩] [] [] (some ()) () from ?_) rfl _ _ ⟨rfl, by simp, fun i v hv => ?_⟩ hp
  · refine qjY ?_
    refine qhQ ?_
    refine qdY ?_
    refine qmC rfl rfl rfl (eqn106 _ _) rfl ?_
    refine qg1 ?_
    refine qg2 ?_
    refine qdh (b := false) rfl (fun h => by cases h) (fun _ => ?_)
    refine qhQ ?_
    refine qdY ?_
    refine qlf rfl rfl qoR rfl ?_
    refine qfE rfl rfl rfl rfl ?_
    refine qfE rfl rfl rfl rfl ?_
    refine qg1 ?_
    refine qg2 ?_
    refine qdh (b := true) rfl (fun _ => ?_) (fun h => by cases h)
    refine qhQ ?_
    refine qdY ?_
    refine qj0 rfl tf168 rfl (fun g => ?_)
    refine qaL (i := 0) rfl rfl rfl tf168 rfl rfl rfl rfl rfl ?_
    refine qg1 ?_
    refine qg2 ?_
    refine qdY ?_
    refine qaL (i := 1) rfl rfl rfl tf37 rfl rfl rfl rfl rfl ?_
    refine qaL (i := 2) rfl rfl rfl tf4 rfl rfl rfl rfl rfl ?_
    refine qg1 ?_
    refine qmG ?_
    intro _ a w' hf hp'
    exact ⟨hf.defers, _, rfl, _, results_none rfl _ _ _, rfl, rfl, hp'.pick (.cons 1 rfl (.cons 1 rfl .nil)) .nil (by simp)⟩
  · simp only [jo] at hv
    split at hv
    · rename_i h; subst h; simpa using hv
    · split at hv
      · rename_i h; subst h; simpa using hv
      · split at hv
        · rename_i h; subst h; simpa using hv
        · cases hv
instance un2 : UnF Tryz.prog 2 (.int .i64) := ⟨Tryz.underlying2⟩
instance un3 : UnF Tryz.prog 3 (.int .i64) := ⟨Tryz.underlying3⟩
instance un4 : UnF Tryz.prog 4 .bool := ⟨Tryz.underlying4⟩
instance un5 : UnF Tryz.prog 5 (.int .u8) := ⟨Tryz.underlying5⟩
instance un9 : UnF Tryz.prog 9 .string := ⟨Tryz.underlying9⟩
instance un22 : UnF Tryz.prog 22 (.slice 37) := ⟨Tryz.underlying22⟩
instance un27 : UnF Tryz.prog 27 (.slice 5) := ⟨Tryz.underlying27⟩
instance un37 : UnF Tryz.prog 37 (.slice 3) := ⟨Tryz.underlying37⟩
instance un50 : UnF Tryz.prog 50 (.int .u64) := ⟨Tryz.underlying50⟩
instance un117 : UnF Tryz.prog 117 (.slice 141) := ⟨Tryz.underlying117⟩
instance un123 : UnF Tryz.prog 123 (.slice 50) := ⟨Tryz.underlying123⟩
instance un128 : UnF Tryz.prog 128 (.int .u64) := ⟨Tryz.underlying128⟩
set_option maxRecDepth 100000 in
theorem au0 (p : List Nat) {A B : Prop} (t : B → Stp p A := by
  intro h
  repeat (first
    | exact stp0 h
    | (refine stc 0 ?_; refine stk (fun h => qg1 h) ?_)
    | (refine stc 1 ?_; refine stk (fun h => qrf rfl rfl rfl h) ?_)
    | (refine stc 2 ?_; refine stk (fun h => qg2 h) ?_)
    | (refine stc 3 ?_; refine stk (fun h => qhQ h) ?_)
    | (refine stc 4 ?_; refine stk (fun h => qdY h) ?_)
    | (refine stc 5 ?_; refine stk (fun h => qnw rfl rfl rfl h) ?_)
    | (refine stc 6 ?_; refine qgY rfl rfl rfl (qd4 rfl) ?_)
    | (refine stc 7 ?_; refine stk (fun h => qrg rfl rfl rfl h) ?_)
    | (refine stc 8 ?_; refine qsd rfl rfl rfl ?_)
    | (refine stc 9 ?_; refine stk (fun h => qti rfl (And.left h) (And.right h)) ?_)
    | (refine stc 10 ?_; refine stk (fun h => qq5 h) ?_)
    | (refine stc 11 ?_; refine stk (fun h => qpu h) ?_)
    | (refine stc 12 ?_; refine stk (fun h => qsj h) ?_)
    | (refine stc 13 ?_; refine stk (fun h => qjm rfl rfl inferInstance rfl h) ?_)
    | (refine stc 14 ?_; refine stk (fun h => qjY h) ?_)
    | (refine stc 15 ?_; refine stk (fun h => qsk rfl rfl rfl rfl h) ?_)
    | (refine stc 16 ?_; refine stk (fun h => qpv h) ?_)
    | (refine stc 17 ?_; refine stk (fun h => qfE rfl rfl rfl rfl h) ?_)
    | (refine stc 18 ?_; exact stz (qj ()))
    | (refine stc 19 ?_; refine stk (fun h => qss rfl UnF.u rfl rfl h) ?_)
    | (refine stc 20 ?_; refine stk (fun h => qri h) ?_)
    | (refine stc 21 ?_; refine stk (fun h => qmG h) ?_)
    | (refine stc 22 ?_; refine stk (fun h => qsu rfl rfl rfl rfl h) ?_)
    | (refine stc 23 ?_; refine stk (fun h => jq (i := 0) rfl rfl inferInstance rfl rfl (fun _ => rfl) rfl rfl h) ?_)
    | (refine stc 24 ?_; first
      | (refine sta 0 ?_; refine qse rfl (by kernel_rfl) rfl ?_)
      | (refine sta 1 ?_; exact stz (qps))
      | (refine sta 2 ?_; refine qgY rfl rfl rfl (qcr rfl inferInstance) ?_)
      | (refine sta 3 ?_; refine stk (fun h => qsm rfl rfl rfl h) ?_)
      | (refine sta 4 ?_; refine stk (fun h => qq2 h) ?_)
      | (refine sta 5 ?_; refine stk (fun h => qrj h) ?_)
      | (refine sta 6 ?_; refine stk (fun h => qsr rfl rfl rfl rfl h) ?_)
      | (refine sta 7 ?_; refine stk (fun h => qqT (by kernel_rfl) h) ?_)
      | (refine sta 8 ?_; refine stk (fun h => qmF (b := true) rfl rfl rfl rfl h) ?_)
      | (refine sta 9 ?_; refine stk (fun h => qmF (b := false) rfl rfl rfl rfl h) ?_)
      | (refine sta 10 ?_; refine stk (fun h => qsD rfl rfl rfl rfl h) ?_)
      | (refine sta 11 ?_; refine stk (fun h => qaL (i := 0) rfl rfl rfl inferInstance rfl rfl rfl rfl rfl h) ?_)
      | (refine sta 12 ?_; refine stk (fun h => qq8 rfl UnF.u UnF.u rfl rfl h) ?_)
      | (refine sta 13 ?_; refine stk (fun h => qqY h) ?_)
      | (refine sta 14 ?_; refine stk (fun h => qgt Int (eI .i64) 3 1 h) ?_)
      | (refine sta 15 ?_; refine stk (fun h => qsp rfl rfl rfl rfl h) ?_))
    | (refine stc 25 ?_; first
      | (refine sta 0 ?_; refine stk (fun h => qj0 rfl inferInstance rfl h) ?_)
      | (refine sta 1 ?_; refine stk (fun h => qj1 (j := 0) rfl rfl inferInstance rfl rfl (fun _ => rfl) rfl rfl h) ?_)
      | (refine sta 2 ?_; refine stk (fun h => jq (i := 0) rfl rfl inferInstance rfl rfl (by simp) rfl rfl h) ?_)
      | (refine sta 3 ?_; refine stk (fun h => qsA rfl rfl rfl rfl h) ?_)
      | (refine sta 4 ?_; refine stk (fun h => qsB rfl rfl rfl h) ?_)
      | (refine sta 5 ?_; refine stk (fun h => qqX h) ?_)
      | (refine sta 6 ?_; refine stk (fun h => qli rfl rfl rfl h) ?_)
      | (refine sta 7 ?_; refine stk (fun h => jq (i := 1) rfl rfl inferInstance rfl rfl (by simp) rfl rfl h) ?_)
      | (refine sta 8 ?_; refine stk (fun h => qpt h) ?_)
      | (refine sta 9 ?_; refine qgX rfl rfl rfl (zw (i := 0) rfl inferInstance rfl rfl (fun _ => rfl) rfl) ?_)
      | (refine sta 10 ?_; refine stk (fun h => qaL (i := 1) rfl rfl rfl inferInstance rfl rfl rfl rfl rfl h) ?_)
      | (refine sta 11 ?_; refine stk (fun h => qtj (And.left h) (And.right h)) ?_)
      | (refine sta 12 ?_; refine stk (fun h => jq (i := 1) rfl rfl inferInstance rfl rfl (fun _ => rfl) rfl rfl h) ?_)
      | (refine sta 13 ?_; refine stk (fun h => qqZ h) ?_)
      | (refine sta 14 ?_; refine stk (fun h => qfa Int (eI .i64) 3 1 h) ?_)
      | (refine sta 15 ?_; refine stk (fun h => qb1 (j := 0) (qo .i64) (by decide) rfl UnF.u inferInstance rfl rfl rfl rfl h) ?_))
    | (refine stc 26 ?_; first
      | (refine sta 0 ?_; refine stk (fun h => qrc h) ?_)
      | (refine sta 1 ?_; exact stz (qa ((), ())))
      | (refine sta 2 ?_; refine stk (fun h => qsq rfl rfl rfl rfl h) ?_)
      | (refine sta 3 ?_; refine stk (fun h => qso h) ?_)
      | (refine sta 4 ?_; refine stk (fun h => zG .nil (qC 0 rfl (qC 1 rfl (qC 2 rfl (qC 3 rfl (qC 4 rfl qu))))) h) ?_)
      | (refine sta 5 ?_; refine stk (fun h => jq (i := 2) rfl rfl inferInstance rfl rfl (by simp) rfl rfl h) ?_)
      | (refine sta 6 ?_; refine stk (fun h => jq (i := 2) rfl rfl inferInstance rfl rfl (fun _ => rfl) rfl rfl h) ?_)
      | (refine sta 7 ?_; refine stk (fun h => zG (.cons 0 rfl (.cons 1 rfl .nil)) (qC 0 rfl (qjh 1 rfl qu)) h) ?_)
      | (refine sta 8 ?_; exact stz (qj7 (.cons 0 rfl .nil)))
      | (refine sta 9 ?_; refine stk (fun h => qst rfl rfl rfl rfl h) ?_)
      | (refine sta 10 ?_; refine stk (fun h => qpj (And.left h) (And.right h)) ?_)
      | (refine sta 11 ?_; refine stk (fun h => qrl (List Int) (Option Addr × Nat) eN37 rN37 37 1 h) ?_)
      | (refine sta 12 ?_; refine stk (fun h => qgt Int (eI .u8) 5 1 h) ?_)
      | (refine sta 13 ?_; refine stk (fun h => qlj rfl rfl rfl rfl rfl h) ?_)
      | (refine sta 14 ?_; refine stk (fun h => qb1 (j := 1) (qo .i64) (by decide) rfl UnF.u inferInstance rfl rfl rfl rfl h) ?_)
      | (refine sta 15 ?_; refine stk (fun h => qg qlz h) ?_))
    | (refine stc 27 ?_; first
      | (refine sta 0 ?_; refine stk (fun h => qsC rfl rfl rfl rfl rfl h) ?_)
      | (refine sta 1 ?_; refine stk (fun h => zG (.cons 1 rfl (.cons 1 rfl .nil)) (qC 0 rfl qu) h) ?_)
      | (refine sta 2 ?_; refine stk (fun h => qsx rfl rfl rfl rfl h) ?_)
      | (refine sta 3 ?_; refine stk (fun h => zG (.cons 1 rfl .nil) qu h) ?_)
      | (refine sta 4 ?_; refine stk (fun h => qq0 h) ?_)
      | (refine sta 5 ?_; refine stk (fun h => qaL (i := 2) rfl rfl rfl inferInstance rfl rfl rfl rfl rfl h) ?_)
      | (refine sta 6 ?_; refine stk (fun h => qrh h) ?_)
      | (refine sta 7 ?_; refine stk (fun h => qg qiR h) ?_)
      | (refine sta 8 ?_; refine stk (fun h => zG (.cons 0 rfl (.cons 0 rfl (.cons 0 rfl (.cons 0 rfl .nil)))) qu h) ?_)
      | (refine sta 9 ?_; refine stk (fun h => qth (And.left h) (And.right h)) ?_)
      | (refine sta 10 ?_; refine stk (fun h => qiI (j := 0) kY (by decide) rfl UnF.u inferInstance rfl rfl rfl rfl h) ?_)
      | (refine sta 11 ?_; refine stk (fun h => qsi h) ?_)
      | (refine sta 12 ?_; refine stk (fun h => zy qf1 h) ?_)
      | (refine sta 13 ?_; refine qgY rfl rfl rfl (qtm UnF.u rfl) ?_)
      | (refine sta 14 ?_; refine stk (fun h => qhx Int (eI .u8) 5 1 h) ?_)
      | (refine sta 15 ?_; refine stk (fun h => qhx Int (eI .i64) 3 1 h) ?_))
    | (refine stc 28 ?_; first
      | (refine sta 0 ?_; refine stk (fun h => qA 0 (qo .i64) rfl UnF.u inferInstance rfl rfl rfl rfl rfl (.inr ⟨0, rfl⟩) rfl rfl h) ?_)
      | (refine sta 1 ?_; refine stk (fun h => qg qiS h) ?_)
      | (refine sta 2 ?_; refine stk (fun h => zG (.cons 0 rfl .nil) (qC 0 rfl qu) h) ?_)
      | (refine sta 3 ?_; refine stk (fun h => qlk rfl rfl rfl rfl rfl h) ?_)
      | (refine sta 4 ?_; refine stk (fun h => qsv rfl rfl rfl rfl h) ?_)
      | (refine sta 5 ?_; refine stk (fun h => qeL (j := 1) (qo .i64) (by decide) rfl h) ?_)
      | (refine sta 6 ?_; refine stk (fun h => qq1 h) ?_)
      | (refine sta 7 ?_; refine stk (fun h => qd1 24 rfl (by kernel_rfl) (.cons 0 rfl (.cons 1 rfl .nil)) h) ?_)
      | (refine sta 8 ?_; refine stk (fun h => qg qoP h) ?_)
      | (refine sta 9 ?_; refine stk (fun h => jq (i := 3) rfl rfl inferInstance rfl rfl (by simp) rfl rfl h) ?_)
      | (refine sta 10 ?_; refine stk (fun h => jq (i := 3) rfl rfl inferInstance rfl rfl (fun _ => rfl) rfl rfl h) ?_)
      | (refine sta 11 ?_; refine stk (fun h => qg qks h) ?_)
      | (refine sta 12 ?_; refine stk (fun h => qeL (j := 0) (qo .i64) (by decide) rfl h) ?_)
      | (refine sta 13 ?_; refine qgX rfl rfl rfl (zw (i := 1) rfl inferInstance rfl rfl (fun _ => rfl) rfl) ?_)
      | (refine sta 14 ?_; refine stk (fun h => zG (.cons 1 rfl (.cons 1 rfl .nil)) (qC 0 rfl (qC 1 rfl (qC 2 rfl (qC 3 rfl qu)))) h) ?_)
      | (refine sta 15 ?_; refine stk (fun h => qdZ (j := 0) rfl UnF.u inferInstance rfl rfl rfl rfl h) ?_))
    | (refine stc 29 ?_; first
      | (refine sta 0 ?_; refine stk (fun h => qg qku h) ?_)
      | (refine sta 1 ?_; refine stk (fun h => qg qmP h) ?_)
      | (refine sta 2 ?_; refine stk (fun h => qg qkj h) ?_)
      | (refine sta 3 ?_; refine qgY rfl rfl rfl (qsG UnF.u UnF.u rfl) ?_)
      | (refine sta 4 ?_; refine stk (fun h => qsl rfl rfl rfl rfl h) ?_)
      | (refine sta 5 ?_; refine stk (fun h => zy qlA h) ?_)
      | (refine sta 6 ?_; refine stk (fun h => qg qmS h) ?_)
      | (refine sta 7 ?_; refine qgX rfl rfl rfl (zw (i := 3) rfl inferInstance rfl rfl (fun _ => rfl) rfl) ?_)
      | (refine sta 8 ?_; refine stk (fun h => qmz (j := 2) rfl h) ?_)
      | (refine sta 9 ?_; refine stk (fun h => qg (fun h => qiP F _ h) h) ?_)
      | (refine sta 10 ?_; refine stk (fun h => qlh rfl rfl rfl h) ?_)
      | (refine sta 11 ?_; refine stk (fun h => qmz (j := 0) rfl h) ?_)
      | (refine sta 12 ?_; refine stk (fun h => qg qgA h) ?_)
      | (refine sta 13 ?_; refine stk (fun h => zG .nil (qjh 0 rfl qu) h) ?_)
      | (refine sta 14 ?_; refine stk (fun h => qb1 (j := 0) kb (by decide) rfl UnF.u inferInstance rfl rfl rfl rfl h) ?_)
      | (refine sta 15 ?_; refine stk (fun h => qj1 (j := 0) rfl rfl inferInstance rfl rfl (by simp) rfl rfl h) ?_))
    | (refine stc 30 ?_; first
      | (refine sta 0 ?_; exact stz (zU ()))
      | (refine sta 1 ?_; refine stk (fun h => zG (.cons 0 rfl (.cons 0 rfl .nil)) (qC 0 rfl qu) h) ?_)
      | (refine sta 2 ?_; refine stk (fun h => zy qmU h) ?_)
      | (refine sta 3 ?_; refine stk (fun h => qg qky h) ?_)
      | (refine sta 4 ?_; refine stk (fun h => zG (.cons 0 rfl (.cons 0 rfl .nil)) (qC 0 rfl (qC 1 rfl (qC 2 rfl (qC 3 rfl qu)))) h) ?_)
      | (refine sta 5 ?_; refine stk (fun h => qeL (j := 0) (qo .u8) (by decide) rfl h) ?_)
      | (refine sta 6 ?_; refine stk (fun h => qg qlB h) ?_)
      | (refine sta 7 ?_; refine stk (fun h => qoG (j := 0) (qo .i64) rfl UnF.u inferInstance rfl rfl rfl rfl rfl h) ?_)
      | (refine sta 8 ?_; refine stk (fun h => qy (vs := []) (ys := ([] : List Int)) (qo .i64) (by decide) rfl UnF.u inferInstance rfl rfl rfl rfl rfl (by decide) h) ?_)
      | (refine sta 9 ?_; refine stk (fun h => jq (i := 4) rfl rfl inferInstance rfl rfl (by simp) rfl rfl h) ?_)
      | (refine sta 10 ?_; refine stk (fun h => zF 0 _ rfl rfl rfl (qd4 rfl) rfl h) ?_)
      | (refine sta 11 ?_; refine stk (fun h => zF 1 _ rfl rfl rfl (qd4 rfl) rfl h) ?_)
      | (refine sta 12 ?_; refine stk (fun h => zF 2 _ rfl rfl rfl (qcr rfl inferInstance) rfl h) ?_)
      | (refine sta 13 ?_; refine stk (fun h => zF 4 _ rfl rfl rfl (qd4 rfl) rfl h) ?_)
      | (refine sta 14 ?_; refine stk (fun h => zG (.cons 0 rfl (.cons 0 rfl (.cons 0 rfl (.cons 0 rfl .nil)))) (qC 0 rfl qu) h) ?_)
      | (refine sta 15 ?_; refine stk (fun h => qg qke h) ?_))
    | (refine stc 31 ?_; first
      | (refine sta 0 ?_; refine stk (fun h => qeL (j := 2) (qo .i64) (by decide) rfl h) ?_)
      | (refine sta 1 ?_; refine stk (fun h => qg qlu h) ?_)
      | (refine sta 2 ?_; refine stk (fun h => qg qhC h) ?_)
      | (refine sta 3 ?_; refine stk (fun h => qg qlF h) ?_)
      | (refine sta 4 ?_; refine stk (fun h => qpn rfl UnF.u rfl rfl rfl h) ?_)
      | (refine sta 5 ?_; refine stk (fun h => qdh rfl (And.left h) (And.right h)) ?_)
      | (refine sta 6 ?_; refine stk (fun h => qb1 (j := 0) (qo .u8) (by decide) rfl UnF.u inferInstance rfl rfl rfl rfl h) ?_)
      | (refine sta 7 ?_; refine stk (fun h => zy qmT h) ?_)
      | (refine sta 8 ?_; refine stk (fun h => zy qgv h) ?_)
      | (refine sta 9 ?_; refine stk (fun h => qg qlE h) ?_)
      | (refine sta 10 ?_; refine stk (fun h => qd1 18 rfl (by kernel_rfl) (.cons 0 rfl .nil) h) ?_)
      | (refine sta 11 ?_; refine stk (fun h => qg qlM h) ?_)
      | (refine sta 12 ?_; refine stk (fun h => qg qg6 h) ?_)
      | (refine sta 13 ?_; refine stk (fun h => zy qgB h) ?_)
      | (refine sta 14 ?_; refine stk (fun h => qg qhE h) ?_)
      | (refine sta 15 ?_; refine stk (fun h => qg qgd h) ?_))
    | (refine stc 32 ?_; first
      | (refine sta 0 ?_; refine stk (fun h => qsy rfl UnF.u rfl rfl rfl h) ?_)
      | (refine sta 1 ?_; refine stk (fun h => qg qc9 h) ?_)
      | (refine sta 2 ?_; refine stk (fun h => qfa (Int × Int) eS141 141 2 h) ?_)
      | (refine sta 3 ?_; refine qgX rfl rfl rfl (zw (i := 2) rfl inferInstance rfl rfl (fun _ => rfl) rfl) ?_)
      | (refine sta 4 ?_; refine stk (fun h => zG (.cons 0 rfl (.cons 0 rfl (.cons 0 rfl (.cons 0 rfl (.cons 0 rfl .nil))))) (qC 0 rfl qu) h) ?_)
      | (refine sta 5 ?_; refine stk (fun h => qbR rfl rfl rfl rfl rfl h) ?_)
      | (refine sta 6 ?_; refine stk (fun h => qsE rfl rfl rfl rfl h) ?_)
      | (refine sta 7 ?_; refine stk (fun h => qg qjf h) ?_)
      | (refine sta 8 ?_; refine stk (fun h => qg qhV h) ?_)
      | (refine sta 9 ?_; refine stk (fun h => qb1 (j := 0) (qo .u64) (by decide) rfl UnF.u inferInstance rfl rfl rfl rfl h) ?_)
      | (refine sta 10 ?_; refine stk (fun h => qfa Int (eI .u64) 50 1 h) ?_)
      | (refine sta 11 ?_; refine stk (fun h => qgs 2 rfl h) ?_)
      | (refine sta 12 ?_; refine stk (fun h => qg qmV h) ?_)
      | (refine sta 13 ?_; refine stk (fun h => zy qgh h) ?_)
      | (refine sta 14 ?_; refine stk (fun h => qgs 0 rfl h) ?_)
      | (refine sta 15 ?_; refine stk (fun h => qfa Int (eI .u8) 5 1 h) ?_))
    | (refine stc 33 ?_; first
      | (refine sta 0 ?_; refine stk (fun h => qg qlH h) ?_)
      | (refine sta 1 ?_; refine stk (fun h => zy qja h) ?_)
      | (refine sta 2 ?_; refine stk (fun h => qg qkB h) ?_)
      | (refine sta 3 ?_; refine stk (fun h => qg qgw h) ?_)
      | (refine sta 4 ?_; refine stk (fun h => qre (qo .i64) rfl UnF.u inferInstance rfl rfl rfl rfl rfl rfl rfl h) ?_)
      | (refine sta 5 ?_; refine stk (fun h => qsz rfl rfl rfl h) ?_)
      | (refine sta 6 ?_; refine stk (fun h => qg qhF h) ?_)
      | (refine sta 7 ?_; exact stz (qq4))
      | (refine sta 8 ?_; refine stk (fun h => qsn rfl UnF.u rfl rfl h) ?_)
      | (refine sta 9 ?_; refine stk (fun h => qra (i := 0) (qo .i64) rfl UnF.u inferInstance rfl rfl rfl rfl h) ?_)
      | (refine sta 10 ?_; refine stk (fun h => qg qje h) ?_)
      | (refine sta 11 ?_; refine stk (fun h => qgr 0 rfl h) ?_)
      | (refine sta 12 ?_; refine stk (fun h => qg qex h) ?_)
      | (refine sta 13 ?_; refine stk (fun h => zy qfj h) ?_)
      | (refine sta 14 ?_; refine stk (fun h => qgr 1 rfl h) ?_)
      | (refine sta 15 ?_; refine stk (fun h => zF 5 _ rfl rfl rfl (qd4 rfl) rfl h) ?_))
    | (refine stc 34 ?_; first
      | (refine sta 0 ?_; refine stk (fun h => zF 6 _ rfl rfl rfl (qd4 rfl) rfl h) ?_)
      | (refine sta 1 ?_; refine stk (fun h => zF 7 _ rfl rfl rfl (qd4 rfl) rfl h) ?_)
      | (refine sta 2 ?_; refine stk (fun h => zF 8 _ rfl rfl rfl (qcr rfl inferInstance) rfl h) ?_)
      | (refine sta 3 ?_; refine stk (fun h => zF 11 _ rfl rfl rfl (qd4 rfl) rfl h) ?_)
      | (refine sta 4 ?_; refine stk (fun h => zF 12 _ rfl rfl rfl (qd4 rfl) rfl h) ?_)
      | (refine sta 5 ?_; refine stk (fun h => zF 18 _ rfl rfl rfl (qd4 rfl) rfl h) ?_)
      | (refine sta 6 ?_; refine stk (fun h => zG (.cons 0 rfl (.cons 0 rfl (.cons 0 rfl (.cons 0 rfl (.cons 0 rfl .nil))))) (qC 0 rfl (qC 1 rfl qu)) h) ?_)
      | (refine sta 7 ?_; refine stk (fun h => qq3 (List Int) (Option Addr × Nat) eN37 rN37 37 1 h) ?_)
      | (refine sta 8 ?_; refine stk (fun h => qg qlL h) ?_)
      | (refine sta 9 ?_; refine stk (fun h => qiF kY rfl UnF.u inferInstance rfl rfl rfl rfl (.cons 1 rfl (.cons 0 rfl .nil)) rfl rfl h) ?_)
      | (refine sta 10 ?_; refine stk (fun h => qeL (j := 2) (qo .u8) (by decide) rfl h) ?_)
      | (refine sta 11 ?_; refine stk (fun h => qb1 (j := 2) (qo .i64) (by decide) rfl UnF.u inferInstance rfl rfl rfl rfl h) ?_)
      | (refine sta 12 ?_; refine stk (fun h => qg qlw h) ?_)
      | (refine sta 13 ?_; refine stk (fun h => qg qmN h) ?_)
      | (refine sta 14 ?_; refine stk (fun h => zG .nil (qC 0 rfl (qC 1 rfl (qC 2 rfl qu))) h) ?_)
      | (refine sta 15 ?_; refine stk (fun h => qdZ (j := 2) rfl UnF.u inferInstance rfl rfl rfl rfl h) ?_))
    | (refine stc 35 ?_; first
      | (refine sta 0 ?_; refine stk (fun h => qgs 1 rfl h) ?_)
      | (refine sta 1 ?_; refine stk (fun h => qg qkk h) ?_)
      | (refine sta 2 ?_; refine stk (fun h => qg qiQ h) ?_)
      | (refine sta 3 ?_; refine stk (fun h => qg qi3 h) ?_)
      | (refine sta 4 ?_; refine stk (fun h => qg (fun h => qlv F _ _ _ _ h) h) ?_)
      | (refine sta 5 ?_; refine stk (fun h => qA 0 (qo .i64) rfl UnF.u inferInstance rfl rfl rfl rfl rfl (.inr ⟨2, rfl⟩) rfl rfl h) ?_)
      | (refine sta 6 ?_; refine stk (fun h => qg qkl h) ?_)
      | (refine sta 7 ?_; refine stk (fun h => qg qiV h) ?_)
      | (refine sta 8 ?_; refine stk (fun h => qqW h) ?_)
      | (refine sta 9 ?_; refine stk (fun h => zG (.cons 0 rfl .nil) qu h) ?_)
      | (refine sta 10 ?_; refine stk (fun h => zG (.cons 0 rfl (.cons 0 rfl (.cons 0 rfl .nil))) qu h) ?_)
      | (refine sta 11 ?_; refine stk (fun h => qg qlG h) ?_)
      | (refine sta 12 ?_; refine stk (fun h => qg qi0 h) ?_)
      | (refine sta 13 ?_; refine stk (fun h => qdZ (j := 3) rfl UnF.u inferInstance rfl rfl rfl rfl h) ?_)
      | (refine sta 14 ?_; refine stk (fun h => zG (.cons 1 rfl (.cons 1 rfl (.cons 1 rfl (.cons 1 rfl (.cons 1 rfl .nil))))) (qC 0 rfl (qC 1 rfl qu)) h) ?_)))) : Stv p B A := ⟨fun h => (t h).go⟩
theorem au (p : List Nat) {A B : Prop} (h : B) (t : Stv p B A := by exact au0 _) : A := t.go h
theorem av (p : List Nat) {A B C : Prop} (h : B) (k : C) (t : Stv p (B ∧ C) A := by exact au0 _) : A := t.go ⟨h, k⟩
theorem az (p : List Nat) {A : Prop} (t : Stv p True A := by exact au0 _) : A := t.go trivial
theorem qky {F : Nat} {x1 : Int} {x2 : Int} {x3 : Int} {r : Int} (hm : qbb F x1 x2 x3 = some r) :
    Pure Tryz.prog 43 [.agg #[.int .i64 x1, .int .i64 x2, .int .i64 x3]] [] Unit (fun _ => .int .i64 r) (fun _ => []) (fun _ => []) := by
 refine qi Tryz.func43 rfl Tryz.ntmps43 rfl hm (fun w => ?_)
 refine au [25,5,3,4,24,3] ?_
 intro g4
 refine au [5,0,2,3,3,4,13,23,22,1] ?_
 refine qB 4 (decide (x1 < 0)) [(1, .pointer (some ⟨g4, 0, none⟩)), (10, .bool ((decide (x1 < 0)) || (decide (7 < x1))))] (fun h12 => ?_) (fun h12 => ?_) ?_
 refine qb (os := _) rfl (qq (k := 6) rfl h12 ?_)
 refine au [7,7,7,24,8] ?_
 refine qe (d := 10) (v := .bool ((decide (x1 < 0)) || (decide (7 < x1)))) rfl (by rw [h12]; simp only [Bool.true_or]) ?_
 exact az [0,24,1]
 refine qb (os := _) rfl (qp (k := 6) rfl h12 ?_)
 refine au [13,23,24,6,24,9] ?_
 refine qe (d := 10) (v := .bool ((decide (x1 < 0)) || (decide (7 < x1)))) rfl (by rw [h12]; simp only [Bool.false_or]) ?_
 exact az [0,24,1]
 refine qb (os := _) rfl ?_
 refine au [1] ?_
 refine qB 4 ((decide (x1 < 0)) || (decide (7 < x1))) [(1, .pointer (some ⟨g4, 0, none⟩)), (15, .bool (((decide (x1 < 0)) || (decide (7 < x1))) || (decide (x2 < 0))))] (fun h13 => ?_) (fun h13 => ?_) ?_
 refine qb (os := _) rfl (qq (k := 11) rfl h13 ?_)
 refine au [7,7,7,24,8] ?_
 refine qe (d := 15) (v := .bool (((decide (x1 < 0)) || (decide (7 < x1))) || (decide (x2 < 0)))) rfl (by rw [h13]; simp only [Bool.true_or]) ?_
 exact az [0,24,1]
 refine qb (os := _) rfl (qp (k := 11) rfl h13 ?_)
 refine au [13,23,22,24,9] ?_
 refine qe (d := 15) (v := .bool (((decide (x1 < 0)) || (decide (7 < x1))) || (decide (x2 < 0)))) rfl (by rw [h13]; simp only [Bool.false_or]) ?_
 exact az [0,24,1]
 refine qb (os := _) rfl ?_
 refine au [1] ?_
 refine qB 4 (((decide (x1 < 0)) || (decide (7 < x1))) || (decide (x2 < 0))) [(1, .pointer (some ⟨g4, 0, none⟩)), (20, .bool ((((decide (x1 < 0)) || (decide (7 < x1))) || (decide (x2 < 0))) || ((x2 : Int) == 1)))] (fun h14 => ?_) (fun h14 => ?_) ?_
 refine qb (os := _) rfl (qq (k := 16) rfl h14 ?_)
 refine au [7,7,7,24,8] ?_
 refine qe (d := 20) (v := .bool ((((decide (x1 < 0)) || (decide (7 < x1))) || (decide (x2 < 0))) || ((x2 : Int) == 1))) rfl (by rw [h14]; simp only [Bool.true_or]) ?_
 exact az [0,24,1]
 refine qb (os := _) rfl (qp (k := 16) rfl h14 ?_)
 refine au [13,23,24,15,24,9] ?_
 refine qe (d := 20) (v := .bool ((((decide (x1 < 0)) || (decide (7 < x1))) || (decide (x2 < 0))) || ((x2 : Int) == 1))) rfl (by rw [h14]; simp only [Bool.false_or]) ?_
 exact az [0,24,1]
 refine qb (os := _) rfl ?_
 refine au [1] ?_
 refine qB 4 ((((decide (x1 < 0)) || (decide (7 < x1))) || (decide (x2 < 0))) || ((x2 : Int) == 1)) [(1, .pointer (some ⟨g4, 0, none⟩)), (25, .bool (((((decide (x1 < 0)) || (decide (7 < x1))) || (decide (x2 < 0))) || ((x2 : Int) == 1)) || (decide (300 < x2))))] (fun h15 => ?_) (fun h15 => ?_) ?_
 refine qb (os := _) rfl (qq (k := 21) rfl h15 ?_)
 refine au [7,7,7,24,8] ?_
 refine qe (d := 25) (v := .bool (((((decide (x1 < 0)) || (decide (7 < x1))) || (decide (x2 < 0))) || ((x2 : Int) == 1)) || (decide (300 < x2)))) rfl (by rw [h15]; simp only [Bool.true_or]) ?_
 exact az [0,24,1]
 refine qb (os := _) rfl (qp (k := 21) rfl h15 ?_)
 refine au [13,23,24,6,24,9] ?_
 refine qe (d := 25) (v := .bool (((((decide (x1 < 0)) || (decide (7 < x1))) || (decide (x2 < 0))) || ((x2 : Int) == 1)) || (decide (300 < x2)))) rfl (by rw [h15]; simp only [Bool.false_or]) ?_
 exact az [0,24,1]
 refine qb (os := _) rfl ?_
 refine au [1] ?_
 refine qB 4 (((((decide (x1 < 0)) || (decide (7 < x1))) || (decide (x2 < 0))) || ((x2 : Int) == 1)) || (decide (300 < x2))) [(1, .pointer (some ⟨g4, 0, none⟩)), (30, .bool ((((((decide (x1 < 0)) || (decide (7 < x1))) || (decide (x2 < 0))) || ((x2 : Int) == 1)) || (decide (300 < x2))) || (decide (x3 < 1))))] (fun h16 => ?_) (fun h16 => ?_) ?_
 refine qb (os := _) rfl (qq (k := 26) rfl h16 ?_)
 refine au [7,7,7,24,8] ?_
 refine qe (d := 30) (v := .bool ((((((decide (x1 < 0)) || (decide (7 < x1))) || (decide (x2 < 0))) || ((x2 : Int) == 1)) || (decide (300 < x2))) || (decide (x3 < 1)))) rfl (by rw [h16]; simp only [Bool.true_or]) ?_
 exact az [0,24,1]
 refine qb (os := _) rfl (qp (k := 26) rfl h16 ?_)
 refine au [13,23,22,24,9] ?_
 refine qe (d := 30) (v := .bool ((((((decide (x1 < 0)) || (decide (7 < x1))) || (decide (x2 < 0))) || ((x2 : Int) == 1)) || (decide (300 < x2))) || (decide (x3 < 1)))) rfl (by rw [h16]; simp only [Bool.false_or]) ?_
 exact az [0,24,1]
 refine qb (os := _) rfl ?_
 refine au [1] ?_
 refine qB 4 ((((((decide (x1 < 0)) || (decide (7 < x1))) || (decide (x2 < 0))) || ((x2 : Int) == 1)) || (decide (300 < x2))) || (decide (x3 < 1))) [(35, .bool (((((((decide (x1 < 0)) || (decide (7 < x1))) || (decide (x2 < 0))) || ((x2 : Int) == 1)) || (decide (300 < x2))) || (decide (x3 < 1))) || (decide (16 < x3))))] (fun h17 => ?_) (fun h17 => ?_) ?_
 refine qb (os := _) rfl (qq (k := 31) rfl h17 ?_)
 refine au [7,7,7,24,8] ?_
 refine qe (d := 35) (v := .bool (((((((decide (x1 < 0)) || (decide (7 < x1))) || (decide (x2 < 0))) || ((x2 : Int) == 1)) || (decide (300 < x2))) || (decide (x3 < 1))) || (decide (16 < x3)))) rfl (by rw [h17]; simp only [Bool.true_or]) ?_
 exact az [0,24,1]
 refine qb (os := _) rfl (qp (k := 31) rfl h17 ?_)
 refine au [13,23,24,6,24,9] ?_
 refine qe (d := 35) (v := .bool (((((((decide (x1 < 0)) || (decide (7 < x1))) || (decide (x2 < 0))) || ((x2 : Int) == 1)) || (decide (300 < x2))) || (decide (x3 < 1))) || (decide (16 < x3)))) rfl (by rw [h17]; simp only [Bool.false_or]) ?_
 exact az [0,24,1]
 refine qb (os := _) rfl ?_
 refine av [0,2,9] ?_ ?_
 intro _
 exact az [3,4,5,0,2,12,11,18]
 intro _
 exact az [10,2,3,4,5,0,2,12,18]
set_option maxHeartbeats 4000000 in
theorem qi9 {F : Nat} {x1 : List (List Int)} {a2 : Option Addr} {c3 : Nat} {s3 : List (Option Addr × Nat)} {r : Int} (hm : qc3 F x1 = some r) :
    Pure Tryz.prog 54 [.agg #[.slice a2 x1.length c3]] [SlN eN37 iN37 1 (.slice a2 x1.length c3) x1 s3] Unit (fun _ => .int .i64 r) (fun _ => []) (fun _ => []) := by
 refine qi Tryz.func54 rfl Tryz.ntmps54 rfl hm (fun w => ?_)
 refine au [25,5,3,4,24,3] ?_
 intro g4
 refine av [5,0,2,3,4,13,23,19,5,0,2,3,3,4,1,24,6,0,2,9] ?_ ?_
 intro _
 exact az [3,4,5,0,2,12,11,18]
 intro _
 refine au [10,2,3,4,5,0,2] ?_
 refine qc (fun ((x798, _) : (Int × Unit)) => ([(4, .int .i64 x798)], [], [], [], qcj F x798)) ?_ ?_
 refine au [3,4,13,23,19,1,0,2,14] ?_
 refine qk (fun (((x1064, x1065), _) : ((Int × Int) × Unit)) => ([(3, .int .i64 (x1.length : Int)), (4, .int .i64 x1064), (16, .slice a2 x1.length c3), (17, .int .i64 (x1.length : Int)), (18, .int .i64 x1065)], [], [], [SlN eN37 iN37 1 (.slice a2 x1.length c3) x1 s3])) (fun k (s : ((Int × Int) × Unit)) => qZ F x1 k s.1) ((0, 0), ()) F ?_
 intro k1329
 rintro ⟨⟨x1064, x1065⟩, _⟩
 try dsimp only
 refine ql (m' := qan F x1 (qZ F x1 k1329) x1064 x1065) rfl ?_
 refine av [3,4,22,0,2,3,9] ?_ ?_
 intro _
 refine au [10,2] ?_
 refine qc (fun ((x1461, _) : (Int × Unit)) => ([(3, .int .i64 (x1.length : Int)), (4, .int .i64 x1461), (16, .slice a2 x1.length c3), (17, .int .i64 (x1.length : Int)), (18, .int .i64 x1065)], [], [], [SlN eN37 iN37 1 (.slice a2 x1.length c3) x1 s3], qck F (qZ F x1 k1329) x1065 x1461)) ?_ ?_
 refine au [14,3,4,27,10] ?_
 intro x1462 e1462 g1465 b1463 o1464
 refine au [25,1,5,0,2,3,4,5,0,2] ?_
 refine qc (fun ((_, _) : (Unit × Unit)) => ([(3, .int .i64 (x1.length : Int)), (4, .int .i64 x1064), (6, .slice g1465.1 x1462.length g1465.2), (16, .slice a2 x1.length c3), (17, .int .i64 (x1.length : Int)), (18, .int .i64 x1065)], [], [], [Sl (eI .i64) 1 (.slice g1465.1 x1462.length g1465.2) x1462, SlN eN37 iN37 1 (.slice a2 x1.length c3) x1 s3], qap F (qZ F x1 k1329) x1064 x1065 x1462)) ?_ ?_
 refine au [3,4,1,19,1,0,2,14] ?_
 refine qk (fun (((x1549, x1550), _) : ((Int × Int) × Unit)) => ([(3, .int .i64 (x1.length : Int)), (4, .int .i64 x1064), (6, .slice g1465.1 x1462.length g1465.2), (7, .int .i64 x1549), (16, .slice a2 x1.length c3), (17, .int .i64 (x1.length : Int)), (18, .int .i64 x1065), (22, .slice g1465.1 x1462.length g1465.2), (23, .int .i64 (x1462.length : Int)), (24, .int .i64 x1550)], [], [], [Sl (eI .i64) 1 (.slice g1465.1 x1462.length g1465.2) x1462, SlN eN37 iN37 1 (.slice a2 x1.length c3) x1 s3])) (fun k (s : ((Int × Int) × Unit)) => yd F (qZ F x1 k1329) x1 x1064 x1065 x1462 k s.1) ((-1, 0), ()) F ?_
 intro k1571
 rintro ⟨⟨x1549, x1550⟩, _⟩
 try dsimp only
 refine ql (m' := qao F (qZ F x1 k1329) x1 x1064 x1065 x1462 (yd F (qZ F x1 k1329) x1 x1064 x1065 x1462 k1571) x1549 x1550) rfl ?_
 refine av [3,4,22,0,2,3,9] ?_ ?_
 intro _
 refine au [10,2,3,14,3,4,25,15] ?_
 intro x1582 e1582 b1583 o1584
 refine au [25,1,5,0,2,3,14,3,4,1,22,1] ?_
 refine qB 4 (decide (x1582 < 0)) [(3, .int .i64 (x1.length : Int)), (4, .int .i64 x1064), (6, .slice g1465.1 x1462.length g1465.2), (7, .int .i64 x1549), (16, .slice a2 x1.length c3), (17, .int .i64 (x1.length : Int)), (18, .int .i64 x1065), (22, .slice g1465.1 x1462.length g1465.2), (23, .int .i64 (x1462.length : Int)), (24, .int .i64 x1550), (9, .int .i64 x1582), (35, .bool ((decide (x1582 < 0)) || (decide ((x1.length : Int) ≤ x1582))))] (fun h1588 => ?_) (fun h1588 => ?_) ?_
 refine qb (os := _) rfl (qq (k := 31) rfl h1588 ?_)
 refine au [7,7,7,24,8] ?_
 refine qe (d := 35) (v := .bool ((decide (x1582 < 0)) || (decide ((x1.length : Int) ≤ x1582)))) rfl (by rw [h1588]; simp only [Bool.true_or]) ?_
 exact az [0,24,1]
 refine qb (os := _) rfl (qp (k := 31) rfl h1588 ?_)
 refine au [1,1,26,2,24,9] ?_
 refine qe (d := 35) (v := .bool ((decide (x1582 < 0)) || (decide ((x1.length : Int) ≤ x1582)))) rfl (by rw [h1588]; simp only [Bool.false_or]) ?_
 exact az [0,24,1]
 refine qb (os := _) rfl ?_
 refine av [5,0,2,9] ?_ ?_
 intro _
 exact az [3,4,5,0,2,12,20,11,20,11,11,20,11,20,11,11,20,11,18]
 intro _
 refine av [3,4,1,1,26,9,5,0,2,9] ?_ ?_
 intro _
 exact az [3,4,5,0,2,12,20,11,20,11,11,20,11,20,11,11,20,11,18]
 intro _
 refine au [10,21,2,4,1,5,0,21,2,4,15,1,0] ?_
 exact qh ((x1582, iadd .i64 x1550 1), ())
 intro _
 exact az [24,4,16,16,24,5,26,1]
 rintro ⟨_, _⟩
 try dsimp only
 refine au [4,1,1,19,15,5,0,21] ?_
 exact qa (iadd .i64 x1064 (x1462.length : Int), ())
 rintro ⟨x1461, _⟩
 try dsimp only
 refine au [4,15,1,0] ?_
 exact qh ((x1461, iadd .i64 x1065 1), ())
 intro _
 refine au [24,4,16,16,24,5] ?_
 exact qa (x1064, ())
 rintro ⟨x798, _⟩
 try dsimp only
 refine av [3,3,4,1,24,6,0,2,9] ?_ ?_
 intro _
 exact az [3,4,5,0,2,12,11,18]
 intro _
 exact az [10,2,3,4,5,0,2,12,18]
theorem qi6 {F : Nat} {x1 : Int} {x2 : List Int} {a3 : Option Addr} {c4 : Nat} {x5 : Int} {x6 : Int} {r : Unit} (hm : qer F x1 x2 x5 x6 = some r) :
    PureM Tryz.prog 50 [.agg #[.int .i64 x1, .slice a3 x2.length c4], .int .i64 x5, .int .i64 x6] [] [] [Sl (eI .u8) 1 (.slice a3 x2.length c4) x2] (Nat × Nat × Nat) (fun g => .func (.func 78) #[] #[.pointer (some ⟨g.1, 0, none⟩), .pointer (some ⟨g.2.1, 0, none⟩), .pointer (some ⟨g.2.2, 0, none⟩)]) (fun g => [⟨g.1, 3, [.int .i64 x5]⟩, ⟨g.2.1, 3, [.int .i64 x6]⟩, ⟨g.2.2, 29, [.int .i64 x1, .slice a3 x2.length c4]⟩]) (fun _ => []) := by
 refine kF Tryz.func50 rfl Tryz.ntmps50 rfl hm (fun w => ?_)
 refine au [25,13,3,4,24,3] ?_
 intro g7
 refine au [24,3] ?_
 intro g8
 refine au [24,3] ?_
 intro g9
 refine au [5,0,2,3,4,29,10,5,0,2,12] ?_
 exact zU (g8, g9, g7)
theorem qgv {F : Nat} {g1 : Nat} {x2 : Int} {x3 : List Int} {a4 : Option Addr} {c5 : Nat} {x6 : Int} {r : (Int × List Int)} (hm : vx F x2 x3 x6 = some r) :
    PureM Tryz.prog 51 [.pointer (some ⟨g1, 0, none⟩), .int .u64 x6] [⟨g1, 94, [.int .i64 x2, .slice a4 x3.length c5]⟩] [Ro (eI .u8) 5 1 (.slice a4 x3.length c5) x3] [] (Option Addr × Nat) (fun _ => .tuple #[]) (fun g => [⟨g1, 94, [.int .i64 r.1, .slice g.1 r.2.length g.2]⟩]) (fun g => [Ro (eI .u8) 5 1 (.slice g.1 r.2.length g.2) r.2]) := by
 refine kF Tryz.func51 rfl Tryz.ntmps51 rfl hm (fun w => ?_)
 refine au [24,13] ?_
 refine qc (fun ((x15, (a13, c14)) : (List Int × (Option Addr × Nat))) => ([(0, .pointer (some ⟨g1, 0, none⟩)), (1, .int .u64 x6)], [⟨g1, 94, [.int .i64 x2, .slice a13 x15.length c14]⟩], [Ro (eI .u8) 5 1 (.slice a13 x15.length c14) x15], [], kZ F x2 x6 x15)) ?_ ?_
 refine av [3,4,1,25,6,13,13,23,27,0,24,15,0,2,9] ?_ ?_
 intro _
 refine au [4,1,1,25,6,13,13,23] ?_
 refine qy (vs := [.int .u8 0]) (ys := ([0] : List Int)) (qo .u8) (by decide) rfl Tryz.underlying27 tf5 rfl rfl rfl rfl rfl (by decide) (fun a44 c45 => qA 1 (qo .u8) rfl Tryz.underlying27 tf5 rfl rfl rfl rfl rfl (.inl ⟨0, _, rfl⟩) rfl rfl (fun x46 e46 a47 c48 => ?_))
 refine au [25,6,13,13,24,11,0] ?_
 exact qa (x46, (a47, c48))
 intro _
 refine au [10] ?_
 exact qa (x3, (a4, c5))
 rintro ⟨x15, ⟨a13, c14⟩⟩
 try dsimp only
 refine au [3,29,11] ?_
 intro x30 e30 g31 h32
 replace h32 : a13 = some ⟨g31, 0, none⟩ := h32
 have h33 := qfu (k := x15.length) (c := c14) h32
 refine au [27,11] ?_
 intro h34
 refine au [29,11] ?_
 intro x36 e36 g37 h38
 replace h38 : a13 = some ⟨g37, 0, none⟩ := h38
 have h39 := qfu (k := x15.length) (c := c14) h38
 refine qw mixed [25] [⟨g1, 94, [.int .i64 x2, .slice a13 x15.length c14]⟩] [qt g31 ((iquo .i64 x2 8).toNat * 1) ((eI .u8) x30), qt g37 ((iquo .i64 x2 8).toNat * 1) ((eI .u8) x36)] (.cons 0 rfl .nil) (qgm 0 rfl (qbX (qo .u8) e30 h32) (qgm 0 rfl (qbX (qo .u8) e36 h38) qu)) 26 rfl ?_
 refine au [6,0,6,1,24,2,2,24,2,3,25,9,4,6,5,6,6,24,2,7,24,2,8,25,9,9] ?_
 refine qm 10 (.int .i64 (iquo .i64 x2 8)) rfl rfl rfl (qto rfl rfl rfl) (qf (d := 26) (v := .slice (some ⟨g31, 0, none⟩) x15.length c14) rfl (by rw [h32] <;> rfl) (qm 11 (.pointer (some ⟨g31, (iquo .i64 x2 8).toNat * 1, none⟩)) rfl rfl rfl (qfd Tryz.underlying27 tf5 rfl rfl (qJ e30).1 (kj e30)) (qf (d := 26) (v := .slice a13 x15.length c14) rfl (by rw [h32] <;> rfl) (qK 12 (.int .u8 x30) [[25]] rfl rfl rfl (zx (j := 0) rfl tf5 rfl rfl (fun _ => rfl) rfl) ?_))))
 refine au [6,13] ?_
 refine qm 14 (.int .u64 (ishl .u64 x6 7)) rfl rfl rfl (qgu rfl rfl rfl) ?_
 refine au [29,3,15,6,16,6,17,24,2,18,24,2,19,25,9,20] ?_
 refine qm 21 (.int .i64 (irem x2 8)) rfl rfl rfl (qls rfl rfl rfl) (qm 22 (.int .u8 (ishr .u8 (iconv .u8 (ishl .u64 x6 7)) (irem x2 8))) rfl rfl rfl (qtp rfl rfl h34) ?_)
 refine au [6,23] ?_
 refine qf (d := 26) (v := .slice (some ⟨g37, 0, none⟩) x15.length c14) rfl (by rw [h38] <;> rfl) (qm 24 (.pointer (some ⟨g37, (iquo .i64 x2 8).toNat * 1, none⟩)) rfl rfl rfl (qfd Tryz.underlying27 tf5 rfl rfl (qJ e36).1 (kj e36)) (qf (d := 26) (v := .slice a13 x15.length c14) rfl (by rw [h38] <;> rfl) ?_))
 refine au [24,0,25] ?_
 refine qfb (j := 0) (y' := ior .u8 x30 (ishr .u8 (iconv .u8 (ishl .u64 x6 7)) (irem x2 8))) (qo .u8) rfl rfl rfl tf5 rfl (qfu h38) (qJ e36).2.1 rfl (fun x41 e41 h42 => ?_)
 have h43 : x41.length = x15.length := by rw [← e41, List.length_set]
 refine qe (d := 26) (v := .slice a13 x41.length c14) rfl h42 (qlg (i := 0) (cs' := [.int .i64 x2, .slice a13 x41.length c14]) rfl (by rw [h42] <;> rfl) ?_)
 refine au [0] ?_
 refine qd1 25 rfl (by kernel_rfl) (.cons 0 (by rw [h43]; rfl) .nil) ?_
 refine au [24,7] ?_
 refine qz ?_ (by intro c h; cases h)
 refine au [2,4,1,25,6,13,13,23,15,25,6,13,13,24,11,0] ?_
 exact zU (a13, c14)
theorem qej {F : Nat} {x1 : List Int} {a2 : Option Addr} {c3 : Nat} {r : List Int} (hm : kW F x1 = some r) :
    Pure Tryz.prog 102 [.slice a2 x1.length c3] [Sl (eI .u8) 1 (.slice a2 x1.length c3) x1] (Option Addr × Nat) (fun g => .slice g.1 r.length g.2) (fun g => [Ro (eI .u8) 5 1 (.slice g.1 r.length g.2) r]) (fun _ => []) := by
 refine qi Tryz.func102 rfl Tryz.ntmps102 rfl hm (fun w => ?_)
 refine av [25,5,3,4,5,0,2,3,3,4,1,31,4,0,2,31,5] ?_ ?_
 intro h11
 refine qmB 0 (qo .u8) (by decide) rfl h11 (fun h12 => ?_)
 subst h12
 refine ql (m' := some ([] : List Int)) rfl ?_
 refine au [3,4,5,0,2,12,11,26,12] ?_
 exact qj (none, 0)
 intro _
 refine au [10,2,3,4] ?_
 refine qy (vs := []) (ys := ([] : List Int)) (qo .u8) (by decide) rfl UnF.u inferInstance rfl rfl rfl rfl rfl (by decide) ?_
 intro a6 c7
 refine au [1] ?_
 refine qA 0 (qo .u8) rfl UnF.u inferInstance rfl rfl rfl rfl rfl (.inr ⟨0, rfl⟩) rfl rfl ?_
 intro x8 e8 a9 c10
 refine au [5,0,2,12] ?_
 exact qj (a9, c10)
theorem qmT {F : Nat} {x1 : Int} {x2 : List Int} {a3 : Option Addr} {c4 : Nat} {r : (Int × List Int)} (hm : qdL F x1 x2 = some r) :
    PureM Tryz.prog 80 [.agg #[.int .i64 x1, .slice a3 x2.length c4]] [] [] [Sl (eI .u8) 1 (.slice a3 x2.length c4) x2] ((Option Addr × Nat) × Nat) (fun g => .pointer (some ⟨g.2, 0, none⟩)) (fun g => [⟨g.2, 94, [.int .i64 r.1, .slice g.1.1 r.2.length g.1.2]⟩]) (fun g => [Ro (eI .u8) 5 1 (.slice g.1.1 r.2.length g.1.2) r.2]) := by
 refine kF Tryz.func80 rfl Tryz.ntmps80 rfl hm (fun w => ?_)
 refine au [25,5,3,4,24,3] ?_
 intro g5
 refine au [5,0,2,3] ?_
 refine qw mixed [] [⟨g5, 29, [.int .i64 x1, .slice a3 x2.length c4]⟩] [Sl (eI .u8) 1 (.slice a3 x2.length c4) x2] (.cons 0 rfl .nil) (qC 0 rfl qu) 9 rfl ?_
 refine au [24,2,0,25,9,1,24,2,2,25,9,3,24,0,4] ?_
 refine qg qej ?_
 rintro x10 e10 ⟨a11, c12⟩
 refine au [0,28,2] ?_
 refine qm 5 (.agg #[.int .i64 x1, .slice a11 x10.length c12]) rfl rfl rfl (qfH (cells := [.int .i64 x1, .slice a11 x10.length c12]) st29 rfl (by kernel_rfl)) (qm 6 (.agg #[.int .i64 x1, .slice a11 x10.length c12]) rfl rfl rfl (qfH (cells := [.int .i64 x1, .slice a11 x10.length c12]) st94 rfl (by kernel_rfl)) ?_)
 refine au [24,0,7,24,3] ?_
 intro g13
 refine au [0] ?_
 refine zG (.cons 1 rfl .nil) (qC 0 rfl qu) ?_
 refine au [6,8,24,7] ?_
 refine qz ?_ (by intro c h; cases h)
 refine au [2,12] ?_
 exact zU ((a11, c12), g13)
theorem qoP {F : Nat} {x1 : Int} {x2 : List Int} {a3 : Option Addr} {c4 : Nat} {x5 : Int} {r : Int} (hm : qba F x1 x2 x5 = some r) :
    Pure Tryz.prog 79 [.agg #[.int .i64 x1, .slice a3 x2.length c4], .int .i64 x5] [Sl (eI .u8) 1 (.slice a3 x2.length c4) x2] Unit (fun _ => .int .u64 r) (fun _ => []) (fun _ => []) := by
 refine qi Tryz.func79 rfl Tryz.ntmps79 rfl hm (fun w => ?_)
 refine au [24,13,3,4,24,3] ?_
 intro g6
 refine au [5,0,2,3,4,13,23,1,26,13,31,6] ?_
 intro x7 e7 b8 o9
 refine au [25,1,1,27,0,24,10,26,3] ?_
 intro h10
 refine qlk rfl rfl rfl rfl h10 ?_
 refine au [24,12,29,4,5,26,0] ?_
 intro x11 e11
 refine qe (d := 4) (v := .int .u64 x11) rfl (by rw [e11] <;> rfl) ?_
 exact az [0,2,12,18]
theorem qhD (F : Nat) {σ τ : Type} {J : Rounds σ τ} {yy : σ → Int → Option (σ ⊕ τ)} {L : Nat} (hY : YieldC Tryz.prog L (fun (p : Int) => [.int .u64 p]) J yy) (s0 : σ) (gs0 : J.γ) (g1 : Nat) (x2 : Int) (g3 : Nat) (x4 : Int) (g5 : Nat) (x6 : Int) (x7 : List Int) (a8 : Option Addr) (c9 : Nat) (r : σ ⊕ τ) (hm : qdm F yy x2 x4 x6 x7 s0 = some r) :
    PureM Tryz.prog 78 ([.func (.yield L) #[] #[], .pointer (some ⟨g1, 0, none⟩), .pointer (some ⟨g3, 0, none⟩), .pointer (some ⟨g5, 0, none⟩)]) ([⟨g1, 3, [.int .i64 x2]⟩, ⟨g3, 3, [.int .i64 x4]⟩, ⟨g5, 29, [.int .i64 x6, .slice a8 x7.length c9]⟩] ++ J.IB s0 gs0) (J.IR s0 gs0) [J.F, Sl (eI .u8) 1 (.slice a8 x7.length c9) x7] (J.G r) (fun _ => .tuple #[]) (fun g => [⟨g1, 3, [.int .i64 x2]⟩, ⟨g3, 3, [.int .i64 x4]⟩, ⟨g5, 29, [.int .i64 x6, .slice a8 x7.length c9]⟩] ++ J.bs r g) (fun g => J.rs r g) := by
 refine kF Tryz.func78 rfl Tryz.ntmps78 rfl hm (fun w => ?_)
 refine au [27,4,3,4,23,5,0,2,14] ?_
 refine qdF (fun (((x22, x23), g24) : ((Int × σ) × J.γ)) => [(0, .func (.yield L) #[] #[]), (2, .pointer (some ⟨g3, 0, none⟩)), (3, .pointer (some ⟨g5, 0, none⟩)), (5, .int .i64 x22)]) (fun (((x22, x23), g24) : ((Int × σ) × J.γ)) => [⟨g1, 3, [.int .i64 x2]⟩, ⟨g3, 3, [.int .i64 x4]⟩, ⟨g5, 29, [.int .i64 x6, .slice a8 x7.length c9]⟩] ++ J.IB x23 g24) (fun (((x22, x23), g24) : ((Int × σ) × J.γ)) => [] ++ J.IR x23 g24) (fun (((x22, x23), g24) : ((Int × σ) × J.γ)) => [Sl (eI .u8) 1 (.slice a8 x7.length c9) x7, J.F]) (fun k (s : ((Int × σ) × J.γ)) => zN F yy x4 x6 x7 k s.1) ((x2, s0), gs0) F ?_ (hB := (.cons 0 rfl (.cons 0 rfl (.cons 0 rfl (qY 0 rfl))))) (hR := (qY 0 rfl)) (hF := (qT 1 rfl (qT 0 rfl qbY)))
 intro k37
 rintro ⟨⟨x22, x23⟩, g24⟩
 try dsimp only
 refine ql (m' := jF F yy x4 x6 x7 (zN F yy x4 x6 x7 k37) x22 x23) rfl ?_
 refine av [3,3,4,1,25,12,22,0,2,9] ?_ ?_
 intro _
 refine au [10,2,3,14,3,4,1,26,5,1,28,8] ?_
 intro x44 e44 _
 refine qj4 hY x23 x44 g24 (B1 := [⟨g1, 3, [.int .i64 x2]⟩, ⟨g3, 3, [.int .i64 x4]⟩, ⟨g5, 29, [.int .i64 x6, .slice a8 x7.length c9]⟩]) (R1 := []) (j := 1) rfl rfl rfl rfl rfl rfl rfl (fun x45 _ g47 => ?_) (fun x46 _ g47 => ?_)
 refine au [25,4,0,2] ?_
 refine qdh (b := false) rfl (fun h => by cases h) (fun _ => ?_)
 refine au [10,21,2,4,1,15,5,0] ?_
 exact qfc ((iadd .i64 x22 1, x45), g47) (hB := (.cons 0 rfl (.cons 0 rfl (.cons 0 rfl (qY 0 rfl))))) (hR := (qY 0 rfl)) (hF := (qT 0 rfl (qT 1 rfl qbY)))
 refine au [25,4,0,2] ?_
 refine qdh (b := true) rfl (fun _ => ?_) (fun h => by cases h)
 refine au [12,20,11,11,20] ?_
 exact qfT (B0 := [⟨g1, 3, [.int .i64 x2]⟩, ⟨g3, 3, [.int .i64 x4]⟩, ⟨g5, 29, [.int .i64 x6, .slice a8 x7.length c9]⟩]) (x := .inr x46) g47 (.inl rfl) (res0 rfl) (.cons 0 rfl (.cons 0 rfl (.cons 0 rfl (qY 0 rfl)))) (qY 0 rfl)
 intro _
 refine au [24,4,16,16,24,5] ?_
 exact qfT (B0 := [⟨g1, 3, [.int .i64 x2]⟩, ⟨g3, 3, [.int .i64 x4]⟩, ⟨g5, 29, [.int .i64 x6, .slice a8 x7.length c9]⟩]) (x := .inl x23) g24 (.inr rfl) (res0 rfl) (.cons 0 rfl (.cons 0 rfl (.cons 0 rfl (qY 0 rfl)))) (qY 0 rfl)
theorem qlA {F : Nat} {x1 : Int} {x2 : List Int} {a3 : Option Addr} {c4 : Nat} {x5 : Int} {x6 : List Int} {a7 : Option Addr} {c8 : Nat} {r : (Int × List Int)} (hm : jt F x1 x2 x5 x6 = some r) :
    PureM Tryz.prog 53 [.agg #[.int .i64 x1, .slice a3 x2.length c4], .agg #[.int .i64 x5, .slice a7 x6.length c8]] [] [] [Sl (eI .u8) 1 (.slice a3 x2.length c4) x2, Sl (eI .u8) 1 (.slice a7 x6.length c8) x6] (Option Addr × Nat) (fun g => .agg #[.int .i64 r.1, .slice g.1 r.2.length g.2]) (fun _ => []) (fun g => [Ro (eI .u8) 5 1 (.slice g.1 r.2.length g.2) r.2]) := by
 refine qmk Tryz.func53 rfl Tryz.ntmps53 rfl hm (fun w => ?_)
 refine au [24,13,3,4,24,3] ?_
 intro g9
 refine au [24,3] ?_
 intro g10
 refine au [25,0] ?_
 intro g11
 refine au [0,2,3,4,26,5,31,7] ?_
 rintro x12 e12 ⟨⟨a13, c14⟩, g15⟩
 refine au [25,0] ?_
 intro g16
 refine au [24,11,0,2,3,3,4,28,9,13,28,10] ?_
 refine zy qi6 ?_
 rintro x37 e37 ⟨g38, g39, g40⟩
 refine au [0,2,14] ?_
 refine qjZ (encs := (fun (p : Int) => [.int .u64 p])) (y := (fun ((x45, x48) : (Int × List Int)) (x53 : Int) => qaG F x45 x48 x53)) (lb := [.pointer (some ⟨g38, 0, none⟩), .pointer (some ⟨g39, 0, none⟩), .pointer (some ⟨g40, 0, none⟩)]) (fun ((x45, x48) : (Int × List Int)) ((a46, c47) : (Option Addr × Nat)) => [⟨g16, 92, [.pointer (some ⟨g15, 0, none⟩)]⟩, ⟨g15, 94, [.int .i64 x45, .slice a46 x48.length c47]⟩, ⟨g11, 29, [.int .i64 0, .slice none 0 0]⟩, ⟨g10, 29, [.int .i64 x5, .slice a7 x6.length c8]⟩, ⟨g9, 29, [.int .i64 x1, .slice a3 x2.length c4]⟩]) (fun ((x45, x48) : (Int × List Int)) ((a46, c47) : (Option Addr × Nat)) => [Ro (eI .u8) 5 1 (.slice a46 x48.length c47) x48]) (fun (_ : Empty) (_ : Unit) => []) (fun (_ : Empty) (_ : Unit) => []) (fun _ => .skip) (x12.1, x12.2) (a13, c14) rfl ent78 (fun _ => rfl) rfl (.cons 0 rfl (.cons 0 rfl (.cons 0 rfl .nil))) (.cons 0 rfl (.cons 0 rfl (.cons 0 rfl (.cons 0 rfl (.cons 0 rfl .nil))))) (.cons 0 rfl .nil) (.consF 1 rfl .nil) (fun z hz _ _ _ hY => qhD F hY (x12.1, x12.2) (a13, c14) g38 0 g39 x5 g40 x5 x6 a7 c8 z hz) ?_ ?_ ?_
 rintro rc1 L1 D1 ⟨x45, x48⟩ ⟨a46, c47⟩ x53 z w M _
 try dsimp only
 refine qmA [(0, .agg #[.int .i64 x1, .slice a3 x2.length c4]), (1, .agg #[.int .i64 x5, .slice a7 x6.length c8]), (2, .pointer (some ⟨g9, 0, none⟩)), (3, .pointer (some ⟨g10, 0, none⟩)), (4, .pointer (some ⟨g11, 0, none⟩)), (5, .pointer (some ⟨g16, 0, none⟩)), (7, .agg #[.int .i64 x1, .slice a3 x2.length c4]), (8, .pointer (some ⟨g15, 0, none⟩)), (9, .agg #[.int .i64 x5, .slice a7 x6.length c8]), (10, .pointer (some ⟨g10, 0, none⟩)), (11, .int .i64 x5), (12, .func (.func 78) #[] #[.pointer (some ⟨g38, 0, none⟩), .pointer (some ⟨g39, 0, none⟩), .pointer (some ⟨g40, 0, none⟩)]), (13, .int .u64 x53)] (ke rfl (ke rfl (ke rfl (ke rfl (ke rfl (ke rfl (ke rfl (ke rfl (ke rfl (ke rfl (ke rfl (ke rfl (ke rfl qhd))))))))))))) ?_
 refine au [4,5,0] ?_
 refine qj5 (i := 5) rfl ?_
 refine au [14,4,23,1,31,8] ?_
 rintro x54 e54 ⟨a55, c56⟩
 refine au [0,21] ?_
 exact qhl (rc := rc1) rfl (.cons 5 rfl .nil) rfl (a55, c56) (.cons 2 rfl (.cons 1 rfl (.cons 1 rfl (.cons 1 rfl (.cons 1 rfl (.cons 0 rfl (.cons 0 rfl .nil))))))) (.cons 0 rfl .nil)
 rintro ⟨x45, x48⟩ _ ⟨a46, c47⟩ D1
 try dsimp only
 refine au [21,2,3,4] ?_
 refine jq (i := 4) rfl rfl inferInstance rfl rfl (fun _ => rfl) rfl rfl ?_
 refine au [25,6,13] ?_
 refine jq (i := 5) rfl rfl inferInstance rfl rfl (by simp) rfl rfl (qaL (i := 6) rfl rfl rfl inferInstance rfl rfl rfl rfl rfl ?_)
 refine au [0,2,12] ?_
 exact qj6 [D1] (a46, c47) (.inl rfl) rfl (.cons 0 rfl .nil) (resL (rs := [.cell 4 29]) rfl (.cell (i := 5) rfl tf29 rfl rfl (by simp) rfl ResOk.nil) rfl) (fun h => by subst h; rfl) (fun h => by subst h; exact .nil) (fun h => by subst h; exact (.cons 0 rfl .nil))
 intro t; exact t.elim
theorem qlE {F : Nat} {x1 : Int} {r : Bool} (hm : qdb F x1 = some r) :
    Pure Tryz.prog 69 [.int .i64 x1] [] Unit (fun _ => .bool r) (fun _ => []) (fun _ => []) := by
 refine qi Tryz.func69 rfl Tryz.ntmps69 rfl hm (fun w => ?_)
 refine au [25,5,3,4,5,0,2,3,4,1,26,2,1] ?_
 refine qB 3 (decide (0 ≤ x1)) [(8, .bool ((decide (0 ≤ x1)) && (decide (x1 ≤ 1048576))))] (fun h2 => ?_) (fun h2 => ?_) ?_
 refine qb (os := _) rfl (qq (k := 5) rfl h2 ?_)
 refine au [1,26,9,24,8] ?_
 refine qe (d := 8) (v := .bool ((decide (0 ≤ x1)) && (decide (x1 ≤ 1048576)))) rfl (by rw [h2]; simp only [Bool.true_and]) ?_
 exact az [0,24,1]
 refine qb (os := _) rfl (qp (k := 5) rfl h2 ?_)
 refine au [7,7,24,9] ?_
 refine qe (d := 8) (v := .bool ((decide (0 ≤ x1)) && (decide (x1 ≤ 1048576)))) rfl (by rw [h2]; simp only [Bool.false_and]) ?_
 exact az [0,24,1]
 refine qb (os := _) rfl ?_
 exact az [5,0,2,12,18]
theorem qks {F : Nat} {x1 : List Int} {a2 : Option Addr} {c3 : Nat} {r : Int} (hm : vA F x1 = some r) :
    Pure Tryz.prog 47 [.slice a2 x1.length c3] [Sl (eI .i64) 1 (.slice a2 x1.length c3) x1] Unit (fun _ => .int .i64 r) (fun _ => []) (fun _ => []) := by
 refine qi Tryz.func47 rfl Tryz.ntmps47 rfl hm (fun w => ?_)
 refine av [25,5,3,4,5,0,2,3,3,4,1,19,24,6,0,2,9] ?_ ?_
 intro _
 exact az [3,4,5,0,2,12,11,18]
 intro _
 refine au [10,2,3,4,5,0,2] ?_
 refine qc (fun ((_, _) : (Unit × Unit)) => ([], [], [], [], qfg F)) ?_ ?_
 refine au [3,4,1,19,1,0,2,14] ?_
 refine qk (fun (((x88, x89), _) : ((Int × Int) × Unit)) => ([(3, .int .i64 x88), (9, .slice a2 x1.length c3), (10, .int .i64 (x1.length : Int)), (11, .int .i64 x89)], [], [], [Sl (eI .i64) 1 (.slice a2 x1.length c3) x1])) (fun k (s : ((Int × Int) × Unit)) => vf F x1 k s.1) ((-1, 0), ()) F ?_
 intro k110
 rintro ⟨⟨x88, x89⟩, _⟩
 try dsimp only
 refine ql (m' := qbJ F x1 (vf F x1 k110) x88 x89) rfl ?_
 refine av [3,4,22,0,2,3,9] ?_ ?_
 intro _
 refine au [10,2,3,14,3,4,25,15] ?_
 intro x121 e121 b122 o123
 refine au [25,1,5,0,2,3,14,3,4,1,31,9] ?_
 intro x127 e127 _
 refine av [25,4,5,0,2,9] ?_ ?_
 intro _
 exact az [3,4,5,0,2,12,20,11,20,11,11,20,11,18]
 intro _
 refine av [3,4,1,1,26,9,5,0,2,9] ?_ ?_
 intro _
 exact az [3,4,5,0,2,12,20,11,20,11,11,20,11,18]
 intro _
 refine au [10,21,2,4,1,5,0,21,2,4,15,1,0] ?_
 exact qh ((x121, iadd .i64 x89 1), ())
 intro _
 exact az [24,4,16,16,24,5,26,1]
 rintro ⟨_, _⟩
 try dsimp only
 exact az [3,4,5,0,2,12,18]
theorem qkA {F : Nat} {x1 : Int} {x2 : List Int} {a3 : Option Addr} {c4 : Nat} {x5 : Int} {x6 : Int} {x7 : Int} {r : Int} (hm : qdz F x1 x2 x5 x6 x7 = some r) :
    Pure Tryz.prog 48 [.int .i64 x1, .slice a3 x2.length c4, .agg #[.int .i64 x5, .int .i64 x6, .int .i64 x7]] [Sl (eI .i64) 1 (.slice a3 x2.length c4) x2] Unit (fun _ => .int .i64 r) (fun _ => []) (fun _ => []) := by
 refine qi Tryz.func48 rfl Tryz.ntmps48 rfl hm (fun w => ?_)
 refine au [25,13,3,4,24,3] ?_
 intro g8
 refine au [5,0,2,3,3,4,1,22,1] ?_
 refine qB 3 (decide (x1 < 0)) [(1, .slice a3 x2.length c4), (5, .pointer (some ⟨g8, 0, none⟩)), (12, .bool ((decide (x1 < 0)) || (decide (1048576 < x1))))] (fun h11 => ?_) (fun h11 => ?_) ?_
 refine qb (os := _) rfl (qq (k := 9) rfl h11 ?_)
 refine au [7,7,24,8] ?_
 refine qe (d := 12) (v := .bool ((decide (x1 < 0)) || (decide (1048576 < x1)))) rfl (by rw [h11]; simp only [Bool.true_or]) ?_
 exact az [0,24,1]
 refine qb (os := _) rfl (qp (k := 9) rfl h11 ?_)
 refine au [1,24,6,24,9] ?_
 refine qe (d := 12) (v := .bool ((decide (x1 < 0)) || (decide (1048576 < x1)))) rfl (by rw [h11]; simp only [Bool.false_or]) ?_
 exact az [0,24,1]
 refine qb (os := _) rfl ?_
 refine av [0,2,9] ?_ ?_
 intro _
 exact az [3,4,5,0,2,12,11,18]
 intro _
 refine av [10,2,3,3,4,13,23,24,6,0,2,9] ?_ ?_
 intro _
 refine au [3,4,1,28,11] ?_
 intro x14 e14 _
 exact az [5,0,2,12,11,18]
 intro _
 exact az [10,2,3,4,5,0,2,12,18]
theorem qgB {F : Nat} {g1 : Nat} {x2 : Int} {x3 : List Int} {a4 : Option Addr} {c5 : Nat} {x6 : Bool} {x7 : Int} {x8 : List Int} {a9 : Option Addr} {c10 : Nat} {r : (Int × List Int × Bool)} (hm : yh F x2 x3 x6 x7 x8 = some r) :
    PureM Tryz.prog 77 [.pointer (some ⟨g1, 0, none⟩), .agg #[.int .i64 x7, .slice a9 x8.length c10]] [⟨g1, 90, [.int .i64 x2, .slice a4 x3.length c5, .bool x6]⟩] [Ro (eI .u8) 5 1 (.slice a4 x3.length c5) x3] [Sl (eI .u8) 1 (.slice a9 x8.length c10) x8] (Option Addr × Nat) (fun _ => .tuple #[]) (fun g => [⟨g1, 90, [.int .i64 r.1, .slice g.1 r.2.1.length g.2, .bool r.2.2]⟩]) (fun g => [Ro (eI .u8) 5 1 (.slice g.1 r.2.1.length g.2) r.2.1]) := by
 refine kF Tryz.func77 rfl Tryz.ntmps77 rfl hm (fun w => ?_)
 refine au [24,13,3,4,24,3] ?_
 intro g11
 refine au [0,2] ?_
 refine qc (fun ((x13, _) : (Bool × Unit)) => ([(0, .pointer (some ⟨g1, 0, none⟩)), (3, .pointer (some ⟨g11, 0, none⟩))], [⟨g11, 29, [.int .i64 x7, .slice a9 x8.length c10]⟩, ⟨g1, 90, [.int .i64 x2, .slice a4 x3.length c5, .bool x13]⟩], [Ro (eI .u8) 5 1 (.slice a4 x3.length c5) x3], [Sl (eI .u8) 1 (.slice a9 x8.length c10) x8], k9 F x2 x3 x7 x8 x13)) ?_ ?_
 refine av [26,10] ?_ ?_
 intro h18
 refine qw mixed [18] [⟨g11, 29, [.int .i64 x7, .slice a9 x8.length c10]⟩] [Sl (eI .u8) 1 (.slice a9 x8.length c10) x8, (BlkD.is ⟨g1, 90, [.int .i64 x2, .slice a4 x3.length c5, .bool x6]⟩)] (.cons 0 rfl .nil) (qC 0 rfl (qjh 1 rfl qu)) 19 rfl ?_
 refine au [6,0,6,1,6,2,24,2,3] ?_
 refine qK 4 (.bool x6) [[18]] rfl rfl rfl (qaM (j := 1) rfl tf4 rfl rfl (fun _ => rfl) rfl) ?_
 refine au [6,5] ?_
 refine qf (d := 9) (v := .bool true) rfl (by rw [h18] <;> rfl) ?_
 refine au [8,6,8,7,8,8,8,9,8,10,8,11,8,12,8,13,8,14,6,15,6,16,24,2,17,24,0,18,25,10,0,31,10,24,7] ?_
 exact qz (qa (true, ())) (by intro c h; cases h)
 intro h18
 refine qw mixed [18] [⟨g11, 29, [.int .i64 x7, .slice a9 x8.length c10]⟩] [Sl (eI .u8) 1 (.slice a9 x8.length c10) x8, (BlkD.is ⟨g1, 90, [.int .i64 x2, .slice a4 x3.length c5, .bool x6]⟩)] (.cons 0 rfl .nil) (qC 0 rfl (qjh 1 rfl qu)) 19 rfl ?_
 refine au [6,0,6,1,6,2,24,2,3] ?_
 refine qK 4 (.bool x6) [[18]] rfl rfl rfl (qaM (j := 1) rfl tf4 rfl rfl (fun _ => rfl) rfl) ?_
 refine au [6,5] ?_
 refine qf (d := 9) (v := .bool false) rfl (by rw [h18] <;> rfl) ?_
 refine au [6,6,6,7,24,2,8,24,2,9] ?_
 refine qK 10 (.int .i64 x2) [[18]] rfl rfl rfl (qaM (j := 1) rfl tf3 rfl rfl (fun _ => rfl) rfl) ?_
 refine au [24,2,11,25,9,12,6,13,6,14,6,15,6,16,24,2,17,24,0,18,25,10,0,31,10,24,7] ?_
 exact qz (qa ((decide (8192 < (iadd .i64 x2 x7))), ())) (by intro c h; cases h)
 rintro ⟨x13, _⟩
 try dsimp only
 refine av [3,4,1,25,6,13,25,12,25,4,0,2,9] ?_ ?_
 intro _
 refine qw mixed [9] [⟨g11, 29, [.int .i64 x7, .slice a9 x8.length c10]⟩] [Sl (eI .u8) 1 (.slice a9 x8.length c10) x8, (BlkD.is ⟨g1, 90, [.int .i64 x2, .slice a4 x3.length c5, .bool x13]⟩)] (.cons 0 rfl .nil) (qC 0 rfl (qjh 1 rfl qu)) 10 rfl ?_
 refine au [6,0,6,1,6,2,24,2,3] ?_
 refine qK 4 (.agg #[.int .i64 x2, .slice a4 x3.length c5]) [[9]] rfl rfl rfl (qaM (j := 1) rfl tf29 rfl rfl (by simp) rfl) (kH 5 (.agg #[.int .i64 x7, .slice a9 x8.length c10]) rfl rfl rfl (zw (i := 0) rfl tf29 rfl rfl (by simp) rfl) ?_)
 refine au [24,0,6,29,5] ?_
 rintro x14 e14 ⟨a15, c16⟩
 refine au [0] ?_
 refine zG (.cons 0 rfl .nil) (qC 0 rfl (qjh 1 rfl qu)) ?_
 refine au [6,7,24,2,8,24,0,9,25,10,0] ?_
 refine qd1 9 rfl (by kernel_rfl) (.cons 0 rfl .nil) ?_
 refine au [24,7] ?_
 exact qz (zU (a15, c16)) (by intro c h; cases h)
 intro _
 refine au [10] ?_
 exact zU (a4, c5)
theorem qfk {F : Nat} {g1 : Nat} {x2 : Int} {x3 : List Int} {a4 : Option Addr} {c5 : Nat} {x6 : Int} {x7 : Int} {r : (Int × List Int)} (hm : vy F x2 x3 x6 x7 = some r) :
    PureM Tryz.prog 94 [.pointer (some ⟨g1, 0, none⟩), .int .u64 x6, .int .i64 x7] [⟨g1, 94, [.int .i64 x2, .slice a4 x3.length c5]⟩] [Ro (eI .u8) 5 1 (.slice a4 x3.length c5) x3] [] (Option Addr × Nat) (fun _ => .tuple #[]) (fun g => [⟨g1, 94, [.int .i64 r.1, .slice g.1 r.2.length g.2]⟩]) (fun g => [Ro (eI .u8) 5 1 (.slice g.1 r.2.length g.2) r.2]) := by
 refine kF Tryz.func94 rfl Tryz.ntmps94 rfl hm (fun w => ?_)
 refine au [25,13,3,4,1,24,10,5,0,2,14] ?_
 refine qk (fun (((x18, x19, x22), (a20, c21)) : ((Int × Int × List Int) × (Option Addr × Nat))) => ([(0, .pointer (some ⟨g1, 0, none⟩)), (1, .int .u64 x6), (6, .int .i64 x18)], [⟨g1, 94, [.int .i64 x19, .slice a20 x22.length c21]⟩], [Ro (eI .u8) 5 1 (.slice a20 x22.length c21) x22], [])) (fun k (s : ((Int × Int × List Int) × (Option Addr × Nat))) => zJ F x6 k s.1) ((isub .i64 x7 1, x2, x3), (a4, c5)) F ?_
 intro k33
 rintro ⟨⟨x18, x19, x22⟩, ⟨a20, c21⟩⟩
 try dsimp only
 refine ql (m' := zI F x6 (zJ F x6 k33) x18 x19 x22) rfl ?_
 refine av [3,3,4,1,26,2,0,2,9] ?_ ?_
 intro _
 refine au [10,2,3,14,4,1,1,1,26,3] ?_
 intro h39
 refine qlk rfl rfl rfl rfl h39 ?_
 refine au [29,4,31,8] ?_
 rintro x40 e40 ⟨a41, c42⟩
 refine au [0,21,2,4,1,24,10,5,0] ?_
 exact qh ((isub .i64 x18 1, x40.1, x40.2), (a41, c42))
 intro _
 refine au [24,4,16,16,24,5] ?_
 exact zU (a20, c21)
theorem qmS {F : Nat} {x1 : Int} {x2 : List Int} {a3 : Option Addr} {c4 : Nat} {x5 : Int} {x6 : Int} {r : (Int × List Int)} (hm : qaF F x1 x2 x5 x6 = some r) :
    Pure Tryz.prog 67 [.agg #[.int .i64 x1, .slice a3 x2.length c4], .int .u64 x5, .int .i64 x6] [Sl (eI .u8) 1 (.slice a3 x2.length c4) x2] (Option Addr × Nat) (fun g => .agg #[.int .i64 r.1, .slice g.1 r.2.length g.2]) (fun g => [Ro (eI .u8) 5 1 (.slice g.1 r.2.length g.2) r.2]) (fun _ => []) := by
 refine qi Tryz.func67 rfl Tryz.ntmps67 rfl hm (fun w => ?_)
 refine au [25,13,3,4,24,3] ?_
 intro g7
 refine au [25,0] ?_
 intro g8
 refine au [0,2,3,4,25,7,31,7] ?_
 rintro x9 e9 ⟨⟨a10, c11⟩, g12⟩
 refine au [5,0,2,3,4,1,1,1] ?_
 refine zy qfk ?_
 rintro x13 e13 ⟨a14, c15⟩
 refine au [0,2,3,4,1,25,6,13,25,2,25,10,0,2,12] ?_
 exact qN (a14, c15) (resL (rs := [.cell 6 29]) rfl (.cell (i := 1) rfl tf29 rfl rfl (by simp) rfl ResOk.nil) rfl) (fun h => by subst h; exact (.cons 0 rfl .nil))
theorem qgA {F : Nat} {x1 : Int} {r : Int} (hm : ye F x1 = some r) :
    Pure Tryz.prog 133 [.int .u64 x1] [] Unit (fun _ => .int .i64 r) (fun _ => []) (fun _ => []) := by
 refine qi Tryz.func133 rfl Tryz.ntmps133 rfl hm (fun w => ?_)
 refine au [25,5,3,4,5,0,2] ?_
 refine qc (fun (((x3, x4), _) : ((Int × Int) × Unit)) => ([(0, .int .u64 x3), (2, .int .i64 x4)], [], [], [], k6 F x3 x4)) ?_ ?_
 refine av [3,4,1,26,2,0,2,9] ?_ ?_
 intro _
 refine au [3,4,1,28,3,5,0,2,4,5,0] ?_
 exact qa ((ishr .u64 x1 32, (32 : Int)), ())
 intro _
 refine au [10] ?_
 exact qa ((x1, (0 : Int)), ())
 rintro ⟨⟨x3, x4⟩, _⟩
 try dsimp only
 refine qc (fun (((x6, x7), _) : ((Int × Int) × Unit)) => ([(0, .int .u64 x6), (2, .int .i64 x7)], [], [], [], k7 F x6 x7)) ?_ ?_
 refine av [3,4,1,26,2,0,2,9] ?_ ?_
 intro _
 refine au [3,4,1,28,3,5,0,2,4,1,15,5,0] ?_
 exact qa ((ishr .u64 x3 16, iadd .i64 x4 16), ())
 intro _
 refine au [10] ?_
 exact qa ((x3, x4), ())
 rintro ⟨⟨x6, x7⟩, _⟩
 try dsimp only
 refine qc (fun (((x9, x10), _) : ((Int × Int) × Unit)) => ([(0, .int .u64 x9), (2, .int .i64 x10)], [], [], [], k8 F x9 x10)) ?_ ?_
 refine av [3,4,1,26,2,0,2,9] ?_ ?_
 intro _
 refine au [3,4,1,28,3,5,0,2,4,1,15,5,0] ?_
 exact qa ((ishr .u64 x6 8, iadd .i64 x7 8), ())
 intro _
 refine au [10] ?_
 exact qa ((x6, x7), ())
 rintro ⟨⟨x9, x10⟩, _⟩
 try dsimp only
 refine au [3,4,1,1,24,12] ?_
 refine qnx (xs := ([0, 1, 2, 2, 3, 3, 3, 3, 4, 4, 4, 4, 4, 4, 4, 4, 5, 5, 5, 5, 5, 5, 5, 5, 5, 5, 5, 5, 5, 5, 5, 5, 6, 6, 6, 6, 6, 6, 6, 6, 6, 6, 6, 6, 6, 6, 6, 6, 6, 6, 6, 6, 6, 6, 6, 6, 6, 6, 6, 6, 6, 6, 6, 6, 7, 7, 7, 7, 7, 7, 7, 7, 7, 7, 7, 7, 7, 7, 7, 7, 7, 7, 7, 7, 7, 7, 7, 7, 7, 7, 7, 7, 7, 7, 7, 7, 7, 7, 7, 7, 7, 7, 7, 7, 7, 7, 7, 7, 7, 7, 7, 7, 7, 7, 7, 7, 7, 7, 7, 7, 7, 7, 7, 7, 7, 7, 7, 7, 8, 8, 8, 8, 8, 8, 8, 8, 8, 8, 8, 8, 8, 8, 8, 8, 8, 8, 8, 8, 8, 8, 8, 8, 8, 8, 8, 8, 8, 8, 8, 8, 8, 8, 8, 8, 8, 8, 8, 8, 8, 8, 8, 8, 8, 8, 8, 8, 8, 8, 8, 8, 8, 8, 8, 8, 8, 8, 8, 8, 8, 8, 8, 8, 8, 8, 8, 8, 8, 8, 8, 8, 8, 8, 8, 8, 8, 8, 8, 8, 8, 8, 8, 8, 8, 8, 8, 8, 8, 8, 8, 8, 8, 8, 8, 8, 8, 8, 8, 8, 8, 8, 8, 8, 8, 8, 8, 8, 8, 8, 8, 8, 8, 8, 8, 8, 8, 8, 8, 8, 8, 8, 8, 8, 8, 8, 8, 8] : List Int)) rfl UnF.u rfl rfl (by kernel_rfl) rfl ?_
 intro x11 e11
 exact az [24,12,15,5,0,2,12,18]
theorem qkr {F : Nat} {x1 : Int} {r : Int} (hm : qdu F x1 = some r) :
    Pure Tryz.prog 112 [.int .u64 x1] [] Unit (fun _ => .int .i64 r) (fun _ => []) (fun _ => []) := by
 refine qi Tryz.func112 rfl Tryz.ntmps112 rfl hm (fun w => ?_)
 refine au [25,5,3,4,5,0,2,3,4,1,15,29,12] ?_
 intro x2 e2 _
 exact az [24,10,5,0,2,12,18]
theorem qlM {F : Nat} {x1 : Int} {r : (Int × List Int)} (hm : qdd F x1 = some r) :
    Pure Tryz.prog 113 [.int .u64 x1] [] (Option Addr × Nat) (fun g => .agg #[.int .i64 r.1, .slice g.1 r.2.length g.2]) (fun g => [Ro (eI .u8) 5 1 (.slice g.1 r.2.length g.2) r.2]) (fun _ => []) := by
 refine qi Tryz.func113 rfl Tryz.ntmps113 rfl hm (fun w => ?_)
 refine au [25,5,3,4,25,0] ?_
 intro g2
 refine au [0,2,3,4,1,24,12,1,15,26,13] ?_
 refine qre (qo .u8) rfl UnF.u inferInstance rfl rfl rfl rfl rfl rfl rfl ?_
 intro x3 e3 a4 c5
 refine qD (cells := [.int .i64 (iconv .i64 x1), .slice a4 x3.length c5]) rfl st29 rfl (by kernel_rfl) rfl ?_
 refine au [29,6] ?_
 rintro x6 e6 ⟨a7, c8⟩
 refine au [24,11,0,2,12] ?_
 exact qN (a7, c8) (resL (rs := [.cell 2 29]) rfl (.cell (i := 0) rfl tf29 rfl rfl (by simp) rfl ResOk.nil) rfl) (fun h => by subst h; exact (.cons 0 rfl .nil))
theorem qlC {F : Nat} {x1 : Int} {x2 : Int} {r : Int} (hm : qd7 F x1 x2 = some r) :
    Pure Tryz.prog 114 [.int .u64 x1, .int .i64 x2] [] Unit (fun _ => .int .u64 r) (fun _ => []) (fun _ => []) := by
 refine qi Tryz.func114 rfl Tryz.ntmps114 rfl hm (fun w => ?_)
 refine au [24,13,3,4,5,0,2,3,4,1,1,26,3] ?_
 intro h3
 refine qbR rfl rfl rfl rfl h3 ?_
 refine au [24,10,29,4,5,26,0] ?_
 intro x4 e4
 refine qe (d := 4) (v := .int .u64 x4) rfl (by rw [e4] <;> rfl) ?_
 exact az [0,2,12,18]
theorem qg6 {F : Nat} {x1 : Int} {r : (Int × List Int)} (hm : ji F x1 = some r) :
    Pure Tryz.prog 95 [.int .u64 x1] [] (Option Addr × Nat) (fun g => .agg #[.int .i64 r.1, .slice g.1 r.2.length g.2]) (fun g => [Ro (eI .u8) 5 1 (.slice g.1 r.2.length g.2) r.2]) (fun _ => []) := by
 refine qi Tryz.func95 rfl Tryz.ntmps95 rfl hm (fun w => ?_)
 refine au [25,5,3,4,25,0] ?_
 intro g2
 refine au [0,2,3,4,1] ?_
 refine qg qkr ?_
 intro x3 e3 _
 refine au [5,0,2,3,4,1,24,12,31,11] ?_
 rintro x4 e4 ⟨a5, c6⟩
 refine au [1,15,1] ?_
 refine qg qlC ?_
 intro x7 e7 _
 refine au [1,29,6] ?_
 rintro x8 e8 ⟨a9, c10⟩
 refine au [24,11,0,2,12] ?_
 exact qN (a9, c10) (resL (rs := [.cell 2 29]) rfl (.cell (i := 0) rfl tf29 rfl rfl (by simp) rfl ResOk.nil) rfl) (fun h => by subst h; exact (.cons 0 rfl .nil))
theorem qf1 {F : Nat} {g1 : Nat} {x2 : Int} {x3 : List Int} {a4 : Option Addr} {c5 : Nat} {x6 : Bool} {x7 : Int} {r : (Int × List Int × Bool)} (hm : qV F x2 x3 x6 x7 = some r) :
    PureM Tryz.prog 70 [.pointer (some ⟨g1, 0, none⟩), .int .i64 x7] [⟨g1, 90, [.int .i64 x2, .slice a4 x3.length c5, .bool x6]⟩] [Ro (eI .u8) 5 1 (.slice a4 x3.length c5) x3] [] (Option Addr × Nat) (fun _ => .tuple #[]) (fun g => [⟨g1, 90, [.int .i64 r.1, .slice g.1 r.2.1.length g.2, .bool r.2.2]⟩]) (fun g => [Ro (eI .u8) 5 1 (.slice g.1 r.2.1.length g.2) r.2.1]) := by
 refine kF Tryz.func70 rfl Tryz.ntmps70 rfl hm (fun w => ?_)
 refine au [24,13,4,1,1,24,12,31,12] ?_
 rintro x8 e8 ⟨a9, c10⟩
 refine au [31,13] ?_
 rintro x11 e11 ⟨a12, c13⟩
 refine au [0] ?_
 exact zU (a12, c13)
theorem qhE {F : Nat} {x1 : Int} {r : Bool} (hm : qbI F x1 = some r) :
    Pure Tryz.prog 134 [.int .i64 x1] [] Unit (fun _ => .bool r) (fun _ => []) (fun _ => []) := by
 refine qi Tryz.func134 rfl Tryz.ntmps134 rfl hm (fun w => ?_)
 exact az [25,5,3,4,5,0,2,3,4,1,1,25,3,5,0,2,12,18]
theorem qhT {F : Nat} {x1 : Int} {x2 : Int} {r : Bool} (hm : qcg F x1 x2 = some r) :
    Pure Tryz.prog 115 [.int .i64 x1, .int .i64 x2] [] Unit (fun _ => .bool r) (fun _ => []) (fun _ => []) := by
 refine qi Tryz.func115 rfl Tryz.ntmps115 rfl hm (fun w => ?_)
 refine au [24,13,3,4,5,0,2,3,4,1,31,14] ?_
 intro x3 e3 _
 refine au [1] ?_
 refine q7 4 (fun ((x6, _) : (Bool × Unit)) => ([(0, .int .i64 x1), (1, .int .i64 x2), (11, .bool x6)], [], [], [], qaj F x1 x2 x6)) ?_ ?_
 refine qb (os := _) rfl ?_
 refine av [25,11] ?_ ?_
 intro h4
 refine qq (k := 7) rfl h4 ?_
 refine au [1,31,14] ?_
 intro x8 e8 _
 refine au [25,4,24,8,0] ?_
 exact qa ((!x8), ())
 intro h4
 refine qp (k := 7) rfl h4 ?_
 refine au [7,7,7,24,9,0] ?_
 exact qa (false, ())
 rintro ⟨x6, _⟩
 try dsimp only
 refine qb (os := _) rfl ?_
 refine au [1] ?_
 refine qB 4 x6 [(16, .bool (x6 || (decide (x1 < x2))))] (fun h7 => ?_) (fun h7 => ?_) ?_
 refine qb (os := _) rfl (qq (k := 12) rfl h7 ?_)
 refine au [7,7,7,24,8] ?_
 refine qe (d := 16) (v := .bool (x6 || (decide (x1 < x2)))) rfl (by rw [h7]; simp only [Bool.true_or]) ?_
 exact az [0,24,1]
 refine qb (os := _) rfl (qp (k := 12) rfl h7 ?_)
 refine au [1,1,22,24,9] ?_
 refine qe (d := 16) (v := .bool (x6 || (decide (x1 < x2)))) rfl (by rw [h7]; simp only [Bool.false_or]) ?_
 exact az [0,24,1]
 refine qb (os := _) rfl ?_
 exact az [5,0,2,12,18]
theorem qgd {F : Nat} {x1 : Int} {r : Bool} (hm : jK F x1 = some r) :
    Pure Tryz.prog 116 [.int .i64 x1] [] Unit (fun _ => .bool r) (fun _ => []) (fun _ => []) := by
 refine qi Tryz.func116 rfl Tryz.ntmps116 rfl hm (fun w => ?_)
 exact az [25,5,3,4,5,0,2,3,4,1,1,25,3,5,0,2,12,18]
theorem qc9 {F : Nat} {x1 : List Int} {a2 : Option Addr} {c3 : Nat} {x4 : Int} {r : (Int × Bool)} (hm : zu F x1 x4 = some r) :
    Pure Tryz.prog 96 [.slice a2 x1.length c3, .int .i64 x4] [Sl (eI .i64) 1 (.slice a2 x1.length c3) x1] Unit (fun _ => .tuple #[.int .i64 r.1, .bool r.2]) (fun _ => []) (fun _ => []) := by
 refine qi Tryz.func96 rfl Tryz.ntmps96 rfl hm (fun w => ?_)
 refine au [24,13,3,4,5,5,0,2,3,4,1,19,5,0,2,3,4,1,5,5,0,2] ?_
 refine qc (fun ((x32, _) : (Int × Unit)) => ([(0, .slice a2 x1.length c3), (1, .int .i64 x4), (6, .int .i64 (x1.length : Int)), (7, .int .i64 x32)], [], [], [Sl (eI .i64) 1 (.slice a2 x1.length c3) x1], kA F x1 x4 x32)) ?_ ?_
 refine au [14] ?_
 refine qk (fun (((x85, x86), _) : ((Int × Int) × Unit)) => ([(0, .slice a2 x1.length c3), (1, .int .i64 x4), (6, .int .i64 (x1.length : Int)), (7, .int .i64 x85), (8, .int .i64 x86)], [], [], [Sl (eI .i64) 1 (.slice a2 x1.length c3) x1])) (fun k (s : ((Int × Int) × Unit)) => qR F x1 x4 k s.1) ((0, (x1.length : Int)), ()) F ?_
 intro k95
 rintro ⟨⟨x85, x86⟩, _⟩
 try dsimp only
 refine ql (m' := zC F x1 x4 (qR F x1 x4 k95) x85 x86) rfl ?_
 refine av [3,3,4,1,1,22,0,2,9] ?_ ?_
 intro _
 refine au [10,2,14,3,4,1,1,15,24,12,28,3,24,12,5,26,0] ?_
 intro x97 e97
 refine qe (d := 9) (v := .int .i64 x97) rfl (by rw [e97] <;> rfl) ?_
 refine au [0,2,3,4,1,1,25,15] ?_
 intro x98 e98 b99 o100
 refine au [25,1,1] ?_
 refine qg qhT ?_
 intro x101 e101 _
 refine av [0,2,9] ?_ ?_
 intro _
 refine au [4,1,15,5,0,21] ?_
 exact qh ((iadd .i64 x97 1, x86), ())
 intro _
 refine au [4,1,5,0,21] ?_
 exact qh ((x85, x97), ())
 intro _
 refine au [24,4,16,16,24,5] ?_
 exact qa (x85, ())
 rintro ⟨x32, _⟩
 try dsimp only
 refine au [3,4,1,1,1,22,1] ?_
 refine q7 18 (fun ((x55, _) : (Bool × Unit)) => ([(31, .int .i64 x32), (53, .bool x55)], [], [], [], kB F x32 x55)) ?_ ?_
 refine qb (os := _) rfl ?_
 refine av [25,11] ?_ ?_
 intro h33
 refine qq (k := 35) rfl h33 ?_
 refine au [1,1,25,15] ?_
 intro x56 e56 b57 o58
 refine au [25,1,1,24,15,1] ?_
 refine q7 10 (fun ((x68, _) : (Bool × Unit)) => ([(31, .int .i64 x32), (35, .bool true), (52, .bool x68)], [], [], [], kC F x32 x68)) ?_ ?_
 refine qb (os := _) rfl ?_
 refine av [25,11] ?_ ?_
 intro h59
 refine qq (k := 42) rfl h59 ?_
 refine au [7,7,7,7,7,7,7,7,7,24,8,0] ?_
 exact qa (true, ())
 intro h59
 refine qp (k := 42) rfl h59 ?_
 refine au [1,1,26,14] ?_
 intro x69 e69 b70 o71
 refine au [25,1,31,15] ?_
 intro x72 e72 _
 refine au [1] ?_
 refine q7 3 (fun ((x75, _) : (Bool × Unit)) => ([(31, .int .i64 x32), (35, .bool true), (42, .bool false), (51, .bool x75)], [], [], [], kD F x32 x75)) ?_ ?_
 refine qb (os := _) rfl ?_
 refine av [25,11] ?_ ?_
 intro h73
 refine qq (k := 48) rfl h73 ?_
 refine au [1,31,15] ?_
 intro x76 e76 _
 refine au [24,8,0] ?_
 exact qa (x76, ())
 intro h73
 refine qp (k := 48) rfl h73 ?_
 refine au [7,7,24,9,0] ?_
 exact qa (false, ())
 rintro ⟨x75, _⟩
 try dsimp only
 refine qb (os := _) rfl ?_
 refine au [24,9,0] ?_
 exact qa (x75, ())
 rintro ⟨x68, _⟩
 try dsimp only
 refine qb (os := _) rfl ?_
 refine au [24,8,0] ?_
 exact qa (x68, ())
 intro h33
 refine qp (k := 35) rfl h33 ?_
 refine au [7,7,7,7,7,7,7,7,7,7,7,7,7,7,7,7,7,24,9,0] ?_
 exact qa (false, ())
 rintro ⟨x55, _⟩
 try dsimp only
 refine qb (os := _) rfl ?_
 exact az [5,5,0,2,12,18]
theorem qgc {F : Nat} {g1 : Nat} {x2 : List Int} {a3 : Option Addr} {c4 : Nat} {x5 : Bool} {x6 : Int} {x7 : Bool} {r : (List Int × Bool × Int)} (hm : jJ F x2 x5 x6 x7 = some r) :
    PureM Tryz.prog 97 [.pointer (some ⟨g1, 0, none⟩), .bool x7] [⟨g1, 153, [.slice a3 x2.length c4, .bool x5, .int .i64 x6]⟩] [Ro (eI .i64) 3 1 (.slice a3 x2.length c4) x2] [] (Option Addr × Nat) (fun _ => .tuple #[]) (fun g => [⟨g1, 153, [.slice g.1 r.1.length g.2, .bool r.2.1, .int .i64 r.2.2]⟩]) (fun g => [Ro (eI .i64) 3 1 (.slice g.1 r.1.length g.2) r.1]) := by
 refine kF Tryz.func97 rfl Tryz.ntmps97 rfl hm (fun w => ?_)
 refine au [24,13] ?_
 refine qc (fun (((x21, x22, x23), (a19, c20)) : ((List Int × Bool × Int) × (Option Addr × Nat))) => ([(0, .pointer (some ⟨g1, 0, none⟩))], [⟨g1, 153, [.slice a19 x21.length c20, .bool x22, .int .i64 x23]⟩], [Ro (eI .i64) 3 1 (.slice a19 x21.length c20) x21], [], yS F x21 x22 x23)) ?_ ?_
 refine av [3,4,1,1,25,6,13,23,32,0,0,2,9] ?_ ?_
 intro _
 refine au [3] ?_
 refine qw mixed [13] [] [(BlkD.is ⟨g1, 153, [.slice a3 x2.length c4, .bool x5, .int .i64 x6]⟩)] .nil (qjh 0 rfl qu) 14 rfl ?_
 refine au [6,0,6,1,6,2,24,2,3] ?_
 refine qK 4 (.slice a3 x2.length c4) [[13]] rfl rfl rfl (qaM (j := 0) rfl tf37 rfl rfl (fun _ => rfl) rfl) ?_
 refine au [6,5,6,6,24,2,7] ?_
 refine qK 8 (.int .i64 x6) [[13]] rfl rfl rfl (qaM (j := 0) rfl tf3 rfl rfl (fun _ => rfl) rfl) ?_
 refine au [24,0,9] ?_
 refine qy (vs := [.int .i64 x6]) (ys := ([x6] : List Int)) (qo .i64) (by decide) rfl Tryz.underlying37 tf3 rfl rfl rfl rfl rfl (by decide) (fun a29 c30 => ?_)
 refine au [0,29,13,24,0,10] ?_
 refine qA 1 (qo .i64) rfl Tryz.underlying37 tf3 rfl rfl rfl rfl rfl (.inl ⟨0, _, rfl⟩) rfl rfl (fun x31 e31 a32 c33 => ?_)
 refine au [0,29,13,6,11,24,2,12,24,0,13,24,11,0] ?_
 refine qd1 13 rfl (by kernel_rfl) .nil ?_
 refine au [24,7] ?_
 refine qz ?_ (by intro c h; cases h)
 refine au [2,4,1,1,1,25,6,13,24,11,25,6,13,24,11,0] ?_
 exact qa ((x31, x7, (0 : Int)), (a32, c33))
 intro _
 refine au [10] ?_
 exact qa ((x2, x5, x6), (a3, c4))
 rintro ⟨⟨x21, x22, x23⟩, ⟨a19, c20⟩⟩
 try dsimp only
 refine au [4,1,25,6,13,23,15,25,6,13,24,11,0] ?_
 exact zU (a19, c20)
theorem qlJ {F : Nat} {x1 : List Int} {a2 : Option Addr} {c3 : Nat} {x4 : List Int} {a5 : Option Addr} {c6 : Nat} {r : (List Int × List Int)} (hm : qeb F x1 x4 = some r) :
    Pure Tryz.prog 71 [.slice a2 x1.length c3, .slice a5 x4.length c6] [Sl (eI .i64) 1 (.slice a2 x1.length c3) x1, Sl (eI .i64) 1 (.slice a5 x4.length c6) x4] ((Option Addr × Nat) × (Option Addr × Nat)) (fun g => .tuple #[.slice g.1.1 r.1.length g.1.2, .slice g.2.1 r.2.length g.2.2]) (fun g => [Ro (eI .i64) 3 1 (.slice g.1.1 r.1.length g.1.2) r.1, Ro (eI .i64) 3 1 (.slice g.2.1 r.2.length g.2.2) r.2]) (fun _ => []) := by
 refine qi Tryz.func71 rfl Tryz.ntmps71 rfl hm (fun w => ?_)
 refine au [24,13,3,4,5,5,0,2,3,4] ?_
 refine qD (cells := [.slice none 0 0, .bool true, .int .i64 0]) rfl st153 rfl (by kernel_rfl) rfl ?_
 refine au [24,3] ?_
 intro g7
 refine au [5,0,2] ?_
 refine qc (fun (((x66, x67, x68), (a64, c65)) : ((List Int × Bool × Int) × (Option Addr × Nat))) => ([(0, .slice a2 x1.length c3), (1, .slice a5 x4.length c6), (5, .slice none 0 0), (6, .pointer (some ⟨g7, 0, none⟩))], [⟨g7, 153, [.slice a64 x66.length c65, .bool x67, .int .i64 x68]⟩], [Ro (eI .i64) 3 1 (.slice a64 x66.length c65) x66], [Sl (eI .i64) 1 (.slice a2 x1.length c3) x1, Sl (eI .i64) 1 (.slice a5 x4.length c6) x4], qdP F x1 x4 x66 x67 x68)) ?_ ?_
 refine au [3,4,1,19,1,0,2,14,25,14] ?_
 refine qk (fun (((x249, x252, x253, x254), (a250, c251)) : ((Int × List Int × Bool × Int) × (Option Addr × Nat))) => ([(0, .slice a2 x1.length c3), (1, .slice a5 x4.length c6), (5, .slice none 0 0), (6, .pointer (some ⟨g7, 0, none⟩)), (17, .slice a2 x1.length c3), (18, .int .i64 (x1.length : Int)), (19, .int .i64 x249)], [⟨g7, 153, [.slice a250 x252.length c251, .bool x253, .int .i64 x254]⟩], [Ro (eI .i64) 3 1 (.slice a250 x252.length c251) x252], [Sl (eI .i64) 1 (.slice a2 x1.length c3) x1, Sl (eI .i64) 1 (.slice a5 x4.length c6) x4])) (fun k (s : ((Int × List Int × Bool × Int) × (Option Addr × Nat))) => vg F x1 x4 k s.1) ((0, ([] : List Int), true, 0), (none, 0)) F ?_
 intro k271
 rintro ⟨⟨x249, x252, x253, x254⟩, ⟨a250, c251⟩⟩
 try dsimp only
 refine ql (m' := qbO F x1 x4 (vg F x1 x4 k271) x249 x252 x253 x254) rfl ?_
 refine av [3,4,22,0,2,3,9] ?_ ?_
 intro _
 refine au [10,2,3,14,3,4,25,15] ?_
 intro x280 e280 b281 o282
 refine au [25,1,5,0,2,3,4,1,1,32,1] ?_
 intro x283 e283 _
 refine au [1,17,17,5,5,0,2,4,1,1] ?_
 refine zy qgc ?_
 rintro x284 e284 ⟨a285, c286⟩
 refine au [0,21,2,4,15,1,0] ?_
 exact qh ((iadd .i64 x249 1, x284.1, x284.2.1, x284.2.2), (a285, c286))
 intro _
 refine au [24,4,16,16,24,5] ?_
 exact qa ((x252, x253, x254), (a250, c251))
 rintro ⟨⟨x66, x67, x68⟩, ⟨a64, c65⟩⟩
 try dsimp only
 refine qc (fun ((x151, (a149, c150)) : (List Int × (Option Addr × Nat))) => ([(5, .slice a149 x151.length c150), (6, .pointer (some ⟨g7, 0, none⟩))], [⟨g7, 153, [.slice a64 x66.length c65, .bool x67, .int .i64 x68]⟩], [Ro (eI .i64) 3 1 (.slice a149 x151.length c150) x151, Ro (eI .i64) 3 1 (.slice a64 x66.length c65) x66], [], qdQ F x66 x151)) ?_ ?_
 refine au [3,4,1,19,1,0,2,14,25,14] ?_
 refine qk (fun (((x179, x180), (a177, c178)) : ((List Int × Int) × (Option Addr × Nat))) => ([(0, .slice a2 x1.length c3), (5, .slice a177 x179.length c178), (6, .pointer (some ⟨g7, 0, none⟩)), (33, .slice a5 x4.length c6), (34, .int .i64 (x4.length : Int)), (35, .int .i64 x180)], [⟨g7, 153, [.slice a64 x66.length c65, .bool x67, .int .i64 x68]⟩], [Ro (eI .i64) 3 1 (.slice a177 x179.length c178) x179, Ro (eI .i64) 3 1 (.slice a64 x66.length c65) x66], [Sl (eI .i64) 1 (.slice a2 x1.length c3) x1, Sl (eI .i64) 1 (.slice a5 x4.length c6) x4])) (fun k (s : ((List Int × Int) × (Option Addr × Nat))) => yo F x1 x4 x66 k s.1) ((([] : List Int), 0), (none, 0)) F ?_
 intro k206
 rintro ⟨⟨x179, x180⟩, ⟨a177, c178⟩⟩
 try dsimp only
 refine ql (m' := qbN F x1 x4 x66 (yo F x1 x4 x66 k206) x179 x180) rfl ?_
 refine av [3,4,22,0,2,3,9] ?_ ?_
 intro _
 refine au [10,2] ?_
 refine qc (fun ((x220, (a218, c219)) : (List Int × (Option Addr × Nat))) => ([(0, .slice a2 x1.length c3), (5, .slice a218 x220.length c219), (6, .pointer (some ⟨g7, 0, none⟩)), (33, .slice a5 x4.length c6), (34, .int .i64 (x4.length : Int)), (35, .int .i64 x180)], [⟨g7, 153, [.slice a64 x66.length c65, .bool x67, .int .i64 x68]⟩], [Ro (eI .i64) 3 1 (.slice a218 x220.length c219) x220, Ro (eI .i64) 3 1 (.slice a64 x66.length c65) x66], [Sl (eI .i64) 1 (.slice a2 x1.length c3) x1, Sl (eI .i64) 1 (.slice a5 x4.length c6) x4], qbP F (yo F x1 x4 x66 k206) x180 x220)) ?_ ?_
 refine au [14,3,4,26,14] ?_
 intro x221 e221 b222 o223
 refine au [25,1,5,0,2,3,4,1,1,32,1] ?_
 intro x224 e224 _
 refine av [1,17,17,5,5,0,2,3,4,1,25,4,0,2,9] ?_ ?_
 intro _
 refine au [4,1,1] ?_
 refine qy (vs := [.int .i64 x221]) (ys := ([x221] : List Int)) (qo .i64) (by decide) rfl Tryz.underlying37 tf3 rfl rfl rfl rfl rfl (by decide) (fun a225 c226 => qA 1 (qo .i64) rfl Tryz.underlying37 tf3 rfl rfl rfl rfl rfl (.inl ⟨0, _, rfl⟩) rfl rfl (fun x227 e227 a228 c229 => ?_))
 refine au [5,0,21] ?_
 exact qa (x227, (a228, c229))
 intro _
 refine au [10,21] ?_
 exact qa (x179, (a177, c178))
 rintro ⟨x220, ⟨a218, c219⟩⟩
 try dsimp only
 refine au [4,15,1,0] ?_
 exact qh ((x220, iadd .i64 x180 1), (a218, c219))
 intro _
 refine au [24,4,16,16,24,5] ?_
 exact qa (x179, (a177, c178))
 rintro ⟨x151, ⟨a149, c150⟩⟩
 try dsimp only
 refine au [3,4,1,25,6,13,23,1,5,5,0,2,12] ?_
 exact qj ((a64, c65), (a149, c150))
theorem qfm {F : Nat} {g1 : Nat} {x2 : Int} {x3 : List Int} {a4 : Option Addr} {c5 : Nat} {x6 : Bool} {x7 : List Int} {a8 : Option Addr} {c9 : Nat} {r : (Int × List Int × Bool)} (hm : vE F x2 x3 x6 x7 = some r) :
    PureM Tryz.prog 72 [.pointer (some ⟨g1, 0, none⟩), .slice a8 x7.length c9] [⟨g1, 90, [.int .i64 x2, .slice a4 x3.length c5, .bool x6]⟩] [Ro (eI .u8) 5 1 (.slice a4 x3.length c5) x3] [Sl (eI .i64) 1 (.slice a8 x7.length c9) x7] (Option Addr × Nat) (fun _ => .tuple #[]) (fun g => [⟨g1, 90, [.int .i64 r.1, .slice g.1 r.2.1.length g.2, .bool r.2.2]⟩]) (fun g => [Ro (eI .u8) 5 1 (.slice g.1 r.2.1.length g.2) r.2.1]) := by
 refine kF Tryz.func72 rfl Tryz.ntmps72 rfl hm (fun w => ?_)
 refine au [24,13,3,4,1,1,19,27,12] ?_
 rintro x10 e10 ⟨a11, c12⟩
 refine au [0,2,3,4,1,19,1,0,2,14] ?_
 refine qk (fun (((x27, x28, x31, x32), (a29, c30)) : ((Int × Int × List Int × Bool) × (Option Addr × Nat))) => ([(0, .pointer (some ⟨g1, 0, none⟩)), (10, .slice a8 x7.length c9), (11, .int .i64 (x7.length : Int)), (12, .int .i64 x27)], [⟨g1, 90, [.int .i64 x28, .slice a29 x31.length c30, .bool x32]⟩], [Ro (eI .u8) 5 1 (.slice a29 x31.length c30) x31], [Sl (eI .i64) 1 (.slice a8 x7.length c9) x7])) (fun k (s : ((Int × Int × List Int × Bool) × (Option Addr × Nat))) => zL F x7 k s.1) ((0, x10.1, x10.2.1, x10.2.2), (a11, c12)) F ?_
 intro k47
 rintro ⟨⟨x27, x28, x31, x32⟩, ⟨a29, c30⟩⟩
 try dsimp only
 refine ql (m' := yi F x7 (zL F x7 k47) x27 x28 x31 x32) rfl ?_
 refine av [3,4,22,0,2,3,9] ?_ ?_
 intro _
 refine au [10,2,3,14,3,4,1,25,15] ?_
 intro x55 e55 b56 o57
 refine au [25,1,5,5,0,2,4,1,1,1,28,4,24,10,27,12] ?_
 rintro x58 e58 ⟨a59, c60⟩
 refine au [0,21,2,4,15,1,0] ?_
 exact qh ((iadd .i64 x27 1, x58.1, x58.2.1, x58.2.2), (a59, c60))
 intro _
 refine au [24,4,16,16,24,5] ?_
 exact zU (a29, c30)
theorem qlK {F : Nat} {x1 : List Int} {a2 : Option Addr} {c3 : Nat} {r : Unit} (hm : qfn F x1 = some r) :
    PureM Tryz.prog 98 [.slice a2 x1.length c3] [] [] [Sl (eI .i64) 1 (.slice a2 x1.length c3) x1] Nat (fun g => .func (.func 117) #[] #[.pointer (some ⟨g, 0, none⟩)]) (fun g => [⟨g, 37, [.slice a2 x1.length c3]⟩]) (fun _ => []) := by
 refine kF Tryz.func98 rfl Tryz.ntmps98 rfl hm (fun w => ?_)
 refine au [25,5,3,4,24,3] ?_
 intro g4
 refine au [5,0,2,3,4,29,10,5,0,2,12] ?_
 exact zU g4
theorem qjc (F : Nat) {σ τ : Type} {J : Rounds σ τ} {yy : σ → (Int × Int) → Option (σ ⊕ τ)} {L : Nat} (hY : YieldC Tryz.prog L (fun (p : (Int × Int)) => [.agg #[.int .i64 p.1, .int .i64 p.2]]) J yy) (s0 : σ) (gs0 : J.γ) (g1 : Nat) (x2 : List Int) (a3 : Option Addr) (c4 : Nat) (r : σ ⊕ τ) (hm : qbr F yy x2 s0 = some r) :
    PureM Tryz.prog 117 ([.func (.yield L) #[] #[], .pointer (some ⟨g1, 0, none⟩)]) ([⟨g1, 37, [.slice a3 x2.length c4]⟩] ++ J.IB s0 gs0) (J.IR s0 gs0) [J.F, Sl (eI .i64) 1 (.slice a3 x2.length c4) x2] (J.G r) (fun _ => .tuple #[]) (fun g => [⟨g1, 37, [.slice a3 x2.length c4]⟩] ++ J.bs r g) (fun g => J.rs r g) := by
 refine kF Tryz.func117 rfl Tryz.ntmps117 rfl hm (fun w => ?_)
 refine au [24,13,3,4,5,0,2,14] ?_
 refine qdF (fun (((x266, x267), g268) : ((Int × σ) × J.γ)) => [(0, .func (.yield L) #[] #[]), (1, .pointer (some ⟨g1, 0, none⟩)), (3, .int .i64 x266)]) (fun (((x266, x267), g268) : ((Int × σ) × J.γ)) => [⟨g1, 37, [.slice a3 x2.length c4]⟩] ++ J.IB x267 g268) (fun (((x266, x267), g268) : ((Int × σ) × J.γ)) => [] ++ J.IR x267 g268) (fun (((x266, x267), g268) : ((Int × σ) × J.γ)) => [Sl (eI .i64) 1 (.slice a3 x2.length c4) x2, J.F]) (fun k (s : ((Int × σ) × J.γ)) => qS F yy x2 k s.1) ((0, s0), gs0) F ?_ (hB := (.cons 0 rfl (qY 0 rfl))) (hR := (qY 0 rfl)) (hF := (qT 1 rfl (qT 0 rfl qbY)))
 intro k530
 rintro ⟨⟨x266, x267⟩, g268⟩
 try dsimp only
 refine ql (m' := qat F yy x2 (qS F yy x2 k530) x266 x267) rfl ?_
 refine av [3,3,4,1,23,19,22,0,2,9] ?_ ?_
 intro _
 refine au [10,2,14,3,4,5,0,2] ?_
 refine qiE (fun ((x654, _) : (Int × Unit)) => [(0, .func (.yield L) #[] #[]), (1, .pointer (some ⟨g1, 0, none⟩)), (3, .int .i64 x266), (4, .int .i64 x654)]) (fun ((x654, _) : (Int × Unit)) => [⟨g1, 37, [.slice a3 x2.length c4]⟩] ++ J.IB x267 g268) (fun ((x654, _) : (Int × Unit)) => [] ++ J.IR x267 g268) (fun ((x654, _) : (Int × Unit)) => [Sl (eI .i64) 1 (.slice a3 x2.length c4) x2, J.F]) (fun ((x654, _) : (Int × Unit)) => qav F yy (qS F yy x2 k530) x2 x266 x267 x654) ?_ ?_
 refine au [14] ?_
 refine qdF (fun ((x709, _) : (Int × Unit)) => [(0, .func (.yield L) #[] #[]), (1, .pointer (some ⟨g1, 0, none⟩)), (3, .int .i64 x266), (4, .int .i64 x709)]) (fun ((x709, _) : (Int × Unit)) => [⟨g1, 37, [.slice a3 x2.length c4]⟩] ++ J.IB x267 g268) (fun ((x709, _) : (Int × Unit)) => [] ++ J.IR x267 g268) (fun ((x709, _) : (Int × Unit)) => [Sl (eI .i64) 1 (.slice a3 x2.length c4) x2, J.F]) (fun k (s : (Int × Unit)) => ky F yy (qS F yy x2 k530) x2 x266 x267 k s.1) (1, ()) F ?_ (hB := (.cons 0 rfl (qY 0 rfl))) (hR := (qY 0 rfl)) (hF := (qT 0 rfl (qT 1 rfl qbY)))
 intro k750
 rintro ⟨x709, _⟩
 try dsimp only
 refine ql (m' := qau F yy (qS F yy x2 k530) x2 x266 x267 (ky F yy (qS F yy x2 k530) x2 x266 x267 k750) x709) rfl ?_
 refine au [3] ?_
 refine qiE (fun ((x780, _) : (Bool × Unit)) => [(0, .func (.yield L) #[] #[]), (1, .pointer (some ⟨g1, 0, none⟩)), (3, .int .i64 x266), (4, .int .i64 x709), (29, .bool x780)]) (fun ((x780, _) : (Bool × Unit)) => [⟨g1, 37, [.slice a3 x2.length c4]⟩] ++ J.IB x267 g268) (fun ((x780, _) : (Bool × Unit)) => [] ++ J.IR x267 g268) (fun ((x780, _) : (Bool × Unit)) => [Sl (eI .i64) 1 (.slice a3 x2.length c4) x2, J.F]) (fun ((x780, _) : (Bool × Unit)) => qaw F yy (qS F yy x2 k530) (ky F yy (qS F yy x2 k530) x2 x266 x267 k750) x2 x266 x267 x709 x780) ?_ ?_
 refine av [26,10] ?_ ?_
 intro h782
 refine au [28,12] ?_
 intro x783 e783 b784 o785 h786
 replace h786 : a3 = some ⟨b784, o785, none⟩ := h786
 refine au [28,5] ?_
 intro x787 e787 b788 o789 h790
 replace h790 : a3 = some ⟨b788, o789, none⟩ := h790
 refine qw mixed [] [⟨g1, 37, [.slice a3 x2.length c4]⟩] [qt b788 (o789 + x266.toNat * 1) ((eI .i64) x787), qt b784 (o785 + (iadd .i64 x266 x709).toNat * 1) ((eI .i64) x783), Sl (eI .i64) 1 (.slice a3 x2.length c4) x2, J.F] (.cons 0 rfl .nil) (qC 0 rfl (qC 1 rfl (qC 2 rfl (qC 3 rfl qu)))) 21 rfl ?_
 refine au [6,0,6,1,6,2,25,9,3,27,13,4,6,5,6,6] ?_
 refine qf (d := 15) (v := .bool true) rfl (by rw [h782] <;> rfl) ?_
 refine au [25,9,7,6,8,6,9,6,10] ?_
 refine qf (d := 16) (v := .slice (some ⟨b784, o785, none⟩) x2.length c4) rfl (by rw [h786] <;> rfl) (qm 11 (.pointer (some ⟨b784, (o785 + (iadd .i64 x266 x709).toNat * 1), none⟩)) rfl rfl rfl (yq Tryz.underlying37 tf3 rfl rfl (qJ e783).1 (kj e783)) (qf (d := 16) (v := .slice a3 x2.length c4) rfl (by rw [h786] <;> rfl) (qK 12 (.int .i64 x783) [] rfl rfl rfl (zx (j := 1) rfl tf3 rfl rfl (fun _ => rfl) rfl) ?_)))
 refine au [25,9,13,6,14] ?_
 refine qf (d := 22) (v := .slice (some ⟨b788, o789, none⟩) x2.length c4) rfl (by rw [h790] <;> rfl) (qm 15 (.pointer (some ⟨b788, (o789 + x266.toNat * 1), none⟩)) rfl rfl rfl (yq Tryz.underlying37 tf3 rfl rfl (qJ e787).1 (kj e787)) (qf (d := 22) (v := .slice a3 x2.length c4) rfl (by rw [h790] <;> rfl) (qK 16 (.int .i64 x787) [] rfl rfl rfl (zx (j := 0) rfl tf3 rfl rfl (fun _ => rfl) rfl) ?_)))
 refine au [6,17,6,18,6,19,6,20,24,7] ?_
 exact qz (qfU (((x783 : Int) == (iadd .i64 x787 x709)), ()) (hB := (.cons 0 rfl (qY 0 rfl))) (hR := (qY 0 rfl)) (hF := (qT 2 rfl (qT 3 rfl qbY)))) (by intro c h; cases h)
 intro h782
 refine qw mixed [] [⟨g1, 37, [.slice a3 x2.length c4]⟩] [Sl (eI .i64) 1 (.slice a3 x2.length c4) x2, J.F] (.cons 0 rfl .nil) (qC 0 rfl (qC 1 rfl qu)) 21 rfl ?_
 refine au [6,0,6,1,6,2,25,9,3,27,13,4,6,5,6,6] ?_
 refine qf (d := 15) (v := .bool false) rfl (by rw [h782] <;> rfl) ?_
 refine au [8,7,8,8,8,9,8,10,8,11,8,12,8,13,8,14,8,15,8,16,8,17,8,18,8,19,6,20,24,7] ?_
 exact qz (qfU (false, ()) (hB := (.cons 0 rfl (qY 0 rfl))) (hR := (qY 0 rfl)) (hF := (qT 0 rfl (qT 1 rfl qbY)))) (by intro c h; cases h)
 rintro ⟨x780, _⟩
 try dsimp only
 refine av [9] ?_ ?_
 intro _
 refine au [10,2,14,4,1,15,5,0,21] ?_
 exact qfc (iadd .i64 x709 1, ()) (hB := (.cons 0 rfl (qY 0 rfl))) (hR := (qY 0 rfl)) (hF := (qT 0 rfl (qT 1 rfl qbY)))
 intro _
 refine au [24,4,16,16,24,5] ?_
 exact qfU (x709, ()) (hB := (.cons 0 rfl (qY 0 rfl))) (hR := (qY 0 rfl)) (hF := (qT 0 rfl (qT 1 rfl qbY)))
 rintro ⟨x654, _⟩
 try dsimp only
 refine au [3,3,4,1,23,1,25,15] ?_
 intro x662 e662 b663 o664
 refine au [25,1,1] ?_
 refine qD (cells := [.int .i64 x662, .int .i64 x654]) rfl st141 rfl (by kernel_rfl) rfl (qj4 hY x267 (x662, x654) g268 (B1 := [⟨g1, 37, [.slice a3 x2.length c4]⟩]) (R1 := []) (j := 2) rfl rfl rfl rfl rfl rfl rfl (fun x665 _ g667 => ?_) (fun x666 _ g667 => ?_))
 refine au [25,4,0,2] ?_
 refine qdh (b := false) rfl (fun h => by cases h) (fun _ => ?_)
 refine au [10,2,4,1,1,15,5,0,21] ?_
 exact qfc ((iadd .i64 x266 x654, x665), g667) (hB := (.cons 0 rfl (qY 0 rfl))) (hR := (qY 0 rfl)) (hF := (qT 1 rfl (qT 2 rfl qbY)))
 refine au [25,4,0,2] ?_
 refine qdh (b := true) rfl (fun _ => ?_) (fun h => by cases h)
 refine au [12,11,20,11,20] ?_
 exact qfT (B0 := [⟨g1, 37, [.slice a3 x2.length c4]⟩]) (x := .inr x666) g667 (.inl rfl) (res0 rfl) (.cons 0 rfl (qY 0 rfl)) (qY 0 rfl)
 intro _
 refine au [24,4,16,16,24,5] ?_
 exact qfT (B0 := [⟨g1, 37, [.slice a3 x2.length c4]⟩]) (x := .inl x267) g268 (.inr rfl) (res0 rfl) (.cons 0 rfl (qY 0 rfl)) (qY 0 rfl)
end Go.Proofs.YtpnfijegoepiaaaGreat
