/- Each Go function of this seat computes what its model says. -/
import Derived.Test.YtmhggdbfbmkpeaaGreatRows
import Derived.Test.YtmhggdbfbmkpeaaGreatModels
import Derived.Test.YtmhggdbfbmkpeaaGreatShelf
namespace Go.Proofs.YtmhggdbfbmkpeaaGreat
open Go SX
def eN39 (p : List Int × (Option Addr × Nat)) : List Value := [.slice p.2.1 p.1.length p.2.2]
def iN39 (p : List Int × (Option Addr × Nat)) : List (World → Prop) := [Sl (eI .i64) 1 (.slice p.2.1 p.1.length p.2.2) p.1]
theorem km : EncOk eN39 1 := ⟨fun _ => rfl, fun _ => rfl⟩
def rN39 (p : List Int × (Option Addr × Nat)) : List RowF := [FoR (eI .i64) 3 1 (.slice p.2.1 p.1.length p.2.2) p.1]
theorem qty : ∀ p, iN39 p = (rN39 p).map RowF.cells := fun _ => rfl
theorem qpK : ∀ f ∈ rN39 (([] : List Int), ((none, 0) : Option Addr × Nat)), f.v = .slice none 0 0 ∧ f.n = 0 ∧ f.cs = [] := by simp [rN39, FoR]
def eS88 (p : (Int × Int)) : List Value := [.int .i64 p.1, .int .i64 p.2]
theorem kT : EncOk eS88 2 := ⟨fun _ => rfl, fun _ => rfl⟩
def eS189 (p : (Int × Int)) : List Value := [.int .i64 p.1, .int .i64 p.2]
theorem qds : EncOk eS189 2 := ⟨fun _ => rfl, fun _ => rfl⟩
instance tf3 : TyF Tryz.prog 3 false (.int .i64 0) 1 8 := .of (by kernel_rfl) (by kernel_rfl)
instance tf4 : TyF Tryz.prog 4 false (.bool false) 1 1 := .of (by kernel_rfl) (by kernel_rfl)
instance tf5 : TyF Tryz.prog 5 false (.int .u8 0) 1 1 := .of (by kernel_rfl) (by kernel_rfl)
instance tf22 : TyF Tryz.prog 22 false (.slice none 0 0) 1 24 := .of (by kernel_rfl) (by kernel_rfl)
instance tf24 : TyF Tryz.prog 24 true (.agg #[.slice none 0 0]) 1 24 := .of (by kernel_rfl) (by kernel_rfl)
instance tf26 : TyF Tryz.prog 26 true (.agg #[.int .i64 0, .int .i64 0, .int .i64 0]) 3 24 := .of (by kernel_rfl) (by kernel_rfl)
instance tf27 : TyF Tryz.prog 27 false (.slice none 0 0) 1 24 := .of (by kernel_rfl) (by kernel_rfl)
instance tf29 : TyF Tryz.prog 29 true (.agg #[.int .i64 0, .slice none 0 0]) 2 32 := .of (by kernel_rfl) (by kernel_rfl)
instance tf31 : TyF Tryz.prog 31 true (.agg #[.int .i64 0, .int .i64 0, .int .i64 0, .int .i64 0, .int .i64 0, .slice none 0 0]) 6 64 := .of (by kernel_rfl) (by kernel_rfl)
instance tf33 : TyF Tryz.prog 33 true (.agg #[.int .i64 0, .int .i64 0, .int .i64 0, .int .i64 0, .slice none 0 0, .int .i64 0, .slice none 0 0]) 7 88 := .of (by kernel_rfl) (by kernel_rfl)
instance tf35 : TyF Tryz.prog 35 true (.agg #[.int .i64 0, .int .i64 0, .int .i64 0, .int .i64 0, .int .i64 0, .slice none 0 0, .int .i64 0, .int .i64 0, .int .i64 0, .int .i64 0, .slice none 0 0, .int .i64 0, .slice none 0 0]) 13 152 := .of (by kernel_rfl) (by kernel_rfl)
instance tf39 : TyF Tryz.prog 39 false (.slice none 0 0) 1 24 := .of (by kernel_rfl) (by kernel_rfl)
instance tf85 : TyF Tryz.prog 85 false (.slice none 0 0) 1 24 := .of (by kernel_rfl) (by kernel_rfl)
instance tf88 : TyF Tryz.prog 88 true (.agg #[.int .i64 0, .int .i64 0]) 2 16 := .of (by kernel_rfl) (by kernel_rfl)
instance tf119 : TyF Tryz.prog 119 false (.int .u64 0) 1 8 := .of (by kernel_rfl) (by kernel_rfl)
instance tf131 : TyF Tryz.prog 131 true (.agg #[]) 0 0 := .of (by kernel_rfl) (by kernel_rfl)
instance tf159 : TyF Tryz.prog 159 true (.agg #[.int .i64 0, .int .i64 0, .slice none 0 0]) 3 40 := .of (by kernel_rfl) (by kernel_rfl)
instance tf174 : TyF Tryz.prog 174 true (.agg #[]) 0 0 := .of (by kernel_rfl) (by kernel_rfl)
instance tf184 : TyF Tryz.prog 184 false (.slice none 0 0) 1 24 := .of (by kernel_rfl) (by kernel_rfl)
instance tf189 : TyF Tryz.prog 189 true (.agg #[.int .i64 0, .int .i64 0]) 2 16 := .of (by kernel_rfl) (by kernel_rfl)
instance tf209 : TyF Tryz.prog 209 false (.pointer none) 1 8 := .of (by kernel_rfl) (by kernel_rfl)
instance ff24_0 : FdF Tryz.prog 24 0 0 := .of (by kernel_rfl)
instance ff26_0 : FdF Tryz.prog 26 0 0 := .of (by kernel_rfl)
instance ff26_1 : FdF Tryz.prog 26 1 1 := .of (by kernel_rfl)
instance ff26_2 : FdF Tryz.prog 26 2 2 := .of (by kernel_rfl)
instance ff29_0 : FdF Tryz.prog 29 0 0 := .of (by kernel_rfl)
instance ff29_1 : FdF Tryz.prog 29 1 1 := .of (by kernel_rfl)
instance ff31_0 : FdF Tryz.prog 31 0 0 := .of (by kernel_rfl)
instance ff31_1 : FdF Tryz.prog 31 1 1 := .of (by kernel_rfl)
instance ff31_2 : FdF Tryz.prog 31 2 4 := .of (by kernel_rfl)
instance ff33_0 : FdF Tryz.prog 33 0 0 := .of (by kernel_rfl)
instance ff33_1 : FdF Tryz.prog 33 1 1 := .of (by kernel_rfl)
instance ff33_2 : FdF Tryz.prog 33 2 2 := .of (by kernel_rfl)
instance ff33_3 : FdF Tryz.prog 33 3 3 := .of (by kernel_rfl)
instance ff33_4 : FdF Tryz.prog 33 4 5 := .of (by kernel_rfl)
instance ff35_0 : FdF Tryz.prog 35 0 0 := .of (by kernel_rfl)
instance ff35_1 : FdF Tryz.prog 35 1 6 := .of (by kernel_rfl)
instance ff64_0 : FdF Tryz.prog 64 0 0 := .of (by kernel_rfl)
instance ff64_1 : FdF Tryz.prog 64 1 13 := .of (by kernel_rfl)
instance ff88_0 : FdF Tryz.prog 88 0 0 := .of (by kernel_rfl)
instance ff88_1 : FdF Tryz.prog 88 1 1 := .of (by kernel_rfl)
instance ff104_0 : FdF Tryz.prog 104 0 0 := .of (by kernel_rfl)
instance ff104_1 : FdF Tryz.prog 104 1 6 := .of (by kernel_rfl)
instance ff104_2 : FdF Tryz.prog 104 2 7 := .of (by kernel_rfl)
instance ff142_0 : FdF Tryz.prog 142 0 0 := .of (by kernel_rfl)
instance ff142_1 : FdF Tryz.prog 142 1 2 := .of (by kernel_rfl)
instance ff159_0 : FdF Tryz.prog 159 0 0 := .of (by kernel_rfl)
instance ff159_1 : FdF Tryz.prog 159 1 1 := .of (by kernel_rfl)
instance ff165_0 : FdF Tryz.prog 165 0 0 := .of (by kernel_rfl)
instance ff165_1 : FdF Tryz.prog 165 1 2 := .of (by kernel_rfl)
instance ff179_0 : FdF Tryz.prog 179 0 0 := .of (by kernel_rfl)
instance ff179_1 : FdF Tryz.prog 179 1 2 := .of (by kernel_rfl)
instance ff189_0 : FdF Tryz.prog 189 0 0 := .of (by kernel_rfl)
instance ff189_1 : FdF Tryz.prog 189 1 1 := .of (by kernel_rfl)
instance ff215_0 : FdF Tryz.prog 215 0 0 := .of (by kernel_rfl)
instance ff248_0 : FdF Tryz.prog 248 0 0 := .of (by kernel_rfl)
instance ff248_1 : FdF Tryz.prog 248 1 1 := .of (by kernel_rfl)
instance ff254_0 : FdF Tryz.prog 254 0 0 := .of (by kernel_rfl)
instance ff254_1 : FdF Tryz.prog 254 1 1 := .of (by kernel_rfl)
instance ff254_2 : FdF Tryz.prog 254 2 2 := .of (by kernel_rfl)
instance st24 : StF Tryz.prog 24 [(0, 1)] (.agg #[.slice none 0 0]) := .of (by kernel_rfl) (by kernel_rfl)
instance st26 : StF Tryz.prog 26 [(0, 1), (1, 1), (2, 1)] (.agg #[.int .i64 0, .int .i64 0, .int .i64 0]) := .of (by kernel_rfl) (by kernel_rfl)
instance st29 : StF Tryz.prog 29 [(0, 1), (1, 1)] (.agg #[.int .i64 0, .slice none 0 0]) := .of (by kernel_rfl) (by kernel_rfl)
instance st31 : StF Tryz.prog 31 [(0, 1), (1, 3), (4, 2)] (.agg #[.int .i64 0, .int .i64 0, .int .i64 0, .int .i64 0, .int .i64 0, .slice none 0 0]) := .of (by kernel_rfl) (by kernel_rfl)
instance st33 : StF Tryz.prog 33 [(0, 1), (1, 1), (2, 1), (3, 2), (5, 2)] (.agg #[.int .i64 0, .int .i64 0, .int .i64 0, .int .i64 0, .slice none 0 0, .int .i64 0, .slice none 0 0]) := .of (by kernel_rfl) (by kernel_rfl)
instance st35 : StF Tryz.prog 35 [(0, 6), (6, 7)] (.agg #[.int .i64 0, .int .i64 0, .int .i64 0, .int .i64 0, .int .i64 0, .slice none 0 0, .int .i64 0, .int .i64 0, .int .i64 0, .int .i64 0, .slice none 0 0, .int .i64 0, .slice none 0 0]) := .of (by kernel_rfl) (by kernel_rfl)
instance st64 : StF Tryz.prog 64 [(0, 13), (13, 1)] (.agg #[.int .i64 0, .int .i64 0, .int .i64 0, .int .i64 0, .int .i64 0, .slice none 0 0, .int .i64 0, .int .i64 0, .int .i64 0, .int .i64 0, .slice none 0 0, .int .i64 0, .slice none 0 0, .int .i64 0]) := .of (by kernel_rfl) (by kernel_rfl)
instance st88 : StF Tryz.prog 88 [(0, 1), (1, 1)] (.agg #[.int .i64 0, .int .i64 0]) := .of (by kernel_rfl) (by kernel_rfl)
instance st104 : StF Tryz.prog 104 [(0, 6), (6, 1), (7, 1)] (.agg #[.int .i64 0, .int .i64 0, .int .i64 0, .int .i64 0, .int .i64 0, .slice none 0 0, .slice none 0 0, .slice none 0 0]) := .of (by kernel_rfl) (by kernel_rfl)
instance st131 : StF Tryz.prog 131 [] (.agg #[]) := .of (by kernel_rfl) (by kernel_rfl)
instance st142 : StF Tryz.prog 142 [(0, 2), (2, 1)] (.agg #[.int .i64 0, .slice none 0 0, .int .i64 0]) := .of (by kernel_rfl) (by kernel_rfl)
instance st159 : StF Tryz.prog 159 [(0, 1), (1, 2)] (.agg #[.int .i64 0, .int .i64 0, .slice none 0 0]) := .of (by kernel_rfl) (by kernel_rfl)
instance st165 : StF Tryz.prog 165 [(0, 2), (2, 1)] (.agg #[.int .i64 0, .slice none 0 0, .int .i64 0]) := .of (by kernel_rfl) (by kernel_rfl)
instance st174 : StF Tryz.prog 174 [] (.agg #[]) := .of (by kernel_rfl) (by kernel_rfl)
instance st179 : StF Tryz.prog 179 [(0, 2), (2, 1)] (.agg #[.int .i64 0, .slice none 0 0, .bool false]) := .of (by kernel_rfl) (by kernel_rfl)
instance st189 : StF Tryz.prog 189 [(0, 1), (1, 1)] (.agg #[.int .i64 0, .int .i64 0]) := .of (by kernel_rfl) (by kernel_rfl)
instance st215 : StF Tryz.prog 215 [(0, 2)] (.agg #[.int .i64 0, .slice none 0 0]) := .of (by kernel_rfl) (by kernel_rfl)
instance st248 : StF Tryz.prog 248 [(0, 1), (1, 1)] (.agg #[.int .i64 0, .bool false]) := .of (by kernel_rfl) (by kernel_rfl)
instance st254 : StF Tryz.prog 254 [(0, 1), (1, 1), (2, 1)] (.agg #[.slice none 0 0, .bool false, .int .i64 0]) := .of (by kernel_rfl) (by kernel_rfl)
instance se88 : StE2 Tryz.prog 88 .i64 .i64 := ⟨_, _, Tryz.underlying88, by kernel_rfl, by kernel_rfl, by decide, by decide, rfl, rfl, Tryz.underlying3, Tryz.underlying3⟩
theorem mixed : Tryz.prog.follows .mixedOrders = true := by kernel_rfl
instance en8 : EnC Tryz.prog 8 := ⟨qd Tryz.func8 rfl rfl⟩
instance en9 : EnC Tryz.prog 9 := ⟨qd Tryz.func9 rfl rfl⟩
instance en10 : EnC Tryz.prog 10 := ⟨qd Tryz.func10 rfl rfl⟩
instance en14 : EnC Tryz.prog 14 := ⟨qd Tryz.func14 rfl rfl⟩
instance en16 : EnC Tryz.prog 16 := ⟨qd Tryz.func16 rfl rfl⟩
instance en17 : EnC Tryz.prog 17 := ⟨qd Tryz.func17 rfl rfl⟩
instance en20 : EnC Tryz.prog 20 := ⟨qd Tryz.func20 rfl rfl⟩
instance en21 : EnC Tryz.prog 21 := ⟨qd Tryz.func21 rfl rfl⟩
instance en22 : EnC Tryz.prog 22 := ⟨qd Tryz.func22 rfl rfl⟩
instance en23 : EnC Tryz.prog 23 := ⟨qd Tryz.func23 rfl rfl⟩
instance en24 : EnC Tryz.prog 24 := ⟨qd Tryz.func24 rfl rfl⟩
theorem ent25 : Enters Tryz.prog 25 := qd Tryz.func25 rfl rfl
instance en25 : EnC Tryz.prog 25 := ⟨ent25⟩
instance en26 : EnC Tryz.prog 26 := ⟨qd Tryz.func26 rfl rfl⟩
instance en32 : EnC Tryz.prog 32 := ⟨qd Tryz.func32 rfl rfl⟩
instance en34 : EnC Tryz.prog 34 := ⟨qd Tryz.func34 rfl rfl⟩
instance en35 : EnC Tryz.prog 35 := ⟨qd Tryz.func35 rfl rfl⟩
instance en37 : EnC Tryz.prog 37 := ⟨qd Tryz.func37 rfl rfl⟩
instance en38 : EnC Tryz.prog 38 := ⟨qd Tryz.func38 rfl rfl⟩
instance en39 : EnC Tryz.prog 39 := ⟨qd Tryz.func39 rfl rfl⟩
instance en40 : EnC Tryz.prog 40 := ⟨qd Tryz.func40 rfl rfl⟩
instance en41 : EnC Tryz.prog 41 := ⟨qd Tryz.func41 rfl rfl⟩
instance en42 : EnC Tryz.prog 42 := ⟨qd Tryz.func42 rfl rfl⟩
instance en43 : EnC Tryz.prog 43 := ⟨qd Tryz.func43 rfl rfl⟩
instance en44 : EnC Tryz.prog 44 := ⟨qd Tryz.func44 rfl rfl⟩
theorem ent45 : Enters Tryz.prog 45 := qd Tryz.func45 rfl rfl
instance en45 : EnC Tryz.prog 45 := ⟨ent45⟩
instance en46 : EnC Tryz.prog 46 := ⟨qd Tryz.func46 rfl rfl⟩
instance en47 : EnC Tryz.prog 47 := ⟨qd Tryz.func47 rfl rfl⟩
instance en48 : EnC Tryz.prog 48 := ⟨qd Tryz.func48 rfl rfl⟩
instance en49 : EnC Tryz.prog 49 := ⟨qd Tryz.func49 rfl rfl⟩
instance en50 : EnC Tryz.prog 50 := ⟨qd Tryz.func50 rfl rfl⟩
instance en51 : EnC Tryz.prog 51 := ⟨qd Tryz.func51 rfl rfl⟩
instance en52 : EnC Tryz.prog 52 := ⟨qd Tryz.func52 rfl rfl⟩
instance en53 : EnC Tryz.prog 53 := ⟨qd Tryz.func53 rfl rfl⟩
theorem ent54 : Enters Tryz.prog 54 := qd Tryz.func54 rfl rfl
instance en54 : EnC Tryz.prog 54 := ⟨ent54⟩
theorem ent55 : Enters Tryz.prog 55 := qd Tryz.func55 rfl rfl
instance en55 : EnC Tryz.prog 55 := ⟨ent55⟩
theorem ent56 : Enters Tryz.prog 56 := qd Tryz.func56 rfl rfl
instance en56 : EnC Tryz.prog 56 := ⟨ent56⟩
instance en57 : EnC Tryz.prog 57 := ⟨qd Tryz.func57 rfl rfl⟩
instance en58 : EnC Tryz.prog 58 := ⟨qd Tryz.func58 rfl rfl⟩
instance en70 : EnC Tryz.prog 70 := ⟨qd Tryz.func70 rfl rfl⟩
instance en71 : EnC Tryz.prog 71 := ⟨qd Tryz.func71 rfl rfl⟩
instance en72 : EnC Tryz.prog 72 := ⟨qd Tryz.func72 rfl rfl⟩
instance en73 : EnC Tryz.prog 73 := ⟨qd Tryz.func73 rfl rfl⟩
theorem ent74 : Enters Tryz.prog 74 := qd Tryz.func74 rfl rfl
instance en74 : EnC Tryz.prog 74 := ⟨ent74⟩
instance en75 : EnC Tryz.prog 75 := ⟨qd Tryz.func75 rfl rfl⟩
instance en76 : EnC Tryz.prog 76 := ⟨qd Tryz.func76 rfl rfl⟩
instance en77 : EnC Tryz.prog 77 := ⟨qd Tryz.func77 rfl rfl⟩
instance en78 : EnC Tryz.prog 78 := ⟨qd Tryz.func78 rfl rfl⟩
instance en79 : EnC Tryz.prog 79 := ⟨qd Tryz.func79 rfl rfl⟩
instance en80 : EnC Tryz.prog 80 := ⟨qd Tryz.func80 rfl rfl⟩
instance en81 : EnC Tryz.prog 81 := ⟨qd Tryz.func81 rfl rfl⟩
instance en82 : EnC Tryz.prog 82 := ⟨qd Tryz.func82 rfl rfl⟩
instance en83 : EnC Tryz.prog 83 := ⟨qd Tryz.func83 rfl rfl⟩
instance en84 : EnC Tryz.prog 84 := ⟨qd Tryz.func84 rfl rfl⟩
instance en85 : EnC Tryz.prog 85 := ⟨qd Tryz.func85 rfl rfl⟩
instance en86 : EnC Tryz.prog 86 := ⟨qd Tryz.func86 rfl rfl⟩
instance en98 : EnC Tryz.prog 98 := ⟨qd Tryz.func98 rfl rfl⟩
theorem ent101 : Enters Tryz.prog 101 := qd Tryz.func101 rfl rfl
instance en101 : EnC Tryz.prog 101 := ⟨ent101⟩
instance en102 : EnC Tryz.prog 102 := ⟨qd Tryz.func102 rfl rfl⟩
instance en103 : EnC Tryz.prog 103 := ⟨qd Tryz.func103 rfl rfl⟩
instance en104 : EnC Tryz.prog 104 := ⟨qd Tryz.func104 rfl rfl⟩
instance en105 : EnC Tryz.prog 105 := ⟨qd Tryz.func105 rfl rfl⟩
instance en106 : EnC Tryz.prog 106 := ⟨qd Tryz.func106 rfl rfl⟩
instance en107 : EnC Tryz.prog 107 := ⟨qd Tryz.func107 rfl rfl⟩
instance en108 : EnC Tryz.prog 108 := ⟨qd Tryz.func108 rfl rfl⟩
instance en109 : EnC Tryz.prog 109 := ⟨qd Tryz.func109 rfl rfl⟩
theorem ent110 : Enters Tryz.prog 110 := qd Tryz.func110 rfl rfl
instance en110 : EnC Tryz.prog 110 := ⟨ent110⟩
instance en111 : EnC Tryz.prog 111 := ⟨qd Tryz.func111 rfl rfl⟩
theorem ent112 : Enters Tryz.prog 112 := qd Tryz.func112 rfl rfl
instance en112 : EnC Tryz.prog 112 := ⟨ent112⟩
theorem ent113 : Enters Tryz.prog 113 := qd Tryz.func113 rfl rfl
instance en113 : EnC Tryz.prog 113 := ⟨ent113⟩
theorem ent114 : Enters Tryz.prog 114 := qd Tryz.func114 rfl rfl
instance en114 : EnC Tryz.prog 114 := ⟨ent114⟩
instance en115 : EnC Tryz.prog 115 := ⟨qd Tryz.func115 rfl rfl⟩
instance en116 : EnC Tryz.prog 116 := ⟨qd Tryz.func116 rfl rfl⟩
instance en117 : EnC Tryz.prog 117 := ⟨qd Tryz.func117 rfl rfl⟩
instance en138 : EnC Tryz.prog 138 := ⟨qd Tryz.func138 rfl rfl⟩
instance en139 : EnC Tryz.prog 139 := ⟨qd Tryz.func139 rfl rfl⟩
instance en140 : EnC Tryz.prog 140 := ⟨qd Tryz.func140 rfl rfl⟩
instance en141 : EnC Tryz.prog 141 := ⟨qd Tryz.func141 rfl rfl⟩
instance en142 : EnC Tryz.prog 142 := ⟨qd Tryz.func142 rfl rfl⟩
instance en143 : EnC Tryz.prog 143 := ⟨qd Tryz.func143 rfl rfl⟩
instance en144 : EnC Tryz.prog 144 := ⟨qd Tryz.func144 rfl rfl⟩
instance en145 : EnC Tryz.prog 145 := ⟨qd Tryz.func145 rfl rfl⟩
instance en146 : EnC Tryz.prog 146 := ⟨qd Tryz.func146 rfl rfl⟩
theorem ent147 : Enters Tryz.prog 147 := qd Tryz.func147 rfl rfl
instance en147 : EnC Tryz.prog 147 := ⟨ent147⟩
instance en148 : EnC Tryz.prog 148 := ⟨qd Tryz.func148 rfl rfl⟩
theorem ent149 : Enters Tryz.prog 149 := qd Tryz.func149 rfl rfl
instance en149 : EnC Tryz.prog 149 := ⟨ent149⟩
theorem ent150 : Enters Tryz.prog 150 := qd Tryz.func150 rfl rfl
instance en150 : EnC Tryz.prog 150 := ⟨ent150⟩
instance en151 : EnC Tryz.prog 151 := ⟨qd Tryz.func151 rfl rfl⟩
instance en152 : EnC Tryz.prog 152 := ⟨qd Tryz.func152 rfl rfl⟩
instance en153 : EnC Tryz.prog 153 := ⟨qd Tryz.func153 rfl rfl⟩
instance en154 : EnC Tryz.prog 154 := ⟨qd Tryz.func154 rfl rfl⟩
instance en155 : EnC Tryz.prog 155 := ⟨qd Tryz.func155 rfl rfl⟩
instance en156 : EnC Tryz.prog 156 := ⟨qd Tryz.func156 rfl rfl⟩
instance en157 : EnC Tryz.prog 157 := ⟨qd Tryz.func157 rfl rfl⟩
instance en158 : EnC Tryz.prog 158 := ⟨qd Tryz.func158 rfl rfl⟩
instance en159 : EnC Tryz.prog 159 := ⟨qd Tryz.func159 rfl rfl⟩
instance en160 : EnC Tryz.prog 160 := ⟨qd Tryz.func160 rfl rfl⟩
instance en161 : EnC Tryz.prog 161 := ⟨qd Tryz.func161 rfl rfl⟩
instance en162 : EnC Tryz.prog 162 := ⟨qd Tryz.func162 rfl rfl⟩
instance en163 : EnC Tryz.prog 163 := ⟨qd Tryz.func163 rfl rfl⟩
instance en171 : EnC Tryz.prog 171 := ⟨qd Tryz.func171 rfl rfl⟩
instance en172 : EnC Tryz.prog 172 := ⟨qd Tryz.func172 rfl rfl⟩
instance en173 : EnC Tryz.prog 173 := ⟨qd Tryz.func173 rfl rfl⟩
theorem ent174 : Enters Tryz.prog 174 := qd Tryz.func174 rfl rfl
instance en174 : EnC Tryz.prog 174 := ⟨ent174⟩
theorem ent175 : Enters Tryz.prog 175 := qd Tryz.func175 rfl rfl
instance en175 : EnC Tryz.prog 175 := ⟨ent175⟩
instance en176 : EnC Tryz.prog 176 := ⟨qd Tryz.func176 rfl rfl⟩
instance en177 : EnC Tryz.prog 177 := ⟨qd Tryz.func177 rfl rfl⟩
instance en178 : EnC Tryz.prog 178 := ⟨qd Tryz.func178 rfl rfl⟩
instance en179 : EnC Tryz.prog 179 := ⟨qd Tryz.func179 rfl rfl⟩
instance en180 : EnC Tryz.prog 180 := ⟨qd Tryz.func180 rfl rfl⟩
instance en181 : EnC Tryz.prog 181 := ⟨qd Tryz.func181 rfl rfl⟩
instance en182 : EnC Tryz.prog 182 := ⟨qd Tryz.func182 rfl rfl⟩
instance en183 : EnC Tryz.prog 183 := ⟨qd Tryz.func183 rfl rfl⟩
instance en184 : EnC Tryz.prog 184 := ⟨qd Tryz.func184 rfl rfl⟩
instance en186 : EnC Tryz.prog 186 := ⟨qd Tryz.func186 rfl rfl⟩
instance en187 : EnC Tryz.prog 187 := ⟨qd Tryz.func187 rfl rfl⟩
instance en188 : EnC Tryz.prog 188 := ⟨qd Tryz.func188 rfl rfl⟩
instance en189 : EnC Tryz.prog 189 := ⟨qd Tryz.func189 rfl rfl⟩
instance en190 : EnC Tryz.prog 190 := ⟨qd Tryz.func190 rfl rfl⟩
instance en196 : EnC Tryz.prog 196 := ⟨qd Tryz.func196 rfl rfl⟩
instance en197 : EnC Tryz.prog 197 := ⟨qd Tryz.func197 rfl rfl⟩
instance en198 : EnC Tryz.prog 198 := ⟨qd Tryz.func198 rfl rfl⟩
instance en199 : EnC Tryz.prog 199 := ⟨qd Tryz.func199 rfl rfl⟩
instance en200 : EnC Tryz.prog 200 := ⟨qd Tryz.func200 rfl rfl⟩
instance en201 : EnC Tryz.prog 201 := ⟨qd Tryz.func201 rfl rfl⟩
instance en202 : EnC Tryz.prog 202 := ⟨qd Tryz.func202 rfl rfl⟩
theorem ent211 : Enters Tryz.prog 211 := qd Tryz.func211 rfl rfl
instance en211 : EnC Tryz.prog 211 := ⟨ent211⟩
instance en212 : EnC Tryz.prog 212 := ⟨qd Tryz.func212 rfl rfl⟩
instance en213 : EnC Tryz.prog 213 := ⟨qd Tryz.func213 rfl rfl⟩
instance en214 : EnC Tryz.prog 214 := ⟨qd Tryz.func214 rfl rfl⟩
theorem qrd (v : Value) (w : World) : (Instr.makeInterface 174 v).run Tryz.prog w = .ok (.iface 174 v) w := by simp [Instr.makeInterface, run_underlying Tryz.underlying174]
abbrev lostCh : List PanicEntry := [{ v := .iface 174 (.agg #[]), recovered := false }]
theorem qra (p q : Addr) : qhY Tryz.prog 112 #[.pointer (some p), .pointer (some q)] := by
  intro w
  refine callsD_of_wpS Tryz.func112 rfl fun c₀ cs hu => ?_
  apply wpS_seq
  apply wpS_region
  simp [wpOpsS, go_sem, recoverD, hu, Tryz.ntmps112, Exit.thenS]
  refine wpS_of_wp ?_
  go_wp2
  cases c₀
  simp_all [bodyPostS, results, Tryz.results112]
theorem qnQ (w : World) : (Instr.typeAssert (.iface 174 (.agg #[])) 20 174 true).run Tryz.prog w = .ok (.tuple #[.agg #[], .bool true]) w := by
  simp [Instr.typeAssert, run_underlying Tryz.underlying174]
theorem eqn112 (x y : Operand) (w : World) : (do eqGuard .eql 20 x y (.iface 174 (.agg #[])) .nilIface; binOp .eql 20 (.iface 174 (.agg #[])) .nilIface : Sem Value).run Tryz.prog w = .ok (.bool false) w := by
  simp [go_sem]
set_option maxRecDepth 100000 in
theorem qfp (g1 g2 : Nat) (v1 v2 : Value) : qhZ Tryz.prog 112 #[.pointer (some ⟨g1, 0, none⟩), .pointer (some ⟨g2, 0, none⟩)] 174 (.agg #[]) [⟨g1, 39, [v1]⟩, ⟨g2, 4, [v2]⟩] [⟨g1, 39, [.slice none 0 0]⟩, ⟨g2, 4, [.bool false]⟩] := by
  intro w hp
  refine callsD_of_wpS Tryz.func112 rfl fun c₀ cs hu => ?_
  apply wpS_seq
  apply wpS_region
  simp [wpOpsS, go_sem, recoverD, hu, Tryz.ntmps112, Exit.thenS]
  refine wpS_of_wp (qeb.1 ?_)
  refine (show SXC Tryz.prog none 11 [] (muts [⟨g1, 39, [v1]⟩, ⟨g2, 4, [v2]⟩] []) w _ _ [(0, .pointer (some ⟨g1, 0, none⟩)), (1, .pointer (some ⟨g2, 0, none⟩)), (5, .iface 174 (.agg #[]))] [⟨g1, 39, [v1]⟩, ⟨g2, 4, [v2]⟩] [] [] (some ()) () from ?_) rfl _ _ ⟨rfl, by simp, fun i v hv => ?_⟩ hp
  · refine qiv ?_
    refine qan ?_
    refine kr ?_
    refine qlc rfl rfl rfl (eqn112 _ _) rfl ?_
    refine vR ?_
    refine vH ?_
    refine yX (b := false) rfl (fun h => by cases h) (fun _ => ?_)
    refine qan ?_
    refine kr ?_
    refine qjI rfl rfl qnQ rfl ?_
    refine ji rfl rfl rfl rfl ?_
    refine ji rfl rfl rfl rfl ?_
    refine vR ?_
    refine vH ?_
    refine yX (b := true) rfl (fun _ => ?_) (fun h => by cases h)
    refine qan ?_
    refine kr ?_
    refine qf3 rfl tf174 rfl (fun g => ?_)
    refine yY (i := 0) rfl rfl rfl tf174 rfl rfl rfl rfl rfl ?_
    refine vR ?_
    refine vH ?_
    refine kr ?_
    refine yY (i := 1) rfl rfl rfl tf39 rfl rfl rfl rfl rfl ?_
    refine yY (i := 2) rfl rfl rfl tf4 rfl rfl rfl rfl rfl ?_
    refine vR ?_
    refine qlh ?_
    intro _ a w' hf hp'
    exact ⟨hf.defers, _, rfl, _, results_none rfl _ _ _, rfl, rfl, hp'.pick (.cons 1 rfl (.cons 1 rfl .nil)) .nil (by simp)⟩
  · simp only [ja] at hv
    split at hv
    · rename_i h; subst h; simpa using hv
    · split at hv
      · rename_i h; subst h; simpa using hv
      · split at hv
        · rename_i h; subst h; simpa using hv
        · cases hv
theorem qp2 (cb : Array Value) : qi3 Tryz.prog 73 45 2 (fun l => .agg l.toArray) cb :=
  qog fun _ _ enc hk h1 cf hO blk cap d w hc hH hb hsz hT => Go.Proofs.AnyQ.slices_SortFunc_total Tryz.sortf73 2 tf88.run_isAgg tf88.run_size enc hk h1 cf hO 45 cb blk 0 cap d w ent45 hc hH hb hsz hT
instance un2 : UnF Tryz.prog 2 (.int .i64) := ⟨Tryz.underlying2⟩
instance un3 : UnF Tryz.prog 3 (.int .i64) := ⟨Tryz.underlying3⟩
instance un4 : UnF Tryz.prog 4 .bool := ⟨Tryz.underlying4⟩
instance un5 : UnF Tryz.prog 5 (.int .u8) := ⟨Tryz.underlying5⟩
instance un9 : UnF Tryz.prog 9 .string := ⟨Tryz.underlying9⟩
instance un22 : UnF Tryz.prog 22 (.slice 39) := ⟨Tryz.underlying22⟩
instance un27 : UnF Tryz.prog 27 (.slice 5) := ⟨Tryz.underlying27⟩
instance un39 : UnF Tryz.prog 39 (.slice 3) := ⟨Tryz.underlying39⟩
instance un85 : UnF Tryz.prog 85 (.slice 88) := ⟨Tryz.underlying85⟩
instance un110 : UnF Tryz.prog 110 (.int .u64) := ⟨Tryz.underlying110⟩
instance un119 : UnF Tryz.prog 119 (.int .u64) := ⟨Tryz.underlying119⟩
instance un184 : UnF Tryz.prog 184 (.slice 189) := ⟨Tryz.underlying184⟩
instance un191 : UnF Tryz.prog 191 (.slice 119) := ⟨Tryz.underlying191⟩
set_option maxRecDepth 100000 in
theorem au0 (p : List Nat) {A B : Prop} (t : B → Stp p A := by
  intro h
  repeat (first
    | exact stp0 h
    | (refine stc 0 ?_; refine stk (fun h => vR h) ?_)
    | (refine stc 1 ?_; refine stk (fun h => vH h) ?_)
    | (refine stc 2 ?_; refine stk (fun h => qan h) ?_)
    | (refine stc 3 ?_; refine stk (fun h => yE rfl rfl rfl h) ?_)
    | (refine stc 4 ?_; refine stk (fun h => kr h) ?_)
    | (refine stc 5 ?_; refine stk (fun h => vO rfl rfl rfl h) ?_)
    | (refine stc 6 ?_; refine stk (fun h => qqA rfl rfl rfl h) ?_)
    | (refine stc 7 ?_; refine qfz rfl rfl rfl (jc rfl) ?_)
    | (refine stc 8 ?_; refine stk (fun h => qnu h) ?_)
    | (refine stc 9 ?_; refine stk (fun h => kg rfl rfl inferInstance rfl h) ?_)
    | (refine stc 10 ?_; refine stk (fun h => qoy h) ?_)
    | (refine stc 11 ?_; refine stk (fun h => qqp rfl (And.left h) (And.right h)) ?_)
    | (refine stc 12 ?_; refine stk (fun h => qk9 h) ?_)
    | (refine stc 13 ?_; refine stk (fun h => ji rfl rfl rfl rfl h) ?_)
    | (refine stc 14 ?_; refine qry rfl rfl rfl ?_)
    | (refine stc 15 ?_; refine stk (fun h => qiv h) ?_)
    | (refine stc 16 ?_; exact stz (qow))
    | (refine stc 17 ?_; exact stz (qy ()))
    | (refine stc 18 ?_; refine stk (fun h => yb (i := 0) rfl rfl inferInstance rfl rfl (fun _ => rfl) rfl rfl h) ?_)
    | (refine stc 19 ?_; refine stk (fun h => qnv rfl rfl rfl rfl h) ?_)
    | (refine stc 20 ?_; refine stk (fun h => qoz h) ?_)
    | (refine stc 21 ?_; refine qfz rfl rfl rfl (vI rfl inferInstance) ?_)
    | (refine stc 22 ?_; refine stk (fun h => qrH rfl rfl rfl h) ?_)
    | (refine stc 23 ?_; refine stk (fun h => qlg (b := true) rfl rfl rfl rfl h) ?_)
    | (refine stc 24 ?_; first
      | (refine sta 0 ?_; refine stk (fun h => qlg (b := false) rfl rfl rfl rfl h) ?_)
      | (refine sta 1 ?_; refine stk (fun h => qqC h) ?_)
      | (refine sta 2 ?_; refine stk (fun h => yY (i := 0) rfl rfl rfl inferInstance rfl rfl rfl rfl rfl h) ?_)
      | (refine sta 3 ?_; refine qrz rfl (by kernel_rfl) rfl ?_)
      | (refine sta 4 ?_; refine stk (fun h => qrP rfl rfl rfl rfl h) ?_)
      | (refine sta 5 ?_; refine stk (fun h => qlh h) ?_)
      | (refine sta 6 ?_; refine stk (fun h => qrN rfl UnF.u rfl rfl h) ?_)
      | (refine sta 7 ?_; refine stk (fun h => qf3 rfl inferInstance rfl h) ?_)
      | (refine sta 8 ?_; refine stk (fun h => yb (i := 0) rfl rfl inferInstance rfl rfl (by simp) rfl rfl h) ?_)
      | (refine sta 9 ?_; refine stk (fun h => qk4 (by kernel_rfl) h) ?_)
      | (refine sta 10 ?_; refine stk (fun h => qqj h) ?_)
      | (refine sta 11 ?_; refine stk (fun h => qqn h) ?_)
      | (refine sta 12 ?_; refine stk (fun h => qqD h) ?_)
      | (refine sta 13 ?_; refine stk (fun h => qrL rfl rfl rfl rfl h) ?_)
      | (refine sta 14 ?_; refine stk (fun h => qnx rfl rfl rfl rfl h) ?_)
      | (refine sta 15 ?_; refine stk (fun h => yY (i := 1) rfl rfl rfl inferInstance rfl rfl rfl rfl rfl h) ?_))
    | (refine stc 25 ?_; first
      | (refine sta 0 ?_; refine stk (fun h => qaK rfl rfl rfl h) ?_)
      | (refine sta 1 ?_; refine stk (fun h => qrV rfl rfl rfl rfl h) ?_)
      | (refine sta 2 ?_; refine qfy rfl rfl rfl (zI (i := 0) rfl inferInstance rfl rfl (fun _ => rfl) rfl) ?_)
      | (refine sta 3 ?_; refine stk (fun h => qqi h) ?_)
      | (refine sta 4 ?_; refine stk (fun h => qrW rfl rfl rfl h) ?_)
      | (refine sta 5 ?_; refine stk (fun h => qnz rfl rfl rfl rfl h) ?_)
      | (refine sta 6 ?_; refine stk (fun h => yb (i := 1) rfl rfl inferInstance rfl rfl (fun _ => rfl) rfl rfl h) ?_)
      | (refine sta 7 ?_; refine stk (fun h => yb (i := 1) rfl rfl inferInstance rfl rfl (by simp) rfl rfl h) ?_)
      | (refine sta 8 ?_; refine stk (fun h => qox h) ?_)
      | (refine sta 9 ?_; refine stk (fun h => qs3 (And.left h) (And.right h)) ?_)
      | (refine sta 10 ?_; refine stk (fun h => qc0 Int (eI .i64) 3 1 h) ?_)
      | (refine sta 11 ?_; refine stk (fun h => qc0 Int (eI .u8) 5 1 h) ?_)
      | (refine sta 12 ?_; refine stk (fun h => qqt rfl UnF.u UnF.u rfl rfl h) ?_)
      | (refine sta 13 ?_; refine stk (fun h => qix (j := 0) rfl rfl inferInstance rfl rfl (fun _ => rfl) rfl rfl h) ?_)
      | (refine sta 14 ?_; refine stk (fun h => yb (i := 2) rfl rfl inferInstance rfl rfl (by simp) rfl rfl h) ?_)
      | (refine sta 15 ?_; exact stz (qb ((), ()))))
    | (refine stc 26 ?_; first
      | (refine sta 0 ?_; refine stk (fun h => qqk h) ?_)
      | (refine sta 1 ?_; refine stk (fun h => qrJ h) ?_)
      | (refine sta 2 ?_; refine stk (fun h => qrM rfl rfl rfl rfl h) ?_)
      | (refine sta 3 ?_; refine stk (fun h => kj (.cons 2 rfl .nil) (qW 0 rfl qB) h) ?_)
      | (refine sta 4 ?_; refine stk (fun h => kj (.cons 1 rfl (.cons 1 rfl .nil)) (qW 0 rfl qB) h) ?_)
      | (refine sta 5 ?_; refine stk (fun h => qqF (List Int) (Option Addr × Nat) eN39 rN39 39 1 h) ?_)
      | (refine sta 6 ?_; refine stk (fun h => qbf (j := 0) (qP .i64) (by decide) rfl UnF.u inferInstance rfl rfl rfl rfl h) ?_)
      | (refine sta 7 ?_; refine stk (fun h => kj (.cons 0 rfl (.cons 1 rfl .nil)) (qW 0 rfl (qgp 1 rfl qB)) h) ?_)
      | (refine sta 8 ?_; exact stz (qiy (.cons 0 rfl .nil)))
      | (refine sta 9 ?_; refine stk (fun h => qqx h) ?_)
      | (refine sta 10 ?_; refine stk (fun h => yY (i := 2) rfl rfl rfl inferInstance rfl rfl rfl rfl rfl h) ?_)
      | (refine sta 11 ?_; refine stk (fun h => yb (i := 2) rfl rfl inferInstance rfl rfl (fun _ => rfl) rfl rfl h) ?_)
      | (refine sta 12 ?_; refine stk (fun h => qrE h) ?_)
      | (refine sta 13 ?_; refine qfy rfl rfl rfl (zI (i := 1) rfl inferInstance rfl rfl (fun _ => rfl) rfl) ?_)
      | (refine sta 14 ?_; refine stk (fun h => qrO rfl rfl rfl rfl h) ?_)
      | (refine sta 15 ?_; refine stk (fun h => qql h) ?_))
    | (refine stc 27 ?_; first
      | (refine sta 0 ?_; refine stk (fun h => qem Int (eI .u8) 5 1 h) ?_)
      | (refine sta 1 ?_; refine stk (fun h => qem Int (eI .i64) 3 1 h) ?_)
      | (refine sta 2 ?_; refine stk (fun h => qqB h) ?_)
      | (refine sta 3 ?_; refine stk (fun h => qdS 0 rfl h) ?_)
      | (refine sta 4 ?_; refine stk (fun h => qf qlp h) ?_)
      | (refine sta 5 ?_; refine stk (fun h => qcY Int (eI .i64) 3 1 h) ?_)
      | (refine sta 6 ?_; refine stk (fun h => qz qez h) ?_)
      | (refine sta 7 ?_; refine qfz rfl rfl rfl (qs8 UnF.u rfl) ?_)
      | (refine sta 8 ?_; refine stk (fun h => ql8 (j := 0) km (by decide) rfl UnF.u inferInstance rfl rfl rfl rfl h) ?_)
      | (refine sta 9 ?_; refine stk (fun h => qjJ rfl rfl rfl h) ?_)
      | (refine sta 10 ?_; refine stk (fun h => qf qnN h) ?_)
      | (refine sta 11 ?_; refine stk (fun h => yb (i := 3) rfl rfl inferInstance rfl rfl (fun _ => rfl) rfl rfl h) ?_)
      | (refine sta 12 ?_; refine stk (fun h => qfC rfl rfl rfl rfl rfl h) ?_)
      | (refine sta 13 ?_; refine stk (fun h => qrQ rfl rfl rfl rfl h) ?_)
      | (refine sta 14 ?_; refine stk (fun h => qix (j := 0) rfl rfl inferInstance rfl rfl (by simp) rfl rfl h) ?_)
      | (refine sta 15 ?_; refine stk (fun h => qbH 24 rfl (by kernel_rfl) (.cons 0 rfl (.cons 1 rfl .nil)) h) ?_))
    | (refine stc 28 ?_; first
      | (refine sta 0 ?_; refine stk (fun h => qf qhG h) ?_)
      | (refine sta 1 ?_; refine stk (fun h => qqz (qP .i64) rfl UnF.u inferInstance rfl rfl rfl rfl rfl rfl rfl h) ?_)
      | (refine sta 2 ?_; refine stk (fun h => qs2 (And.left h) (And.right h)) ?_)
      | (refine sta 3 ?_; refine stk (fun h => qom (And.left h) (And.right h)) ?_)
      | (refine sta 4 ?_; refine stk (fun h => qf qiN h) ?_)
      | (refine sta 5 ?_; refine stk (fun h => kj (.cons 1 rfl (.cons 1 rfl .nil)) (qW 0 rfl (qW 1 rfl (qW 2 rfl (qW 3 rfl qB)))) h) ?_)
      | (refine sta 6 ?_; refine stk (fun h => qqo (j := 0) rfl h) ?_)
      | (refine sta 7 ?_; refine stk (fun h => qrG rfl rfl rfl rfl h) ?_)
      | (refine sta 8 ?_; refine stk (fun h => qz qjX h) ?_)
      | (refine sta 9 ?_; refine stk (fun h => qf qgk h) ?_)
      | (refine sta 10 ?_; refine stk (fun h => qbf (j := 1) (qP .i64) (by decide) rfl UnF.u inferInstance rfl rfl rfl rfl h) ?_)
      | (refine sta 11 ?_; refine stk (fun h => yY (i := 3) rfl rfl rfl inferInstance rfl rfl rfl rfl rfl h) ?_)
      | (refine sta 12 ?_; refine stk (fun h => kj (.cons 0 rfl (.cons 0 rfl (.cons 0 rfl (.cons 0 rfl (.cons 0 rfl .nil))))) (qW 0 rfl qB) h) ?_)
      | (refine sta 13 ?_; refine stk (fun h => qrS rfl rfl rfl rfl h) ?_)
      | (refine sta 14 ?_; refine stk (fun h => qf qjY h) ?_)
      | (refine sta 15 ?_; refine stk (fun h => qe1 (j := 0) rfl UnF.u inferInstance rfl rfl rfl rfl h) ?_))
    | (refine stc 29 ?_; first
      | (refine sta 0 ?_; refine stk (fun h => qdS 1 rfl h) ?_)
      | (refine sta 1 ?_; refine stk (fun h => qf qdf h) ?_)
      | (refine sta 2 ?_; refine stk (fun h => kj (.cons 0 rfl .nil) (qW 0 rfl (qW 1 rfl qB)) h) ?_)
      | (refine sta 3 ?_; refine stk (fun h => qf qhQ h) ?_)
      | (refine sta 4 ?_; refine stk (fun h => qf qiF h) ?_)
      | (refine sta 5 ?_; refine stk (fun h => qz qj3 h) ?_)
      | (refine sta 6 ?_; refine stk (fun h => kj (.cons 0 rfl (.cons 0 rfl .nil)) qB h) ?_)
      | (refine sta 7 ?_; refine stk (fun h => qe1 (j := 1) rfl UnF.u inferInstance rfl rfl rfl rfl h) ?_)
      | (refine sta 8 ?_; refine stk (fun h => kj (.cons 0 rfl .nil) (qW 0 rfl qB) h) ?_)
      | (refine sta 9 ?_; refine stk (fun h => qjK rfl rfl rfl rfl rfl h) ?_)
      | (refine sta 10 ?_; refine stk (fun h => qf qfb h) ?_)
      | (refine sta 11 ?_; refine stk (fun h => kj .nil (qgp 0 rfl qB) h) ?_)
      | (refine sta 12 ?_; refine stk (fun h => qf qb7 h) ?_)
      | (refine sta 13 ?_; refine qfy rfl rfl rfl (zI (i := 2) rfl inferInstance rfl rfl (fun _ => rfl) rfl) ?_)
      | (refine sta 14 ?_; refine stk (fun h => qbf (j := 0) qds (by decide) rfl UnF.u inferInstance rfl rfl rfl rfl h) ?_)
      | (refine sta 15 ?_; exact stz (q7 ())))
    | (refine stc 30 ?_; first
      | (refine sta 0 ?_; refine stk (fun h => qqm h) ?_)
      | (refine sta 1 ?_; refine stk (fun h => kj (.cons 0 rfl (.cons 0 rfl .nil)) (qW 0 rfl qB) h) ?_)
      | (refine sta 2 ?_; refine stk (fun h => qz qlt h) ?_)
      | (refine sta 3 ?_; refine stk (fun h => qf qiZ h) ?_)
      | (refine sta 4 ?_; refine stk (fun h => qcY Int (eI .u8) 5 1 h) ?_)
      | (refine sta 5 ?_; refine stk (fun h => qf qiG h) ?_)
      | (refine sta 6 ?_; refine stk (fun h => kx 0 (qP .i64) rfl UnF.u inferInstance rfl rfl rfl rfl rfl (.inr ⟨0, rfl⟩) rfl rfl h) ?_)
      | (refine sta 7 ?_; refine stk (fun h => zJ 0 _ rfl rfl rfl (jc rfl) rfl h) ?_)
      | (refine sta 8 ?_; refine stk (fun h => zJ 1 _ rfl rfl rfl (jc rfl) rfl h) ?_)
      | (refine sta 9 ?_; refine stk (fun h => zJ 2 _ rfl rfl rfl (vI rfl inferInstance) rfl h) ?_)
      | (refine sta 10 ?_; refine stk (fun h => zJ 4 _ rfl rfl rfl (jc rfl) rfl h) ?_)
      | (refine sta 11 ?_; refine stk (fun h => kj (.cons 0 rfl (.cons 0 rfl (.cons 0 rfl (.cons 0 rfl .nil)))) (qW 0 rfl qB) h) ?_)
      | (refine sta 12 ?_; refine stk (fun h => kj (.cons 0 rfl (.cons 0 rfl .nil)) (qW 0 rfl (qW 1 rfl qB)) h) ?_)
      | (refine sta 13 ?_; refine stk (fun h => qf qhP h) ?_)
      | (refine sta 14 ?_; refine stk (fun h => qf qiX h) ?_)
      | (refine sta 15 ?_; refine stk (fun h => qqh h) ?_))
    | (refine stc 31 ?_; first
      | (refine sta 0 ?_; refine stk (fun h => qf qhO h) ?_)
      | (refine sta 1 ?_; refine stk (fun h => qbf (j := 0) kT (by decide) rfl UnF.u inferInstance rfl rfl rfl rfl h) ?_)
      | (refine sta 2 ?_; refine stk (fun h => qf qhF h) ?_)
      | (refine sta 3 ?_; refine stk (fun h => qf qhB h) ?_)
      | (refine sta 4 ?_; refine stk (fun h => qop rfl UnF.u rfl rfl rfl h) ?_)
      | (refine sta 5 ?_; refine stk (fun h => yX rfl (And.left h) (And.right h)) ?_)
      | (refine sta 6 ?_; refine stk (fun h => kj (.cons 1 rfl .nil) (qW 0 rfl qB) h) ?_)
      | (refine sta 7 ?_; refine stk (fun h => qrX rfl rfl rfl rfl rfl h) ?_)
      | (refine sta 8 ?_; refine qfz rfl rfl rfl (qr2 UnF.u UnF.u rfl) ?_)
      | (refine sta 9 ?_; refine stk (fun h => qz qlq h) ?_)
      | (refine sta 10 ?_; refine stk (fun h => yb (i := 3) rfl rfl inferInstance rfl rfl (by simp) rfl rfl h) ?_)
      | (refine sta 11 ?_; refine stk (fun h => qz qe5 h) ?_)
      | (refine sta 12 ?_; refine stk (fun h => qf qka h) ?_)
      | (refine sta 13 ?_; refine stk (fun h => qf qj2 h) ?_)
      | (refine sta 14 ?_; refine stk (fun h => qbH 18 rfl (by kernel_rfl) (.cons 0 rfl .nil) h) ?_)
      | (refine sta 15 ?_; refine stk (fun h => qf qfH h) ?_))
    | (refine stc 32 ?_; first
      | (refine sta 0 ?_; refine stk (fun h => qz qfc h) ?_)
      | (refine sta 1 ?_; refine stk (fun h => qf qeN h) ?_)
      | (refine sta 2 ?_; refine stk (fun h => qcd (j := 0) (qP .i64) (by decide) rfl h) ?_)
      | (refine sta 3 ?_; refine stk (fun h => qev (i := 4) rfl h) ?_)
      | (refine sta 4 ?_; refine qfy rfl rfl rfl (zI (i := 3) rfl inferInstance rfl rfl (fun _ => rfl) rfl) ?_)
      | (refine sta 5 ?_; refine stk (fun h => qeu rfl rfl rfl rfl rfl h) ?_)
      | (refine sta 6 ?_; refine stk (fun h => qrY rfl rfl rfl rfl h) ?_)
      | (refine sta 7 ?_; refine stk (fun h => qf qhS h) ?_)
      | (refine sta 8 ?_; refine stk (fun h => qf qgF h) ?_)
      | (refine sta 9 ?_; refine stk (fun h => qhv 2 rfl h) ?_)
      | (refine sta 10 ?_; refine stk (fun h => qf qlu h) ?_)
      | (refine sta 11 ?_; refine stk (fun h => qz qeR h) ?_)
      | (refine sta 12 ?_; refine stk (fun h => qf qj6 h) ?_)
      | (refine sta 13 ?_; refine stk (fun h => qz qhI h) ?_)
      | (refine sta 14 ?_; refine stk (fun h => qf qiM h) ?_)
      | (refine sta 15 ?_; refine stk (fun h => qz qeI h) ?_))
    | (refine stc 33 ?_; first
      | (refine sta 0 ?_; refine stk (fun h => qf qiL h) ?_)
      | (refine sta 1 ?_; refine stk (fun h => qf qls h) ?_)
      | (refine sta 2 ?_; refine stk (fun h => qf qj5 h) ?_)
      | (refine sta 3 ?_; refine stk (fun h => qf qiK h) ?_)
      | (refine sta 4 ?_; refine stk (fun h => qf qiS h) ?_)
      | (refine sta 5 ?_; refine stk (fun h => qcd (j := 0) (qP .u8) (by decide) rfl h) ?_)
      | (refine sta 6 ?_; refine stk (fun h => qf qi2 h) ?_)
      | (refine sta 7 ?_; refine stk (fun h => qs4 rfl rfl rfl rfl h) ?_)
      | (refine sta 8 ?_; refine stk (fun h => qf qe7 h) ?_)
      | (refine sta 9 ?_; refine stk (fun h => ql (cells := []) rfl inferInstance rfl (by kernel_rfl) rfl h) ?_)
      | (refine sta 10 ?_; refine stk (fun h => qf qgo h) ?_)
      | (refine sta 11 ?_; exact stz (qqr))
      | (refine sta 12 ?_; refine stk (fun h => qrI rfl UnF.u rfl rfl h) ?_)
      | (refine sta 13 ?_; refine stk (fun h => qlb (i := 0) (qP .i64) rfl UnF.u inferInstance rfl rfl rfl rfl h) ?_)
      | (refine sta 14 ?_; refine stk (fun h => qf qhN h) ?_)
      | (refine sta 15 ?_; refine stk (fun h => qf qdp h) ?_))
    | (refine stc 34 ?_; first
      | (refine sta 0 ?_; refine stk (fun h => qz qd4 h) ?_)
      | (refine sta 1 ?_; refine stk (fun h => zJ 5 _ rfl rfl rfl (jc rfl) rfl h) ?_)
      | (refine sta 2 ?_; refine stk (fun h => zJ 6 _ rfl rfl rfl (jc rfl) rfl h) ?_)
      | (refine sta 3 ?_; refine stk (fun h => zJ 7 _ rfl rfl rfl (jc rfl) rfl h) ?_)
      | (refine sta 4 ?_; refine stk (fun h => zJ 8 _ rfl rfl rfl (vI rfl inferInstance) rfl h) ?_)
      | (refine sta 5 ?_; refine stk (fun h => zJ 11 _ rfl rfl rfl (jc rfl) rfl h) ?_)
      | (refine sta 6 ?_; refine stk (fun h => zJ 12 _ rfl rfl rfl (jc rfl) rfl h) ?_)
      | (refine sta 7 ?_; refine stk (fun h => zJ 18 _ rfl rfl rfl (jc rfl) rfl h) ?_)
      | (refine sta 8 ?_; refine stk (fun h => kj (.cons 0 rfl (.cons 0 rfl (.cons 0 rfl (.cons 0 rfl (.cons 0 rfl .nil))))) (qW 0 rfl (qW 1 rfl qB)) h) ?_)
      | (refine sta 9 ?_; refine stk (fun h => qf qf6 h) ?_)
      | (refine sta 10 ?_; refine stk (fun h => qev (i := 3) rfl h) ?_)
      | (refine sta 11 ?_; refine stk (fun h => qz qiV h) ?_)
      | (refine sta 12 ?_; refine stk (fun h => qf qnO h) ?_)
      | (refine sta 13 ?_; refine stk (fun h => qf qj0 h) ?_)
      | (refine sta 14 ?_; refine stk (fun h => qf qe6 h) ?_)
      | (refine sta 15 ?_; refine stk (fun h => qev (i := 2) rfl h) ?_))
    | (refine stc 35 ?_; first
      | (refine sta 0 ?_; refine stk (fun h => qem (Int × Int) eS88 88 2 h) ?_)
      | (refine sta 1 ?_; refine stk (fun h => qz vP h) ?_)
      | (refine sta 2 ?_; refine stk (fun h => qz qgG h) ?_)
      | (refine sta 3 ?_; refine stk (fun h => qz qbJ h) ?_)
      | (refine sta 4 ?_; refine stk (fun h => qz zY h) ?_)
      | (refine sta 5 ?_; refine stk (fun h => qz qaO h) ?_)
      | (refine sta 6 ?_; refine stk (fun h => qqv (j := 0) rfl UnF.u inferInstance rfl rfl rfl rfl h) ?_)
      | (refine sta 7 ?_; refine stk (fun h => qqf h) ?_)
      | (refine sta 8 ?_; refine stk (fun h => qf qlv h) ?_)
      | (refine sta 9 ?_; refine stk (fun h => qf qiQ h) ?_)))) : Stv p B A := ⟨fun h => (t h).go⟩
theorem au (p : List Nat) {A B : Prop} (h : B) (t : Stv p B A := by exact au0 _) : A := t.go h
theorem av (p : List Nat) {A B C : Prop} (h : B) (k : C) (t : Stv p (B ∧ C) A := by exact au0 _) : A := t.go ⟨h, k⟩
theorem az (p : List Nat) {A : Prop} (t : Stv p True A := by exact au0 _) : A := t.go trivial
set_option maxHeartbeats 4000000 in
theorem qhG {F : Nat} {x1 : List (List Int)} {a2 : Option Addr} {c3 : Nat} {s3 : List (Option Addr × Nat)} {r : Int} (hm : yc F x1 = some r) :
    Pure Tryz.prog 40 [.agg #[.slice a2 x1.length c3]] [SlN eN39 iN39 1 (.slice a2 x1.length c3) x1 s3] Unit (fun _ => .int .i64 r) (fun _ => []) (fun _ => []) := by
 refine qk Tryz.func40 rfl Tryz.ntmps40 rfl hm (fun w => ?_)
 refine au [25,3,2,4,22] ?_
 intro g4
 refine av [5,0,1,2,4,9,18,24,6,5,0,1,2,2,4,3,24,14,0,1,11] ?_ ?_
 intro _
 exact az [2,4,5,0,1,8,10,17]
 intro _
 refine au [12,1,2,4,5,0,1] ?_
 refine qe (fun ((x798, _) : (Int × Unit)) => ([(4, .int .i64 x798)], [], [], [], qbu F x798)) ?_ ?_
 refine au [2,4,9,18,24,6,3,0,1,15] ?_
 refine qw (fun (((x1064, x1065), _) : ((Int × Int) × Unit)) => ([(3, .int .i64 (x1.length : Int)), (4, .int .i64 x1064), (16, .slice a2 x1.length c3), (17, .int .i64 (x1.length : Int)), (18, .int .i64 x1065)], [], [], [SlN eN39 iN39 1 (.slice a2 x1.length c3) x1 s3])) (fun k (s : ((Int × Int) × Unit)) => zj F x1 k s.1) ((0, 0), ()) F ?_
 intro k1329
 rintro ⟨⟨x1064, x1065⟩, _⟩
 try dsimp only
 refine qJ (m' := j6 F x1 (zj F x1 k1329) x1064 x1065) rfl ?_
 refine av [2,4,24,4,0,1,2,11] ?_ ?_
 intro _
 refine au [12,1] ?_
 refine qe (fun ((x1461, _) : (Int × Unit)) => ([(3, .int .i64 (x1.length : Int)), (4, .int .i64 x1461), (16, .slice a2 x1.length c3), (17, .int .i64 (x1.length : Int)), (18, .int .i64 x1065)], [], [], [SlN eN39 iN39 1 (.slice a2 x1.length c3) x1 s3], qbv F (zj F x1 k1329) x1065 x1461)) ?_ ?_
 refine au [15,2,4,27,8] ?_
 intro x1462 e1462 g1465 b1463 o1464
 refine au [25,13,5,0,1,2,4,5,0,1] ?_
 refine qe (fun ((_, _) : (Unit × Unit)) => ([(3, .int .i64 (x1.length : Int)), (4, .int .i64 x1064), (6, .slice g1465.1 x1462.length g1465.2), (16, .slice a2 x1.length c3), (17, .int .i64 (x1.length : Int)), (18, .int .i64 x1065)], [], [], [Sl (eI .i64) 1 (.slice g1465.1 x1462.length g1465.2) x1462, SlN eN39 iN39 1 (.slice a2 x1.length c3) x1 s3], j8 F (zj F x1 k1329) x1064 x1065 x1462)) ?_ ?_
 refine au [2,4,3,24,6,3,0,1,15] ?_
 refine qw (fun (((x1549, x1550), _) : ((Int × Int) × Unit)) => ([(3, .int .i64 (x1.length : Int)), (4, .int .i64 x1064), (6, .slice g1465.1 x1462.length g1465.2), (7, .int .i64 x1549), (16, .slice a2 x1.length c3), (17, .int .i64 (x1.length : Int)), (18, .int .i64 x1065), (22, .slice g1465.1 x1462.length g1465.2), (23, .int .i64 (x1462.length : Int)), (24, .int .i64 x1550)], [], [], [Sl (eI .i64) 1 (.slice g1465.1 x1462.length g1465.2) x1462, SlN eN39 iN39 1 (.slice a2 x1.length c3) x1 s3])) (fun k (s : ((Int × Int) × Unit)) => yq F (zj F x1 k1329) x1 x1064 x1065 x1462 k s.1) ((-1, 0), ()) F ?_
 intro k1571
 rintro ⟨⟨x1549, x1550⟩, _⟩
 try dsimp only
 refine qJ (m' := j7 F (zj F x1 k1329) x1 x1064 x1065 x1462 (yq F (zj F x1 k1329) x1 x1064 x1065 x1462 k1571) x1549 x1550) rfl ?_
 refine av [2,4,24,4,0,1,2,11] ?_ ?_
 intro _
 refine au [12,1,2,15,2,4,26,6] ?_
 intro x1582 e1582 b1583 o1584
 refine au [25,13,5,0,1,2,15,2,4,3,24,4,3] ?_
 refine qq 4 (decide (x1582 < 0)) [(3, .int .i64 (x1.length : Int)), (4, .int .i64 x1064), (6, .slice g1465.1 x1462.length g1465.2), (7, .int .i64 x1549), (16, .slice a2 x1.length c3), (17, .int .i64 (x1.length : Int)), (18, .int .i64 x1065), (22, .slice g1465.1 x1462.length g1465.2), (23, .int .i64 (x1462.length : Int)), (24, .int .i64 x1550), (9, .int .i64 x1582), (35, .bool ((decide (x1582 < 0)) || (decide ((x1.length : Int) ≤ x1582))))] (fun h1588 => ?_) (fun h1588 => ?_) ?_
 refine qa (os := _) rfl (qi (k := 31) rfl h1588 ?_)
 refine au [6,6,6,23] ?_
 refine qc (d := 35) (v := .bool ((decide (x1582 < 0)) || (decide ((x1.length : Int) ≤ x1582)))) rfl (by rw [h1588]; simp only [Bool.true_or]) ?_
 exact az [0,16]
 refine qa (os := _) rfl (qh (k := 31) rfl h1588 ?_)
 refine au [3,3,26,2,24,0] ?_
 refine qc (d := 35) (v := .bool ((decide (x1582 < 0)) || (decide ((x1.length : Int) ≤ x1582)))) rfl (by rw [h1588]; simp only [Bool.false_or]) ?_
 exact az [0,16]
 refine qa (os := _) rfl ?_
 refine av [5,0,1,11] ?_ ?_
 intro _
 exact az [2,4,5,0,1,8,24,1,10,24,1,10,10,24,1,10,24,1,10,10,24,1,10,17]
 intro _
 refine av [2,4,3,3,26,14,5,0,1,11] ?_ ?_
 intro _
 exact az [2,4,5,0,1,8,24,1,10,24,1,10,10,24,1,10,24,1,10,10,24,1,10,17]
 intro _
 refine au [12,24,5,1,4,3,5,0,24,5,1,4,19,3,0] ?_
 exact qp ((x1582, iadd .i64 x1550 1), ())
 intro _
 exact az [24,11,20,20,24,12,25,15]
 rintro ⟨_, _⟩
 try dsimp only
 refine au [4,3,3,24,6,19,5,0,24,5] ?_
 exact qb (iadd .i64 x1064 (x1462.length : Int), ())
 rintro ⟨x1461, _⟩
 try dsimp only
 refine au [4,19,3,0] ?_
 exact qp ((x1461, iadd .i64 x1065 1), ())
 intro _
 refine au [24,11,20,20,24,12] ?_
 exact qb (x1064, ())
 rintro ⟨x798, _⟩
 try dsimp only
 refine av [2,2,4,3,24,14,0,1,11] ?_ ?_
 intro _
 exact az [2,4,5,0,1,8,10,17]
 intro _
 exact az [12,1,2,4,5,0,1,8,17]
set_option maxHeartbeats 4000000 in
theorem qiZ {F : Nat} {x1 : Int} {x2 : Int} {x3 : Int} {r : Int} (hm : qaG F x1 x2 x3 = some r) :
    Pure Tryz.prog 70 [.agg #[.int .i64 x1, .int .i64 x2, .int .i64 x3]] [] Unit (fun _ => .int .i64 r) (fun _ => []) (fun _ => []) := by
 refine qk Tryz.func70 rfl Tryz.ntmps70 rfl hm (fun w => ?_)
 refine au [25,3,2,4,22] ?_
 intro g4
 refine au [5,0,1,2,2,4,9,18,24,4,3] ?_
 refine qq 4 (decide (x1 < 0)) [(1, .pointer (some ⟨g4, 0, none⟩)), (10, .bool ((decide (x1 < 0)) || (decide (7 < x1))))] (fun h12 => ?_) (fun h12 => ?_) ?_
 refine qa (os := _) rfl (qi (k := 6) rfl h12 ?_)
 refine au [6,6,6,23] ?_
 refine qc (d := 10) (v := .bool ((decide (x1 < 0)) || (decide (7 < x1)))) rfl (by rw [h12]; simp only [Bool.true_or]) ?_
 exact az [0,16]
 refine qa (os := _) rfl (qh (k := 6) rfl h12 ?_)
 refine au [9,18,24,14,24,0] ?_
 refine qc (d := 10) (v := .bool ((decide (x1 < 0)) || (decide (7 < x1)))) rfl (by rw [h12]; simp only [Bool.false_or]) ?_
 exact az [0,16]
 refine qa (os := _) rfl ?_
 refine au [3] ?_
 refine qq 4 ((decide (x1 < 0)) || (decide (7 < x1))) [(1, .pointer (some ⟨g4, 0, none⟩)), (15, .bool (((decide (x1 < 0)) || (decide (7 < x1))) || (decide (x2 < 0))))] (fun h13 => ?_) (fun h13 => ?_) ?_
 refine qa (os := _) rfl (qi (k := 11) rfl h13 ?_)
 refine au [6,6,6,23] ?_
 refine qc (d := 15) (v := .bool (((decide (x1 < 0)) || (decide (7 < x1))) || (decide (x2 < 0)))) rfl (by rw [h13]; simp only [Bool.true_or]) ?_
 exact az [0,16]
 refine qa (os := _) rfl (qh (k := 11) rfl h13 ?_)
 refine au [9,18,24,4,24,0] ?_
 refine qc (d := 15) (v := .bool (((decide (x1 < 0)) || (decide (7 < x1))) || (decide (x2 < 0)))) rfl (by rw [h13]; simp only [Bool.false_or]) ?_
 exact az [0,16]
 refine qa (os := _) rfl ?_
 refine au [3] ?_
 refine qq 4 (((decide (x1 < 0)) || (decide (7 < x1))) || (decide (x2 < 0))) [(1, .pointer (some ⟨g4, 0, none⟩)), (20, .bool ((((decide (x1 < 0)) || (decide (7 < x1))) || (decide (x2 < 0))) || ((x2 : Int) == 1)))] (fun h14 => ?_) (fun h14 => ?_) ?_
 refine qa (os := _) rfl (qi (k := 16) rfl h14 ?_)
 refine au [6,6,6,23] ?_
 refine qc (d := 20) (v := .bool ((((decide (x1 < 0)) || (decide (7 < x1))) || (decide (x2 < 0))) || ((x2 : Int) == 1))) rfl (by rw [h14]; simp only [Bool.true_or]) ?_
 exact az [0,16]
 refine qa (os := _) rfl (qh (k := 16) rfl h14 ?_)
 refine au [9,18,24,13,24,0] ?_
 refine qc (d := 20) (v := .bool ((((decide (x1 < 0)) || (decide (7 < x1))) || (decide (x2 < 0))) || ((x2 : Int) == 1))) rfl (by rw [h14]; simp only [Bool.false_or]) ?_
 exact az [0,16]
 refine qa (os := _) rfl ?_
 refine au [3] ?_
 refine qq 4 ((((decide (x1 < 0)) || (decide (7 < x1))) || (decide (x2 < 0))) || ((x2 : Int) == 1)) [(1, .pointer (some ⟨g4, 0, none⟩)), (25, .bool (((((decide (x1 < 0)) || (decide (7 < x1))) || (decide (x2 < 0))) || ((x2 : Int) == 1)) || (decide (300 < x2))))] (fun h15 => ?_) (fun h15 => ?_) ?_
 refine qa (os := _) rfl (qi (k := 21) rfl h15 ?_)
 refine au [6,6,6,23] ?_
 refine qc (d := 25) (v := .bool (((((decide (x1 < 0)) || (decide (7 < x1))) || (decide (x2 < 0))) || ((x2 : Int) == 1)) || (decide (300 < x2)))) rfl (by rw [h15]; simp only [Bool.true_or]) ?_
 exact az [0,16]
 refine qa (os := _) rfl (qh (k := 21) rfl h15 ?_)
 refine au [9,18,24,14,24,0] ?_
 refine qc (d := 25) (v := .bool (((((decide (x1 < 0)) || (decide (7 < x1))) || (decide (x2 < 0))) || ((x2 : Int) == 1)) || (decide (300 < x2)))) rfl (by rw [h15]; simp only [Bool.false_or]) ?_
 exact az [0,16]
 refine qa (os := _) rfl ?_
 refine au [3] ?_
 refine qq 4 (((((decide (x1 < 0)) || (decide (7 < x1))) || (decide (x2 < 0))) || ((x2 : Int) == 1)) || (decide (300 < x2))) [(1, .pointer (some ⟨g4, 0, none⟩)), (30, .bool ((((((decide (x1 < 0)) || (decide (7 < x1))) || (decide (x2 < 0))) || ((x2 : Int) == 1)) || (decide (300 < x2))) || (decide (x3 < 1))))] (fun h16 => ?_) (fun h16 => ?_) ?_
 refine qa (os := _) rfl (qi (k := 26) rfl h16 ?_)
 refine au [6,6,6,23] ?_
 refine qc (d := 30) (v := .bool ((((((decide (x1 < 0)) || (decide (7 < x1))) || (decide (x2 < 0))) || ((x2 : Int) == 1)) || (decide (300 < x2))) || (decide (x3 < 1)))) rfl (by rw [h16]; simp only [Bool.true_or]) ?_
 exact az [0,16]
 refine qa (os := _) rfl (qh (k := 26) rfl h16 ?_)
 refine au [9,18,24,4,24,0] ?_
 refine qc (d := 30) (v := .bool ((((((decide (x1 < 0)) || (decide (7 < x1))) || (decide (x2 < 0))) || ((x2 : Int) == 1)) || (decide (300 < x2))) || (decide (x3 < 1)))) rfl (by rw [h16]; simp only [Bool.false_or]) ?_
 exact az [0,16]
 refine qa (os := _) rfl ?_
 refine au [3] ?_
 refine qq 4 ((((((decide (x1 < 0)) || (decide (7 < x1))) || (decide (x2 < 0))) || ((x2 : Int) == 1)) || (decide (300 < x2))) || (decide (x3 < 1))) [(35, .bool (((((((decide (x1 < 0)) || (decide (7 < x1))) || (decide (x2 < 0))) || ((x2 : Int) == 1)) || (decide (300 < x2))) || (decide (x3 < 1))) || (decide (16 < x3))))] (fun h17 => ?_) (fun h17 => ?_) ?_
 refine qa (os := _) rfl (qi (k := 31) rfl h17 ?_)
 refine au [6,6,6,23] ?_
 refine qc (d := 35) (v := .bool (((((((decide (x1 < 0)) || (decide (7 < x1))) || (decide (x2 < 0))) || ((x2 : Int) == 1)) || (decide (300 < x2))) || (decide (x3 < 1))) || (decide (16 < x3)))) rfl (by rw [h17]; simp only [Bool.true_or]) ?_
 exact az [0,16]
 refine qa (os := _) rfl (qh (k := 31) rfl h17 ?_)
 refine au [9,18,24,14,24,0] ?_
 refine qc (d := 35) (v := .bool (((((((decide (x1 < 0)) || (decide (7 < x1))) || (decide (x2 < 0))) || ((x2 : Int) == 1)) || (decide (300 < x2))) || (decide (x3 < 1))) || (decide (16 < x3)))) rfl (by rw [h17]; simp only [Bool.false_or]) ?_
 exact az [0,16]
 refine qa (os := _) rfl ?_
 refine av [0,1,11] ?_ ?_
 intro _
 exact az [2,4,5,0,1,8,10,17]
 intro _
 exact az [12,1,2,4,5,0,1,8,17]
theorem qdd {F : Nat} {x1 : List Int} {a2 : Option Addr} {c3 : Nat} {r : List Int} (hm : ye F x1 = some r) :
    Pure Tryz.prog 173 [.slice a2 x1.length c3] [Sl (eI .u8) 1 (.slice a2 x1.length c3) x1] (Option Addr × Nat) (fun g => .slice g.1 r.length g.2) (fun g => [Ro (eI .u8) 5 1 (.slice g.1 r.length g.2) r]) (fun _ => []) := by
 refine qk Tryz.func173 rfl Tryz.ntmps173 rfl hm (fun w => ?_)
 refine av [25,3,2,4,5,0,1,2,2,4,3,31,4,0,1,31,5] ?_ ?_
 intro h11
 refine qk8 0 (qP .u8) (by decide) rfl h11 (fun h12 => ?_)
 subst h12
 refine qJ (m' := some ([] : List Int)) rfl ?_
 refine au [2,4,5,0,1,8,10,25,11] ?_
 exact qy (none, 0)
 intro _
 refine au [12,1,2,4] ?_
 refine qv (vs := []) (ys := ([] : List Int)) (qP .u8) (by decide) rfl UnF.u inferInstance rfl rfl rfl rfl rfl (by decide) ?_
 intro a6 c7
 refine au [3] ?_
 refine kx 0 (qP .u8) rfl UnF.u inferInstance rfl rfl rfl rfl rfl (.inr ⟨0, rfl⟩) rfl rfl ?_
 intro x8 e8 a9 c10
 refine au [5,0,1,8] ?_
 exact qy (a9, c10)
theorem qlq {F : Nat} {x1 : Int} {x2 : List Int} {a3 : Option Addr} {c4 : Nat} {r : (Int × List Int)} (hm : qcH F x1 x2 = some r) :
    PureM Tryz.prog 140 [.agg #[.int .i64 x1, .slice a3 x2.length c4]] [] [] [Sl (eI .u8) 1 (.slice a3 x2.length c4) x2] ((Option Addr × Nat) × Nat) (fun g => .pointer (some ⟨g.2, 0, none⟩)) (fun g => [⟨g.2, 215, [.int .i64 r.1, .slice g.1.1 r.2.length g.1.2]⟩]) (fun g => [Ro (eI .u8) 5 1 (.slice g.1.1 r.2.length g.1.2) r.2]) := by
 refine zi Tryz.func140 rfl Tryz.ntmps140 rfl hm (fun w => ?_)
 refine au [25,3,2,4,22] ?_
 intro g5
 refine au [5,0,1,2] ?_
 refine qH mixed [] [⟨g5, 29, [.int .i64 x1, .slice a3 x2.length c4]⟩] [Sl (eI .u8) 1 (.slice a3 x2.length c4) x2] (.cons 0 rfl .nil) (qW 0 rfl qB) 9 rfl ?_
 refine au [21,0,25,2,1,21,2,25,2,3,24,3,4] ?_
 refine qf qdd ?_
 rintro x10 e10 ⟨a11, c12⟩
 refine au [0,29,8] ?_
 refine qo 5 (.agg #[.int .i64 x1, .slice a11 x10.length c12]) rfl rfl rfl (qhz (cells := [.int .i64 x1, .slice a11 x10.length c12]) st29 rfl (by kernel_rfl)) (qo 6 (.agg #[.int .i64 x1, .slice a11 x10.length c12]) rfl rfl rfl (qhz (cells := [.int .i64 x1, .slice a11 x10.length c12]) st215 rfl (by kernel_rfl)) ?_)
 refine au [24,3,7,22] ?_
 intro g13
 refine au [0,31,6,7,8,24,9] ?_
 refine qQ ?_ (by intro c h; cases h)
 refine au [1,8] ?_
 exact q7 ((a11, c12), g13)
theorem qhC {F : Nat} {x1 : Int} {x2 : List Int} {a3 : Option Addr} {c4 : Nat} {x5 : Int} {x6 : Int} {r : Unit} (hm : qdh F x1 x2 x5 x6 = some r) :
    PureM Tryz.prog 141 [.agg #[.int .i64 x1, .slice a3 x2.length c4], .int .i64 x5, .int .i64 x6] [] [] [Sl (eI .u8) 1 (.slice a3 x2.length c4) x2] (Nat × Nat × Nat) (fun g => .func (.func 174) #[] #[.pointer (some ⟨g.1, 0, none⟩), .pointer (some ⟨g.2.1, 0, none⟩), .pointer (some ⟨g.2.2, 0, none⟩)]) (fun g => [⟨g.1, 3, [.int .i64 x5]⟩, ⟨g.2.1, 3, [.int .i64 x6]⟩, ⟨g.2.2, 29, [.int .i64 x1, .slice a3 x2.length c4]⟩]) (fun _ => []) := by
 refine zi Tryz.func141 rfl Tryz.ntmps141 rfl hm (fun w => ?_)
 refine au [26,0,2,4,22] ?_
 intro g7
 refine au [22] ?_
 intro g8
 refine au [22] ?_
 intro g9
 refine au [5,0,1,2,4,27,9,5,0,1,8] ?_
 exact q7 (g8, g9, g7)
set_option maxHeartbeats 4000000 in
theorem qe5 {F : Nat} {g1 : Nat} {x2 : Int} {x3 : List Int} {a4 : Option Addr} {c5 : Nat} {x6 : Int} {r : (Int × List Int)} (hm : vv F x2 x3 x6 = some r) :
    PureM Tryz.prog 142 [.pointer (some ⟨g1, 0, none⟩), .int .u64 x6] [⟨g1, 215, [.int .i64 x2, .slice a4 x3.length c5]⟩] [Ro (eI .u8) 5 1 (.slice a4 x3.length c5) x3] [] (Option Addr × Nat) (fun _ => .tuple #[]) (fun g => [⟨g1, 215, [.int .i64 r.1, .slice g.1 r.2.length g.2]⟩]) (fun g => [Ro (eI .u8) 5 1 (.slice g.1 r.2.length g.2) r.2]) := by
 refine zi Tryz.func142 rfl Tryz.ntmps142 rfl hm (fun w => ?_)
 refine au [24,10] ?_
 refine qe (fun ((x15, (a13, c14)) : (List Int × (Option Addr × Nat))) => ([(0, .pointer (some ⟨g1, 0, none⟩)), (1, .int .u64 x6)], [⟨g1, 215, [.int .i64 x2, .slice a13 x15.length c14]⟩], [Ro (eI .u8) 5 1 (.slice a13 x15.length c14) x15], [], yg F x2 x6 x15)) ?_ ?_
 refine av [2,4,3,25,0,9,9,18,31,7,24,13,0,1,11] ?_ ?_
 intro _
 refine au [4,3,3,25,0,9,9,18] ?_
 refine qv (vs := [.int .u8 0]) (ys := ([0] : List Int)) (qP .u8) (by decide) rfl Tryz.underlying27 tf5 rfl rfl rfl rfl rfl (by decide) (fun a44 c45 => kx 1 (qP .u8) rfl Tryz.underlying27 tf5 rfl rfl rfl rfl rfl (.inl ⟨0, _, rfl⟩) rfl rfl (fun x46 e46 a47 c48 => ?_))
 refine au [25,0,9,9,24,2,0] ?_
 exact qb (x46, (a47, c48))
 intro _
 refine au [12] ?_
 exact qb (x3, (a4, c5))
 rintro ⟨x15, ⟨a13, c14⟩⟩
 try dsimp only
 refine au [2,28,6] ?_
 intro x30 e30 g31 h32
 replace h32 : a13 = some ⟨g31, 0, none⟩ := h32
 have h33 := qdN (k := x15.length) (c := c14) h32
 refine au [26,12] ?_
 intro h34
 refine au [28,6] ?_
 intro x36 e36 g37 h38
 replace h38 : a13 = some ⟨g37, 0, none⟩ := h38
 have h39 := qdN (k := x15.length) (c := c14) h38
 refine qH mixed [25] [⟨g1, 215, [.int .i64 x2, .slice a13 x15.length c14]⟩] [qR g31 ((iquo .i64 x2 8).toNat * 1) ((eI .u8) x30), qR g37 ((iquo .i64 x2 8).toNat * 1) ((eI .u8) x36)] (.cons 0 rfl .nil) (qgq 0 rfl (qgJ (qP .u8) e30 h32) (qgq 0 rfl (qgJ (qP .u8) e36 h38) qB)) 26 rfl ?_
 refine au [7,0,7,1,21,2,21,3,25,2,4,7,5,7,6,21,7,21,8,25,2,9] ?_
 refine qo 10 (.int .i64 (iquo .i64 x2 8)) rfl rfl rfl (qta rfl rfl rfl) (qn (d := 26) (v := .slice (some ⟨g31, 0, none⟩) x15.length c14) rfl (by rw [h32] <;> rfl) (qo 11 (.pointer (some ⟨g31, (iquo .i64 x2 8).toNat * 1, none⟩)) rfl rfl rfl (qew Tryz.underlying27 tf5 rfl rfl (zd e30).1 (qax e30)) (qn (d := 26) (v := .slice a13 x15.length c14) rfl (by rw [h32] <;> rfl) (zk 12 (.int .u8 x30) [[25]] rfl rfl rfl (ym (j := 0) rfl tf5 rfl rfl (fun _ => rfl) rfl) ?_))))
 refine au [7,13] ?_
 refine qo 14 (.int .u64 (ishl .u64 x6 7)) rfl rfl rfl (qe4 rfl rfl rfl) ?_
 refine au [31,8,15,7,16,7,17,21,18,21,19,25,2,20] ?_
 refine qo 21 (.int .i64 (irem x2 8)) rfl rfl rfl (qjV rfl rfl rfl) (qo 22 (.int .u8 (ishr .u8 (iconv .u8 (ishl .u64 x6 7)) (irem x2 8))) rfl rfl rfl (qtb rfl rfl h34) ?_)
 refine au [7,23] ?_
 refine qn (d := 26) (v := .slice (some ⟨g37, 0, none⟩) x15.length c14) rfl (by rw [h38] <;> rfl) (qo 24 (.pointer (some ⟨g37, (iquo .i64 x2 8).toNat * 1, none⟩)) rfl rfl rfl (qew Tryz.underlying27 tf5 rfl rfl (zd e36).1 (qax e36)) (qn (d := 26) (v := .slice a13 x15.length c14) rfl (by rw [h38] <;> rfl) ?_))
 refine au [24,3,25] ?_
 refine qbQ (j := 0) (y' := ior .u8 x30 (ishr .u8 (iconv .u8 (ishl .u64 x6 7)) (irem x2 8))) (qP .u8) rfl rfl rfl tf5 rfl (qdN h38) (zd e36).2.1 rfl (fun x41 e41 h42 => ?_)
 have h43 : x41.length = x15.length := by rw [← e41, List.length_set]
 refine qc (d := 26) (v := .slice a13 x41.length c14) rfl h42 (qcA (i := 0) (cs' := [.int .i64 x2, .slice a13 x41.length c14]) rfl (by rw [h42] <;> rfl) ?_)
 refine au [0] ?_
 refine qbH 25 rfl (by kernel_rfl) (.cons 0 (by rw [h43]; rfl) .nil) ?_
 refine au [24,9] ?_
 refine qQ ?_ (by intro c h; cases h)
 refine au [1,4,3,25,0,9,9,18,19,25,0,9,9,24,2,0] ?_
 exact q7 (a13, c14)
theorem qnN {F : Nat} {x1 : Int} {x2 : List Int} {a3 : Option Addr} {c4 : Nat} {x5 : Int} {r : Int} (hm : jE F x1 x2 x5 = some r) :
    Pure Tryz.prog 117 [.agg #[.int .i64 x1, .slice a3 x2.length c4], .int .i64 x5] [Sl (eI .u8) 1 (.slice a3 x2.length c4) x2] Unit (fun _ => .int .u64 r) (fun _ => []) (fun _ => []) := by
 refine qk Tryz.func117 rfl Tryz.ntmps117 rfl hm (fun w => ?_)
 refine au [24,10,2,4,22] ?_
 intro g6
 refine au [5,0,1,2,4,9,18,3,29,9] ?_
 refine qbf (j := 0) (qP .u8) (by decide) rfl UnF.u inferInstance rfl rfl rfl rfl ?_
 intro x7 e7 b8 o9
 refine au [25,13,3,31,7,25,5,26,1] ?_
 intro h10
 refine qfC rfl rfl rfl rfl h10 ?_
 refine au [25,12,28,7,5,26,9] ?_
 intro x11 e11
 refine qc (d := 4) (v := .int .u64 x11) rfl (by rw [e11] <;> rfl) ?_
 exact az [0,1,8,17]
theorem qgj (F : Nat) {σ τ : Type} {J : Rounds σ τ} {yy : σ → Int → Option (σ ⊕ τ)} {L : Nat} (hY : YieldC Tryz.prog L (fun (p : Int) => [.int .u64 p]) J yy) (s0 : σ) (gs0 : J.γ) (g1 : Nat) (x2 : Int) (g3 : Nat) (x4 : Int) (g5 : Nat) (x6 : Int) (x7 : List Int) (a8 : Option Addr) (c9 : Nat) (r : σ ⊕ τ) (hm : qce F yy x2 x4 x6 x7 s0 = some r) :
    PureM Tryz.prog 174 ([.func (.yield L) #[] #[], .pointer (some ⟨g1, 0, none⟩), .pointer (some ⟨g3, 0, none⟩), .pointer (some ⟨g5, 0, none⟩)]) ([⟨g1, 3, [.int .i64 x2]⟩, ⟨g3, 3, [.int .i64 x4]⟩, ⟨g5, 29, [.int .i64 x6, .slice a8 x7.length c9]⟩] ++ J.IB s0 gs0) (J.IR s0 gs0) [J.F, Sl (eI .u8) 1 (.slice a8 x7.length c9) x7] (J.G r) (fun _ => .tuple #[]) (fun g => [⟨g1, 3, [.int .i64 x2]⟩, ⟨g3, 3, [.int .i64 x4]⟩, ⟨g5, 29, [.int .i64 x6, .slice a8 x7.length c9]⟩] ++ J.bs r g) (fun g => J.rs r g) := by
 refine zi Tryz.func174 rfl Tryz.ntmps174 rfl hm (fun w => ?_)
 refine au [26,15,2,4,18,5,0,1,15] ?_
 refine qaJ (fun (((x22, x23), g24) : ((Int × σ) × J.γ)) => [(0, .func (.yield L) #[] #[]), (2, .pointer (some ⟨g3, 0, none⟩)), (3, .pointer (some ⟨g5, 0, none⟩)), (5, .int .i64 x22)]) (fun (((x22, x23), g24) : ((Int × σ) × J.γ)) => [⟨g1, 3, [.int .i64 x2]⟩, ⟨g3, 3, [.int .i64 x4]⟩, ⟨g5, 29, [.int .i64 x6, .slice a8 x7.length c9]⟩] ++ J.IB x23 g24) (fun (((x22, x23), g24) : ((Int × σ) × J.γ)) => [] ++ J.IR x23 g24) (fun (((x22, x23), g24) : ((Int × σ) × J.γ)) => [Sl (eI .u8) 1 (.slice a8 x7.length c9) x7, J.F]) (fun k (s : ((Int × σ) × J.γ)) => zR F yy x4 x6 x7 k s.1) ((x2, s0), gs0) F ?_ (hB := (.cons 0 rfl (.cons 0 rfl (.cons 0 rfl (qj 0 rfl))))) (hR := (qj 0 rfl)) (hF := (qm 1 rfl (qm 0 rfl ke)))
 intro k37
 rintro ⟨⟨x22, x23⟩, g24⟩
 try dsimp only
 refine qJ (m' := jk F yy x4 x6 x7 (zR F yy x4 x6 x7 k37) x22 x23) rfl ?_
 refine av [2,2,4,3,25,6,24,4,0,1,11] ?_ ?_
 intro _
 refine au [12,1,2,15,2,4,3,25,14,3,27,10] ?_
 intro x44 e44 _
 refine qdz hY x23 x44 g24 (B1 := [⟨g1, 3, [.int .i64 x2]⟩, ⟨g3, 3, [.int .i64 x4]⟩, ⟨g5, 29, [.int .i64 x6, .slice a8 x7.length c9]⟩]) (R1 := []) (j := 1) rfl rfl rfl rfl rfl rfl rfl (fun x45 _ g47 => ?_) (fun x46 _ g47 => ?_)
 refine au [25,4,0,1] ?_
 refine yX (b := false) rfl (fun h => by cases h) (fun _ => ?_)
 refine au [12,24,5,1,4,3,19,5,0] ?_
 exact qay ((iadd .i64 x22 1, x45), g47) (hB := (.cons 0 rfl (.cons 0 rfl (.cons 0 rfl (qj 0 rfl))))) (hR := (qj 0 rfl)) (hF := (qm 0 rfl (qm 1 rfl ke)))
 refine au [25,4,0,1] ?_
 refine yX (b := true) rfl (fun _ => ?_) (fun h => by cases h)
 refine au [8,24,1,10,10,24,1] ?_
 exact jP (B0 := [⟨g1, 3, [.int .i64 x2]⟩, ⟨g3, 3, [.int .i64 x4]⟩, ⟨g5, 29, [.int .i64 x6, .slice a8 x7.length c9]⟩]) (x := .inr x46) g47 (.inl rfl) (res0 rfl) (.cons 0 rfl (.cons 0 rfl (.cons 0 rfl (qj 0 rfl)))) (qj 0 rfl)
 intro _
 refine au [24,11,20,20,24,12] ?_
 exact jP (B0 := [⟨g1, 3, [.int .i64 x2]⟩, ⟨g3, 3, [.int .i64 x4]⟩, ⟨g5, 29, [.int .i64 x6, .slice a8 x7.length c9]⟩]) (x := .inl x23) g24 (.inr rfl) (res0 rfl) (.cons 0 rfl (.cons 0 rfl (.cons 0 rfl (qj 0 rfl)))) (qj 0 rfl)
set_option maxHeartbeats 4000000 in
theorem qjX {F : Nat} {x1 : Int} {x2 : List Int} {a3 : Option Addr} {c4 : Nat} {x5 : Int} {x6 : List Int} {a7 : Option Addr} {c8 : Nat} {r : (Int × List Int)} (hm : je F x1 x2 x5 x6 = some r) :
    PureM Tryz.prog 103 [.agg #[.int .i64 x1, .slice a3 x2.length c4], .agg #[.int .i64 x5, .slice a7 x6.length c8]] [] [] [Sl (eI .u8) 1 (.slice a3 x2.length c4) x2, Sl (eI .u8) 1 (.slice a7 x6.length c8) x6] (Option Addr × Nat) (fun g => .agg #[.int .i64 r.1, .slice g.1 r.2.length g.2]) (fun _ => []) (fun g => [Ro (eI .u8) 5 1 (.slice g.1 r.2.length g.2) r.2]) := by
 refine qcV Tryz.func103 rfl Tryz.ntmps103 rfl hm (fun w => ?_)
 refine au [24,10,2,4,22] ?_
 intro g9
 refine au [22] ?_
 intro g10
 refine au [24,7] ?_
 intro g11
 refine au [0,1,2,4,25,14,31,9] ?_
 rintro x12 e12 ⟨⟨a13, c14⟩, g15⟩
 refine au [24,7] ?_
 intro g16
 refine au [24,2,0,1,2,2,4,31,10,9,27,11] ?_
 refine qz qhC ?_
 rintro x37 e37 ⟨g38, g39, g40⟩
 refine au [0,1,15] ?_
 refine qbP (encs := (fun (p : Int) => [.int .u64 p])) (y := (fun ((x45, x48) : (Int × List Int)) (x53 : Int) => qap F x45 x48 x53)) (lb := [.pointer (some ⟨g38, 0, none⟩), .pointer (some ⟨g39, 0, none⟩), .pointer (some ⟨g40, 0, none⟩)]) (fun ((x45, x48) : (Int × List Int)) ((a46, c47) : (Option Addr × Nat)) => [⟨g16, 209, [.pointer (some ⟨g15, 0, none⟩)]⟩, ⟨g15, 215, [.int .i64 x45, .slice a46 x48.length c47]⟩, ⟨g11, 29, [.int .i64 0, .slice none 0 0]⟩, ⟨g10, 29, [.int .i64 x5, .slice a7 x6.length c8]⟩, ⟨g9, 29, [.int .i64 x1, .slice a3 x2.length c4]⟩]) (fun ((x45, x48) : (Int × List Int)) ((a46, c47) : (Option Addr × Nat)) => [Ro (eI .u8) 5 1 (.slice a46 x48.length c47) x48]) (fun (_ : Empty) (_ : Unit) => []) (fun (_ : Empty) (_ : Unit) => []) (fun _ => .skip) (x12.1, x12.2) (a13, c14) rfl ent174 (fun _ => rfl) rfl (.cons 0 rfl (.cons 0 rfl (.cons 0 rfl .nil))) (.cons 0 rfl (.cons 0 rfl (.cons 0 rfl (.cons 0 rfl (.cons 0 rfl .nil))))) (.cons 0 rfl .nil) (.consF 1 rfl .nil) (fun z hz _ _ _ hY => qgj F hY (x12.1, x12.2) (a13, c14) g38 0 g39 x5 g40 x5 x6 a7 c8 z hz) ?_ ?_ ?_
 rintro rc1 L1 D1 ⟨x45, x48⟩ ⟨a46, c47⟩ x53 z w M _
 try dsimp only
 refine qcX [(0, .agg #[.int .i64 x1, .slice a3 x2.length c4]), (1, .agg #[.int .i64 x5, .slice a7 x6.length c8]), (2, .pointer (some ⟨g9, 0, none⟩)), (3, .pointer (some ⟨g10, 0, none⟩)), (4, .pointer (some ⟨g11, 0, none⟩)), (5, .pointer (some ⟨g16, 0, none⟩)), (7, .agg #[.int .i64 x1, .slice a3 x2.length c4]), (8, .pointer (some ⟨g15, 0, none⟩)), (9, .agg #[.int .i64 x5, .slice a7 x6.length c8]), (10, .pointer (some ⟨g10, 0, none⟩)), (11, .int .i64 x5), (12, .func (.func 174) #[] #[.pointer (some ⟨g38, 0, none⟩), .pointer (some ⟨g39, 0, none⟩), .pointer (some ⟨g40, 0, none⟩)]), (13, .int .u64 x53)] (qt rfl (qt rfl (qt rfl (qt rfl (qt rfl (qt rfl (qt rfl (qt rfl (qt rfl (qt rfl (qt rfl (qt rfl (qt rfl qcT))))))))))))) ?_
 refine au [4,5,0] ?_
 refine qev (i := 5) rfl ?_
 refine au [15,4,18,3,31,11] ?_
 rintro x54 e54 ⟨a55, c56⟩
 refine au [0,24,5] ?_
 exact qaN (rc := rc1) rfl (.cons 5 rfl .nil) rfl (a55, c56) (.cons 2 rfl (.cons 1 rfl (.cons 1 rfl (.cons 1 rfl (.cons 1 rfl (.cons 0 rfl (.cons 0 rfl .nil))))))) (.cons 0 rfl .nil)
 rintro ⟨x45, x48⟩ _ ⟨a46, c47⟩ D1
 try dsimp only
 refine au [24,5,1,2,4] ?_
 refine yb (i := 4) rfl rfl inferInstance rfl rfl (fun _ => rfl) rfl rfl ?_
 refine au [25,0,9] ?_
 refine yb (i := 5) rfl rfl inferInstance rfl rfl (by simp) rfl rfl (yY (i := 6) rfl rfl rfl inferInstance rfl rfl rfl rfl rfl ?_)
 refine au [0,1,8] ?_
 exact qaL [D1] (a46, c47) (.inl rfl) rfl (.cons 0 rfl .nil) (resL (rs := [.cell 4 29]) rfl (.cell (i := 5) rfl tf29 rfl rfl (by simp) rfl ResOk.nil) rfl) (fun h => by subst h; rfl) (fun h => by subst h; exact .nil) (fun h => by subst h; exact (.cons 0 rfl .nil))
 intro t; exact t.elim
theorem qd5 {F : Nat} {g1 : Nat} {x2 : Int} {x3 : List Int} {a4 : Option Addr} {c5 : Nat} {x6 : Int} {x7 : Int} {r : (Int × List Int)} (hm : vw F x2 x3 x6 x7 = some r) :
    PureM Tryz.prog 143 [.pointer (some ⟨g1, 0, none⟩), .int .u64 x6, .int .i64 x7] [⟨g1, 215, [.int .i64 x2, .slice a4 x3.length c5]⟩] [Ro (eI .u8) 5 1 (.slice a4 x3.length c5) x3] [] (Option Addr × Nat) (fun _ => .tuple #[]) (fun g => [⟨g1, 215, [.int .i64 r.1, .slice g.1 r.2.length g.2]⟩]) (fun g => [Ro (eI .u8) 5 1 (.slice g.1 r.2.length g.2) r.2]) := by
 refine zi Tryz.func143 rfl Tryz.ntmps143 rfl hm (fun w => ?_)
 refine au [26,0,2,4,3,25,5,5,0,1,15] ?_
 refine qw (fun (((x18, x19, x22), (a20, c21)) : ((Int × Int × List Int) × (Option Addr × Nat))) => ([(0, .pointer (some ⟨g1, 0, none⟩)), (1, .int .u64 x6), (6, .int .i64 x18)], [⟨g1, 215, [.int .i64 x19, .slice a20 x22.length c21]⟩], [Ro (eI .u8) 5 1 (.slice a20 x22.length c21) x22], [])) (fun k (s : ((Int × Int × List Int) × (Option Addr × Nat))) => zN F x6 k s.1) ((isub .i64 x7 1, x2, x3), (a4, c5)) F ?_
 intro k33
 rintro ⟨⟨x18, x19, x22⟩, ⟨a20, c21⟩⟩
 try dsimp only
 refine qJ (m' := zM F x6 (zN F x6 k33) x18 x19 x22) rfl ?_
 refine av [2,2,4,3,26,2,0,1,11] ?_ ?_
 intro _
 refine au [12,1,2,15,4,3,3,3,26,1] ?_
 intro h39
 refine qfC rfl rfl rfl rfl h39 ?_
 refine au [28,7,31,11] ?_
 rintro x40 e40 ⟨a41, c42⟩
 refine au [0,24,5,1,4,3,25,5,5,0] ?_
 exact qp ((isub .i64 x18 1, x40.1, x40.2), (a41, c42))
 intro _
 refine au [24,11,20,20,24,12] ?_
 exact q7 (a20, c21)
theorem qlp {F : Nat} {x1 : Int} {x2 : List Int} {a3 : Option Addr} {c4 : Nat} {x5 : Int} {x6 : Int} {r : (Int × List Int)} (hm : yQ F x1 x2 x5 x6 = some r) :
    Pure Tryz.prog 105 [.agg #[.int .i64 x1, .slice a3 x2.length c4], .int .u64 x5, .int .i64 x6] [Sl (eI .u8) 1 (.slice a3 x2.length c4) x2] (Option Addr × Nat) (fun g => .agg #[.int .i64 r.1, .slice g.1 r.2.length g.2]) (fun g => [Ro (eI .u8) 5 1 (.slice g.1 r.2.length g.2) r.2]) (fun _ => []) := by
 refine qk Tryz.func105 rfl Tryz.ntmps105 rfl hm (fun w => ?_)
 refine au [26,0,2,4,22] ?_
 intro g7
 refine au [24,7] ?_
 intro g8
 refine au [0,1,2,4,25,7,31,9] ?_
 rintro x9 e9 ⟨⟨a10, c11⟩, g12⟩
 refine au [5,0,1,2,4,3,3,3] ?_
 refine qz qd5 ?_
 rintro x13 e13 ⟨a14, c15⟩
 refine au [0,1,2,4,3,25,0,9,24,8,24,15,0,1,8] ?_
 exact qu (a14, c15) (resL (rs := [.cell 6 29]) rfl (.cell (i := 1) rfl tf29 rfl rfl (by simp) rfl ResOk.nil) rfl) (fun h => by subst h; exact (.cons 0 rfl .nil))
set_option maxHeartbeats 4000000 in
theorem qfb {F : Nat} {x1 : Int} {r : Int} (hm : yr F x1 = some r) :
    Pure Tryz.prog 138 [.int .u64 x1] [] Unit (fun _ => .int .i64 r) (fun _ => []) (fun _ => []) := by
 refine qk Tryz.func138 rfl Tryz.ntmps138 rfl hm (fun w => ?_)
 refine au [25,3,2,4,5,0,1] ?_
 refine qe (fun (((x3, x4), _) : ((Int × Int) × Unit)) => ([(0, .int .u64 x3), (2, .int .i64 x4)], [], [], [], yh F x3 x4)) ?_ ?_
 refine av [2,4,3,26,2,0,1,11] ?_ ?_
 intro _
 refine au [2,4,3,27,12,5,0,1,4,5,0] ?_
 exact qb ((ishr .u64 x1 32, (32 : Int)), ())
 intro _
 refine au [12] ?_
 exact qb ((x1, (0 : Int)), ())
 rintro ⟨⟨x3, x4⟩, _⟩
 try dsimp only
 refine qe (fun (((x6, x7), _) : ((Int × Int) × Unit)) => ([(0, .int .u64 x6), (2, .int .i64 x7)], [], [], [], yi F x6 x7)) ?_ ?_
 refine av [2,4,3,26,2,0,1,11] ?_ ?_
 intro _
 refine au [2,4,3,27,12,5,0,1,4,3,19,5,0] ?_
 exact qb ((ishr .u64 x3 16, iadd .i64 x4 16), ())
 intro _
 refine au [12] ?_
 exact qb ((x3, x4), ())
 rintro ⟨⟨x6, x7⟩, _⟩
 try dsimp only
 refine qe (fun (((x9, x10), _) : ((Int × Int) × Unit)) => ([(0, .int .u64 x9), (2, .int .i64 x10)], [], [], [], yj F x9 x10)) ?_ ?_
 refine av [2,4,3,26,2,0,1,11] ?_ ?_
 intro _
 refine au [2,4,3,27,12,5,0,1,4,3,19,5,0] ?_
 exact qb ((ishr .u64 x6 8, iadd .i64 x7 8), ())
 intro _
 refine au [12] ?_
 exact qb ((x6, x7), ())
 rintro ⟨⟨x9, x10⟩, _⟩
 try dsimp only
 refine au [2,4,3,3,25,12] ?_
 refine ql9 (xs := ([0, 1, 2, 2, 3, 3, 3, 3, 4, 4, 4, 4, 4, 4, 4, 4, 5, 5, 5, 5, 5, 5, 5, 5, 5, 5, 5, 5, 5, 5, 5, 5, 6, 6, 6, 6, 6, 6, 6, 6, 6, 6, 6, 6, 6, 6, 6, 6, 6, 6, 6, 6, 6, 6, 6, 6, 6, 6, 6, 6, 6, 6, 6, 6, 7, 7, 7, 7, 7, 7, 7, 7, 7, 7, 7, 7, 7, 7, 7, 7, 7, 7, 7, 7, 7, 7, 7, 7, 7, 7, 7, 7, 7, 7, 7, 7, 7, 7, 7, 7, 7, 7, 7, 7, 7, 7, 7, 7, 7, 7, 7, 7, 7, 7, 7, 7, 7, 7, 7, 7, 7, 7, 7, 7, 7, 7, 7, 7, 8, 8, 8, 8, 8, 8, 8, 8, 8, 8, 8, 8, 8, 8, 8, 8, 8, 8, 8, 8, 8, 8, 8, 8, 8, 8, 8, 8, 8, 8, 8, 8, 8, 8, 8, 8, 8, 8, 8, 8, 8, 8, 8, 8, 8, 8, 8, 8, 8, 8, 8, 8, 8, 8, 8, 8, 8, 8, 8, 8, 8, 8, 8, 8, 8, 8, 8, 8, 8, 8, 8, 8, 8, 8, 8, 8, 8, 8, 8, 8, 8, 8, 8, 8, 8, 8, 8, 8, 8, 8, 8, 8, 8, 8, 8, 8, 8, 8, 8, 8, 8, 8, 8, 8, 8, 8, 8, 8, 8, 8, 8, 8, 8, 8, 8, 8, 8, 8, 8, 8, 8, 8, 8, 8, 8, 8, 8, 8] : List Int)) rfl UnF.u rfl rfl (by kernel_rfl) rfl ?_
 intro x11 e11
 exact az [25,12,19,5,0,1,8,17]
theorem qiI {F : Nat} {x1 : Int} {r : Int} (hm : qcm F x1 = some r) :
    Pure Tryz.prog 196 [.int .u64 x1] [] Unit (fun _ => .int .i64 r) (fun _ => []) (fun _ => []) := by
 refine qk Tryz.func196 rfl Tryz.ntmps196 rfl hm (fun w => ?_)
 refine au [25,3,2,4,5,0,1,2,4,3,19,29,10] ?_
 intro x2 e2 _
 exact az [25,5,5,0,1,8,17]
theorem qka {F : Nat} {x1 : Int} {r : (Int × List Int)} (hm : qcb F x1 = some r) :
    Pure Tryz.prog 197 [.int .u64 x1] [] (Option Addr × Nat) (fun g => .agg #[.int .i64 r.1, .slice g.1 r.2.length g.2]) (fun g => [Ro (eI .u8) 5 1 (.slice g.1 r.2.length g.2) r.2]) (fun _ => []) := by
 refine qk Tryz.func197 rfl Tryz.ntmps197 rfl hm (fun w => ?_)
 refine au [25,3,2,4,24,7] ?_
 intro g2
 refine au [0,1,2,4,3,25,12,3,19,29,9] ?_
 refine qqz (qP .u8) rfl UnF.u inferInstance rfl rfl rfl rfl rfl rfl rfl ?_
 intro x3 e3 a4 c5
 refine ql (cells := [.int .i64 (iconv .i64 x1), .slice a4 x3.length c5]) rfl st29 rfl (by kernel_rfl) rfl ?_
 refine au [27,4] ?_
 rintro x6 e6 ⟨a7, c8⟩
 refine au [24,2,0,1,8] ?_
 exact qu (a7, c8) (resL (rs := [.cell 2 29]) rfl (.cell (i := 0) rfl tf29 rfl rfl (by simp) rfl ResOk.nil) rfl) (fun h => by subst h; exact (.cons 0 rfl .nil))
theorem qjZ {F : Nat} {x1 : Int} {x2 : Int} {r : Int} (hm : qc1 F x1 x2 = some r) :
    Pure Tryz.prog 198 [.int .u64 x1, .int .i64 x2] [] Unit (fun _ => .int .u64 r) (fun _ => []) (fun _ => []) := by
 refine qk Tryz.func198 rfl Tryz.ntmps198 rfl hm (fun w => ?_)
 refine au [24,10,2,4,5,0,1,2,4,3,3,26,1] ?_
 intro h3
 refine qeu rfl rfl rfl rfl h3 ?_
 refine au [25,5,28,7,5,26,9] ?_
 intro x4 e4
 refine qc (d := 4) (v := .int .u64 x4) rfl (by rw [e4] <;> rfl) ?_
 exact az [0,1,8,17]
theorem qfH {F : Nat} {x1 : Int} {r : (Int × List Int)} (hm : vU F x1 = some r) :
    Pure Tryz.prog 171 [.int .u64 x1] [] (Option Addr × Nat) (fun g => .agg #[.int .i64 r.1, .slice g.1 r.2.length g.2]) (fun g => [Ro (eI .u8) 5 1 (.slice g.1 r.2.length g.2) r.2]) (fun _ => []) := by
 refine qk Tryz.func171 rfl Tryz.ntmps171 rfl hm (fun w => ?_)
 refine au [25,3,2,4,24,7] ?_
 intro g2
 refine au [0,1,2,4,3] ?_
 refine qf qiI ?_
 intro x3 e3 _
 refine au [5,0,1,2,4,3,25,12,31,12] ?_
 rintro x4 e4 ⟨a5, c6⟩
 refine au [3,19,3] ?_
 refine qf qjZ ?_
 intro x7 e7 _
 refine au [3,27,4] ?_
 rintro x8 e8 ⟨a9, c10⟩
 refine au [24,2,0,1,8] ?_
 exact qu (a9, c10) (resL (rs := [.cell 2 29]) rfl (.cell (i := 0) rfl tf29 rfl rfl (by simp) rfl ResOk.nil) rfl) (fun h => by subst h; exact (.cons 0 rfl .nil))
theorem qj2 {F : Nat} {x1 : Int} {r : Bool} (hm : qb9 F x1 = some r) :
    Pure Tryz.prog 155 [.int .i64 x1] [] Unit (fun _ => .bool r) (fun _ => []) (fun _ => []) := by
 refine qk Tryz.func155 rfl Tryz.ntmps155 rfl hm (fun w => ?_)
 refine au [25,3,2,4,5,0,1,2,4,3,26,2,3] ?_
 refine qq 3 (decide (0 ≤ x1)) [(8, .bool ((decide (0 ≤ x1)) && (decide (x1 ≤ 1048576))))] (fun h2 => ?_) (fun h2 => ?_) ?_
 refine qa (os := _) rfl (qi (k := 5) rfl h2 ?_)
 refine au [3,26,14,23] ?_
 refine qc (d := 8) (v := .bool ((decide (0 ≤ x1)) && (decide (x1 ≤ 1048576)))) rfl (by rw [h2]; simp only [Bool.true_and]) ?_
 exact az [0,16]
 refine qa (os := _) rfl (qh (k := 5) rfl h2 ?_)
 refine au [6,6,24,0] ?_
 refine qc (d := 8) (v := .bool ((decide (0 ≤ x1)) && (decide (x1 ≤ 1048576)))) rfl (by rw [h2]; simp only [Bool.false_and]) ?_
 exact az [0,16]
 refine qa (os := _) rfl ?_
 exact az [5,0,1,8,17]
set_option maxHeartbeats 4000000 in
theorem qiN {F : Nat} {x1 : List Int} {a2 : Option Addr} {c3 : Nat} {r : Int} (hm : vA F x1 = some r) :
    Pure Tryz.prog 115 [.slice a2 x1.length c3] [Sl (eI .i64) 1 (.slice a2 x1.length c3) x1] Unit (fun _ => .int .i64 r) (fun _ => []) (fun _ => []) := by
 refine qk Tryz.func115 rfl Tryz.ntmps115 rfl hm (fun w => ?_)
 refine av [25,3,2,4,5,0,1,2,2,4,3,24,6,24,14,0,1,11] ?_ ?_
 intro _
 exact az [2,4,5,0,1,8,10,17]
 intro _
 refine au [12,1,2,4,5,0,1] ?_
 refine qe (fun ((_, _) : (Unit × Unit)) => ([], [], [], [], qd0 F)) ?_ ?_
 refine au [2,4,3,24,6,3,0,1,15] ?_
 refine qw (fun (((x88, x89), _) : ((Int × Int) × Unit)) => ([(3, .int .i64 x88), (9, .slice a2 x1.length c3), (10, .int .i64 (x1.length : Int)), (11, .int .i64 x89)], [], [], [Sl (eI .i64) 1 (.slice a2 x1.length c3) x1])) (fun k (s : ((Int × Int) × Unit)) => vl F x1 k s.1) ((-1, 0), ()) F ?_
 intro k110
 rintro ⟨⟨x88, x89⟩, _⟩
 try dsimp only
 refine qJ (m' := qaY F x1 (vl F x1 k110) x88 x89) rfl ?_
 refine av [2,4,24,4,0,1,2,11] ?_ ?_
 intro _
 refine au [12,1,2,15,2,4,26,6] ?_
 intro x121 e121 b122 o123
 refine au [25,13,5,0,1,2,15,2,4,3,31,13] ?_
 intro x127 e127 _
 refine av [25,4,5,0,1,11] ?_ ?_
 intro _
 exact az [2,4,5,0,1,8,24,1,10,24,1,10,10,24,1,10,17]
 intro _
 refine av [2,4,3,3,26,14,5,0,1,11] ?_ ?_
 intro _
 exact az [2,4,5,0,1,8,24,1,10,24,1,10,10,24,1,10,17]
 intro _
 refine au [12,24,5,1,4,3,5,0,24,5,1,4,19,3,0] ?_
 exact qp ((x121, iadd .i64 x89 1), ())
 intro _
 exact az [24,11,20,20,24,12,25,15]
 rintro ⟨_, _⟩
 try dsimp only
 exact az [2,4,5,0,1,8,17]
set_option maxHeartbeats 4000000 in
theorem qfc {F : Nat} {g1 : Nat} {x2 : Int} {x3 : List Int} {a4 : Option Addr} {c5 : Nat} {x6 : Bool} {x7 : Int} {x8 : List Int} {a9 : Option Addr} {c10 : Nat} {r : (Int × List Int × Bool)} (hm : yw F x2 x3 x6 x7 x8 = some r) :
    PureM Tryz.prog 163 [.pointer (some ⟨g1, 0, none⟩), .agg #[.int .i64 x7, .slice a9 x8.length c10]] [⟨g1, 179, [.int .i64 x2, .slice a4 x3.length c5, .bool x6]⟩] [Ro (eI .u8) 5 1 (.slice a4 x3.length c5) x3] [Sl (eI .u8) 1 (.slice a9 x8.length c10) x8] (Option Addr × Nat) (fun _ => .tuple #[]) (fun g => [⟨g1, 179, [.int .i64 r.1, .slice g.1 r.2.1.length g.2, .bool r.2.2]⟩]) (fun g => [Ro (eI .u8) 5 1 (.slice g.1 r.2.1.length g.2) r.2.1]) := by
 refine zi Tryz.func163 rfl Tryz.ntmps163 rfl hm (fun w => ?_)
 refine au [24,10,2,4,22] ?_
 intro g11
 refine au [0,1] ?_
 refine qe (fun ((x13, _) : (Bool × Unit)) => ([(0, .pointer (some ⟨g1, 0, none⟩)), (3, .pointer (some ⟨g11, 0, none⟩))], [⟨g11, 29, [.int .i64 x7, .slice a9 x8.length c10]⟩, ⟨g1, 179, [.int .i64 x2, .slice a4 x3.length c5, .bool x13]⟩], [Ro (eI .u8) 5 1 (.slice a4 x3.length c5) x3], [Sl (eI .u8) 1 (.slice a9 x8.length c10) x8], yk F x2 x3 x7 x8 x13)) ?_ ?_
 refine av [28,3] ?_ ?_
 intro h18
 refine qH mixed [18] [⟨g11, 29, [.int .i64 x7, .slice a9 x8.length c10]⟩] [Sl (eI .u8) 1 (.slice a9 x8.length c10) x8, (BlkD.is ⟨g1, 179, [.int .i64 x2, .slice a4 x3.length c5, .bool x6]⟩)] (.cons 0 rfl .nil) (qW 0 rfl (qgp 1 rfl qB)) 19 rfl ?_
 refine au [7,0,7,1,7,2,21,3] ?_
 refine zk 4 (.bool x6) [[18]] rfl rfl rfl (vJ (j := 1) rfl tf4 rfl rfl (fun _ => rfl) rfl) ?_
 refine au [7,5] ?_
 refine qn (d := 9) (v := .bool true) rfl (by rw [h18] <;> rfl) ?_
 refine au [14,6,14,7,14,8,14,9,14,10,14,11,14,12,14,13,14,14,7,15,7,16,21,17,24,3,18,24,15,0,31,14,24,9] ?_
 exact qQ (qb (true, ())) (by intro c h; cases h)
 intro h18
 refine qH mixed [18] [⟨g11, 29, [.int .i64 x7, .slice a9 x8.length c10]⟩] [Sl (eI .u8) 1 (.slice a9 x8.length c10) x8, (BlkD.is ⟨g1, 179, [.int .i64 x2, .slice a4 x3.length c5, .bool x6]⟩)] (.cons 0 rfl .nil) (qW 0 rfl (qgp 1 rfl qB)) 19 rfl ?_
 refine au [7,0,7,1,7,2,21,3] ?_
 refine zk 4 (.bool x6) [[18]] rfl rfl rfl (vJ (j := 1) rfl tf4 rfl rfl (fun _ => rfl) rfl) ?_
 refine au [7,5] ?_
 refine qn (d := 9) (v := .bool false) rfl (by rw [h18] <;> rfl) ?_
 refine au [7,6,7,7,21,8,21,9] ?_
 refine zk 10 (.int .i64 x2) [[18]] rfl rfl rfl (vJ (j := 1) rfl tf3 rfl rfl (fun _ => rfl) rfl) ?_
 refine au [21,11,25,2,12,7,13,7,14,7,15,7,16,21,17,24,3,18,24,15,0,31,14,24,9] ?_
 exact qQ (qb ((decide (8192 < (iadd .i64 x2 x7))), ())) (by intro c h; cases h)
 rintro ⟨x13, _⟩
 try dsimp only
 refine av [2,4,3,25,0,9,25,6,25,4,0,1,11] ?_ ?_
 intro _
 refine qH mixed [9] [⟨g11, 29, [.int .i64 x7, .slice a9 x8.length c10]⟩] [Sl (eI .u8) 1 (.slice a9 x8.length c10) x8, (BlkD.is ⟨g1, 179, [.int .i64 x2, .slice a4 x3.length c5, .bool x13]⟩)] (.cons 0 rfl .nil) (qW 0 rfl (qgp 1 rfl qB)) 10 rfl ?_
 refine au [7,0,7,1,7,2,21,3] ?_
 refine zk 4 (.agg #[.int .i64 x2, .slice a4 x3.length c5]) [[9]] rfl rfl rfl (vJ (j := 1) rfl tf29 rfl rfl (by simp) rfl) (kN 5 (.agg #[.int .i64 x7, .slice a9 x8.length c10]) rfl rfl rfl (zI (i := 0) rfl tf29 rfl rfl (by simp) rfl) ?_)
 refine au [24,3,6,28,8] ?_
 rintro x14 e14 ⟨a15, c16⟩
 refine au [0] ?_
 refine kj (.cons 0 rfl .nil) (qW 0 rfl (qgp 1 rfl qB)) ?_
 refine au [7,7,21,8,24,3,9,24,15,0] ?_
 refine qbH 9 rfl (by kernel_rfl) (.cons 0 rfl .nil) ?_
 refine au [24,9] ?_
 exact qQ (q7 (a15, c16)) (by intro c h; cases h)
 intro _
 refine au [12] ?_
 exact q7 (a4, c5)
theorem qez {F : Nat} {g1 : Nat} {x2 : Int} {x3 : List Int} {a4 : Option Addr} {c5 : Nat} {x6 : Bool} {x7 : Int} {r : (Int × List Int × Bool)} (hm : q9 F x2 x3 x6 x7 = some r) :
    PureM Tryz.prog 156 [.pointer (some ⟨g1, 0, none⟩), .int .i64 x7] [⟨g1, 179, [.int .i64 x2, .slice a4 x3.length c5, .bool x6]⟩] [Ro (eI .u8) 5 1 (.slice a4 x3.length c5) x3] [] (Option Addr × Nat) (fun _ => .tuple #[]) (fun g => [⟨g1, 179, [.int .i64 r.1, .slice g.1 r.2.1.length g.2, .bool r.2.2]⟩]) (fun g => [Ro (eI .u8) 5 1 (.slice g.1 r.2.1.length g.2) r.2.1]) := by
 refine zi Tryz.func156 rfl Tryz.ntmps156 rfl hm (fun w => ?_)
 refine au [24,10,4,3,3,25,12,31,15] ?_
 rintro x8 e8 ⟨a9, c10⟩
 refine au [32,0] ?_
 rintro x11 e11 ⟨a12, c13⟩
 refine au [0] ?_
 exact q7 (a12, c13)
theorem qgk {F : Nat} {x1 : Int} {r : Bool} (hm : kQ F x1 = some r) :
    Pure Tryz.prog 86 [.int .i64 x1] [] Unit (fun _ => .bool r) (fun _ => []) (fun _ => []) := by
 refine qk Tryz.func86 rfl Tryz.ntmps86 rfl hm (fun w => ?_)
 exact az [25,3,2,4,5,0,1,2,4,3,3,25,1,5,0,1,8,17]
set_option maxHeartbeats 4000000 in
theorem qgC {F : Nat} {x1 : Int} {x2 : Int} {r : Bool} (hm : vT F x1 x2 = some r) :
    Pure Tryz.prog 57 [.int .i64 x1, .int .i64 x2] [] Unit (fun _ => .bool r) (fun _ => []) (fun _ => []) := by
 refine qk Tryz.func57 rfl Tryz.ntmps57 rfl hm (fun w => ?_)
 refine au [24,10,2,4,5,0,1,2,4,3,28,9] ?_
 intro x3 e3 _
 refine au [3] ?_
 refine qY 4 (fun ((x6, _) : (Bool × Unit)) => ([(0, .int .i64 x1), (1, .int .i64 x2), (11, .bool x6)], [], [], [], vy F x1 x2 x6)) ?_ ?_
 refine qa (os := _) rfl ?_
 refine av [25,9] ?_ ?_
 intro h4
 refine qi (k := 7) rfl h4 ?_
 refine au [3,28,9] ?_
 intro x8 e8 _
 refine au [25,4,23,0] ?_
 exact qb ((!x8), ())
 intro h4
 refine qh (k := 7) rfl h4 ?_
 refine au [6,6,6,24,0,0] ?_
 exact qb (false, ())
 rintro ⟨x6, _⟩
 try dsimp only
 refine qa (os := _) rfl ?_
 refine au [3] ?_
 refine qq 4 x6 [(16, .bool (x6 || (decide (x1 < x2))))] (fun h7 => ?_) (fun h7 => ?_) ?_
 refine qa (os := _) rfl (qi (k := 12) rfl h7 ?_)
 refine au [6,6,6,23] ?_
 refine qc (d := 16) (v := .bool (x6 || (decide (x1 < x2)))) rfl (by rw [h7]; simp only [Bool.true_or]) ?_
 exact az [0,16]
 refine qa (os := _) rfl (qh (k := 12) rfl h7 ?_)
 refine au [3,3,24,4,24,0] ?_
 refine qc (d := 16) (v := .bool (x6 || (decide (x1 < x2)))) rfl (by rw [h7]; simp only [Bool.false_or]) ?_
 exact az [0,16]
 refine qa (os := _) rfl ?_
 exact az [5,0,1,8,17]
theorem qeN {F : Nat} {x1 : Int} {r : Bool} (hm : ya F x1 = some r) :
    Pure Tryz.prog 58 [.int .i64 x1] [] Unit (fun _ => .bool r) (fun _ => []) (fun _ => []) := by
 refine qk Tryz.func58 rfl Tryz.ntmps58 rfl hm (fun w => ?_)
 exact az [25,3,2,4,5,0,1,2,4,3,3,25,1,5,0,1,8,17]
set_option maxHeartbeats 4000000 in
theorem qb7 {F : Nat} {x1 : List Int} {a2 : Option Addr} {c3 : Nat} {x4 : Int} {r : (Int × Bool)} (hm : qC F x1 x4 = some r) :
    Pure Tryz.prog 26 [.slice a2 x1.length c3, .int .i64 x4] [Sl (eI .i64) 1 (.slice a2 x1.length c3) x1] Unit (fun _ => .tuple #[.int .i64 r.1, .bool r.2]) (fun _ => []) (fun _ => []) := by
 refine qk Tryz.func26 rfl Tryz.ntmps26 rfl hm (fun w => ?_)
 refine au [24,10,2,4,5,5,0,1,2,4,3,24,6,5,0,1,2,4,3,5,5,0,1] ?_
 refine qe (fun ((x32, _) : (Int × Unit)) => ([(0, .slice a2 x1.length c3), (1, .int .i64 x4), (6, .int .i64 (x1.length : Int)), (7, .int .i64 x32)], [], [], [Sl (eI .i64) 1 (.slice a2 x1.length c3) x1], q5 F x1 x4 x32)) ?_ ?_
 refine au [15] ?_
 refine qw (fun (((x85, x86), _) : ((Int × Int) × Unit)) => ([(0, .slice a2 x1.length c3), (1, .int .i64 x4), (6, .int .i64 (x1.length : Int)), (7, .int .i64 x85), (8, .int .i64 x86)], [], [], [Sl (eI .i64) 1 (.slice a2 x1.length c3) x1])) (fun k (s : ((Int × Int) × Unit)) => qs F x1 x4 k s.1) ((0, (x1.length : Int)), ()) F ?_
 intro k95
 rintro ⟨⟨x85, x86⟩, _⟩
 try dsimp only
 refine qJ (m' := qX F x1 x4 (qs F x1 x4 k95) x85 x86) rfl ?_
 refine av [2,2,4,3,3,24,4,0,1,11] ?_ ?_
 intro _
 refine au [12,1,15,2,4,3,3,19,25,12,27,12,25,12,5,26,9] ?_
 intro x97 e97
 refine qc (d := 9) (v := .int .i64 x97) rfl (by rw [e97] <;> rfl) ?_
 refine au [0,1,2,4,3,3,26,6] ?_
 intro x98 e98 b99 o100
 refine au [25,13,3] ?_
 refine qf qgC ?_
 intro x101 e101 _
 refine av [0,1,11] ?_ ?_
 intro _
 refine au [4,3,19,5,0,24,5] ?_
 exact qp ((iadd .i64 x97 1, x86), ())
 intro _
 refine au [4,3,5,0,24,5] ?_
 exact qp ((x85, x97), ())
 intro _
 refine au [24,11,20,20,24,12] ?_
 exact qb (x85, ())
 rintro ⟨x32, _⟩
 try dsimp only
 refine au [2,4,3,3,3,24,4,3] ?_
 refine qY 18 (fun ((x55, _) : (Bool × Unit)) => ([(31, .int .i64 x32), (53, .bool x55)], [], [], [], kG F x32 x55)) ?_ ?_
 refine qa (os := _) rfl ?_
 refine av [25,9] ?_ ?_
 intro h33
 refine qi (k := 35) rfl h33 ?_
 refine au [3,3,26,6] ?_
 intro x56 e56 b57 o58
 refine au [25,13,3,24,13,3] ?_
 refine qY 10 (fun ((x68, _) : (Bool × Unit)) => ([(31, .int .i64 x32), (35, .bool true), (52, .bool x68)], [], [], [], kH F x32 x68)) ?_ ?_
 refine qa (os := _) rfl ?_
 refine av [25,9] ?_ ?_
 intro h59
 refine qi (k := 42) rfl h59 ?_
 refine au [6,6,6,6,6,6,6,6,6,23,0] ?_
 exact qb (true, ())
 intro h59
 refine qh (k := 42) rfl h59 ?_
 refine au [3,3,28,10] ?_
 intro x69 e69 b70 o71
 refine au [25,13,32,1] ?_
 intro x72 e72 _
 refine au [3] ?_
 refine qY 3 (fun ((x75, _) : (Bool × Unit)) => ([(31, .int .i64 x32), (35, .bool true), (42, .bool false), (51, .bool x75)], [], [], [], kI F x32 x75)) ?_ ?_
 refine qa (os := _) rfl ?_
 refine av [25,9] ?_ ?_
 intro h73
 refine qi (k := 48) rfl h73 ?_
 refine au [3,32,1] ?_
 intro x76 e76 _
 refine au [23,0] ?_
 exact qb (x76, ())
 intro h73
 refine qh (k := 48) rfl h73 ?_
 refine au [6,6,24,0,0] ?_
 exact qb (false, ())
 rintro ⟨x75, _⟩
 try dsimp only
 refine qa (os := _) rfl ?_
 refine au [24,0,0] ?_
 exact qb (x75, ())
 rintro ⟨x68, _⟩
 try dsimp only
 refine qa (os := _) rfl ?_
 refine au [23,0] ?_
 exact qb (x68, ())
 intro h33
 refine qh (k := 35) rfl h33 ?_
 refine au [6,6,6,6,6,6,6,6,6,6,6,6,6,6,6,6,6,24,0,0] ?_
 exact qb (false, ())
 rintro ⟨x55, _⟩
 try dsimp only
 refine qa (os := _) rfl ?_
 exact az [5,5,0,1,8,17]
set_option maxHeartbeats 4000000 in
theorem qeM {F : Nat} {g1 : Nat} {x2 : List Int} {a3 : Option Addr} {c4 : Nat} {x5 : Bool} {x6 : Int} {x7 : Bool} {r : (List Int × Bool × Int)} (hm : jo F x2 x5 x6 x7 = some r) :
    PureM Tryz.prog 186 [.pointer (some ⟨g1, 0, none⟩), .bool x7] [⟨g1, 254, [.slice a3 x2.length c4, .bool x5, .int .i64 x6]⟩] [Ro (eI .i64) 3 1 (.slice a3 x2.length c4) x2] [] (Option Addr × Nat) (fun _ => .tuple #[]) (fun g => [⟨g1, 254, [.slice g.1 r.1.length g.2, .bool r.2.1, .int .i64 r.2.2]⟩]) (fun g => [Ro (eI .i64) 3 1 (.slice g.1 r.1.length g.2) r.1]) := by
 refine zi Tryz.func186 rfl Tryz.ntmps186 rfl hm (fun w => ?_)
 refine au [24,10] ?_
 refine qe (fun (((x21, x22, x23), (a19, c20)) : ((List Int × Bool × Int) × (Option Addr × Nat))) => ([(0, .pointer (some ⟨g1, 0, none⟩))], [⟨g1, 254, [.slice a19 x21.length c20, .bool x22, .int .i64 x23]⟩], [Ro (eI .i64) 3 1 (.slice a19 x21.length c20) x21], [], va F x21 x22 x23)) ?_ ?_
 refine au [2,4,3,3,25,0,9,18] ?_
 refine qrT rfl UnF.u rfl rfl rfl ?_
 refine av [0,1,11] ?_ ?_
 intro _
 refine au [2] ?_
 refine qH mixed [13] [] [(BlkD.is ⟨g1, 254, [.slice a3 x2.length c4, .bool x5, .int .i64 x6]⟩)] .nil (qgp 0 rfl qB) 14 rfl ?_
 refine au [7,0,7,1,7,2,21,3] ?_
 refine zk 4 (.slice a3 x2.length c4) [[13]] rfl rfl rfl (vJ (j := 0) rfl tf39 rfl rfl (fun _ => rfl) rfl) ?_
 refine au [7,5,7,6,21,7] ?_
 refine zk 8 (.int .i64 x6) [[13]] rfl rfl rfl (vJ (j := 0) rfl tf3 rfl rfl (fun _ => rfl) rfl) ?_
 refine au [24,3,9] ?_
 refine qv (vs := [.int .i64 x6]) (ys := ([x6] : List Int)) (qP .i64) (by decide) rfl Tryz.underlying39 tf3 rfl rfl rfl rfl rfl (by decide) (fun a29 c30 => ?_)
 refine au [0,29,11,24,3,10] ?_
 refine kx 1 (qP .i64) rfl Tryz.underlying39 tf3 rfl rfl rfl rfl rfl (.inl ⟨0, _, rfl⟩) rfl rfl (fun x31 e31 a32 c33 => ?_)
 refine au [0,29,11,7,11,21,12,24,3,13,24,2,0] ?_
 refine qbH 13 rfl (by kernel_rfl) .nil ?_
 refine au [24,9] ?_
 refine qQ ?_ (by intro c h; cases h)
 refine au [1,4,3,3,3,25,0,9,24,2,25,0,9,24,2,0] ?_
 exact qb ((x31, x7, (0 : Int)), (a32, c33))
 intro _
 refine au [12] ?_
 exact qb ((x2, x5, x6), (a3, c4))
 rintro ⟨⟨x21, x22, x23⟩, ⟨a19, c20⟩⟩
 try dsimp only
 refine au [4,3,25,0,9,18,19,25,0,9,24,2,0] ?_
 exact q7 (a19, c20)
set_option maxHeartbeats 4000000 in
theorem qj8 {F : Nat} {x1 : List Int} {a2 : Option Addr} {c3 : Nat} {x4 : List Int} {a5 : Option Addr} {c6 : Nat} {r : (List Int × List Int)} (hm : qc7 F x1 x4 = some r) :
    Pure Tryz.prog 157 [.slice a2 x1.length c3, .slice a5 x4.length c6] [Sl (eI .i64) 1 (.slice a2 x1.length c3) x1, Sl (eI .i64) 1 (.slice a5 x4.length c6) x4] ((Option Addr × Nat) × (Option Addr × Nat)) (fun g => .tuple #[.slice g.1.1 r.1.length g.1.2, .slice g.2.1 r.2.length g.2.2]) (fun g => [Ro (eI .i64) 3 1 (.slice g.1.1 r.1.length g.1.2) r.1, Ro (eI .i64) 3 1 (.slice g.2.1 r.2.length g.2.2) r.2]) (fun _ => []) := by
 refine qk Tryz.func157 rfl Tryz.ntmps157 rfl hm (fun w => ?_)
 refine au [24,10,2,4,5,5,0,1,2,4] ?_
 refine ql (cells := [.slice none 0 0, .bool true, .int .i64 0]) rfl st254 rfl (by kernel_rfl) rfl ?_
 refine au [22] ?_
 intro g7
 refine au [5,0,1] ?_
 refine qe (fun (((x66, x67, x68), (a64, c65)) : ((List Int × Bool × Int) × (Option Addr × Nat))) => ([(0, .slice a2 x1.length c3), (1, .slice a5 x4.length c6), (5, .slice none 0 0), (6, .pointer (some ⟨g7, 0, none⟩))], [⟨g7, 254, [.slice a64 x66.length c65, .bool x67, .int .i64 x68]⟩], [Ro (eI .i64) 3 1 (.slice a64 x66.length c65) x66], [Sl (eI .i64) 1 (.slice a2 x1.length c3) x1, Sl (eI .i64) 1 (.slice a5 x4.length c6) x4], qcP F x1 x4 x66 x67 x68)) ?_ ?_
 refine au [2,4,3,24,6,3,0,1,15,27,5] ?_
 refine qw (fun (((x249, x252, x253, x254), (a250, c251)) : ((Int × List Int × Bool × Int) × (Option Addr × Nat))) => ([(0, .slice a2 x1.length c3), (1, .slice a5 x4.length c6), (5, .slice none 0 0), (6, .pointer (some ⟨g7, 0, none⟩)), (17, .slice a2 x1.length c3), (18, .int .i64 (x1.length : Int)), (19, .int .i64 x249)], [⟨g7, 254, [.slice a250 x252.length c251, .bool x253, .int .i64 x254]⟩], [Ro (eI .i64) 3 1 (.slice a250 x252.length c251) x252], [Sl (eI .i64) 1 (.slice a2 x1.length c3) x1, Sl (eI .i64) 1 (.slice a5 x4.length c6) x4])) (fun k (s : ((Int × List Int × Bool × Int) × (Option Addr × Nat))) => vm F x1 x4 k s.1) ((0, ([] : List Int), true, 0), (none, 0)) F ?_
 intro k271
 rintro ⟨⟨x249, x252, x253, x254⟩, ⟨a250, c251⟩⟩
 try dsimp only
 refine qJ (m' := qa4 F x1 x4 (vm F x1 x4 k271) x249 x252 x253 x254) rfl ?_
 refine av [2,4,24,4,0,1,2,11] ?_ ?_
 intro _
 refine au [12,1,2,15,2,4,26,6] ?_
 intro x280 e280 b281 o282
 refine au [25,13,5,0,1,2,4,3,3,29,12] ?_
 intro x283 e283 _
 refine au [3,13,13,5,5,0,1,4,3,3] ?_
 refine qz qeM ?_
 rintro x284 e284 ⟨a285, c286⟩
 refine au [0,24,5,1,4,19,3,0] ?_
 exact qp ((iadd .i64 x249 1, x284.1, x284.2.1, x284.2.2), (a285, c286))
 intro _
 refine au [24,11,20,20,24,12] ?_
 exact qb ((x252, x253, x254), (a250, c251))
 rintro ⟨⟨x66, x67, x68⟩, ⟨a64, c65⟩⟩
 try dsimp only
 refine qe (fun ((x151, (a149, c150)) : (List Int × (Option Addr × Nat))) => ([(5, .slice a149 x151.length c150), (6, .pointer (some ⟨g7, 0, none⟩))], [⟨g7, 254, [.slice a64 x66.length c65, .bool x67, .int .i64 x68]⟩], [Ro (eI .i64) 3 1 (.slice a149 x151.length c150) x151, Ro (eI .i64) 3 1 (.slice a64 x66.length c65) x66], [], qcQ F x66 x151)) ?_ ?_
 refine au [2,4,3,24,6,3,0,1,15,27,5] ?_
 refine qw (fun (((x179, x180), (a177, c178)) : ((List Int × Int) × (Option Addr × Nat))) => ([(0, .slice a2 x1.length c3), (5, .slice a177 x179.length c178), (6, .pointer (some ⟨g7, 0, none⟩)), (33, .slice a5 x4.length c6), (34, .int .i64 (x4.length : Int)), (35, .int .i64 x180)], [⟨g7, 254, [.slice a64 x66.length c65, .bool x67, .int .i64 x68]⟩], [Ro (eI .i64) 3 1 (.slice a177 x179.length c178) x179, Ro (eI .i64) 3 1 (.slice a64 x66.length c65) x66], [Sl (eI .i64) 1 (.slice a2 x1.length c3) x1, Sl (eI .i64) 1 (.slice a5 x4.length c6) x4])) (fun k (s : ((List Int × Int) × (Option Addr × Nat))) => yD F x1 x4 x66 k s.1) ((([] : List Int), 0), (none, 0)) F ?_
 intro k206
 rintro ⟨⟨x179, x180⟩, ⟨a177, c178⟩⟩
 try dsimp only
 refine qJ (m' := qa3 F x1 x4 x66 (yD F x1 x4 x66 k206) x179 x180) rfl ?_
 refine av [2,4,24,4,0,1,2,11] ?_ ?_
 intro _
 refine au [12,1] ?_
 refine qe (fun ((x220, (a218, c219)) : (List Int × (Option Addr × Nat))) => ([(0, .slice a2 x1.length c3), (5, .slice a218 x220.length c219), (6, .pointer (some ⟨g7, 0, none⟩)), (33, .slice a5 x4.length c6), (34, .int .i64 (x4.length : Int)), (35, .int .i64 x180)], [⟨g7, 254, [.slice a64 x66.length c65, .bool x67, .int .i64 x68]⟩], [Ro (eI .i64) 3 1 (.slice a218 x220.length c219) x220, Ro (eI .i64) 3 1 (.slice a64 x66.length c65) x66], [Sl (eI .i64) 1 (.slice a2 x1.length c3) x1, Sl (eI .i64) 1 (.slice a5 x4.length c6) x4], qa5 F (yD F x1 x4 x66 k206) x180 x220)) ?_ ?_
 refine au [15,2,4,28,10] ?_
 intro x221 e221 b222 o223
 refine au [25,13,5,0,1,2,4,3,3,29,12] ?_
 intro x224 e224 _
 refine av [3,13,13,5,5,0,1,2,4,3,25,4,0,1,11] ?_ ?_
 intro _
 refine au [4,3,3] ?_
 refine qv (vs := [.int .i64 x221]) (ys := ([x221] : List Int)) (qP .i64) (by decide) rfl Tryz.underlying39 tf3 rfl rfl rfl rfl rfl (by decide) (fun a225 c226 => kx 1 (qP .i64) rfl Tryz.underlying39 tf3 rfl rfl rfl rfl rfl (.inl ⟨0, _, rfl⟩) rfl rfl (fun x227 e227 a228 c229 => ?_))
 refine au [5,0,24,5] ?_
 exact qb (x227, (a228, c229))
 intro _
 refine au [12,24,5] ?_
 exact qb (x179, (a177, c178))
 rintro ⟨x220, ⟨a218, c219⟩⟩
 try dsimp only
 refine au [4,19,3,0] ?_
 exact qp ((x220, iadd .i64 x180 1), (a218, c219))
 intro _
 refine au [24,11,20,20,24,12] ?_
 exact qb (x179, (a177, c178))
 rintro ⟨x151, ⟨a149, c150⟩⟩
 try dsimp only
 refine au [2,4,3,25,0,9,18,3,5,5,0,1,8] ?_
 exact qy ((a64, c65), (a149, c150))
theorem qd7 {F : Nat} {g1 : Nat} {x2 : Int} {x3 : List Int} {a4 : Option Addr} {c5 : Nat} {x6 : Bool} {x7 : List Int} {a8 : Option Addr} {c9 : Nat} {r : (Int × List Int × Bool)} (hm : vF F x2 x3 x6 x7 = some r) :
    PureM Tryz.prog 158 [.pointer (some ⟨g1, 0, none⟩), .slice a8 x7.length c9] [⟨g1, 179, [.int .i64 x2, .slice a4 x3.length c5, .bool x6]⟩] [Ro (eI .u8) 5 1 (.slice a4 x3.length c5) x3] [Sl (eI .i64) 1 (.slice a8 x7.length c9) x7] (Option Addr × Nat) (fun _ => .tuple #[]) (fun g => [⟨g1, 179, [.int .i64 r.1, .slice g.1 r.2.1.length g.2, .bool r.2.2]⟩]) (fun g => [Ro (eI .u8) 5 1 (.slice g.1 r.2.1.length g.2) r.2.1]) := by
 refine zi Tryz.func158 rfl Tryz.ntmps158 rfl hm (fun w => ?_)
 refine au [24,10,2,4,3,3,24,6,27,6] ?_
 rintro x10 e10 ⟨a11, c12⟩
 refine au [0,1,2,4,3,24,6,3,0,1,15] ?_
 refine qw (fun (((x27, x28, x31, x32), (a29, c30)) : ((Int × Int × List Int × Bool) × (Option Addr × Nat))) => ([(0, .pointer (some ⟨g1, 0, none⟩)), (10, .slice a8 x7.length c9), (11, .int .i64 (x7.length : Int)), (12, .int .i64 x27)], [⟨g1, 179, [.int .i64 x28, .slice a29 x31.length c30, .bool x32]⟩], [Ro (eI .u8) 5 1 (.slice a29 x31.length c30) x31], [Sl (eI .i64) 1 (.slice a8 x7.length c9) x7])) (fun k (s : ((Int × Int × List Int × Bool) × (Option Addr × Nat))) => zP F x7 k s.1) ((0, x10.1, x10.2.1, x10.2.2), (a11, c12)) F ?_
 intro k47
 rintro ⟨⟨x27, x28, x31, x32⟩, ⟨a29, c30⟩⟩
 try dsimp only
 refine qJ (m' := yx F x7 (zP F x7 k47) x27 x28 x31 x32) rfl ?_
 refine av [2,4,24,4,0,1,2,11] ?_ ?_
 intro _
 refine au [12,1,2,15,2,4,3,26,6] ?_
 intro x55 e55 b56 o57
 refine au [25,13,5,5,0,1,4,3,3,3,27,13,25,5,27,6] ?_
 rintro x58 e58 ⟨a59, c60⟩
 refine au [0,24,5,1,4,19,3,0] ?_
 exact qp ((iadd .i64 x27 1, x58.1, x58.2.1, x58.2.2), (a59, c60))
 intro _
 refine au [24,11,20,20,24,12] ?_
 exact q7 (a29, c30)
theorem qj9 {F : Nat} {x1 : List Int} {a2 : Option Addr} {c3 : Nat} {r : Unit} (hm : qd8 F x1 = some r) :
    PureM Tryz.prog 187 [.slice a2 x1.length c3] [] [] [Sl (eI .i64) 1 (.slice a2 x1.length c3) x1] Nat (fun g => .func (.func 211) #[] #[.pointer (some ⟨g, 0, none⟩)]) (fun g => [⟨g, 39, [.slice a2 x1.length c3]⟩]) (fun _ => []) := by
 refine zi Tryz.func187 rfl Tryz.ntmps187 rfl hm (fun w => ?_)
 refine au [25,3,2,4,22] ?_
 intro g4
 refine au [5,0,1,2,4,27,9,5,0,1,8] ?_
 exact q7 g4
end Go.Proofs.YtmhggdbfbmkpeaaGreat
