/- Each Go function of this seat computes what its model says. -/
import Derived.Test.YtlioijpkhffbnaaGreatRows
import Derived.Test.YtlioijpkhffbnaaGreatModels
import Derived.Test.YtlioijpkhffbnaaGreatShelf
namespace Go.Proofs.YtlioijpkhffbnaaGreat
open Go SX
def eN59 (p : List Int × (Option Addr × Nat)) : List Value := [.slice p.2.1 p.1.length p.2.2]
def iN59 (p : List Int × (Option Addr × Nat)) : List (World → Prop) := [Sl (eI .i64) 1 (.slice p.2.1 p.1.length p.2.2) p.1]
theorem vu : EncOk eN59 1 := ⟨fun _ => rfl, fun _ => rfl⟩
def rN59 (p : List Int × (Option Addr × Nat)) : List RowF := [FoR (eI .i64) 3 1 (.slice p.2.1 p.1.length p.2.2) p.1]
theorem qql : ∀ p, iN59 p = (rN59 p).map RowF.cells := fun _ => rfl
theorem qqe : ∀ f ∈ rN59 (([] : List Int), ((none, 0) : Option Addr × Nat)), f.v = .slice none 0 0 ∧ f.n = 0 ∧ f.cs = [] := by simp [rN59, FoR]
def eS129 (p : (Int × Int)) : List Value := [.int .i64 p.1, .int .i64 p.2]
theorem qbO : EncOk eS129 2 := ⟨fun _ => rfl, fun _ => rfl⟩
instance tf3 : TyF Tryz.prog 3 false (.int .i64 0) 1 8 := .of (by kernel_rfl) (by kernel_rfl)
instance tf4 : TyF Tryz.prog 4 false (.bool false) 1 1 := .of (by kernel_rfl) (by kernel_rfl)
instance tf5 : TyF Tryz.prog 5 false (.int .u8 0) 1 1 := .of (by kernel_rfl) (by kernel_rfl)
instance tf22 : TyF Tryz.prog 22 false (.slice none 0 0) 1 24 := .of (by kernel_rfl) (by kernel_rfl)
instance tf24 : TyF Tryz.prog 24 true (.agg #[.slice none 0 0]) 1 24 := .of (by kernel_rfl) (by kernel_rfl)
instance tf26 : TyF Tryz.prog 26 true (.agg #[.int .i64 0, .int .i64 0, .int .i64 0]) 3 24 := .of (by kernel_rfl) (by kernel_rfl)
instance tf27 : TyF Tryz.prog 27 false (.slice none 0 0) 1 24 := .of (by kernel_rfl) (by kernel_rfl)
instance tf29 : TyF Tryz.prog 29 true (.agg #[.int .i64 0, .int .i64 0, .int .i64 0, .int .i64 0]) 4 32 := .of (by kernel_rfl) (by kernel_rfl)
instance tf58 : TyF Tryz.prog 58 false (.int .u64 0) 1 8 := .of (by kernel_rfl) (by kernel_rfl)
instance tf59 : TyF Tryz.prog 59 false (.slice none 0 0) 1 24 := .of (by kernel_rfl) (by kernel_rfl)
instance tf65 : TyF Tryz.prog 65 true (.agg #[.int .i64 0, .slice none 0 0]) 2 32 := .of (by kernel_rfl) (by kernel_rfl)
instance tf75 : TyF Tryz.prog 75 true (.agg #[.int .i64 0, .int .i64 0, .int .i64 0, .int .i64 0, .int .i64 0, .slice none 0 0]) 6 64 := .of (by kernel_rfl) (by kernel_rfl)
instance tf81 : TyF Tryz.prog 81 false (.nilFunc) 1 8 := .of (by kernel_rfl) (by kernel_rfl)
instance tf125 : TyF Tryz.prog 125 false (.slice none 0 0) 1 24 := .of (by kernel_rfl) (by kernel_rfl)
instance tf129 : TyF Tryz.prog 129 true (.agg #[.int .i64 0, .int .i64 0]) 2 16 := .of (by kernel_rfl) (by kernel_rfl)
instance tf140 : TyF Tryz.prog 140 true (.agg #[.int .i64 0, .int .i64 0, .slice none 0 0]) 3 40 := .of (by kernel_rfl) (by kernel_rfl)
instance tf155 : TyF Tryz.prog 155 false (.pointer none) 1 8 := .of (by kernel_rfl) (by kernel_rfl)
instance tf178 : TyF Tryz.prog 178 true (.agg #[]) 0 0 := .of (by kernel_rfl) (by kernel_rfl)
instance ff24_0 : FdF Tryz.prog 24 0 0 := .of (by kernel_rfl)
instance ff26_0 : FdF Tryz.prog 26 0 0 := .of (by kernel_rfl)
instance ff26_1 : FdF Tryz.prog 26 1 1 := .of (by kernel_rfl)
instance ff26_2 : FdF Tryz.prog 26 2 2 := .of (by kernel_rfl)
instance ff29_0 : FdF Tryz.prog 29 0 0 := .of (by kernel_rfl)
instance ff29_1 : FdF Tryz.prog 29 1 1 := .of (by kernel_rfl)
instance ff29_2 : FdF Tryz.prog 29 2 2 := .of (by kernel_rfl)
instance ff29_3 : FdF Tryz.prog 29 3 3 := .of (by kernel_rfl)
instance ff65_0 : FdF Tryz.prog 65 0 0 := .of (by kernel_rfl)
instance ff65_1 : FdF Tryz.prog 65 1 1 := .of (by kernel_rfl)
instance ff75_0 : FdF Tryz.prog 75 0 0 := .of (by kernel_rfl)
instance ff75_1 : FdF Tryz.prog 75 1 1 := .of (by kernel_rfl)
instance ff75_2 : FdF Tryz.prog 75 2 4 := .of (by kernel_rfl)
instance ff80_0 : FdF Tryz.prog 80 0 0 := .of (by kernel_rfl)
instance ff80_1 : FdF Tryz.prog 80 1 1 := .of (by kernel_rfl)
instance ff80_2 : FdF Tryz.prog 80 2 2 := .of (by kernel_rfl)
instance ff80_3 : FdF Tryz.prog 80 3 3 := .of (by kernel_rfl)
instance ff101_0 : FdF Tryz.prog 101 0 0 := .of (by kernel_rfl)
instance ff101_1 : FdF Tryz.prog 101 1 1 := .of (by kernel_rfl)
instance ff107_0 : FdF Tryz.prog 107 0 0 := .of (by kernel_rfl)
instance ff107_1 : FdF Tryz.prog 107 1 6 := .of (by kernel_rfl)
instance ff107_2 : FdF Tryz.prog 107 2 7 := .of (by kernel_rfl)
instance ff129_0 : FdF Tryz.prog 129 0 0 := .of (by kernel_rfl)
instance ff129_1 : FdF Tryz.prog 129 1 1 := .of (by kernel_rfl)
instance ff140_0 : FdF Tryz.prog 140 0 0 := .of (by kernel_rfl)
instance ff140_1 : FdF Tryz.prog 140 1 1 := .of (by kernel_rfl)
instance ff161_0 : FdF Tryz.prog 161 0 0 := .of (by kernel_rfl)
instance ff166_0 : FdF Tryz.prog 166 0 0 := .of (by kernel_rfl)
instance ff166_1 : FdF Tryz.prog 166 1 2 := .of (by kernel_rfl)
instance ff183_0 : FdF Tryz.prog 183 0 0 := .of (by kernel_rfl)
instance ff183_1 : FdF Tryz.prog 183 1 2 := .of (by kernel_rfl)
instance ff214_0 : FdF Tryz.prog 214 0 0 := .of (by kernel_rfl)
instance ff214_1 : FdF Tryz.prog 214 1 1 := .of (by kernel_rfl)
instance ff214_2 : FdF Tryz.prog 214 2 2 := .of (by kernel_rfl)
instance st24 : StF Tryz.prog 24 [(0, 1)] (.agg #[.slice none 0 0]) := .of (by kernel_rfl) (by kernel_rfl)
instance st26 : StF Tryz.prog 26 [(0, 1), (1, 1), (2, 1)] (.agg #[.int .i64 0, .int .i64 0, .int .i64 0]) := .of (by kernel_rfl) (by kernel_rfl)
instance st29 : StF Tryz.prog 29 [(0, 1), (1, 1), (2, 1), (3, 1)] (.agg #[.int .i64 0, .int .i64 0, .int .i64 0, .int .i64 0]) := .of (by kernel_rfl) (by kernel_rfl)
instance st65 : StF Tryz.prog 65 [(0, 1), (1, 1)] (.agg #[.int .i64 0, .slice none 0 0]) := .of (by kernel_rfl) (by kernel_rfl)
instance st75 : StF Tryz.prog 75 [(0, 1), (1, 3), (4, 2)] (.agg #[.int .i64 0, .int .i64 0, .int .i64 0, .int .i64 0, .int .i64 0, .slice none 0 0]) := .of (by kernel_rfl) (by kernel_rfl)
instance st80 : StF Tryz.prog 80 [(0, 1), (1, 1), (2, 1), (3, 1)] (.agg #[.slice none 0 0, .int .i64 0, .int .i64 0, .bool false]) := .of (by kernel_rfl) (by kernel_rfl)
instance st101 : StF Tryz.prog 101 [(0, 1), (1, 1)] (.agg #[.int .i64 0, .bool false]) := .of (by kernel_rfl) (by kernel_rfl)
instance st107 : StF Tryz.prog 107 [(0, 6), (6, 1), (7, 1)] (.agg #[.int .i64 0, .int .i64 0, .int .i64 0, .int .i64 0, .int .i64 0, .slice none 0 0, .slice none 0 0, .slice none 0 0]) := .of (by kernel_rfl) (by kernel_rfl)
instance st129 : StF Tryz.prog 129 [(0, 1), (1, 1)] (.agg #[.int .i64 0, .int .i64 0]) := .of (by kernel_rfl) (by kernel_rfl)
instance st140 : StF Tryz.prog 140 [(0, 1), (1, 2)] (.agg #[.int .i64 0, .int .i64 0, .slice none 0 0]) := .of (by kernel_rfl) (by kernel_rfl)
instance st161 : StF Tryz.prog 161 [(0, 2)] (.agg #[.int .i64 0, .slice none 0 0]) := .of (by kernel_rfl) (by kernel_rfl)
instance st166 : StF Tryz.prog 166 [(0, 2), (2, 1)] (.agg #[.int .i64 0, .slice none 0 0, .int .i64 0]) := .of (by kernel_rfl) (by kernel_rfl)
instance st178 : StF Tryz.prog 178 [] (.agg #[]) := .of (by kernel_rfl) (by kernel_rfl)
instance st183 : StF Tryz.prog 183 [(0, 2), (2, 1)] (.agg #[.int .i64 0, .slice none 0 0, .bool false]) := .of (by kernel_rfl) (by kernel_rfl)
instance st214 : StF Tryz.prog 214 [(0, 1), (1, 1), (2, 1)] (.agg #[.slice none 0 0, .bool false, .int .i64 0]) := .of (by kernel_rfl) (by kernel_rfl)
instance se29 : StE4 Tryz.prog 29 .i64 .i64 .i64 .i64 := ⟨_, _, _, _, Tryz.underlying29, by kernel_rfl, by kernel_rfl, by decide, by decide, by decide, by decide, rfl, rfl, rfl, rfl, Tryz.underlying3, Tryz.underlying3, Tryz.underlying3, Tryz.underlying3⟩
theorem mixed : Tryz.prog.follows .mixedOrders = true := by kernel_rfl
instance en10 : EnC Tryz.prog 10 := ⟨qb Tryz.func10 rfl rfl⟩
instance en11 : EnC Tryz.prog 11 := ⟨qb Tryz.func11 rfl rfl⟩
instance en12 : EnC Tryz.prog 12 := ⟨qb Tryz.func12 rfl rfl⟩
instance en15 : EnC Tryz.prog 15 := ⟨qb Tryz.func15 rfl rfl⟩
instance en16 : EnC Tryz.prog 16 := ⟨qb Tryz.func16 rfl rfl⟩
instance en17 : EnC Tryz.prog 17 := ⟨qb Tryz.func17 rfl rfl⟩
instance en18 : EnC Tryz.prog 18 := ⟨qb Tryz.func18 rfl rfl⟩
instance en19 : EnC Tryz.prog 19 := ⟨qb Tryz.func19 rfl rfl⟩
instance en20 : EnC Tryz.prog 20 := ⟨qb Tryz.func20 rfl rfl⟩
instance en21 : EnC Tryz.prog 21 := ⟨qb Tryz.func21 rfl rfl⟩
instance en22 : EnC Tryz.prog 22 := ⟨qb Tryz.func22 rfl rfl⟩
instance en31 : EnC Tryz.prog 31 := ⟨qb Tryz.func31 rfl rfl⟩
instance en32 : EnC Tryz.prog 32 := ⟨qb Tryz.func32 rfl rfl⟩
instance en33 : EnC Tryz.prog 33 := ⟨qb Tryz.func33 rfl rfl⟩
instance en34 : EnC Tryz.prog 34 := ⟨qb Tryz.func34 rfl rfl⟩
instance en35 : EnC Tryz.prog 35 := ⟨qb Tryz.func35 rfl rfl⟩
theorem ent36 : Enters Tryz.prog 36 := qb Tryz.func36 rfl rfl
instance en36 : EnC Tryz.prog 36 := ⟨ent36⟩
theorem ent37 : Enters Tryz.prog 37 := qb Tryz.func37 rfl rfl
instance en37 : EnC Tryz.prog 37 := ⟨ent37⟩
instance en44 : EnC Tryz.prog 44 := ⟨qb Tryz.func44 rfl rfl⟩
instance en45 : EnC Tryz.prog 45 := ⟨qb Tryz.func45 rfl rfl⟩
instance en46 : EnC Tryz.prog 46 := ⟨qb Tryz.func46 rfl rfl⟩
instance en47 : EnC Tryz.prog 47 := ⟨qb Tryz.func47 rfl rfl⟩
instance en48 : EnC Tryz.prog 48 := ⟨qb Tryz.func48 rfl rfl⟩
instance en49 : EnC Tryz.prog 49 := ⟨qb Tryz.func49 rfl rfl⟩
instance en50 : EnC Tryz.prog 50 := ⟨qb Tryz.func50 rfl rfl⟩
instance en51 : EnC Tryz.prog 51 := ⟨qb Tryz.func51 rfl rfl⟩
instance en59 : EnC Tryz.prog 59 := ⟨qb Tryz.func59 rfl rfl⟩
instance en60 : EnC Tryz.prog 60 := ⟨qb Tryz.func60 rfl rfl⟩
instance en61 : EnC Tryz.prog 61 := ⟨qb Tryz.func61 rfl rfl⟩
instance en62 : EnC Tryz.prog 62 := ⟨qb Tryz.func62 rfl rfl⟩
instance en63 : EnC Tryz.prog 63 := ⟨qb Tryz.func63 rfl rfl⟩
instance en64 : EnC Tryz.prog 64 := ⟨qb Tryz.func64 rfl rfl⟩
instance en65 : EnC Tryz.prog 65 := ⟨qb Tryz.func65 rfl rfl⟩
instance en66 : EnC Tryz.prog 66 := ⟨qb Tryz.func66 rfl rfl⟩
instance en78 : EnC Tryz.prog 78 := ⟨qb Tryz.func78 rfl rfl⟩
instance en79 : EnC Tryz.prog 79 := ⟨qb Tryz.func79 rfl rfl⟩
instance en80 : EnC Tryz.prog 80 := ⟨qb Tryz.func80 rfl rfl⟩
instance en81 : EnC Tryz.prog 81 := ⟨qb Tryz.func81 rfl rfl⟩
instance en82 : EnC Tryz.prog 82 := ⟨qb Tryz.func82 rfl rfl⟩
instance en83 : EnC Tryz.prog 83 := ⟨qb Tryz.func83 rfl rfl⟩
instance en90 : EnC Tryz.prog 90 := ⟨qb Tryz.func90 rfl rfl⟩
instance en91 : EnC Tryz.prog 91 := ⟨qb Tryz.func91 rfl rfl⟩
instance en92 : EnC Tryz.prog 92 := ⟨qb Tryz.func92 rfl rfl⟩
instance en93 : EnC Tryz.prog 93 := ⟨qb Tryz.func93 rfl rfl⟩
instance en94 : EnC Tryz.prog 94 := ⟨qb Tryz.func94 rfl rfl⟩
instance en95 : EnC Tryz.prog 95 := ⟨qb Tryz.func95 rfl rfl⟩
instance en96 : EnC Tryz.prog 96 := ⟨qb Tryz.func96 rfl rfl⟩
instance en101 : EnC Tryz.prog 101 := ⟨qb Tryz.func101 rfl rfl⟩
instance en102 : EnC Tryz.prog 102 := ⟨qb Tryz.func102 rfl rfl⟩
theorem ent103 : Enters Tryz.prog 103 := qb Tryz.func103 rfl rfl
instance en103 : EnC Tryz.prog 103 := ⟨ent103⟩
instance en104 : EnC Tryz.prog 104 := ⟨qb Tryz.func104 rfl rfl⟩
theorem ent105 : Enters Tryz.prog 105 := qb Tryz.func105 rfl rfl
instance en105 : EnC Tryz.prog 105 := ⟨ent105⟩
instance en106 : EnC Tryz.prog 106 := ⟨qb Tryz.func106 rfl rfl⟩
theorem ent107 : Enters Tryz.prog 107 := qb Tryz.func107 rfl rfl
instance en107 : EnC Tryz.prog 107 := ⟨ent107⟩
theorem ent108 : Enters Tryz.prog 108 := qb Tryz.func108 rfl rfl
instance en108 : EnC Tryz.prog 108 := ⟨ent108⟩
theorem ent109 : Enters Tryz.prog 109 := qb Tryz.func109 rfl rfl
instance en109 : EnC Tryz.prog 109 := ⟨ent109⟩
instance en110 : EnC Tryz.prog 110 := ⟨qb Tryz.func110 rfl rfl⟩
instance en111 : EnC Tryz.prog 111 := ⟨qb Tryz.func111 rfl rfl⟩
instance en114 : EnC Tryz.prog 114 := ⟨qb Tryz.func114 rfl rfl⟩
instance en115 : EnC Tryz.prog 115 := ⟨qb Tryz.func115 rfl rfl⟩
instance en116 : EnC Tryz.prog 116 := ⟨qb Tryz.func116 rfl rfl⟩
instance en117 : EnC Tryz.prog 117 := ⟨qb Tryz.func117 rfl rfl⟩
instance en118 : EnC Tryz.prog 118 := ⟨qb Tryz.func118 rfl rfl⟩
instance en119 : EnC Tryz.prog 119 := ⟨qb Tryz.func119 rfl rfl⟩
instance en120 : EnC Tryz.prog 120 := ⟨qb Tryz.func120 rfl rfl⟩
theorem ent121 : Enters Tryz.prog 121 := qb Tryz.func121 rfl rfl
instance en121 : EnC Tryz.prog 121 := ⟨ent121⟩
instance en122 : EnC Tryz.prog 122 := ⟨qb Tryz.func122 rfl rfl⟩
theorem ent123 : Enters Tryz.prog 123 := qb Tryz.func123 rfl rfl
instance en123 : EnC Tryz.prog 123 := ⟨ent123⟩
theorem ent124 : Enters Tryz.prog 124 := qb Tryz.func124 rfl rfl
instance en124 : EnC Tryz.prog 124 := ⟨ent124⟩
instance en125 : EnC Tryz.prog 125 := ⟨qb Tryz.func125 rfl rfl⟩
instance en126 : EnC Tryz.prog 126 := ⟨qb Tryz.func126 rfl rfl⟩
instance en127 : EnC Tryz.prog 127 := ⟨qb Tryz.func127 rfl rfl⟩
instance en128 : EnC Tryz.prog 128 := ⟨qb Tryz.func128 rfl rfl⟩
instance en129 : EnC Tryz.prog 129 := ⟨qb Tryz.func129 rfl rfl⟩
instance en130 : EnC Tryz.prog 130 := ⟨qb Tryz.func130 rfl rfl⟩
instance en131 : EnC Tryz.prog 131 := ⟨qb Tryz.func131 rfl rfl⟩
instance en132 : EnC Tryz.prog 132 := ⟨qb Tryz.func132 rfl rfl⟩
instance en133 : EnC Tryz.prog 133 := ⟨qb Tryz.func133 rfl rfl⟩
instance en134 : EnC Tryz.prog 134 := ⟨qb Tryz.func134 rfl rfl⟩
instance en135 : EnC Tryz.prog 135 := ⟨qb Tryz.func135 rfl rfl⟩
instance en136 : EnC Tryz.prog 136 := ⟨qb Tryz.func136 rfl rfl⟩
instance en137 : EnC Tryz.prog 137 := ⟨qb Tryz.func137 rfl rfl⟩
instance en138 : EnC Tryz.prog 138 := ⟨qb Tryz.func138 rfl rfl⟩
instance en139 : EnC Tryz.prog 139 := ⟨qb Tryz.func139 rfl rfl⟩
instance en140 : EnC Tryz.prog 140 := ⟨qb Tryz.func140 rfl rfl⟩
instance en141 : EnC Tryz.prog 141 := ⟨qb Tryz.func141 rfl rfl⟩
instance en142 : EnC Tryz.prog 142 := ⟨qb Tryz.func142 rfl rfl⟩
instance en143 : EnC Tryz.prog 143 := ⟨qb Tryz.func143 rfl rfl⟩
instance en144 : EnC Tryz.prog 144 := ⟨qb Tryz.func144 rfl rfl⟩
instance en147 : EnC Tryz.prog 147 := ⟨qb Tryz.func147 rfl rfl⟩
instance en148 : EnC Tryz.prog 148 := ⟨qb Tryz.func148 rfl rfl⟩
instance en149 : EnC Tryz.prog 149 := ⟨qb Tryz.func149 rfl rfl⟩
instance en150 : EnC Tryz.prog 150 := ⟨qb Tryz.func150 rfl rfl⟩
instance en151 : EnC Tryz.prog 151 := ⟨qb Tryz.func151 rfl rfl⟩
instance en152 : EnC Tryz.prog 152 := ⟨qb Tryz.func152 rfl rfl⟩
instance en153 : EnC Tryz.prog 153 := ⟨qb Tryz.func153 rfl rfl⟩
instance en160 : EnC Tryz.prog 160 := ⟨qb Tryz.func160 rfl rfl⟩
instance en164 : EnC Tryz.prog 164 := ⟨qb Tryz.func164 rfl rfl⟩
theorem ent165 : Enters Tryz.prog 165 := qb Tryz.func165 rfl rfl
instance en165 : EnC Tryz.prog 165 := ⟨ent165⟩
instance en166 : EnC Tryz.prog 166 := ⟨qb Tryz.func166 rfl rfl⟩
instance en167 : EnC Tryz.prog 167 := ⟨qb Tryz.func167 rfl rfl⟩
instance en168 : EnC Tryz.prog 168 := ⟨qb Tryz.func168 rfl rfl⟩
instance en174 : EnC Tryz.prog 174 := ⟨qb Tryz.func174 rfl rfl⟩
theorem qn2 (v : Value) (w : World) : (Instr.makeInterface 178 v).run Tryz.prog w = .ok (.iface 178 v) w := by simp [Instr.makeInterface, run_underlying Tryz.underlying178]
abbrev lostCh : List PanicEntry := [{ v := .iface 178 (.agg #[]), recovered := false }]
theorem qnZ (p q : Addr) : qfI Tryz.prog 107 #[.pointer (some p), .pointer (some q)] := by
  intro w
  refine callsD_of_wpS Tryz.func107 rfl fun c₀ cs hu => ?_
  apply wpS_seq
  apply wpS_region
  simp [wpOpsS, go_sem, recoverD, hu, Tryz.ntmps107, Exit.thenS]
  refine wpS_of_wp ?_
  go_wp2
  cases c₀
  simp_all [bodyPostS, results, Tryz.results107]
theorem qkS (w : World) : (Instr.typeAssert (.iface 178 (.agg #[])) 20 178 true).run Tryz.prog w = .ok (.tuple #[.agg #[], .bool true]) w := by
  simp [Instr.typeAssert, run_underlying Tryz.underlying178]
theorem eqn107 (x y : Operand) (w : World) : (do eqGuard .eql 20 x y (.iface 178 (.agg #[])) .nilIface; binOp .eql 20 (.iface 178 (.agg #[])) .nilIface : Sem Value).run Tryz.prog w = .ok (.bool false) w := by
  simp [go_sem]
set_option maxRecDepth 100000 in
theorem qdB (g1 g2 : Nat) (v1 v2 : Value) : qfJ Tryz.prog 107 #[.pointer (some ⟨g1, 0, none⟩), .pointer (some ⟨g2, 0, none⟩)] 178 (.agg #[]) [⟨g1, 59, [v1]⟩, ⟨g2, 4, [v2]⟩] [⟨g1, 59, [.slice none 0 0]⟩, ⟨g2, 4, [.bool false]⟩] := by
  intro w hp
  refine callsD_of_wpS Tryz.func107 rfl fun c₀ cs hu => ?_
  apply wpS_seq
  apply wpS_region
  simp [wpOpsS, go_sem, recoverD, hu, Tryz.ntmps107, Exit.thenS]
  refine wpS_of_wp (qcr.1 ?_)
  refine (show SXC Tryz.prog none 11 [] (muts [⟨g1, 59, [v1]⟩, ⟨g2, 4, [v2]⟩] []) w _ _ [(0, .pointer (some ⟨g1, 0, none⟩)), (1, .pointer (some ⟨g2, 0, none⟩)), (5, .iface 178 (.agg #[]))] [⟨g1, 59, [v1]⟩, ⟨g2, 4, [v2]⟩] [] [] (some ()) () from ?_) rfl _ _ ⟨rfl, by simp, fun i v hv => ?_⟩ hp
  · refine qgc ?_
    refine qeD ?_
    refine qbl ?_
    refine qiJ rfl rfl rfl (eqn107 _ _) rfl ?_
    refine qdO ?_
    refine qdQ ?_
    refine ju (b := false) rfl (fun h => by cases h) (fun _ => ?_)
    refine qeD ?_
    refine qbl ?_
    refine qhh rfl rfl qkS rfl ?_
    refine qcy rfl rfl rfl rfl ?_
    refine qcy rfl rfl rfl rfl ?_
    refine qdO ?_
    refine qdQ ?_
    refine ju (b := true) rfl (fun _ => ?_) (fun h => by cases h)
    refine qeD ?_
    refine qbl ?_
    refine qge rfl tf178 rfl (fun g => ?_)
    refine jv (i := 0) rfl rfl rfl tf178 rfl rfl rfl rfl rfl ?_
    refine qdO ?_
    refine qdQ ?_
    refine qbl ?_
    refine jv (i := 1) rfl rfl rfl tf59 rfl rfl rfl rfl rfl ?_
    refine jv (i := 2) rfl rfl rfl tf4 rfl rfl rfl rfl rfl ?_
    refine qdO ?_
    refine qiN ?_
    intro _ a w' hf hp'
    exact ⟨hf.defers, _, rfl, _, results_none rfl _ _ _, rfl, rfl, hp'.pick (.cons 1 rfl (.cons 1 rfl .nil)) .nil (by simp)⟩
  · simp only [yZ] at hv
    split at hv
    · rename_i h; subst h; simpa using hv
    · split at hv
      · rename_i h; subst h; simpa using hv
      · split at hv
        · rename_i h; subst h; simpa using hv
        · cases hv
instance un2 : UnF Tryz.prog 2 (.int .i64) := ⟨Tryz.underlying2⟩
instance un3 : UnF Tryz.prog 3 (.int .i64) := ⟨Tryz.underlying3⟩
instance un4 : UnF Tryz.prog 4 .bool := ⟨Tryz.underlying4⟩
instance un5 : UnF Tryz.prog 5 (.int .u8) := ⟨Tryz.underlying5⟩
instance un9 : UnF Tryz.prog 9 .string := ⟨Tryz.underlying9⟩
instance un22 : UnF Tryz.prog 22 (.slice 59) := ⟨Tryz.underlying22⟩
instance un27 : UnF Tryz.prog 27 (.slice 5) := ⟨Tryz.underlying27⟩
instance un58 : UnF Tryz.prog 58 (.int .u64) := ⟨Tryz.underlying58⟩
instance un59 : UnF Tryz.prog 59 (.slice 3) := ⟨Tryz.underlying59⟩
instance un60 : UnF Tryz.prog 60 (.slice 58) := ⟨Tryz.underlying60⟩
instance un98 : UnF Tryz.prog 98 (.int .u64) := ⟨Tryz.underlying98⟩
instance un125 : UnF Tryz.prog 125 (.slice 129) := ⟨Tryz.underlying125⟩
set_option maxRecDepth 100000 in
theorem au0 (p : List Nat) {A B : Prop} (t : B → Stp p A := by
  intro h
  repeat (first
    | exact stp0 h
    | (refine stc 0 ?_; refine stk (fun h => qdO h) ?_)
    | (refine stc 1 ?_; refine stk (fun h => qdQ h) ?_)
    | (refine stc 2 ?_; refine stk (fun h => qeD h) ?_)
    | (refine stc 3 ?_; refine stk (fun h => qnr rfl rfl rfl h) ?_)
    | (refine stc 4 ?_; refine stk (fun h => qbl h) ?_)
    | (refine stc 5 ?_; refine stk (fun h => qjq rfl rfl rfl h) ?_)
    | (refine stc 6 ?_; refine qdL rfl rfl rfl (qbn rfl) ?_)
    | (refine stc 7 ?_; refine qoq rfl rfl rfl ?_)
    | (refine stc 8 ?_; refine stk (fun h => qov h) ?_)
    | (refine stc 9 ?_; refine stk (fun h => qpR rfl (And.left h) (And.right h)) ?_)
    | (refine stc 10 ?_; refine stk (fun h => qnt rfl rfl rfl h) ?_)
    | (refine stc 11 ?_; refine stk (fun h => qlA h) ?_)
    | (refine stc 12 ?_; refine stk (fun h => qnh h) ?_)
    | (refine stc 13 ?_; refine stk (fun h => qfF rfl rfl inferInstance rfl h) ?_)
    | (refine stc 14 ?_; refine stk (fun h => qcy rfl rfl rfl rfl h) ?_)
    | (refine stc 15 ?_; refine stk (fun h => qgc h) ?_)
    | (refine stc 16 ?_; refine stk (fun h => qow rfl rfl rfl rfl h) ?_)
    | (refine stc 17 ?_; exact stz (qn ()))
    | (refine stc 18 ?_; refine stk (fun h => qlB h) ?_)
    | (refine stc 19 ?_; refine qdL rfl rfl rfl (qaq rfl inferInstance) ?_)
    | (refine stc 20 ?_; refine qor rfl (by kernel_rfl) rfl ?_)
    | (refine stc 21 ?_; refine stk (fun h => va (i := 0) rfl rfl inferInstance rfl rfl (fun _ => rfl) rfl rfl h) ?_)
    | (refine stc 22 ?_; refine stk (fun h => qnv h) ?_)
    | (refine stc 23 ?_; refine stk (fun h => qoE rfl UnF.u rfl rfl h) ?_)
    | (refine stc 24 ?_; first
      | (refine sta 0 ?_; refine stk (fun h => jv (i := 0) rfl rfl rfl inferInstance rfl rfl rfl rfl rfl h) ?_)
      | (refine sta 1 ?_; refine stk (fun h => qm4 (by kernel_rfl) h) ?_)
      | (refine sta 2 ?_; refine stk (fun h => qoG rfl rfl rfl rfl h) ?_)
      | (refine sta 3 ?_; exact stz (qly))
      | (refine sta 4 ?_; refine stk (fun h => qiN h) ?_)
      | (refine sta 5 ?_; refine stk (fun h => qoy rfl rfl rfl h) ?_)
      | (refine sta 6 ?_; refine stk (fun h => qge rfl inferInstance rfl h) ?_)
      | (refine sta 7 ?_; refine stk (fun h => qhm rfl rfl rfl h) ?_)
      | (refine sta 8 ?_; refine stk (fun h => qnd h) ?_)
      | (refine sta 9 ?_; refine stk (fun h => qnw h) ?_)
      | (refine sta 10 ?_; refine stk (fun h => qiM (b := true) rfl rfl rfl rfl h) ?_)
      | (refine sta 11 ?_; refine stk (fun h => qiM (b := false) rfl rfl rfl rfl h) ?_)
      | (refine sta 12 ?_; refine stk (fun h => qm9 h) ?_)
      | (refine sta 13 ?_; refine stk (fun h => qoD rfl rfl rfl rfl h) ?_)
      | (refine sta 14 ?_; refine stk (fun h => qnk rfl UnF.u UnF.u rfl rfl h) ?_)
      | (refine sta 15 ?_; refine stk (fun h => qoP rfl rfl rfl rfl h) ?_))
    | (refine stc 25 ?_; first
      | (refine sta 0 ?_; refine stk (fun h => va (i := 0) rfl rfl inferInstance rfl rfl (by simp) rfl rfl h) ?_)
      | (refine sta 1 ?_; refine stk (fun h => qoN rfl rfl rfl h) ?_)
      | (refine sta 2 ?_; refine stk (fun h => qoB rfl rfl rfl rfl h) ?_)
      | (refine sta 3 ?_; refine stk (fun h => qoM rfl rfl rfl rfl h) ?_)
      | (refine sta 4 ?_; refine stk (fun h => qlz h) ?_)
      | (refine sta 5 ?_; refine stk (fun h => qm8 h) ?_)
      | (refine sta 6 ?_; refine stk (fun h => jv (i := 1) rfl rfl rfl inferInstance rfl rfl rfl rfl rfl h) ?_)
      | (refine sta 7 ?_; refine qfc rfl rfl rfl (qZ (i := 0) rfl inferInstance rfl rfl (fun _ => rfl) rfl) ?_)
      | (refine sta 8 ?_; refine stk (fun h => va (i := 1) rfl rfl inferInstance rfl rfl (by simp) rfl rfl h) ?_)
      | (refine sta 9 ?_; refine stk (fun h => qgg (j := 0) rfl rfl inferInstance rfl rfl (fun _ => rfl) rfl rfl h) ?_)
      | (refine sta 10 ?_; refine stk (fun h => qdk Int (eI .i64) 3 1 h) ?_)
      | (refine sta 11 ?_; refine stk (fun h => va (i := 1) rfl rfl inferInstance rfl rfl (fun _ => rfl) rfl rfl h) ?_)
      | (refine sta 12 ?_; refine stk (fun h => qna h) ?_)
      | (refine sta 13 ?_; exact stz (qa ((), ())))
      | (refine sta 14 ?_; refine stk (fun h => qny (List Int) (Option Addr × Nat) eN59 rN59 59 1 h) ?_)
      | (refine sta 15 ?_; refine stk (fun h => jv (i := 2) rfl rfl rfl inferInstance rfl rfl rfl rfl rfl h) ?_))
    | (refine stc 26 ?_; first
      | (refine sta 0 ?_; refine stk (fun h => qoC rfl rfl rfl rfl h) ?_)
      | (refine sta 1 ?_; refine qfc rfl rfl rfl (qZ (i := 1) rfl inferInstance rfl rfl (fun _ => rfl) rfl) ?_)
      | (refine sta 2 ?_; refine stk (fun h => qdk Int (eI .u8) 5 1 h) ?_)
      | (refine sta 3 ?_; refine stk (fun h => qpQ (And.left h) (And.right h)) ?_)
      | (refine sta 4 ?_; refine stk (fun h => zT (.cons 0 rfl (.cons 1 rfl .nil)) (qF 0 rfl (qey 1 rfl qm)) h) ?_)
      | (refine sta 5 ?_; exact stz (qgl (.cons 0 rfl .nil)))
      | (refine sta 6 ?_; refine stk (fun h => qno h) ?_)
      | (refine sta 7 ?_; refine qdL rfl rfl rfl (qpX UnF.u rfl) ?_)
      | (refine sta 8 ?_; refine stk (fun h => qpS (And.left h) (And.right h)) ?_)
      | (refine sta 9 ?_; refine stk (fun h => qoA h) ?_)
      | (refine sta 10 ?_; refine stk (fun h => zT (.cons 0 rfl .nil) (qF 0 rfl qm) h) ?_)
      | (refine sta 11 ?_; refine stk (fun h => zT (.cons 0 rfl .nil) (qF 1 rfl qm) h) ?_)
      | (refine sta 12 ?_; refine stk (fun h => qay (j := 0) (qr .i64) (by decide) rfl UnF.u inferInstance rfl rfl rfl rfl h) ?_)
      | (refine sta 13 ?_; refine stk (fun h => qln (And.left h) (And.right h)) ?_)
      | (refine sta 14 ?_; refine stk (fun h => va (i := 2) rfl rfl inferInstance rfl rfl (by simp) rfl rfl h) ?_)
      | (refine sta 15 ?_; refine stk (fun h => zT (.cons 1 rfl (.cons 1 rfl .nil)) (qF 0 rfl qm) h) ?_))
    | (refine stc 27 ?_; first
      | (refine sta 0 ?_; refine stk (fun h => qT qck h) ?_)
      | (refine sta 1 ?_; refine stk (fun h => qep Int (eI .i64) 3 1 h) ?_)
      | (refine sta 2 ?_; refine stk (fun h => qnu h) ?_)
      | (refine sta 3 ?_; refine stk (fun h => qjr (j := 0) vu (by decide) rfl UnF.u inferInstance rfl rfl rfl rfl h) ?_)
      | (refine sta 4 ?_; refine stk (fun h => qoF rfl rfl rfl rfl h) ?_)
      | (refine sta 5 ?_; refine stk (fun h => qho rfl rfl rfl rfl rfl h) ?_)
      | (refine sta 6 ?_; refine stk (fun h => qb8 Int (eI .i64) 3 1 h) ?_)
      | (refine sta 7 ?_; refine stk (fun h => zT (.cons 0 rfl (.cons 0 rfl .nil)) (qF 0 rfl qm) h) ?_)
      | (refine sta 8 ?_; refine stk (fun h => qnb h) ?_)
      | (refine sta 9 ?_; refine stk (fun h => qT qcQ h) ?_)
      | (refine sta 10 ?_; refine stk (fun h => qou h) ?_)
      | (refine sta 11 ?_; refine stk (fun h => qoH rfl rfl rfl rfl h) ?_)
      | (refine sta 12 ?_; refine qfc rfl rfl rfl (qZ (i := 2) rfl inferInstance rfl rfl (fun _ => rfl) rfl) ?_)
      | (refine sta 13 ?_; refine stk (fun h => jv (i := 3) rfl rfl rfl inferInstance rfl rfl rfl rfl rfl h) ?_)
      | (refine sta 14 ?_; refine stk (fun h => qep Int (eI .u8) 5 1 h) ?_)
      | (refine sta 15 ?_; refine stk (fun h => qaS 24 rfl (by kernel_rfl) (.cons 0 rfl (.cons 1 rfl .nil)) h) ?_))
    | (refine stc 28 ?_; first
      | (refine sta 0 ?_; refine stk (fun h => qT qgD h) ?_)
      | (refine sta 1 ?_; refine stk (fun h => qox rfl rfl rfl rfl h) ?_)
      | (refine sta 2 ?_; exact stz (zl ()))
      | (refine sta 3 ?_; refine stk (fun h => qg qkR h) ?_)
      | (refine sta 4 ?_; refine stk (fun h => va (i := 3) rfl rfl inferInstance rfl rfl (fun _ => rfl) rfl rfl h) ?_)
      | (refine sta 5 ?_; refine stk (fun h => va (i := 2) rfl rfl inferInstance rfl rfl (fun _ => rfl) rfl rfl h) ?_)
      | (refine sta 6 ?_; refine stk (fun h => qg qgt h) ?_)
      | (refine sta 7 ?_; refine stk (fun h => zT (.cons 1 rfl (.cons 1 rfl .nil)) (qF 0 rfl (qF 1 rfl (qF 2 rfl (qF 3 rfl qm)))) h) ?_)
      | (refine sta 8 ?_; refine stk (fun h => qdh 0 rfl h) ?_)
      | (refine sta 9 ?_; refine stk (fun h => qg qiT h) ?_)
      | (refine sta 10 ?_; refine stk (fun h => qT qhA h) ?_)
      | (refine sta 11 ?_; refine stk (fun h => qg qhH h) ?_)
      | (refine sta 12 ?_; refine stk (fun h => qg qhG h) ?_)
      | (refine sta 13 ?_; refine stk (fun h => zT (.cons 0 rfl (.cons 0 rfl (.cons 0 rfl (.cons 0 rfl (.cons 0 rfl (.cons 0 rfl .nil)))))) (qF 2 rfl (qF 3 rfl (qF 4 rfl qm))) h) ?_)
      | (refine sta 14 ?_; refine stk (fun h => qay (j := 0) (qr .u8) (by decide) rfl UnF.u inferInstance rfl rfl rfl rfl h) ?_)
      | (refine sta 15 ?_; refine stk (fun h => qoJ rfl rfl rfl rfl h) ?_))
    | (refine stc 29 ?_; first
      | (refine sta 0 ?_; refine stk (fun h => qpT rfl rfl rfl rfl h) ?_)
      | (refine sta 1 ?_; refine stk (fun h => zT .nil (qey 0 rfl qm) h) ?_)
      | (refine sta 2 ?_; refine stk (fun h => qg qhF h) ?_)
      | (refine sta 3 ?_; refine stk (fun h => zT (.cons 2 rfl .nil) (qF 0 rfl (qey 1 rfl qm)) h) ?_)
      | (refine sta 4 ?_; refine stk (fun h => qg qft h) ?_)
      | (refine sta 5 ?_; refine stk (fun h => qhn rfl rfl rfl rfl rfl h) ?_)
      | (refine sta 6 ?_; refine stk (fun h => qbU (j := 0) (qr .u8) (by decide) rfl h) ?_)
      | (refine sta 7 ?_; refine stk (fun h => qhk rfl rfl rfl h) ?_)
      | (refine sta 8 ?_; refine stk (fun h => qg qdr h) ?_)
      | (refine sta 9 ?_; refine stk (fun h => qay (j := 1) (qr .i64) (by decide) rfl UnF.u inferInstance rfl rfl rfl rfl h) ?_)
      | (refine sta 10 ?_; refine stk (fun h => qay (j := 0) qbO (by decide) rfl UnF.u inferInstance rfl rfl rfl rfl h) ?_)
      | (refine sta 11 ?_; refine stk (fun h => qgg (j := 0) rfl rfl inferInstance rfl rfl (by simp) rfl rfl h) ?_)
      | (refine sta 12 ?_; refine stk (fun h => qnc h) ?_)
      | (refine sta 13 ?_; refine stk (fun h => qg qiW h) ?_)
      | (refine sta 14 ?_; refine stk (fun h => qT qiV h) ?_)
      | (refine sta 15 ?_; refine stk (fun h => qg qgz h) ?_))
    | (refine stc 30 ?_; first
      | (refine sta 0 ?_; refine stk (fun h => qg qhB h) ?_)
      | (refine sta 1 ?_; refine stk (fun h => zW 0 (qr .i64) rfl UnF.u inferInstance rfl rfl rfl rfl rfl (.inr ⟨0, rfl⟩) rfl rfl h) ?_)
      | (refine sta 2 ?_; refine stk (fun h => qdi (j := 0) rfl UnF.u inferInstance rfl rfl rfl rfl h) ?_)
      | (refine sta 3 ?_; refine stk (fun h => zn 0 _ rfl rfl rfl (qbn rfl) rfl h) ?_)
      | (refine sta 4 ?_; refine stk (fun h => zn 1 _ rfl rfl rfl (qbn rfl) rfl h) ?_)
      | (refine sta 5 ?_; refine stk (fun h => zn 2 _ rfl rfl rfl (qaq rfl inferInstance) rfl h) ?_)
      | (refine sta 6 ?_; refine stk (fun h => zn 4 _ rfl rfl rfl (qbn rfl) rfl h) ?_)
      | (refine sta 7 ?_; refine stk (fun h => zT (.cons 0 rfl (.cons 0 rfl (.cons 0 rfl (.cons 0 rfl .nil)))) (qF 0 rfl qm) h) ?_)
      | (refine sta 8 ?_; refine stk (fun h => qgf (j := 0) rfl UnF.u UnF.u rfl rfl rfl h) ?_)
      | (refine sta 9 ?_; refine stk (fun h => zT (.cons 0 rfl (.cons 0 rfl (.cons 0 rfl (.cons 0 rfl (.cons 0 rfl (.cons 0 rfl .nil)))))) (qF 0 rfl (qF 1 rfl (qF 2 rfl qm))) h) ?_)
      | (refine sta 10 ?_; refine stk (fun h => qoQ rfl rfl rfl rfl h) ?_)
      | (refine sta 11 ?_; refine stk (fun h => qg qex h) ?_)
      | (refine sta 12 ?_; refine stk (fun h => qay (j := 0) (qr .u64) (by decide) rfl UnF.u inferInstance rfl rfl rfl rfl h) ?_)
      | (refine sta 13 ?_; refine stk (fun h => qT qcY h) ?_)
      | (refine sta 14 ?_; refine stk (fun h => qb8 Int (eI .u64) 58 1 h) ?_)
      | (refine sta 15 ?_; refine stk (fun h => qnf (List Int) (Option Addr × Nat) eN59 rN59 59 1 h) ?_))
    | (refine stc 31 ?_; first
      | (refine sta 0 ?_; refine stk (fun h => qiI vu rfl UnF.u inferInstance rfl rfl rfl rfl (.cons 1 rfl (.cons 0 rfl .nil)) rfl rfl h) ?_)
      | (refine sta 1 ?_; refine stk (fun h => qls rfl UnF.u rfl rfl rfl h) ?_)
      | (refine sta 2 ?_; refine stk (fun h => ju rfl (And.left h) (And.right h)) ?_)
      | (refine sta 3 ?_; refine stk (fun h => qu (vs := []) (ys := ([] : List Int)) (qr .u8) (by decide) rfl UnF.u inferInstance rfl rfl rfl rfl rfl (by decide) h) ?_)
      | (refine sta 4 ?_; refine stk (fun h => zW 0 (qr .u8) rfl UnF.u inferInstance rfl rfl rfl rfl rfl (.inr ⟨0, rfl⟩) rfl rfl h) ?_)
      | (refine sta 5 ?_; refine stk (fun h => qg qbB h) ?_)
      | (refine sta 6 ?_; refine stk (fun h => qoO rfl rfl rfl rfl rfl h) ?_)
      | (refine sta 7 ?_; refine stk (fun h => qne (j := 0) rfl h) ?_)
      | (refine sta 8 ?_; refine qdL rfl rfl rfl (qoU UnF.u UnF.u rfl) ?_)
      | (refine sta 9 ?_; refine stk (fun h => qT qiU h) ?_)
      | (refine sta 10 ?_; refine stk (fun h => qT qdm h) ?_)
      | (refine sta 11 ?_; refine stk (fun h => qg qhR h) ?_)
      | (refine sta 12 ?_; refine stk (fun h => qdP rfl rfl rfl rfl rfl h) ?_)
      | (refine sta 13 ?_; refine stk (fun h => qg qfz h) ?_)
      | (refine sta 14 ?_; refine stk (fun h => qaS 18 rfl (by kernel_rfl) (.cons 0 rfl .nil) h) ?_)
      | (refine sta 15 ?_; refine stk (fun h => qg qdW h) ?_))
    | (refine stc 32 ?_; first
      | (refine sta 0 ?_; refine stk (fun h => qT qds h) ?_)
      | (refine sta 1 ?_; refine stk (fun h => qg qeu h) ?_)
      | (refine sta 2 ?_; refine stk (fun h => qg qc5 h) ?_)
      | (refine sta 3 ?_; refine stk (fun h => qg qaO h) ?_)
      | (refine sta 4 ?_; refine stk (fun h => qbU (j := 0) (qr .i64) (by decide) rfl h) ?_)
      | (refine sta 5 ?_; refine stk (fun h => zT (.cons 0 rfl (.cons 0 rfl (.cons 0 rfl (.cons 0 rfl (.cons 0 rfl .nil))))) (qF 0 rfl qm) h) ?_)
      | (refine sta 6 ?_; refine stk (fun h => qg qeI h) ?_)
      | (refine sta 7 ?_; refine stk (fun h => qfi 2 rfl h) ?_)
      | (refine sta 8 ?_; refine stk (fun h => qT qc9 h) ?_)
      | (refine sta 9 ?_; refine stk (fun h => qg qhM h) ?_)
      | (refine sta 10 ?_; refine stk (fun h => qg qgr h) ?_)
      | (refine sta 11 ?_; refine stk (fun h => qg qgC h) ?_)
      | (refine sta 12 ?_; refine stk (fun h => qg qdn h) ?_)
      | (refine sta 13 ?_; exact stz (qng))
      | (refine sta 14 ?_; refine stk (fun h => qoz rfl UnF.u rfl rfl h) ?_)
      | (refine sta 15 ?_; refine stk (fun h => qnm (i := 0) (qr .i64) rfl UnF.u inferInstance rfl rfl rfl rfl h) ?_))
    | (refine stc 33 ?_; first
      | (refine sta 0 ?_; refine stk (fun h => qg qfy h) ?_)
      | (refine sta 1 ?_; refine stk (fun h => qg qbK h) ?_)
      | (refine sta 2 ?_; refine stk (fun h => qT qci h) ?_)
      | (refine sta 3 ?_; refine stk (fun h => va (i := 4) rfl rfl inferInstance rfl rfl (by simp) rfl rfl h) ?_)
      | (refine sta 4 ?_; refine stk (fun h => zn 5 _ rfl rfl rfl (qbn rfl) rfl h) ?_)
      | (refine sta 5 ?_; refine stk (fun h => zn 6 _ rfl rfl rfl (qbn rfl) rfl h) ?_)
      | (refine sta 6 ?_; refine stk (fun h => zn 7 _ rfl rfl rfl (qbn rfl) rfl h) ?_)
      | (refine sta 7 ?_; refine stk (fun h => zn 8 _ rfl rfl rfl (qaq rfl inferInstance) rfl h) ?_)
      | (refine sta 8 ?_; refine stk (fun h => zn 11 _ rfl rfl rfl (qbn rfl) rfl h) ?_)
      | (refine sta 9 ?_; refine stk (fun h => zn 12 _ rfl rfl rfl (qbn rfl) rfl h) ?_)
      | (refine sta 10 ?_; refine stk (fun h => zn 18 _ rfl rfl rfl (qbn rfl) rfl h) ?_)
      | (refine sta 11 ?_; refine stk (fun h => zT (.cons 0 rfl (.cons 0 rfl (.cons 0 rfl (.cons 0 rfl (.cons 0 rfl .nil))))) (qF 0 rfl (qF 1 rfl qm)) h) ?_)
      | (refine sta 12 ?_; refine stk (fun h => qg qhQ h) ?_)
      | (refine sta 13 ?_; refine stk (fun h => qbU (j := 2) (qr .u8) (by decide) rfl h) ?_)
      | (refine sta 14 ?_; refine stk (fun h => qg qgv h) ?_)
      | (refine sta 15 ?_; refine stk (fun h => zT (.cons 0 rfl (.cons 1 rfl .nil)) (qF 0 rfl (qF 1 rfl qm)) h) ?_))
    | (refine stc 34 ?_; first
      | (refine sta 0 ?_; refine stk (fun h => qhj (j := 0) (qr .u8) rfl UnF.u inferInstance rfl rfl rfl rfl rfl h) ?_)
      | (refine sta 1 ?_; refine stk (fun h => qfG rfl rfl rfl h) ?_)
      | (refine sta 2 ?_; refine stk (fun h => zT (.cons 0 rfl (.cons 0 rfl (.cons 0 rfl .nil))) (qF 0 rfl (qF 1 rfl qm)) h) ?_)
      | (refine sta 3 ?_; refine stk (fun h => qg qhK h) ?_)
      | (refine sta 4 ?_; refine stk (fun h => qg qhJ h) ?_)
      | (refine sta 5 ?_; refine stk (fun h => qdi (j := 1) rfl UnF.u inferInstance rfl rfl rfl rfl h) ?_)
      | (refine sta 6 ?_; refine stk (fun h => qg qfp h) ?_)
      | (refine sta 7 ?_; refine stk (fun h => qm7 h) ?_)
      | (refine sta 8 ?_; refine stk (fun h => qg qhI h) ?_)
      | (refine sta 9 ?_; refine stk (fun h => qg (fun h => qfm F _ h) h) ?_)))) : Stv p B A := ⟨fun h => (t h).go⟩
theorem au (p : List Nat) {A B : Prop} (h : B) (t : Stv p B A := by exact au0 _) : A := t.go h
theorem av (p : List Nat) {A B C : Prop} (h : B) (k : C) (t : Stv p (B ∧ C) A := by exact au0 _) : A := t.go ⟨h, k⟩
theorem az (p : List Nat) {A : Prop} (t : Stv p True A := by exact au0 _) : A := t.go trivial
set_option maxHeartbeats 4000000 in
theorem qft {F : Nat} {x1 : List (List Int)} {a2 : Option Addr} {c3 : Nat} {s3 : List (Option Addr × Nat)} {r : Int} (hm : vJ F x1 = some r) :
    Pure Tryz.prog 18 [.agg #[.slice a2 x1.length c3]] [SlN eN59 iN59 1 (.slice a2 x1.length c3) x1 s3] Unit (fun _ => .int .i64 r) (fun _ => []) (fun _ => []) := by
 refine qh Tryz.func18 rfl Tryz.ntmps18 rfl hm (fun w => ?_)
 refine au [25,5,2,4,24,5] ?_
 intro g4
 refine av [5,0,1,2,4,13,21,23,5,0,1,2,2,4,3,24,13,0,1,9] ?_ ?_
 intro _
 exact az [2,4,5,0,1,8,11,17]
 intro _
 refine au [12,1,2,4,5,0,1] ?_
 refine qe (fun ((x798, _) : (Int × Unit)) => ([(4, .int .i64 x798)], [], [], [], qab F x798)) ?_ ?_
 refine au [2,4,13,21,23,3,0,1,15] ?_
 refine qk (fun (((x1064, x1065), _) : ((Int × Int) × Unit)) => ([(3, .int .i64 (x1.length : Int)), (4, .int .i64 x1064), (16, .slice a2 x1.length c3), (17, .int .i64 (x1.length : Int)), (18, .int .i64 x1065)], [], [], [SlN eN59 iN59 1 (.slice a2 x1.length c3) x1 s3])) (fun k (s : ((Int × Int) × Unit)) => qP F x1 k s.1) ((0, 0), ()) F ?_
 intro k1329
 rintro ⟨⟨x1064, x1065⟩, _⟩
 try dsimp only
 refine qz (m' := vR F x1 (qP F x1 k1329) x1064 x1065) rfl ?_
 refine av [2,4,24,2,0,1,2,9] ?_ ?_
 intro _
 refine au [12,1] ?_
 refine qe (fun ((x1461, _) : (Int × Unit)) => ([(3, .int .i64 (x1.length : Int)), (4, .int .i64 x1461), (16, .slice a2 x1.length c3), (17, .int .i64 (x1.length : Int)), (18, .int .i64 x1065)], [], [], [SlN eN59 iN59 1 (.slice a2 x1.length c3) x1 s3], qac F (qP F x1 k1329) x1065 x1461)) ?_ ?_
 refine au [15,2,4,27,3] ?_
 intro x1462 e1462 g1465 b1463 o1464
 refine au [25,9,5,0,1,2,4,5,0,1] ?_
 refine qe (fun ((_, _) : (Unit × Unit)) => ([(3, .int .i64 (x1.length : Int)), (4, .int .i64 x1064), (6, .slice g1465.1 x1462.length g1465.2), (16, .slice a2 x1.length c3), (17, .int .i64 (x1.length : Int)), (18, .int .i64 x1065)], [], [], [Sl (eI .i64) 1 (.slice g1465.1 x1462.length g1465.2) x1462, SlN eN59 iN59 1 (.slice a2 x1.length c3) x1 s3], vT F (qP F x1 k1329) x1064 x1065 x1462)) ?_ ?_
 refine au [2,4,3,23,3,0,1,15] ?_
 refine qk (fun (((x1549, x1550), _) : ((Int × Int) × Unit)) => ([(3, .int .i64 (x1.length : Int)), (4, .int .i64 x1064), (6, .slice g1465.1 x1462.length g1465.2), (7, .int .i64 x1549), (16, .slice a2 x1.length c3), (17, .int .i64 (x1.length : Int)), (18, .int .i64 x1065), (22, .slice g1465.1 x1462.length g1465.2), (23, .int .i64 (x1462.length : Int)), (24, .int .i64 x1550)], [], [], [Sl (eI .i64) 1 (.slice g1465.1 x1462.length g1465.2) x1462, SlN eN59 iN59 1 (.slice a2 x1.length c3) x1 s3])) (fun k (s : ((Int × Int) × Unit)) => kK F (qP F x1 k1329) x1 x1064 x1065 x1462 k s.1) ((-1, 0), ()) F ?_
 intro k1571
 rintro ⟨⟨x1549, x1550⟩, _⟩
 try dsimp only
 refine qz (m' := vS F (qP F x1 k1329) x1 x1064 x1065 x1462 (kK F (qP F x1 k1329) x1 x1064 x1065 x1462 k1571) x1549 x1550) rfl ?_
 refine av [2,4,24,2,0,1,2,9] ?_ ?_
 intro _
 refine au [12,1,2,15,2,4,26,12] ?_
 intro x1582 e1582 b1583 o1584
 refine au [25,9,5,0,1,2,15,2,4,3,24,2,3] ?_
 refine qN 4 (decide (x1582 < 0)) [(3, .int .i64 (x1.length : Int)), (4, .int .i64 x1064), (6, .slice g1465.1 x1462.length g1465.2), (7, .int .i64 x1549), (16, .slice a2 x1.length c3), (17, .int .i64 (x1.length : Int)), (18, .int .i64 x1065), (22, .slice g1465.1 x1462.length g1465.2), (23, .int .i64 (x1462.length : Int)), (24, .int .i64 x1550), (9, .int .i64 x1582), (35, .bool ((decide (x1582 < 0)) || (decide ((x1.length : Int) ≤ x1582))))] (fun h1588 => ?_) (fun h1588 => ?_) ?_
 refine qc (os := _) rfl (qE (k := 31) rfl h1588 ?_)
 refine au [10,10,10,24,10] ?_
 refine qd (d := 35) (v := .bool ((decide (x1582 < 0)) || (decide ((x1.length : Int) ≤ x1582)))) rfl (by rw [h1588]; simp only [Bool.true_or]) ?_
 exact az [0,24,3]
 refine qc (os := _) rfl (qD (k := 31) rfl h1588 ?_)
 refine au [3,3,26,0,24,11] ?_
 refine qd (d := 35) (v := .bool ((decide (x1582 < 0)) || (decide ((x1.length : Int) ≤ x1582)))) rfl (by rw [h1588]; simp only [Bool.false_or]) ?_
 exact az [0,24,3]
 refine qc (os := _) rfl ?_
 refine av [5,0,1,9] ?_ ?_
 intro _
 exact az [2,4,5,0,1,8,22,11,22,11,11,22,11,22,11,11,22,11,17]
 intro _
 refine av [2,4,3,3,27,4,5,0,1,9] ?_ ?_
 intro _
 exact az [2,4,5,0,1,8,22,11,22,11,11,22,11,22,11,11,22,11,17]
 intro _
 refine au [12,24,4,1,4,3,5,0,24,4,1,4,16,3,0] ?_
 exact qi ((x1582, iadd .i64 x1550 1), ())
 intro _
 exact az [24,8,18,18,24,9,25,13]
 rintro ⟨_, _⟩
 try dsimp only
 refine au [4,3,3,23,16,5,0,24,4] ?_
 exact qa (iadd .i64 x1064 (x1462.length : Int), ())
 rintro ⟨x1461, _⟩
 try dsimp only
 refine au [4,16,3,0] ?_
 exact qi ((x1461, iadd .i64 x1065 1), ())
 intro _
 refine au [24,8,18,18,24,9] ?_
 exact qa (x1064, ())
 rintro ⟨x798, _⟩
 try dsimp only
 refine av [2,2,4,3,24,13,0,1,9] ?_ ?_
 intro _
 exact az [2,4,5,0,1,8,11,17]
 intro _
 exact az [12,1,2,4,5,0,1,8,17]
set_option maxHeartbeats 4000000 in
theorem qfA {F : Nat} {x1 : List Int} {a2 : Option Addr} {c3 : Nat} {x4 : Int} {r : (Int × Int × Int)} (hm : qaN F x1 x4 = some r) :
    Pure Tryz.prog 62 [.slice a2 x1.length c3, .int .i64 x4] [Sl (eI .u8) 1 (.slice a2 x1.length c3) x1] Unit (fun _ => .tuple #[.int .u64 r.1, .int .i64 r.2.1, .int .i64 r.2.2]) (fun _ => []) (fun _ => []) := by
 refine qh Tryz.func62 rfl Tryz.ntmps62 rfl hm (fun w => ?_)
 refine au [24,12,2,4,5,5,5,0,1,2,4,5,0,1,15] ?_
 refine qk (fun (((x37, x38), _) : ((Int × Int) × Unit)) => ([(0, .slice a2 x1.length c3), (1, .int .i64 x4), (4, .int .u64 x37), (7, .int .i64 x38)], [], [], [Sl (eI .u8) 1 (.slice a2 x1.length c3) x1])) (fun k (s : ((Int × Int) × Unit)) => ya F x1 x4 k s.1) ((0, 0), ()) F ?_
 intro k71
 rintro ⟨⟨x37, x38⟩, _⟩
 try dsimp only
 refine qz (m' := jA F x1 x4 (ya F x1 x4 k71) x37 x38) rfl ?_
 refine av [2,15,2,2,4,3,3,16,3,23,26,0,0,1,9] ?_ ?_
 intro _
 exact az [2,4,5,5,5,0,1,8,11,22,11,11,22,17]
 intro _
 refine au [12,1,2,4,3,3,3,16,28,14] ?_
 intro x89 e89 b90 o91
 refine au [25,9,5,0,1,2,15,2,4,3,25,2,3] ?_
 refine qN 3 ((x38 : Int) == 9) [(0, .slice a2 x1.length c3), (1, .int .i64 x4), (4, .int .u64 x37), (7, .int .i64 x38), (8, .int .u8 x89), (29, .bool (((x38 : Int) == 9) && (decide (1 < x89))))] (fun h96 => ?_) (fun h96 => ?_) ?_
 refine qc (os := _) rfl (qE (k := 26) rfl h96 ?_)
 refine au [3,24,13,24,10] ?_
 refine qd (d := 29) (v := .bool (((x38 : Int) == 9) && (decide (1 < x89)))) rfl (by rw [h96]; simp only [Bool.true_and]) ?_
 exact az [0,24,3]
 refine qc (os := _) rfl (qD (k := 26) rfl h96 ?_)
 refine au [10,10,24,11] ?_
 refine qd (d := 29) (v := .bool (((x38 : Int) == 9) && (decide (1 < x89)))) rfl (by rw [h96]; simp only [Bool.false_and]) ?_
 exact az [0,24,3]
 refine qc (os := _) rfl ?_
 refine av [5,0,1,9] ?_ ?_
 intro _
 exact az [2,4,5,5,5,0,1,8,22,11,22,11,11,22,17]
 intro _
 refine au [2,4,3,24,13,3] ?_
 refine qN 3 (decide (0 < x38)) [(0, .slice a2 x1.length c3), (1, .int .i64 x4), (4, .int .u64 x37), (7, .int .i64 x38), (8, .int .u8 x89), (36, .bool ((decide (0 < x38)) && ((x89 : Int) == 0)))] (fun h97 => ?_) (fun h97 => ?_) ?_
 refine qc (os := _) rfl (qE (k := 33) rfl h97 ?_)
 refine au [3,25,2,24,10] ?_
 refine qd (d := 36) (v := .bool ((decide (0 < x38)) && ((x89 : Int) == 0))) rfl (by rw [h97]; simp only [Bool.true_and]) ?_
 exact az [0,24,3]
 refine qc (os := _) rfl (qD (k := 33) rfl h97 ?_)
 refine au [10,10,24,11] ?_
 refine qd (d := 36) (v := .bool ((decide (0 < x38)) && ((x89 : Int) == 0))) rfl (by rw [h97]; simp only [Bool.false_and]) ?_
 exact az [0,24,3]
 refine qc (os := _) rfl ?_
 refine av [5,0,1,9] ?_ ?_
 intro _
 exact az [2,4,5,5,5,0,1,8,22,11,22,11,11,22,17]
 intro _
 refine au [12,24,4,1,2,4,3,3,28,1,24,14,3,28,15,26,9] ?_
 intro h98
 refine qdP rfl rfl rfl rfl h98 ?_
 refine au [29,0,5,26,6] ?_
 intro x99 e99
 refine qd (d := 4) (v := .int .u64 x99) rfl (by rw [e99] <;> rfl) ?_
 refine av [0,1,2,4,3,24,2,0,1,9] ?_ ?_
 intro _
 exact az [2,4,3,3,3,16,16,5,5,5,0,1,8,22,11,11,22,17]
 intro _
 refine au [12,24,4,1,4,3,16,5,0] ?_
 exact qi ((x99, iadd .i64 x38 1), ())
set_option maxHeartbeats 4000000 in
theorem qck {F : Nat} {g1 : Nat} {x2 : List Int} {a3 : Option Addr} {c4 : Nat} {x5 : Int} {x6 : Int} {x7 : Bool} {x8 : Int} {r : (Int × Int × Int × Bool)} (hm : ql F x2 x5 x6 x7 x8 = some r) :
    PureM Tryz.prog 47 [.pointer (some ⟨g1, 0, none⟩), .int .i64 x8] [⟨g1, 80, [.slice a3 x2.length c4, .int .i64 x5, .int .i64 x6, .bool x7]⟩] [] [Sl (eI .u8) 1 (.slice a3 x2.length c4) x2] Unit (fun _ => .int .i64 r.1) (fun _ => [⟨g1, 80, [.slice a3 x2.length c4, .int .i64 r.2.1, .int .i64 r.2.2.1, .bool r.2.2.2]⟩]) (fun _ => []) := by
 refine zp Tryz.func47 rfl Tryz.ntmps47 rfl hm (fun w => ?_)
 refine au [24,12,2,4,5,0,1,2] ?_
 refine qq mixed [] [⟨g1, 80, [.slice a3 x2.length c4, .int .i64 x5, .int .i64 x6, .bool x7]⟩] [Sl (eI .u8) 1 (.slice a3 x2.length c4) x2] (.cons 0 rfl .nil) (qF 0 rfl qm) 16 rfl ?_
 refine au [6,0,6,1,19,2,25,7,3,6,4,6,5,19,6,25,7,7,20,8] ?_
 refine qg qfA ?_
 intro x10 e10 _
 refine au [0,26,10,6,9,6,10,6,11,6,12,6,13,6,14,6,15,24,1] ?_
 refine qt ?_ (by intro c h; cases h)
 refine au [1,2,2,4,3,3,24,7,13,21,3] ?_
 refine qN 3 x7 [(0, .pointer (some ⟨g1, 0, none⟩)), (1, .int .i64 x8), (5, .int .u64 x10.1), (6, .int .i64 x10.2.1), (21, .pointer (some ⟨g1, 0, none⟩)), (29, .bool (x7 || ((x10.2.2 : Int) != 0)))] (fun h14 => ?_) (fun h14 => ?_) ?_
 refine qc (os := _) rfl (qE (k := 26) rfl h14 ?_)
 refine au [10,10,24,10] ?_
 refine qd (d := 29) (v := .bool (x7 || ((x10.2.2 : Int) != 0))) rfl (by rw [h14]; simp only [Bool.true_or]) ?_
 exact az [0,24,3]
 refine qc (os := _) rfl (qD (k := 26) rfl h14 ?_)
 refine au [3,25,3,24,11] ?_
 refine qd (d := 29) (v := .bool (x7 || ((x10.2.2 : Int) != 0))) rfl (by rw [h14]; simp only [Bool.false_or]) ?_
 exact az [0,24,3]
 refine qc (os := _) rfl ?_
 refine au [3] ?_
 refine qN 5 (x7 || ((x10.2.2 : Int) != 0)) [(0, .pointer (some ⟨g1, 0, none⟩)), (5, .int .u64 x10.1), (6, .int .i64 x10.2.1), (21, .pointer (some ⟨g1, 0, none⟩)), (35, .bool ((x7 || ((x10.2.2 : Int) != 0)) || (decide ((iconv .u64 x8) < x10.1))))] (fun h15 => ?_) (fun h15 => ?_) ?_
 refine qc (os := _) rfl (qE (k := 30) rfl h15 ?_)
 refine au [10,10,10,10,24,10] ?_
 refine qd (d := 35) (v := .bool ((x7 || ((x10.2.2 : Int) != 0)) || (decide ((iconv .u64 x8) < x10.1)))) rfl (by rw [h15]; simp only [Bool.true_or]) ?_
 exact az [0,24,3]
 refine qc (os := _) rfl (qD (k := 30) rfl h15 ?_)
 refine au [3,3,24,14,24,13,24,11] ?_
 refine qd (d := 35) (v := .bool ((x7 || ((x10.2.2 : Int) != 0)) || (decide ((iconv .u64 x8) < x10.1)))) rfl (by rw [h15]; simp only [Bool.false_or]) ?_
 exact az [0,24,3]
 refine qc (os := _) rfl ?_
 refine av [24,7,13,24,0,0,1,2,4,3,24,7,13,21,0,1,9] ?_ ?_
 intro _
 exact az [2,4,5,0,1,8,11,28,2]
 intro _
 exact az [12,1,2,4,3,3,24,7,13,24,0,0,1,2,4,3,24,7,13,21,16,24,7,13,24,0,0,1,2,4,3,24,14,5,0,1,8,28,2]
theorem qhF {F : Nat} {x1 : Int} {r : Bool} (hm : j3 F x1 = some r) :
    Pure Tryz.prog 80 [.int .i64 x1] [] Unit (fun _ => .bool r) (fun _ => []) (fun _ => []) := by
 refine qh Tryz.func80 rfl Tryz.ntmps80 rfl hm (fun w => ?_)
 refine au [25,5,2,4,5,0,1,2,4,3,26,0,3] ?_
 refine qN 3 (decide (0 ≤ x1)) [(8, .bool ((decide (0 ≤ x1)) && (decide (x1 ≤ 1048576))))] (fun h2 => ?_) (fun h2 => ?_) ?_
 refine qc (os := _) rfl (qE (k := 5) rfl h2 ?_)
 refine au [3,27,4,24,10] ?_
 refine qd (d := 8) (v := .bool ((decide (0 ≤ x1)) && (decide (x1 ≤ 1048576)))) rfl (by rw [h2]; simp only [Bool.true_and]) ?_
 exact az [0,24,3]
 refine qc (os := _) rfl (qD (k := 5) rfl h2 ?_)
 refine au [10,10,24,11] ?_
 refine qd (d := 8) (v := .bool ((decide (0 ≤ x1)) && (decide (x1 ≤ 1048576)))) rfl (by rw [h2]; simp only [Bool.false_and]) ?_
 exact az [0,24,3]
 refine qc (os := _) rfl ?_
 exact az [5,0,1,8,17]
theorem qex {F : Nat} {x1 : Int} {r : Int} (hm : vD F x1 = some r) :
    Pure Tryz.prog 94 [.int .u64 x1] [] Unit (fun _ => .int .i64 r) (fun _ => []) (fun _ => []) := by
 refine qh Tryz.func94 rfl Tryz.ntmps94 rfl hm (fun w => ?_)
 refine au [25,5,2,4,5,0,1,2,4,3,27,5,24,14,3,28,1,24,14] ?_
 refine qoL rfl rfl rfl ?_
 refine au [30,10,5,26,6] ?_
 intro x2 e2
 refine qd (d := 2) (v := .int .i64 x2) rfl (by rw [e2] <;> rfl) ?_
 exact az [0,1,8,17]
set_option maxHeartbeats 4000000 in
theorem qcY {F : Nat} {g1 : Nat} {x2 : Int} {x3 : Bool} {x4 : Int} {r : (Bool × Int × Bool)} (hm : zC F x2 x3 x4 = some r) :
    PureM Tryz.prog 81 [.pointer (some ⟨g1, 0, none⟩), .int .u64 x4] [⟨g1, 101, [.int .i64 x2, .bool x3]⟩] [] [] Unit (fun _ => .bool r.1) (fun _ => [⟨g1, 101, [.int .i64 r.2.1, .bool r.2.2]⟩]) (fun _ => []) := by
 refine zp Tryz.func81 rfl Tryz.ntmps81 rfl hm (fun w => ?_)
 refine av [24,12,2,4,5,0,1,2,2,4,3,24,13,0,1,9] ?_ ?_
 intro _
 exact az [2,4,5,0,1,8,11,28,2]
 intro _
 refine au [12,1] ?_
 refine qe (fun ((x8, _) : (Int × Unit)) => ([(0, .pointer (some ⟨g1, 0, none⟩))], [⟨g1, 101, [.int .i64 x8, .bool x3]⟩], [], [], kv F x8)) ?_ ?_
 refine av [2,4,3,24,7,13,21,0,1,9] ?_ ?_
 intro _
 refine au [4,3,24,7,13,21,3,24,14,16,16,24,7,13,24,0,0] ?_
 exact qa (iadd .i64 x2 (iadd .i64 (iconv .i64 x4) 1), ())
 intro _
 refine qq mixed [9] [] [(BlkD.is ⟨g1, 101, [.int .i64 x2, .bool x3]⟩)] .nil (qey 0 rfl qm) 10 rfl ?_
 refine au [6,0,6,1,19,2] ?_
 refine zr 3 (.int .i64 x2) [[9]] rfl rfl rfl (vG (j := 0) rfl tf3 rfl rfl (fun _ => rfl) rfl) ?_
 refine au [6,4,20,5,30,11] ?_
 intro x10 e10 _
 refine au [0,29,1,6,6,6,7,19,8,20,9,24,0,0] ?_
 refine qaS 9 rfl (by kernel_rfl) .nil ?_
 refine au [24,1] ?_
 exact qt (qa (iadd .i64 x2 x10, ())) (by intro c h; cases h)
 rintro ⟨x8, _⟩
 try dsimp only
 refine au [2,4,3,24,7,13,24,0,0,1,2,4,3,24,7,13,21,29,2] ?_
 intro x9 e9 _
 exact az [5,0,1,8,28,2]
set_option maxHeartbeats 4000000 in
theorem qhD {F : Nat} {x1 : List Int} {a2 : Option Addr} {c3 : Nat} {x4 : Int} {r : (List Int × Int)} (hm : qbp F x1 x4 = some r) :
    Pure Tryz.prog 63 [.slice a2 x1.length c3, .int .i64 x4] [Sl (eI .u64) 1 (.slice a2 x1.length c3) x1] (Option Addr × Nat) (fun g => .tuple #[.slice g.1 r.1.length g.2, .int .i64 r.2]) (fun g => [Ro (eI .i64) 3 1 (.slice g.1 r.1.length g.2) r.1]) (fun _ => []) := by
 refine qh Tryz.func63 rfl Tryz.ntmps63 rfl hm (fun w => ?_)
 refine av [24,12,2,4,5,5,0,1,2,15,2,4,3,23,24,13,5,0,1,9] ?_ ?_
 intro _
 refine au [2,4,5,5,0,1,8,22,11,25,10] ?_
 exact qn (none, 0)
 intro _
 refine au [2,4,3,29,2] ?_
 intro x8 e8 _
 refine av [25,1,5,0,1,9] ?_ ?_
 intro _
 refine au [2,4,5,5,0,1,8,22,11,25,10] ?_
 exact qn (none, 0)
 intro _
 refine au [12,24,4,1,2,4,3] ?_
 refine qj (cells := [.int .i64 x4, .bool false]) rfl st101 rfl (by kernel_rfl) rfl ?_
 refine au [24,5] ?_
 intro g9
 refine au [5,0,1,2,4,5,0,1] ?_
 refine qe (fun ((x97, (a95, c96)) : (List Int × (Option Addr × Nat))) => ([(7, .slice a95 x97.length c96)], [], [Ro (eI .i64) 3 1 (.slice a95 x97.length c96) x97], [], qa9 F x97)) ?_ ?_
 refine au [2,4,3,23,3,0,1,15,27,6] ?_
 refine qk (fun (((x126, x127, x128, x129), (a124, c125)) : ((List Int × Int × Int × Bool) × (Option Addr × Nat))) => ([(6, .pointer (some ⟨g9, 0, none⟩)), (7, .slice a124 x126.length c125), (21, .slice a2 x1.length c3), (22, .int .i64 (x1.length : Int)), (23, .int .i64 x127)], [⟨g9, 101, [.int .i64 x128, .bool x129]⟩], [Ro (eI .i64) 3 1 (.slice a124 x126.length c125) x126], [Sl (eI .u64) 1 (.slice a2 x1.length c3) x1])) (fun k (s : ((List Int × Int × Int × Bool) × (Option Addr × Nat))) => yU F x1 k s.1) ((([] : List Int), 0, x4, false), (none, 0)) F ?_
 intro k156
 rintro ⟨⟨x126, x127, x128, x129⟩, ⟨a124, c125⟩⟩
 try dsimp only
 refine qz (m' := j8 F x1 (yU F x1 k156) x126 x127 x128 x129) rfl ?_
 refine av [2,4,24,2,0,1,2,9] ?_ ?_
 intro _
 refine au [12,1,2,15,2,4,30,12] ?_
 intro x170 e170 b171 o172
 refine au [25,9,5,0,1,2,2,4,3,3,30,13] ?_
 intro x175 e175 _
 refine av [25,1,0,1,9] ?_ ?_
 intro _
 refine au [2,4,5,5,0,1,8,11,22,11,11,22,11,25,10] ?_
 exact qn (none, 0)
 intro _
 refine au [12,1,4,3,3,24,7,13,21] ?_
 refine qu (vs := [.int .i64 x175.2.1]) (ys := ([x175.2.1] : List Int)) (qr .i64) (by decide) rfl Tryz.underlying59 tf3 rfl rfl rfl rfl rfl (by decide) (fun a176 c177 => zW 1 (qr .i64) rfl Tryz.underlying59 tf3 rfl rfl rfl rfl rfl (.inl ⟨0, _, rfl⟩) rfl rfl (fun x178 e178 a179 c180 => ?_))
 refine au [5,0,24,4,1,4,16,3,0] ?_
 exact qi ((x178, iadd .i64 x127 1, x175.2.1, x175.2.2), (a179, c180))
 intro _
 refine au [24,8,18,18,24,9] ?_
 exact qa (x126, (a124, c125))
 rintro ⟨x97, ⟨a95, c96⟩⟩
 try dsimp only
 refine au [2,4,3,5,5,0,1,8] ?_
 exact qn (a95, c96)
set_option maxHeartbeats 4000000 in
theorem qc2 {F : Nat} {g1 : Nat} {x2 : List Int} {a3 : Option Addr} {c4 : Nat} {x5 : Int} {x6 : Int} {x7 : Bool} {x8 : Int} {x9 : Int} {r : (List Int × Int × Int × Bool)} (hm : zP F x2 x5 x6 x7 x8 x9 = some r) :
    PureM Tryz.prog 48 [.pointer (some ⟨g1, 0, none⟩), .int .i64 x8, .int .i64 x9] [⟨g1, 80, [.slice a3 x2.length c4, .int .i64 x5, .int .i64 x6, .bool x7]⟩] [] [Sl (eI .u8) 1 (.slice a3 x2.length c4) x2] (Option Addr × Nat) (fun g => .slice g.1 r.1.length g.2) (fun _ => [⟨g1, 80, [.slice a3 x2.length c4, .int .i64 r.2.1, .int .i64 r.2.2.1, .bool r.2.2.2]⟩]) (fun g => [Ro (eI .i64) 3 1 (.slice g.1 r.1.length g.2) r.1]) := by
 refine zp Tryz.func48 rfl Tryz.ntmps48 rfl hm (fun w => ?_)
 refine au [25,12,2,4,5,0,1,2,4,5,0,1] ?_
 refine qe (fun (((x63, x64, x65, x66), (a61, c62)) : ((List Int × Int × Int × Bool) × (Option Addr × Nat))) => ([(0, .pointer (some ⟨g1, 0, none⟩)), (1, .int .i64 x8), (7, .slice a61 x63.length c62)], [⟨g1, 80, [.slice a3 x2.length c4, .int .i64 x64, .int .i64 x65, .bool x66]⟩], [Ro (eI .u64) 58 1 (.slice a61 x63.length c62) x63], [Sl (eI .u8) 1 (.slice a3 x2.length c4) x2], zm F x8 x63 x64 x65 x66)) ?_ ?_
 refine au [2,4,3,3,27,0] ?_
 intro x71 e71 _
 refine au [3,0,1,15,30,14] ?_
 refine qk (fun (((x88, x89, x90, x91, x92), (a86, c87)) : ((List Int × Int × Int × Int × Bool) × (Option Addr × Nat))) => ([(0, .pointer (some ⟨g1, 0, none⟩)), (1, .int .i64 x8), (7, .slice a86 x88.length c87), (12, .int .i64 x71.1), (13, .int .i64 x89)], [⟨g1, 80, [.slice a3 x2.length c4, .int .i64 x90, .int .i64 x91, .bool x92]⟩], [Ro (eI .u64) 58 1 (.slice a86 x88.length c87) x88], [Sl (eI .u8) 1 (.slice a3 x2.length c4) x2])) (fun k (s : ((List Int × Int × Int × Int × Bool) × (Option Addr × Nat))) => qK F x2 x8 x71 k s.1) ((([] : List Int), 0, x71.2.1, x71.2.2.1, x71.2.2.2), (none, 0)) F ?_
 intro k107
 rintro ⟨⟨x88, x89, x90, x91, x92⟩, ⟨a86, c87⟩⟩
 try dsimp only
 refine qz (m' := zJ F x2 x8 x71 (qK F x2 x8 x71 k107) x88 x89 x90 x91 x92) rfl ?_
 refine av [2,4,24,2,0,1,2,9] ?_ ?_
 intro _
 refine au [12,1,2,15,4,3,3,27,0] ?_
 intro x115 e115 _
 refine au [24,14] ?_
 refine qu (vs := [.int .u64 (iconv .u64 x115.1)]) (ys := ([iconv .u64 x115.1] : List Int)) (qr .u64) (by decide) rfl Tryz.underlying60 tf58 rfl rfl rfl rfl rfl (by decide) (fun a116 c117 => zW 1 (qr .u64) rfl Tryz.underlying60 tf58 rfl rfl rfl rfl rfl (.inl ⟨0, _, rfl⟩) rfl rfl (fun x118 e118 a119 c120 => ?_))
 refine au [5,0,24,4,1,4,16,3,0] ?_
 exact qi ((x118, iadd .i64 x89 1, x115.2.1, x115.2.2.1, x115.2.2.2), (a119, c120))
 intro _
 refine au [24,8,18,18,24,9] ?_
 exact qa ((x88, x90, x91, x92), (a86, c87))
 rintro ⟨⟨x63, x64, x65, x66⟩, ⟨a61, c62⟩⟩
 try dsimp only
 refine au [2,4,3,3] ?_
 refine qg qhD ?_
 rintro x67 e67 ⟨a68, c69⟩
 refine au [3,14,14,5,5,0,1,2,4,3,3,24,7,13,21,3] ?_
 refine qN 3 x66 [(8, .slice a68 x67.1.length c69), (28, .pointer (some ⟨g1, 0, none⟩)), (36, .bool (x66 || ((x67.2 : Int) != 0)))] (fun h70 => ?_) (fun h70 => ?_) ?_
 refine qc (os := _) rfl (qE (k := 33) rfl h70 ?_)
 refine au [10,10,24,10] ?_
 refine qd (d := 36) (v := .bool (x66 || ((x67.2 : Int) != 0))) rfl (by rw [h70]; simp only [Bool.true_or]) ?_
 exact az [0,24,3]
 refine qc (os := _) rfl (qD (k := 33) rfl h70 ?_)
 refine au [3,25,3,24,11] ?_
 refine qd (d := 36) (v := .bool (x66 || ((x67.2 : Int) != 0))) rfl (by rw [h70]; simp only [Bool.false_or]) ?_
 exact az [0,24,3]
 refine qc (os := _) rfl ?_
 refine au [24,7,13,24,0,0,1,2,4,3,5,0,1,8] ?_
 exact zl (a68, c69)
set_option maxHeartbeats 4000000 in
theorem qc1 (F : Nat) (g1 : Nat) (x2 : List Int) (a3 : Option Addr) (c4 : Nat) (x5 : Int) (x6 : Int) (x7 : Bool) (r : (List (List Int) × Bool × Int × Int × Bool)) (hm : vk F x2 x5 x6 x7 = some r) :
    PureM Tryz.prog 36 [.pointer (some ⟨g1, 0, none⟩)] [⟨g1, 80, [.slice a3 x2.length c4, .int .i64 x5, .int .i64 x6, .bool x7]⟩] [] [Sl (eI .u8) 1 (.slice a3 x2.length c4) x2] (Option Addr × (Nat × List (Option Addr × Nat))) (fun g => .tuple #[.agg #[.slice g.1 r.1.length g.2.1], .bool r.2.1]) (fun _ => [⟨g1, 80, [.slice a3 x2.length c4, .int .i64 r.2.2.1, .int .i64 r.2.2.2.1, .bool r.2.2.2.2]⟩]) (fun g => [RoN eN59 rN59 59 1 (.slice g.1 r.1.length g.2.1) r.1 g.2.2 []]) := by
 refine zp Tryz.func36 rfl Tryz.ntmps36 rfl hm (fun w => ?_)
 refine au [25,5,2,4,24,6] ?_
 intro g8
 refine au [5,0,1,2,4,3,27,0] ?_
 intro x9 e9 _
 refine au [5,0,1,2,4] ?_
 refine qj (cells := [.slice none 0 0]) rfl st24 rfl (by kernel_rfl) rfl ?_
 refine au [24,6] ?_
 intro g10
 refine au [24,0,0,1] ?_
 refine qe (fun (((x76, x77, x78, x79), (a74, c75)) : ((List (List Int) × Int × Int × Bool) × (Option Addr × (Nat × List (Option Addr × Nat))))) => ([(0, .pointer (some ⟨g1, 0, none⟩)), (2, .pointer (some ⟨g8, 0, none⟩)), (5, .pointer (some ⟨g10, 0, none⟩))], [⟨g10, 24, [.slice a74 x76.length c75.1]⟩, ⟨g1, 80, [.slice a3 x2.length c4, .int .i64 x77, .int .i64 x78, .bool x79]⟩, ⟨g8, 24, [.slice none 0 0]⟩], [RoN eN59 rN59 59 1 (.slice a74 x76.length c75.1) x76 c75.2 []], [Sl (eI .u8) 1 (.slice a3 x2.length c4) x2], q7 F x2 x76 x77 x78 x79)) ?_ ?_
 refine au [2,4,3,3,0,1,15,30,15] ?_
 refine qk (fun (((x106, x109, x110, x111, x112), (a107, c108)) : ((Int × List (List Int) × Int × Int × Bool) × (Option Addr × (Nat × List (Option Addr × Nat))))) => ([(0, .pointer (some ⟨g1, 0, none⟩)), (2, .pointer (some ⟨g8, 0, none⟩)), (4, .int .i64 x9.1), (5, .pointer (some ⟨g10, 0, none⟩)), (10, .int .i64 x9.1), (11, .int .i64 x106)], [⟨g10, 24, [.slice a107 x109.length c108.1]⟩, ⟨g1, 80, [.slice a3 x2.length c4, .int .i64 x110, .int .i64 x111, .bool x112]⟩, ⟨g8, 24, [.slice none 0 0]⟩], [RoN eN59 rN59 59 1 (.slice a107 x109.length c108.1) x109 c108.2 []], [Sl (eI .u8) 1 (.slice a3 x2.length c4) x2])) (fun k (s : ((Int × List (List Int) × Int × Int × Bool) × (Option Addr × (Nat × List (Option Addr × Nat))))) => qJ F x2 x9 k s.1) ((0, ([] : List (List Int)), x9.2.1, x9.2.2.1, x9.2.2.2), (none, (0, ([] : List (Option Addr × Nat))))) F ?_
 intro k131
 rintro ⟨⟨x106, x109, x110, x111, x112⟩, ⟨a107, c108⟩⟩
 try dsimp only
 refine qz (m' := zH F x2 x9 (qJ F x2 x9 k131) x106 x109 x110 x111 x112) rfl ?_
 refine av [2,4,24,2,0,1,2,9] ?_ ?_
 intro _
 refine au [12,1,2,15,2,4,3,5,0,1] ?_
 refine qq mixed [9] [⟨g8, 24, [.slice none 0 0]⟩] [Sl (eI .u8) 1 (.slice a3 x2.length c4) x2, (BlkD.is ⟨g10, 24, [.slice a107 x109.length c108.1]⟩)] (.cons 2 rfl .nil) (qF 0 rfl (qey 0 rfl qm)) 10 rfl ?_
 refine au [19,0] ?_
 refine zr 1 (.slice a107 x109.length c108.1) [[9]] rfl rfl rfl (vG (j := 1) rfl tf22 rfl rfl (fun _ => rfl) rfl) ?_
 refine au [6,2,6,3,6,4,20,5] ?_
 refine qT qc2 ?_
 rintro x141 e141 ⟨a142, c143⟩
 refine au [0,29,3,20,6] ?_
 refine qu (vs := [.slice a142 x141.1.length c143]) (ys := ([(x141.1, (a142, c143))] : List (List Int × (Option Addr × Nat)))) vu (by decide) rfl Tryz.underlying22 tf59 rfl rfl rfl rfl rfl (by decide) (fun a144 c145 => qca (rin := rN59) (i := 0) ([x141.1] : List (List Int)) ([(a142, c143)] : List (Option Addr × Nat)) rfl rfl (.cons 0 rfl .nil) ?_)
 refine au [0,29,3,20,7,31,0] ?_
 intro x146 e146 a147 c148
 refine au [0,29,3,19,8,20,9,25,6,0] ?_
 refine qaS 9 rfl (by kernel_rfl) (.cons 2 rfl .nil) ?_
 refine au [24,1] ?_
 refine qt ?_ (by intro c h; cases h)
 refine au [24,4,1,4,16,3,0] ?_
 exact qi ((iadd .i64 x106 1, x146, x141.2.1, x141.2.2.1, x141.2.2.2), (a147, (c148, (c108.2 ++ ([(a142, c143)] : List (Option Addr × Nat))))))
 intro _
 refine au [24,8,18,18,24,9] ?_
 exact qa ((x109, x110, x111, x112), (a107, c108))
 rintro ⟨⟨x76, x77, x78, x79⟩, ⟨a74, c75⟩⟩
 try dsimp only
 refine qe (fun ((x83, _) : (Bool × Unit)) => ([(2, .pointer (some ⟨g8, 0, none⟩)), (3, .bool x83)], [⟨g1, 80, [.slice a3 x2.length c4, .int .i64 x77, .int .i64 x78, .bool x79]⟩, ⟨g8, 24, [.slice a74 x76.length c75.1]⟩], [RoN eN59 rN59 59 1 (.slice a74 x76.length c75.1) x76 c75.2 []], [Sl (eI .u8) 1 (.slice a3 x2.length c4) x2], zI F x76 x77 x78 x79 x83)) ?_ ?_
 refine av [26,13] ?_ ?_
 intro h84
 refine av [26,13] ?_ ?_
 intro h85
 refine qq mixed [] [⟨g10, 24, [.slice a74 x76.length c75.1]⟩, ⟨g1, 80, [.slice a3 x2.length c4, .int .i64 x77, .int .i64 x78, .bool x79]⟩] [Sl (eI .u8) 1 (.slice a3 x2.length c4) x2] (.cons 0 rfl (.cons 0 rfl .nil)) (qF 0 rfl qm) 25 rfl (zG 0 (.agg #[.slice a74 x76.length c75.1]) rfl rfl rfl (qZ (i := 0) rfl tf24 rfl rfl (by simp) rfl) ?_)
 refine au [6,1,6,2,19,3,26,1,4,6,5,6,6] ?_
 refine qf (d := 30) (v := .bool true) rfl (by rw [h84] <;> rfl) ?_
 refine au [6,7,6,8,19,9,26,1,10,6,11,6,12,19,13,26,1,14,26,7,15,6,16,6,17,6,18] ?_
 refine qf (d := 42) (v := .bool true) rfl (by rw [h85] <;> rfl) (zG 19 (.agg #[.slice a74 x76.length c75.1]) rfl rfl rfl (qZ (i := 0) rfl tf24 rfl rfl (by simp) rfl) ?_)
 refine au [20,20,29,4] ?_
 intro x86 e86 _
 refine au [0,27,7,6,21,6,22,20,23,25,15,0,27,7,6,24,24,1] ?_
 exact qt (qa (((x86 : Int) == 0), ())) (by intro c h; cases h)
 intro h85
 refine qq mixed [] [⟨g10, 24, [.slice a74 x76.length c75.1]⟩, ⟨g1, 80, [.slice a3 x2.length c4, .int .i64 x77, .int .i64 x78, .bool x79]⟩] [Sl (eI .u8) 1 (.slice a3 x2.length c4) x2] (.cons 0 rfl (.cons 0 rfl .nil)) (qF 0 rfl qm) 25 rfl (zG 0 (.agg #[.slice a74 x76.length c75.1]) rfl rfl rfl (qZ (i := 0) rfl tf24 rfl rfl (by simp) rfl) ?_)
 refine au [6,1,6,2,19,3,26,1,4,6,5,6,6] ?_
 refine qf (d := 30) (v := .bool true) rfl (by rw [h84] <;> rfl) ?_
 refine au [6,7,6,8,19,9,26,1,10,6,11,6,12,19,13,26,1,14,26,7,15,6,16,6,17,6,18] ?_
 refine qf (d := 42) (v := .bool false) rfl (by rw [h85] <;> rfl) ?_
 refine au [7,19,7,20,7,21,6,22,20,23,25,15,0,27,7,6,24,24,1] ?_
 exact qt (qa (false, ())) (by intro c h; cases h)
 intro h84
 refine qq mixed [] [⟨g10, 24, [.slice a74 x76.length c75.1]⟩, ⟨g1, 80, [.slice a3 x2.length c4, .int .i64 x77, .int .i64 x78, .bool x79]⟩] [Sl (eI .u8) 1 (.slice a3 x2.length c4) x2] (.cons 0 rfl (.cons 0 rfl .nil)) (qF 0 rfl qm) 25 rfl (zG 0 (.agg #[.slice a74 x76.length c75.1]) rfl rfl rfl (qZ (i := 0) rfl tf24 rfl rfl (by simp) rfl) ?_)
 refine au [6,1,6,2,19,3,26,1,4,6,5,6,6] ?_
 refine qf (d := 30) (v := .bool false) rfl (by rw [h84] <;> rfl) ?_
 refine au [7,7,7,8,7,9,7,10,7,11,7,12,7,13,7,14,7,15,7,16,6,17,6,18,7,19,7,20,7,21,6,22,20,23,25,15,0,27,7,6,24,24,1] ?_
 exact qt (qa (false, ())) (by intro c h; cases h)
 rintro ⟨x83, _⟩
 try dsimp only
 refine au [8] ?_
 exact yc (a74, c75) (resL (rs := [.cell 2 24, .tmp 3]) rfl (.cell (i := 1) rfl tf24 rfl rfl (by simp) rfl (.tmp rfl ResOk.nil)) rfl) (hB := fun h => by subst h; exact (.cons 0 rfl .nil)) (hR := fun h => by subst h; exact (.cons 0 rfl .nil))
theorem qbB {F : Nat} {x1 : List Int} {a2 : Option Addr} {c3 : Nat} {r : List Int} (hm : zK F x1 = some r) :
    Pure Tryz.prog 49 [.slice a2 x1.length c3] [Sl (eI .u8) 1 (.slice a2 x1.length c3) x1] (Option Addr × Nat) (fun g => .slice g.1 r.length g.2) (fun g => [Ro (eI .u8) 5 1 (.slice g.1 r.length g.2) r]) (fun _ => []) := by
 refine qh Tryz.func49 rfl Tryz.ntmps49 rfl hm (fun w => ?_)
 refine av [25,5,2,4,5,0,1,2,2,4,3,31,1,0,1,31,2] ?_ ?_
 intro h11
 refine qiH 0 (qr .u8) (by decide) rfl h11 (fun h12 => ?_)
 subst h12
 refine qz (m' := some ([] : List Int)) rfl ?_
 refine au [2,4,5,0,1,8,11,26,2] ?_
 exact qn (none, 0)
 intro _
 refine au [12,1,2,4,31,3] ?_
 intro a6 c7
 refine au [3,31,4] ?_
 intro x8 e8 a9 c10
 refine au [5,0,1,8] ?_
 exact qn (a9, c10)
set_option maxHeartbeats 4000000 in
theorem qgr {F : Nat} {x1 : Int} {x2 : List Int} {a3 : Option Addr} {c4 : Nat} {r : Int} (hm : j5 F x1 x2 = some r) :
    Pure Tryz.prog 50 [.agg #[.int .i64 x1, .slice a3 x2.length c4]] [Sl (eI .u8) 1 (.slice a3 x2.length c4) x2] Unit (fun _ => .int .i64 r) (fun _ => []) (fun _ => []) := by
 refine qh Tryz.func50 rfl Tryz.ntmps50 rfl hm (fun w => ?_)
 refine au [25,5,2,4,24,5] ?_
 intro g5
 refine au [5,0,1,2,15,2,4,13,21,24,2,3] ?_
 refine qN 4 (decide (x1 < 0)) [(1, .pointer (some ⟨g5, 0, none⟩)), (11, .bool ((decide (x1 < 0)) || (decide (8192 < x1))))] (fun h27 => ?_) (fun h27 => ?_) ?_
 refine qc (os := _) rfl (qE (k := 7) rfl h27 ?_)
 refine au [10,10,10,24,10] ?_
 refine qd (d := 11) (v := .bool ((decide (x1 < 0)) || (decide (8192 < x1)))) rfl (by rw [h27]; simp only [Bool.true_or]) ?_
 exact az [0,24,3]
 refine qc (os := _) rfl (qD (k := 7) rfl h27 ?_)
 refine au [13,21,24,13,24,11] ?_
 refine qd (d := 11) (v := .bool ((decide (x1 < 0)) || (decide (8192 < x1)))) rfl (by rw [h27]; simp only [Bool.false_or]) ?_
 exact az [0,24,3]
 refine qc (os := _) rfl ?_
 refine av [5,0,1,9] ?_ ?_
 intro _
 exact az [2,4,5,0,1,8,22,11,17]
 intro _
 refine av [2,4,13,21,23,13,21,16,29,5,25,3,5,0,1,9] ?_ ?_
 intro _
 exact az [2,4,5,0,1,8,22,11,17]
 intro _
 refine qe (fun ((x36, _) : (Bool × Unit)) => ([(21, .bool x36)], [], [], [], vx F x36)) ?_ ?_
 refine av [26,13] ?_ ?_
 intro h38
 refine au [29,6] ?_
 intro x39 e39 b40 o41 h42
 replace h42 : a3 = some ⟨b40, o41, none⟩ := h42
 refine au [27,10] ?_
 intro h43
 refine qq mixed [] [⟨g5, 65, [.int .i64 x1, .slice a3 x2.length c4]⟩] [qR b40 (o41 + (isub .i64 (x2.length : Int) 1).toNat * 1) ((eI .u8) x39), Sl (eI .u8) 1 (.slice a3 x2.length c4) x2] (.cons 0 rfl .nil) (qF 0 rfl (qF 1 rfl qm)) 20 rfl ?_
 refine au [19,0,25,7,1] ?_
 refine qv 2 (.int .i64 (irem x1 8)) rfl rfl rfl (qhy rfl rfl rfl) ?_
 refine au [6,3,6,4] ?_
 refine qf (d := 26) (v := .bool true) rfl (by rw [h38] <;> rfl) ?_
 refine au [19,5,25,7,6,19,7,25,7,8,26,7,9,6,10] ?_
 refine qf (d := 28) (v := .slice (some ⟨b40, o41, none⟩) x2.length c4) rfl (by rw [h42] <;> rfl) (qv 11 (.pointer (some ⟨b40, (o41 + (isub .i64 (x2.length : Int) 1).toNat * 1), none⟩)) rfl rfl rfl (qaW Tryz.underlying27 tf5 rfl rfl (zF e39).1 (qaw e39)) (qf (d := 28) (v := .slice a3 x2.length c4) rfl (by rw [h42] <;> rfl) (zr 12 (.int .u8 x39) [] rfl rfl rfl (vF (j := 0) rfl tf5 rfl rfl (fun _ => rfl) rfl) ?_)))
 refine au [19,13,25,7,14] ?_
 refine qv 15 (.int .i64 (irem x1 8)) rfl rfl rfl (qhy rfl rfl rfl) (qv 16 (.int .u8 (ishl .u8 x39 (irem x1 8))) rfl rfl rfl (qei rfl rfl h43) ?_)
 refine au [6,17,6,18,6,19,24,1] ?_
 exact qt (qa ((((ishl .u8 x39 (irem x1 8)) : Int) != 0), ())) (by intro c h; cases h)
 intro h38
 refine qq mixed [] [⟨g5, 65, [.int .i64 x1, .slice a3 x2.length c4]⟩] [Sl (eI .u8) 1 (.slice a3 x2.length c4) x2] (.cons 0 rfl .nil) (qF 0 rfl qm) 20 rfl ?_
 refine au [19,0,25,7,1] ?_
 refine qv 2 (.int .i64 (irem x1 8)) rfl rfl rfl (qhy rfl rfl rfl) ?_
 refine au [6,3,6,4] ?_
 refine qf (d := 26) (v := .bool false) rfl (by rw [h38] <;> rfl) ?_
 refine au [7,5,7,6,7,7,7,8,7,9,7,10,7,11,7,12,7,13,7,14,7,15,7,16,7,17,6,18,6,19,24,1] ?_
 exact qt (qa (false, ())) (by intro c h; cases h)
 rintro ⟨x36, _⟩
 try dsimp only
 refine av [9] ?_ ?_
 intro _
 exact az [2,4,5,0,1,8,22,11,17]
 intro _
 exact az [12,24,4,1,2,4,5,0,1,8,17]
set_option maxHeartbeats 4000000 in
theorem qgz {F : Nat} {x1 : Int} {x2 : Int} {x3 : Int} {r : Int} (hm : jz F x1 x2 x3 = some r) :
    Pure Tryz.prog 60 [.agg #[.int .i64 x1, .int .i64 x2, .int .i64 x3]] [] Unit (fun _ => .int .i64 r) (fun _ => []) (fun _ => []) := by
 refine qh Tryz.func60 rfl Tryz.ntmps60 rfl hm (fun w => ?_)
 refine au [25,5,2,4,24,5] ?_
 intro g4
 refine au [5,0,1,2,2,4,13,21,24,2,3] ?_
 refine qN 4 (decide (x1 < 0)) [(1, .pointer (some ⟨g4, 0, none⟩)), (10, .bool ((decide (x1 < 0)) || (decide (7 < x1))))] (fun h12 => ?_) (fun h12 => ?_) ?_
 refine qc (os := _) rfl (qE (k := 6) rfl h12 ?_)
 refine au [10,10,10,24,10] ?_
 refine qd (d := 10) (v := .bool ((decide (x1 < 0)) || (decide (7 < x1)))) rfl (by rw [h12]; simp only [Bool.true_or]) ?_
 exact az [0,24,3]
 refine qc (os := _) rfl (qD (k := 6) rfl h12 ?_)
 refine au [13,21,24,13,24,11] ?_
 refine qd (d := 10) (v := .bool ((decide (x1 < 0)) || (decide (7 < x1)))) rfl (by rw [h12]; simp only [Bool.false_or]) ?_
 exact az [0,24,3]
 refine qc (os := _) rfl ?_
 refine au [3] ?_
 refine qN 4 ((decide (x1 < 0)) || (decide (7 < x1))) [(1, .pointer (some ⟨g4, 0, none⟩)), (15, .bool (((decide (x1 < 0)) || (decide (7 < x1))) || (decide (x2 < 0))))] (fun h13 => ?_) (fun h13 => ?_) ?_
 refine qc (os := _) rfl (qE (k := 11) rfl h13 ?_)
 refine au [10,10,10,24,10] ?_
 refine qd (d := 15) (v := .bool (((decide (x1 < 0)) || (decide (7 < x1))) || (decide (x2 < 0)))) rfl (by rw [h13]; simp only [Bool.true_or]) ?_
 exact az [0,24,3]
 refine qc (os := _) rfl (qD (k := 11) rfl h13 ?_)
 refine au [13,21,24,2,24,11] ?_
 refine qd (d := 15) (v := .bool (((decide (x1 < 0)) || (decide (7 < x1))) || (decide (x2 < 0)))) rfl (by rw [h13]; simp only [Bool.false_or]) ?_
 exact az [0,24,3]
 refine qc (os := _) rfl ?_
 refine au [3] ?_
 refine qN 4 (((decide (x1 < 0)) || (decide (7 < x1))) || (decide (x2 < 0))) [(1, .pointer (some ⟨g4, 0, none⟩)), (20, .bool ((((decide (x1 < 0)) || (decide (7 < x1))) || (decide (x2 < 0))) || ((x2 : Int) == 1)))] (fun h14 => ?_) (fun h14 => ?_) ?_
 refine qc (os := _) rfl (qE (k := 16) rfl h14 ?_)
 refine au [10,10,10,24,10] ?_
 refine qd (d := 20) (v := .bool ((((decide (x1 < 0)) || (decide (7 < x1))) || (decide (x2 < 0))) || ((x2 : Int) == 1))) rfl (by rw [h14]; simp only [Bool.true_or]) ?_
 exact az [0,24,3]
 refine qc (os := _) rfl (qD (k := 16) rfl h14 ?_)
 refine au [13,21,25,2,24,11] ?_
 refine qd (d := 20) (v := .bool ((((decide (x1 < 0)) || (decide (7 < x1))) || (decide (x2 < 0))) || ((x2 : Int) == 1))) rfl (by rw [h14]; simp only [Bool.false_or]) ?_
 exact az [0,24,3]
 refine qc (os := _) rfl ?_
 refine au [3] ?_
 refine qN 4 ((((decide (x1 < 0)) || (decide (7 < x1))) || (decide (x2 < 0))) || ((x2 : Int) == 1)) [(1, .pointer (some ⟨g4, 0, none⟩)), (25, .bool (((((decide (x1 < 0)) || (decide (7 < x1))) || (decide (x2 < 0))) || ((x2 : Int) == 1)) || (decide (300 < x2))))] (fun h15 => ?_) (fun h15 => ?_) ?_
 refine qc (os := _) rfl (qE (k := 21) rfl h15 ?_)
 refine au [10,10,10,24,10] ?_
 refine qd (d := 25) (v := .bool (((((decide (x1 < 0)) || (decide (7 < x1))) || (decide (x2 < 0))) || ((x2 : Int) == 1)) || (decide (300 < x2)))) rfl (by rw [h15]; simp only [Bool.true_or]) ?_
 exact az [0,24,3]
 refine qc (os := _) rfl (qD (k := 21) rfl h15 ?_)
 refine au [13,21,24,13,24,11] ?_
 refine qd (d := 25) (v := .bool (((((decide (x1 < 0)) || (decide (7 < x1))) || (decide (x2 < 0))) || ((x2 : Int) == 1)) || (decide (300 < x2)))) rfl (by rw [h15]; simp only [Bool.false_or]) ?_
 exact az [0,24,3]
 refine qc (os := _) rfl ?_
 refine au [3] ?_
 refine qN 4 (((((decide (x1 < 0)) || (decide (7 < x1))) || (decide (x2 < 0))) || ((x2 : Int) == 1)) || (decide (300 < x2))) [(1, .pointer (some ⟨g4, 0, none⟩)), (30, .bool ((((((decide (x1 < 0)) || (decide (7 < x1))) || (decide (x2 < 0))) || ((x2 : Int) == 1)) || (decide (300 < x2))) || (decide (x3 < 1))))] (fun h16 => ?_) (fun h16 => ?_) ?_
 refine qc (os := _) rfl (qE (k := 26) rfl h16 ?_)
 refine au [10,10,10,24,10] ?_
 refine qd (d := 30) (v := .bool ((((((decide (x1 < 0)) || (decide (7 < x1))) || (decide (x2 < 0))) || ((x2 : Int) == 1)) || (decide (300 < x2))) || (decide (x3 < 1)))) rfl (by rw [h16]; simp only [Bool.true_or]) ?_
 exact az [0,24,3]
 refine qc (os := _) rfl (qD (k := 26) rfl h16 ?_)
 refine au [13,21,24,2,24,11] ?_
 refine qd (d := 30) (v := .bool ((((((decide (x1 < 0)) || (decide (7 < x1))) || (decide (x2 < 0))) || ((x2 : Int) == 1)) || (decide (300 < x2))) || (decide (x3 < 1)))) rfl (by rw [h16]; simp only [Bool.false_or]) ?_
 exact az [0,24,3]
 refine qc (os := _) rfl ?_
 refine au [3] ?_
 refine qN 4 ((((((decide (x1 < 0)) || (decide (7 < x1))) || (decide (x2 < 0))) || ((x2 : Int) == 1)) || (decide (300 < x2))) || (decide (x3 < 1))) [(35, .bool (((((((decide (x1 < 0)) || (decide (7 < x1))) || (decide (x2 < 0))) || ((x2 : Int) == 1)) || (decide (300 < x2))) || (decide (x3 < 1))) || (decide (16 < x3))))] (fun h17 => ?_) (fun h17 => ?_) ?_
 refine qc (os := _) rfl (qE (k := 31) rfl h17 ?_)
 refine au [10,10,10,24,10] ?_
 refine qd (d := 35) (v := .bool (((((((decide (x1 < 0)) || (decide (7 < x1))) || (decide (x2 < 0))) || ((x2 : Int) == 1)) || (decide (300 < x2))) || (decide (x3 < 1))) || (decide (16 < x3)))) rfl (by rw [h17]; simp only [Bool.true_or]) ?_
 exact az [0,24,3]
 refine qc (os := _) rfl (qD (k := 31) rfl h17 ?_)
 refine au [13,21,24,13,24,11] ?_
 refine qd (d := 35) (v := .bool (((((((decide (x1 < 0)) || (decide (7 < x1))) || (decide (x2 < 0))) || ((x2 : Int) == 1)) || (decide (300 < x2))) || (decide (x3 < 1))) || (decide (16 < x3)))) rfl (by rw [h17]; simp only [Bool.false_or]) ?_
 exact az [0,24,3]
 refine qc (os := _) rfl ?_
 refine av [0,1,9] ?_ ?_
 intro _
 exact az [2,4,5,0,1,8,11,17]
 intro _
 exact az [12,1,2,4,5,0,1,8,17]
theorem qiU {F : Nat} {x1 : Int} {x2 : List Int} {a3 : Option Addr} {c4 : Nat} {r : (Int × List Int)} (hm : qa8 F x1 x2 = some r) :
    PureM Tryz.prog 91 [.agg #[.int .i64 x1, .slice a3 x2.length c4]] [] [] [Sl (eI .u8) 1 (.slice a3 x2.length c4) x2] ((Option Addr × Nat) × Nat) (fun g => .pointer (some ⟨g.2, 0, none⟩)) (fun g => [⟨g.2, 161, [.int .i64 r.1, .slice g.1.1 r.2.length g.1.2]⟩]) (fun g => [Ro (eI .u8) 5 1 (.slice g.1.1 r.2.length g.1.2) r.2]) := by
 refine zp Tryz.func91 rfl Tryz.ntmps91 rfl hm (fun w => ?_)
 refine au [25,5,2,4,24,5] ?_
 intro g5
 refine au [5,0,1,2] ?_
 refine qq mixed [] [⟨g5, 65, [.int .i64 x1, .slice a3 x2.length c4]⟩] [Sl (eI .u8) 1 (.slice a3 x2.length c4) x2] (.cons 0 rfl .nil) (qF 0 rfl qm) 9 rfl ?_
 refine au [19,0,25,7,1,19,2,25,7,3,20,4,31,5] ?_
 rintro x10 e10 ⟨a11, c12⟩
 refine au [0,26,10] ?_
 refine qv 5 (.agg #[.int .i64 x1, .slice a11 x10.length c12]) rfl rfl rfl (qcz (cells := [.int .i64 x1, .slice a11 x10.length c12]) st65 rfl (by kernel_rfl)) (qv 6 (.agg #[.int .i64 x1, .slice a11 x10.length c12]) rfl rfl rfl (qcz (cells := [.int .i64 x1, .slice a11 x10.length c12]) st161 rfl (by kernel_rfl)) ?_)
 refine au [20,7,24,5] ?_
 intro g13
 refine au [0] ?_
 refine zT (.cons 1 rfl .nil) (qF 0 rfl qm) ?_
 refine au [6,8,24,1] ?_
 refine qt ?_ (by intro c h; cases h)
 refine au [1,8] ?_
 exact zl ((a11, c12), g13)
theorem qfq {F : Nat} {x1 : Int} {x2 : List Int} {a3 : Option Addr} {c4 : Nat} {x5 : Int} {x6 : Int} {r : Unit} (hm : qbE F x1 x2 x5 x6 = some r) :
    PureM Tryz.prog 92 [.agg #[.int .i64 x1, .slice a3 x2.length c4], .int .i64 x5, .int .i64 x6] [] [] [Sl (eI .u8) 1 (.slice a3 x2.length c4) x2] (Nat × Nat × Nat) (fun g => .func (.func 103) #[] #[.pointer (some ⟨g.1, 0, none⟩), .pointer (some ⟨g.2.1, 0, none⟩), .pointer (some ⟨g.2.2, 0, none⟩)]) (fun g => [⟨g.1, 3, [.int .i64 x5]⟩, ⟨g.2.1, 3, [.int .i64 x6]⟩, ⟨g.2.2, 65, [.int .i64 x1, .slice a3 x2.length c4]⟩]) (fun _ => []) := by
 refine zp Tryz.func92 rfl Tryz.ntmps92 rfl hm (fun w => ?_)
 refine au [25,12,2,4,24,5] ?_
 intro g7
 refine au [24,5] ?_
 intro g8
 refine au [24,5] ?_
 intro g9
 refine au [5,0,1,2,4,29,7,5,0,1,8] ?_
 exact zl (g8, g9, g7)
set_option maxHeartbeats 4000000 in
theorem qdm {F : Nat} {g1 : Nat} {x2 : Int} {x3 : List Int} {a4 : Option Addr} {c5 : Nat} {x6 : Int} {r : (Int × List Int)} (hm : yB F x2 x3 x6 = some r) :
    PureM Tryz.prog 93 [.pointer (some ⟨g1, 0, none⟩), .int .u64 x6] [⟨g1, 161, [.int .i64 x2, .slice a4 x3.length c5]⟩] [Ro (eI .u8) 5 1 (.slice a4 x3.length c5) x3] [] (Option Addr × Nat) (fun _ => .tuple #[]) (fun g => [⟨g1, 161, [.int .i64 r.1, .slice g.1 r.2.length g.2]⟩]) (fun g => [Ro (eI .u8) 5 1 (.slice g.1 r.2.length g.2) r.2]) := by
 refine zp Tryz.func93 rfl Tryz.ntmps93 rfl hm (fun w => ?_)
 refine au [24,12] ?_
 refine qe (fun ((x15, (a13, c14)) : (List Int × (Option Addr × Nat))) => ([(0, .pointer (some ⟨g1, 0, none⟩)), (1, .int .u64 x6)], [⟨g1, 161, [.int .i64 x2, .slice a13 x15.length c14]⟩], [Ro (eI .u8) 5 1 (.slice a13 x15.length c14) x15], [], kE F x2 x6 x15)) ?_ ?_
 refine av [2,4,3,24,7,13,13,21,31,6,25,2,0,1,9] ?_ ?_
 intro _
 refine au [4,3,3,24,7,13,13,21] ?_
 refine qu (vs := [.int .u8 0]) (ys := ([0] : List Int)) (qr .u8) (by decide) rfl Tryz.underlying27 tf5 rfl rfl rfl rfl rfl (by decide) (fun a44 c45 => zW 1 (qr .u8) rfl Tryz.underlying27 tf5 rfl rfl rfl rfl rfl (.inl ⟨0, _, rfl⟩) rfl rfl (fun x46 e46 a47 c48 => ?_))
 refine au [24,7,13,13,24,0,0] ?_
 exact qa (x46, (a47, c48))
 intro _
 refine au [12] ?_
 exact qa (x3, (a4, c5))
 rintro ⟨x15, ⟨a13, c14⟩⟩
 try dsimp only
 refine au [2,31,7] ?_
 intro x30 e30 g31 h32
 replace h32 : a13 = some ⟨g31, 0, none⟩ := h32
 have h33 := qjc (k := x15.length) (c := c14) h32
 refine au [27,10] ?_
 intro h34
 refine au [31,7] ?_
 intro x36 e36 g37 h38
 replace h38 : a13 = some ⟨g37, 0, none⟩ := h38
 have h39 := qjc (k := x15.length) (c := c14) h38
 refine qq mixed [25] [⟨g1, 161, [.int .i64 x2, .slice a13 x15.length c14]⟩] [qR g31 ((iquo .i64 x2 8).toNat * 1) ((eI .u8) x30), qR g37 ((iquo .i64 x2 8).toNat * 1) ((eI .u8) x36)] (.cons 0 rfl .nil) (qp8 0 rfl (qlF (qr .u8) e30 h32) (qp8 0 rfl (qlF (qr .u8) e36 h38) qm)) 26 rfl ?_
 refine au [6,0,6,1,19,2,19,3,25,7,4,6,5,6,6,19,7,19,8,25,7,9] ?_
 refine qv 10 (.int .i64 (iquo .i64 x2 8)) rfl rfl rfl (qpZ rfl rfl rfl) (qf (d := 26) (v := .slice (some ⟨g31, 0, none⟩) x15.length c14) rfl (by rw [h32] <;> rfl) (qv 11 (.pointer (some ⟨g31, (iquo .i64 x2 8).toNat * 1, none⟩)) rfl rfl rfl (qkN Tryz.underlying27 tf5 rfl rfl (zF e30).1 (qaw e30)) (qf (d := 26) (v := .slice a13 x15.length c14) rfl (by rw [h32] <;> rfl) (zr 12 (.int .u8 x30) [[25]] rfl rfl rfl (vF (j := 0) rfl tf5 rfl rfl (fun _ => rfl) rfl) ?_))))
 refine au [6,13] ?_
 refine qv 14 (.int .u64 (ishl .u64 x6 7)) rfl rfl rfl (qei rfl rfl rfl) ?_
 refine au [31,8,15,6,16,6,17,19,18,19,19,25,7,20] ?_
 refine qv 21 (.int .i64 (irem x2 8)) rfl rfl rfl (qhy rfl rfl rfl) (qv 22 (.int .u8 (ishr .u8 (iconv .u8 (ishl .u64 x6 7)) (irem x2 8))) rfl rfl rfl (qp0 rfl rfl h34) ?_)
 refine au [6,23] ?_
 refine qf (d := 26) (v := .slice (some ⟨g37, 0, none⟩) x15.length c14) rfl (by rw [h38] <;> rfl) (qv 24 (.pointer (some ⟨g37, (iquo .i64 x2 8).toNat * 1, none⟩)) rfl rfl rfl (qkN Tryz.underlying27 tf5 rfl rfl (zF e36).1 (qaw e36)) (qf (d := 26) (v := .slice a13 x15.length c14) rfl (by rw [h38] <;> rfl) ?_))
 refine au [20,25] ?_
 refine qdj (j := 0) (y' := ior .u8 x30 (ishr .u8 (iconv .u8 (ishl .u64 x6 7)) (irem x2 8))) (qr .u8) rfl rfl rfl tf5 rfl (qjc h38) (zF e36).2.1 rfl (fun x41 e41 h42 => ?_)
 have h43 : x41.length = x15.length := by rw [← e41, List.length_set]
 refine qd (d := 26) (v := .slice a13 x41.length c14) rfl h42 (qhi (i := 0) (cs' := [.int .i64 x2, .slice a13 x41.length c14]) rfl (by rw [h42] <;> rfl) ?_)
 refine au [0] ?_
 refine qaS 25 rfl (by kernel_rfl) (.cons 0 (by rw [h43]; rfl) .nil) ?_
 refine au [24,1] ?_
 refine qt ?_ (by intro c h; cases h)
 refine au [1,4,3,24,7,13,13,21,16,24,7,13,13,24,0,0] ?_
 exact zl (a13, c14)
theorem qkR {F : Nat} {x1 : Int} {x2 : List Int} {a3 : Option Addr} {c4 : Nat} {x5 : Int} {r : Int} (hm : jy F x1 x2 x5 = some r) :
    Pure Tryz.prog 104 [.agg #[.int .i64 x1, .slice a3 x2.length c4], .int .i64 x5] [Sl (eI .u8) 1 (.slice a3 x2.length c4) x2] Unit (fun _ => .int .u64 r) (fun _ => []) (fun _ => []) := by
 refine qh Tryz.func104 rfl Tryz.ntmps104 rfl hm (fun w => ?_)
 refine au [24,12,2,4,24,5] ?_
 intro g6
 refine au [5,0,1,2,4,13,21,3,29,5,28,14] ?_
 intro x7 e7 b8 o9
 refine au [25,9,3,31,6,24,15,26,9] ?_
 intro h10
 refine qho rfl rfl rfl rfl h10 ?_
 refine au [24,14,28,1,5,26,6] ?_
 intro x11 e11
 refine qd (d := 4) (v := .int .u64 x11) rfl (by rw [e11] <;> rfl) ?_
 exact az [0,1,8,17]
theorem qet (F : Nat) {σ τ : Type} {J : Rounds σ τ} {yy : σ → Int → Option (σ ⊕ τ)} {L : Nat} (hY : YieldC Tryz.prog L (fun (p : Int) => [.int .u64 p]) J yy) (s0 : σ) (gs0 : J.γ) (g1 : Nat) (x2 : Int) (g3 : Nat) (x4 : Int) (g5 : Nat) (x6 : Int) (x7 : List Int) (a8 : Option Addr) (c9 : Nat) (r : σ ⊕ τ) (hm : qaT F yy x2 x4 x6 x7 s0 = some r) :
    PureM Tryz.prog 103 ([.func (.yield L) #[] #[], .pointer (some ⟨g1, 0, none⟩), .pointer (some ⟨g3, 0, none⟩), .pointer (some ⟨g5, 0, none⟩)]) ([⟨g1, 3, [.int .i64 x2]⟩, ⟨g3, 3, [.int .i64 x4]⟩, ⟨g5, 65, [.int .i64 x6, .slice a8 x7.length c9]⟩] ++ J.IB s0 gs0) (J.IR s0 gs0) [J.F, Sl (eI .u8) 1 (.slice a8 x7.length c9) x7] (J.G r) (fun _ => .tuple #[]) (fun g => [⟨g1, 3, [.int .i64 x2]⟩, ⟨g3, 3, [.int .i64 x4]⟩, ⟨g5, 65, [.int .i64 x6, .slice a8 x7.length c9]⟩] ++ J.bs r g) (fun g => J.rs r g) := by
 refine zp Tryz.func103 rfl Tryz.ntmps103 rfl hm (fun w => ?_)
 refine au [27,8,2,4,21,5,0,1,15] ?_
 refine qcL (fun (((x22, x23), g24) : ((Int × σ) × J.γ)) => [(0, .func (.yield L) #[] #[]), (2, .pointer (some ⟨g3, 0, none⟩)), (3, .pointer (some ⟨g5, 0, none⟩)), (5, .int .i64 x22)]) (fun (((x22, x23), g24) : ((Int × σ) × J.γ)) => [⟨g1, 3, [.int .i64 x2]⟩, ⟨g3, 3, [.int .i64 x4]⟩, ⟨g5, 65, [.int .i64 x6, .slice a8 x7.length c9]⟩] ++ J.IB x23 g24) (fun (((x22, x23), g24) : ((Int × σ) × J.γ)) => [] ++ J.IR x23 g24) (fun (((x22, x23), g24) : ((Int × σ) × J.γ)) => [Sl (eI .u8) 1 (.slice a8 x7.length c9) x7, J.F]) (fun k (s : ((Int × σ) × J.γ)) => zB F yy x4 x6 x7 k s.1) ((x2, s0), gs0) F ?_ (hB := (.cons 0 rfl (.cons 0 rfl (.cons 0 rfl (qO 0 rfl))))) (hR := (qO 0 rfl)) (hF := (qB 1 rfl (qB 0 rfl js)))
 intro k37
 rintro ⟨⟨x22, x23⟩, g24⟩
 try dsimp only
 refine qz (m' := vi F yy x4 x6 x7 (zB F yy x4 x6 x7 k37) x22 x23) rfl ?_
 refine av [2,2,4,3,25,11,24,2,0,1,9] ?_ ?_
 intro _
 refine au [12,1,2,15,2,4,3,26,14,3,28,3] ?_
 intro x44 e44 _
 refine qgi hY x23 x44 g24 (B1 := [⟨g1, 3, [.int .i64 x2]⟩, ⟨g3, 3, [.int .i64 x4]⟩, ⟨g5, 65, [.int .i64 x6, .slice a8 x7.length c9]⟩]) (R1 := []) (j := 1) rfl rfl rfl rfl rfl rfl rfl (fun x45 _ g47 => ?_) (fun x46 _ g47 => ?_)
 refine au [25,1,0,1] ?_
 refine ju (b := false) rfl (fun h => by cases h) (fun _ => ?_)
 refine au [12,24,4,1,4,3,16,5,0] ?_
 exact qcb ((iadd .i64 x22 1, x45), g47) (hB := (.cons 0 rfl (.cons 0 rfl (.cons 0 rfl (qO 0 rfl))))) (hR := (qO 0 rfl)) (hF := (qB 0 rfl (qB 1 rfl js)))
 refine au [25,1,0,1] ?_
 refine ju (b := true) rfl (fun _ => ?_) (fun h => by cases h)
 refine au [8,22,11,11,22] ?_
 exact qcN (B0 := [⟨g1, 3, [.int .i64 x2]⟩, ⟨g3, 3, [.int .i64 x4]⟩, ⟨g5, 65, [.int .i64 x6, .slice a8 x7.length c9]⟩]) (x := .inr x46) g47 (.inl rfl) (res0 rfl) (.cons 0 rfl (.cons 0 rfl (.cons 0 rfl (qO 0 rfl)))) (qO 0 rfl)
 intro _
 refine au [24,8,18,18,24,9] ?_
 exact qcN (B0 := [⟨g1, 3, [.int .i64 x2]⟩, ⟨g3, 3, [.int .i64 x4]⟩, ⟨g5, 65, [.int .i64 x6, .slice a8 x7.length c9]⟩]) (x := .inl x23) g24 (.inr rfl) (res0 rfl) (.cons 0 rfl (.cons 0 rfl (.cons 0 rfl (qO 0 rfl)))) (qO 0 rfl)
set_option maxHeartbeats 4000000 in
theorem qhA {F : Nat} {x1 : Int} {x2 : List Int} {a3 : Option Addr} {c4 : Nat} {x5 : Int} {x6 : List Int} {a7 : Option Addr} {c8 : Nat} {r : (Int × List Int)} (hm : vd F x1 x2 x5 x6 = some r) :
    PureM Tryz.prog 79 [.agg #[.int .i64 x1, .slice a3 x2.length c4], .agg #[.int .i64 x5, .slice a7 x6.length c8]] [] [] [Sl (eI .u8) 1 (.slice a3 x2.length c4) x2, Sl (eI .u8) 1 (.slice a7 x6.length c8) x6] (Option Addr × Nat) (fun g => .agg #[.int .i64 r.1, .slice g.1 r.2.length g.2]) (fun _ => []) (fun g => [Ro (eI .u8) 5 1 (.slice g.1 r.2.length g.2) r.2]) := by
 refine qir Tryz.func79 rfl Tryz.ntmps79 rfl hm (fun w => ?_)
 refine au [24,12,2,4,24,5] ?_
 intro g9
 refine au [24,5] ?_
 intro g10
 refine au [24,6] ?_
 intro g11
 refine au [0,1,2,4,26,14,31,9] ?_
 rintro x12 e12 ⟨⟨a13, c14⟩, g15⟩
 refine au [24,6] ?_
 intro g16
 refine au [24,0,0,1,2,2,4] ?_
 refine va (i := 3) rfl rfl inferInstance rfl rfl (by simp) rfl rfl ?_
 refine au [13,28,4] ?_
 refine qT qfq ?_
 rintro x37 e37 ⟨g38, g39, g40⟩
 refine au [0,1,15] ?_
 refine qgd (encs := (fun (p : Int) => [.int .u64 p])) (y := (fun ((x45, x48) : (Int × List Int)) (x53 : Int) => jk F x45 x48 x53)) (lb := [.pointer (some ⟨g38, 0, none⟩), .pointer (some ⟨g39, 0, none⟩), .pointer (some ⟨g40, 0, none⟩)]) (fun ((x45, x48) : (Int × List Int)) ((a46, c47) : (Option Addr × Nat)) => [⟨g16, 155, [.pointer (some ⟨g15, 0, none⟩)]⟩, ⟨g15, 161, [.int .i64 x45, .slice a46 x48.length c47]⟩, ⟨g11, 65, [.int .i64 0, .slice none 0 0]⟩, ⟨g10, 65, [.int .i64 x5, .slice a7 x6.length c8]⟩, ⟨g9, 65, [.int .i64 x1, .slice a3 x2.length c4]⟩]) (fun ((x45, x48) : (Int × List Int)) ((a46, c47) : (Option Addr × Nat)) => [Ro (eI .u8) 5 1 (.slice a46 x48.length c47) x48]) (fun (_ : Empty) (_ : Unit) => []) (fun (_ : Empty) (_ : Unit) => []) (fun _ => .skip) (x12.1, x12.2) (a13, c14) rfl ent103 (fun _ => rfl) rfl (.cons 0 rfl (.cons 0 rfl (.cons 0 rfl .nil))) (.cons 0 rfl (.cons 0 rfl (.cons 0 rfl (.cons 0 rfl (.cons 0 rfl .nil))))) (.cons 0 rfl .nil) (.consF 1 rfl .nil) (fun z hz _ _ _ hY => qet F hY (x12.1, x12.2) (a13, c14) g38 0 g39 x5 g40 x5 x6 a7 c8 z hz) ?_ ?_ ?_
 rintro rc1 L1 D1 ⟨x45, x48⟩ ⟨a46, c47⟩ x53 z w M _
 try dsimp only
 refine qiG [(0, .agg #[.int .i64 x1, .slice a3 x2.length c4]), (1, .agg #[.int .i64 x5, .slice a7 x6.length c8]), (2, .pointer (some ⟨g9, 0, none⟩)), (3, .pointer (some ⟨g10, 0, none⟩)), (4, .pointer (some ⟨g11, 0, none⟩)), (5, .pointer (some ⟨g16, 0, none⟩)), (7, .agg #[.int .i64 x1, .slice a3 x2.length c4]), (8, .pointer (some ⟨g15, 0, none⟩)), (9, .agg #[.int .i64 x5, .slice a7 x6.length c8]), (10, .pointer (some ⟨g10, 0, none⟩)), (11, .int .i64 x5), (12, .func (.func 103) #[] #[.pointer (some ⟨g38, 0, none⟩), .pointer (some ⟨g39, 0, none⟩), .pointer (some ⟨g40, 0, none⟩)]), (13, .int .u64 x53)] (zO rfl (zO rfl (zO rfl (zO rfl (zO rfl (zO rfl (zO rfl (zO rfl (zO rfl (zO rfl (zO rfl (zO rfl (zO rfl qd5))))))))))))) ?_
 refine au [4,5,0] ?_
 refine qgj (i := 5) rfl ?_
 refine au [15,4,21,3,31,10] ?_
 rintro x54 e54 ⟨a55, c56⟩
 refine au [0,24,4] ?_
 exact qeg (rc := rc1) rfl (.cons 5 rfl .nil) rfl (a55, c56) (.cons 2 rfl (.cons 1 rfl (.cons 1 rfl (.cons 1 rfl (.cons 1 rfl (.cons 0 rfl (.cons 0 rfl .nil))))))) (.cons 0 rfl .nil)
 rintro ⟨x45, x48⟩ _ ⟨a46, c47⟩ D1
 try dsimp only
 refine au [24,4,1,2,4] ?_
 refine va (i := 4) rfl rfl inferInstance rfl rfl (fun _ => rfl) rfl rfl ?_
 refine au [24,7,13] ?_
 refine va (i := 5) rfl rfl inferInstance rfl rfl (by simp) rfl rfl (jv (i := 6) rfl rfl rfl inferInstance rfl rfl rfl rfl rfl ?_)
 refine au [0,1,8] ?_
 exact qgk [D1] (a46, c47) (.inl rfl) rfl (.cons 0 rfl .nil) (resL (rs := [.cell 4 65]) rfl (.cell (i := 5) rfl tf65 rfl rfl (by simp) rfl ResOk.nil) rfl) (fun h => by subst h; rfl) (fun h => by subst h; exact .nil) (fun h => by subst h; exact (.cons 0 rfl .nil))
 intro t; exact t.elim
set_option maxHeartbeats 4000000 in
theorem qdr {F : Nat} {x1 : Int} {r : Int} (hm : kL F x1 = some r) :
    Pure Tryz.prog 136 [.int .u64 x1] [] Unit (fun _ => .int .i64 r) (fun _ => []) (fun _ => []) := by
 refine qh Tryz.func136 rfl Tryz.ntmps136 rfl hm (fun w => ?_)
 refine au [25,5,2,4,5,0,1] ?_
 refine qe (fun (((x3, x4), _) : ((Int × Int) × Unit)) => ([(0, .int .u64 x3), (2, .int .i64 x4)], [], [], [], kG F x3 x4)) ?_ ?_
 refine av [2,4,3,26,0,0,1,9] ?_ ?_
 intro _
 refine au [2,4,3,27,5,5,0,1,4,5,0] ?_
 exact qa ((ishr .u64 x1 32, (32 : Int)), ())
 intro _
 refine au [12] ?_
 exact qa ((x1, (0 : Int)), ())
 rintro ⟨⟨x3, x4⟩, _⟩
 try dsimp only
 refine qe (fun (((x6, x7), _) : ((Int × Int) × Unit)) => ([(0, .int .u64 x6), (2, .int .i64 x7)], [], [], [], kH F x6 x7)) ?_ ?_
 refine av [2,4,3,26,0,0,1,9] ?_ ?_
 intro _
 refine au [2,4,3,27,5,5,0,1,4,3,16,5,0] ?_
 exact qa ((ishr .u64 x3 16, iadd .i64 x4 16), ())
 intro _
 refine au [12] ?_
 exact qa ((x3, x4), ())
 rintro ⟨⟨x6, x7⟩, _⟩
 try dsimp only
 refine qe (fun (((x9, x10), _) : ((Int × Int) × Unit)) => ([(0, .int .u64 x9), (2, .int .i64 x10)], [], [], [], kI F x9 x10)) ?_ ?_
 refine av [2,4,3,26,0,0,1,9] ?_ ?_
 intro _
 refine au [2,4,3,27,5,5,0,1,4,3,16,5,0] ?_
 exact qa ((ishr .u64 x6 8, iadd .i64 x7 8), ())
 intro _
 refine au [12] ?_
 exact qa ((x6, x7), ())
 rintro ⟨⟨x9, x10⟩, _⟩
 try dsimp only
 refine au [2,4,3,3,24,14] ?_
 refine qjs (xs := ([0, 1, 2, 2, 3, 3, 3, 3, 4, 4, 4, 4, 4, 4, 4, 4, 5, 5, 5, 5, 5, 5, 5, 5, 5, 5, 5, 5, 5, 5, 5, 5, 6, 6, 6, 6, 6, 6, 6, 6, 6, 6, 6, 6, 6, 6, 6, 6, 6, 6, 6, 6, 6, 6, 6, 6, 6, 6, 6, 6, 6, 6, 6, 6, 7, 7, 7, 7, 7, 7, 7, 7, 7, 7, 7, 7, 7, 7, 7, 7, 7, 7, 7, 7, 7, 7, 7, 7, 7, 7, 7, 7, 7, 7, 7, 7, 7, 7, 7, 7, 7, 7, 7, 7, 7, 7, 7, 7, 7, 7, 7, 7, 7, 7, 7, 7, 7, 7, 7, 7, 7, 7, 7, 7, 7, 7, 7, 7, 8, 8, 8, 8, 8, 8, 8, 8, 8, 8, 8, 8, 8, 8, 8, 8, 8, 8, 8, 8, 8, 8, 8, 8, 8, 8, 8, 8, 8, 8, 8, 8, 8, 8, 8, 8, 8, 8, 8, 8, 8, 8, 8, 8, 8, 8, 8, 8, 8, 8, 8, 8, 8, 8, 8, 8, 8, 8, 8, 8, 8, 8, 8, 8, 8, 8, 8, 8, 8, 8, 8, 8, 8, 8, 8, 8, 8, 8, 8, 8, 8, 8, 8, 8, 8, 8, 8, 8, 8, 8, 8, 8, 8, 8, 8, 8, 8, 8, 8, 8, 8, 8, 8, 8, 8, 8, 8, 8, 8, 8, 8, 8, 8, 8, 8, 8, 8, 8, 8, 8, 8, 8, 8, 8, 8, 8, 8, 8] : List Int)) rfl UnF.u rfl rfl (by kernel_rfl) rfl ?_
 intro x11 e11
 exact az [24,14,16,5,0,1,8,17]
theorem qgs {F : Nat} {x1 : Int} {r : Int} (hm : qaY F x1 = some r) :
    Pure Tryz.prog 114 [.int .u64 x1] [] Unit (fun _ => .int .i64 r) (fun _ => []) (fun _ => []) := by
 refine qh Tryz.func114 rfl Tryz.ntmps114 rfl hm (fun w => ?_)
 refine au [25,5,2,4,5,0,1,2,4,3,16,29,8] ?_
 intro x2 e2 _
 exact az [24,15,5,0,1,8,17]
theorem qcj {F : Nat} {g1 : Nat} {x2 : Int} {x3 : List Int} {a4 : Option Addr} {c5 : Nat} {x6 : Int} {x7 : Int} {r : (Int × List Int)} (hm : yC F x2 x3 x6 x7 = some r) :
    PureM Tryz.prog 137 [.pointer (some ⟨g1, 0, none⟩), .int .u64 x6, .int .i64 x7] [⟨g1, 161, [.int .i64 x2, .slice a4 x3.length c5]⟩] [Ro (eI .u8) 5 1 (.slice a4 x3.length c5) x3] [] (Option Addr × Nat) (fun _ => .tuple #[]) (fun g => [⟨g1, 161, [.int .i64 r.1, .slice g.1 r.2.length g.2]⟩]) (fun g => [Ro (eI .u8) 5 1 (.slice g.1 r.2.length g.2) r.2]) := by
 refine zp Tryz.func137 rfl Tryz.ntmps137 rfl hm (fun w => ?_)
 refine au [25,12,2,4,3,24,15,5,0,1,15] ?_
 refine qk (fun (((x18, x19, x22), (a20, c21)) : ((Int × Int × List Int) × (Option Addr × Nat))) => ([(0, .pointer (some ⟨g1, 0, none⟩)), (1, .int .u64 x6), (6, .int .i64 x18)], [⟨g1, 161, [.int .i64 x19, .slice a20 x22.length c21]⟩], [Ro (eI .u8) 5 1 (.slice a20 x22.length c21) x22], [])) (fun k (s : ((Int × Int × List Int) × (Option Addr × Nat))) => zw F x6 k s.1) ((isub .i64 x7 1, x2, x3), (a4, c5)) F ?_
 intro k33
 rintro ⟨⟨x18, x19, x22⟩, ⟨a20, c21⟩⟩
 try dsimp only
 refine qz (m' := zv F x6 (zw F x6 k33) x18 x19 x22) rfl ?_
 refine av [2,2,4,3,26,0,0,1,9] ?_ ?_
 intro _
 refine au [12,1,2,15,4,3,3,3,26,9] ?_
 intro h39
 refine qho rfl rfl rfl rfl h39 ?_
 refine au [28,1,31,10] ?_
 rintro x40 e40 ⟨a41, c42⟩
 refine au [0,24,4,1,4,3,24,15,5,0] ?_
 exact qi ((isub .i64 x18 1, x40.1, x40.2), (a41, c42))
 intro _
 refine au [24,8,18,18,24,9] ?_
 exact zl (a20, c21)
theorem qiT {F : Nat} {x1 : Int} {x2 : List Int} {a3 : Option Addr} {c4 : Nat} {x5 : Int} {x6 : Int} {r : (Int × List Int)} (hm : ji F x1 x2 x5 x6 = some r) :
    Pure Tryz.prog 115 [.agg #[.int .i64 x1, .slice a3 x2.length c4], .int .u64 x5, .int .i64 x6] [Sl (eI .u8) 1 (.slice a3 x2.length c4) x2] (Option Addr × Nat) (fun g => .agg #[.int .i64 r.1, .slice g.1 r.2.length g.2]) (fun g => [Ro (eI .u8) 5 1 (.slice g.1 r.2.length g.2) r.2]) (fun _ => []) := by
 refine qh Tryz.func115 rfl Tryz.ntmps115 rfl hm (fun w => ?_)
 refine au [25,12,2,4,24,5] ?_
 intro g7
 refine au [24,6] ?_
 intro g8
 refine au [0,1,2,4,25,8,31,9] ?_
 rintro x9 e9 ⟨⟨a10, c11⟩, g12⟩
 refine au [5,0,1,2,4,3,3,3] ?_
 refine qT qcj ?_
 rintro x13 e13 ⟨a14, c15⟩
 refine au [0,1,2,4,3,24,7,13,25,0,25,6,0,1,8] ?_
 exact qy (a14, c15) (resL (rs := [.cell 6 65]) rfl (.cell (i := 1) rfl tf65 rfl rfl (by simp) rfl ResOk.nil) rfl) (fun h => by subst h; exact (.cons 0 rfl .nil))
theorem qhR {F : Nat} {x1 : Int} {r : (Int × List Int)} (hm : qaR F x1 = some r) :
    Pure Tryz.prog 116 [.int .u64 x1] [] (Option Addr × Nat) (fun g => .agg #[.int .i64 r.1, .slice g.1 r.2.length g.2]) (fun g => [Ro (eI .u8) 5 1 (.slice g.1 r.2.length g.2) r.2]) (fun _ => []) := by
 refine qh Tryz.func116 rfl Tryz.ntmps116 rfl hm (fun w => ?_)
 refine au [25,5,2,4,24,6] ?_
 intro g2
 refine au [0,1,2,4,3,24,14,3,16,29,5] ?_
 refine qnq (qr .u8) rfl UnF.u inferInstance rfl rfl rfl rfl rfl rfl rfl ?_
 intro x3 e3 a4 c5
 refine qj (cells := [.int .i64 (iconv .i64 x1), .slice a4 x3.length c5]) rfl st65 rfl (by kernel_rfl) rfl ?_
 refine au [28,9] ?_
 rintro x6 e6 ⟨a7, c8⟩
 refine au [24,0,0,1,8] ?_
 exact qy (a7, c8) (resL (rs := [.cell 2 65]) rfl (.cell (i := 0) rfl tf65 rfl rfl (by simp) rfl ResOk.nil) rfl) (fun h => by subst h; exact (.cons 0 rfl .nil))
theorem qhC {F : Nat} {x1 : Int} {x2 : Int} {r : Int} (hm : qbo F x1 x2 = some r) :
    Pure Tryz.prog 117 [.int .u64 x1, .int .i64 x2] [] Unit (fun _ => .int .u64 r) (fun _ => []) (fun _ => []) := by
 refine qh Tryz.func117 rfl Tryz.ntmps117 rfl hm (fun w => ?_)
 refine au [24,12,2,4,5,0,1,2,4,3,3,26,9] ?_
 intro h3
 refine qdP rfl rfl rfl rfl h3 ?_
 refine au [24,15,28,1,5,26,6] ?_
 intro x4 e4
 refine qd (d := 4) (v := .int .u64 x4) rfl (by rw [e4] <;> rfl) ?_
 exact az [0,1,8,17]
theorem qdW {F : Nat} {x1 : Int} {r : (Int × List Int)} (hm : yT F x1 = some r) :
    Pure Tryz.prog 101 [.int .u64 x1] [] (Option Addr × Nat) (fun g => .agg #[.int .i64 r.1, .slice g.1 r.2.length g.2]) (fun g => [Ro (eI .u8) 5 1 (.slice g.1 r.2.length g.2) r.2]) (fun _ => []) := by
 refine qh Tryz.func101 rfl Tryz.ntmps101 rfl hm (fun w => ?_)
 refine au [25,5,2,4,24,6] ?_
 intro g2
 refine au [0,1,2,4,3] ?_
 refine qg qgs ?_
 intro x3 e3 _
 refine au [5,0,1,2,4,3,24,14,31,11] ?_
 rintro x4 e4 ⟨a5, c6⟩
 refine au [3,16,3] ?_
 refine qg qhC ?_
 intro x7 e7 _
 refine au [3,28,9] ?_
 rintro x8 e8 ⟨a9, c10⟩
 refine au [24,0,0,1,8] ?_
 exact qy (a9, c10) (resL (rs := [.cell 2 65]) rfl (.cell (i := 0) rfl tf65 rfl rfl (by simp) rfl ResOk.nil) rfl) (fun h => by subst h; exact (.cons 0 rfl .nil))
set_option maxHeartbeats 4000000 in
theorem qgt {F : Nat} {x1 : List Int} {a2 : Option Addr} {c3 : Nat} {r : Int} (hm : yE F x1 = some r) :
    Pure Tryz.prog 110 [.slice a2 x1.length c3] [Sl (eI .i64) 1 (.slice a2 x1.length c3) x1] Unit (fun _ => .int .i64 r) (fun _ => []) (fun _ => []) := by
 refine qh Tryz.func110 rfl Tryz.ntmps110 rfl hm (fun w => ?_)
 refine av [25,5,2,4,5,0,1,2,2,4,3,23,24,13,0,1,9] ?_ ?_
 intro _
 exact az [2,4,5,0,1,8,11,17]
 intro _
 refine au [12,1,2,4,5,0,1] ?_
 refine qe (fun ((_, _) : (Unit × Unit)) => ([], [], [], [], qcf F)) ?_ ?_
 refine au [2,4,3,23,3,0,1,15] ?_
 refine qk (fun (((x88, x89), _) : ((Int × Int) × Unit)) => ([(3, .int .i64 x88), (9, .slice a2 x1.length c3), (10, .int .i64 (x1.length : Int)), (11, .int .i64 x89)], [], [], [Sl (eI .i64) 1 (.slice a2 x1.length c3) x1])) (fun k (s : ((Int × Int) × Unit)) => yq F x1 k s.1) ((-1, 0), ()) F ?_
 intro k110
 rintro ⟨⟨x88, x89⟩, _⟩
 try dsimp only
 refine qz (m' := jM F x1 (yq F x1 k110) x88 x89) rfl ?_
 refine av [2,4,24,2,0,1,2,9] ?_ ?_
 intro _
 refine au [12,1,2,15,2,4,26,12] ?_
 intro x121 e121 b122 o123
 refine au [25,9,5,0,1,2,15,2,4,3,29,2] ?_
 intro x127 e127 _
 refine av [25,1,5,0,1,9] ?_ ?_
 intro _
 exact az [2,4,5,0,1,8,22,11,22,11,11,22,11,17]
 intro _
 refine av [2,4,3,3,27,4,5,0,1,9] ?_ ?_
 intro _
 exact az [2,4,5,0,1,8,22,11,22,11,11,22,11,17]
 intro _
 refine au [12,24,4,1,4,3,5,0,24,4,1,4,16,3,0] ?_
 exact qi ((x121, iadd .i64 x89 1), ())
 intro _
 exact az [24,8,18,18,24,9,25,13]
 rintro ⟨_, _⟩
 try dsimp only
 exact az [2,4,5,0,1,8,17]
theorem qfz {F : Nat} {x1 : Int} {r : Int} (hm : jJ F x1 = some r) :
    Pure Tryz.prog 59 [.int .i64 x1] [] Unit (fun _ => .int .u64 r) (fun _ => []) (fun _ => []) := by
 refine qh Tryz.func59 rfl Tryz.ntmps59 rfl hm (fun w => ?_)
 refine au [25,5,2,4,5,0,1,2,4,3,24,14,31,12,3,27,5,24,14,30,10,5,26,6] ?_
 intro x2 e2
 refine qd (d := 2) (v := .int .u64 x2) rfl (by rw [e2] <;> rfl) ?_
 exact az [0,1,8,17]
theorem qdo {F : Nat} {g1 : Nat} {x2 : Int} {x3 : Bool} {x4 : Int} {r : (Int × Int × Bool)} (hm : vO F x2 x3 x4 = some r) :
    PureM Tryz.prog 45 [.pointer (some ⟨g1, 0, none⟩), .int .i64 x4] [⟨g1, 101, [.int .i64 x2, .bool x3]⟩] [] [] Unit (fun _ => .int .u64 r.1) (fun _ => [⟨g1, 101, [.int .i64 r.2.1, .bool r.2.2]⟩]) (fun _ => []) := by
 refine zp Tryz.func45 rfl Tryz.ntmps45 rfl hm (fun w => ?_)
 refine au [24,12,2,4,5,0,1] ?_
 refine qe (fun ((x8, _) : (Int × Unit)) => ([(0, .pointer (some ⟨g1, 0, none⟩)), (1, .int .i64 x4), (4, .int .u64 x8)], [⟨g1, 101, [.int .i64 x2, .bool x3]⟩], [], [], jl F x4 x8)) ?_ ?_
 refine av [2,4,3,24,7,13,21,0,1,9] ?_ ?_
 intro _
 refine au [4,3,3,24,7,13,21,24,15,24,15,24,14,5,26,6] ?_
 intro x9 e9
 refine qd (d := 4) (v := .int .u64 x9) rfl (by rw [e9] <;> rfl) ?_
 refine au [0] ?_
 exact qa (x9, ())
 intro _
 refine au [4,3,3,24,7,13,21,24,15,31,13] ?_
 intro x10 e10 _
 refine au [5,0] ?_
 exact qa (x10, ())
 rintro ⟨x8, _⟩
 try dsimp only
 exact az [2,4,3,3,3,24,7,13,24,0,24,7,13,24,0,0,1,2,4,3,5,0,1,8,28,2]
set_option maxHeartbeats 4000000 in
theorem qiW {F : Nat} {x1 : List Int} {a2 : Option Addr} {c3 : Nat} {x4 : Int} {r : List Int} (hm : qas F x1 x4 = some r) :
    Pure Tryz.prog 34 [.slice a2 x1.length c3, .int .i64 x4] [Sl (eI .i64) 1 (.slice a2 x1.length c3) x1] (Option Addr × Nat) (fun g => .slice g.1 r.length g.2) (fun g => [Ro (eI .u64) 58 1 (.slice g.1 r.length g.2) r]) (fun _ => []) := by
 refine qh Tryz.func34 rfl Tryz.ntmps34 rfl hm (fun w => ?_)
 refine au [24,12,2,4,5,0,1,2,4,3] ?_
 refine qj (cells := [.int .i64 x4, .bool false]) rfl st101 rfl (by kernel_rfl) rfl ?_
 refine au [24,5] ?_
 intro g5
 refine au [5,0,1,2,4,5,0,1] ?_
 refine qe (fun ((x75, (a73, c74)) : (List Int × (Option Addr × Nat))) => ([(6, .slice a73 x75.length c74)], [], [Ro (eI .u64) 58 1 (.slice a73 x75.length c74) x75], [], qbF F x75)) ?_ ?_
 refine au [2,4,3,23,3,0,1,15,30,14] ?_
 refine qk (fun (((x98, x99, x100, x101), (a96, c97)) : ((List Int × Int × Int × Bool) × (Option Addr × Nat))) => ([(5, .pointer (some ⟨g5, 0, none⟩)), (6, .slice a96 x98.length c97), (12, .slice a2 x1.length c3), (13, .int .i64 (x1.length : Int)), (14, .int .i64 x99)], [⟨g5, 101, [.int .i64 x100, .bool x101]⟩], [Ro (eI .u64) 58 1 (.slice a96 x98.length c97) x98], [Sl (eI .i64) 1 (.slice a2 x1.length c3) x1])) (fun k (s : ((List Int × Int × Int × Bool) × (Option Addr × Nat))) => vI F x1 k s.1) ((([] : List Int), 0, x4, false), (none, 0)) F ?_
 intro k122
 rintro ⟨⟨x98, x99, x100, x101⟩, ⟨a96, c97⟩⟩
 try dsimp only
 refine qz (m' := qaF F x1 (vI F x1 k122) x98 x99 x100 x101) rfl ?_
 refine av [2,4,24,2,0,1,2,9] ?_ ?_
 intro _
 refine au [12,1,2,15,2,4,26,12] ?_
 intro x133 e133 b134 o135
 refine au [25,9,5,0,1,4,3,3,3] ?_
 refine qT qdo ?_
 intro x136 e136 _
 refine qu (vs := [.int .u64 x136.1]) (ys := ([x136.1] : List Int)) (qr .u64) (by decide) rfl Tryz.underlying60 tf58 rfl rfl rfl rfl rfl (by decide) (fun a137 c138 => zW 1 (qr .u64) rfl Tryz.underlying60 tf58 rfl rfl rfl rfl rfl (.inl ⟨0, _, rfl⟩) rfl rfl (fun x139 e139 a140 c141 => ?_))
 refine au [5,0,24,4,1,4,16,3,0] ?_
 exact qi ((x139, iadd .i64 x99 1, x136.2.1, x136.2.2), (a140, c141))
 intro _
 refine au [24,8,18,18,24,9] ?_
 exact qa (x98, (a96, c97))
 rintro ⟨x75, ⟨a73, c74⟩⟩
 try dsimp only
 refine au [2,4,3,5,0,1,8] ?_
 exact qn (a73, c74)
set_option maxHeartbeats 4000000 in
theorem qds {F : Nat} {g1 : Nat} {x2 : Int} {x3 : List Int} {a4 : Option Addr} {c5 : Nat} {x6 : Bool} {x7 : Int} {x8 : List Int} {a9 : Option Addr} {c10 : Nat} {r : (Int × List Int × Bool)} (hm : kO F x2 x3 x6 x7 x8 = some r) :
    PureM Tryz.prog 135 [.pointer (some ⟨g1, 0, none⟩), .agg #[.int .i64 x7, .slice a9 x8.length c10]] [⟨g1, 183, [.int .i64 x2, .slice a4 x3.length c5, .bool x6]⟩] [Ro (eI .u8) 5 1 (.slice a4 x3.length c5) x3] [Sl (eI .u8) 1 (.slice a9 x8.length c10) x8] (Option Addr × Nat) (fun _ => .tuple #[]) (fun g => [⟨g1, 183, [.int .i64 r.1, .slice g.1 r.2.1.length g.2, .bool r.2.2]⟩]) (fun g => [Ro (eI .u8) 5 1 (.slice g.1 r.2.1.length g.2) r.2.1]) := by
 refine zp Tryz.func135 rfl Tryz.ntmps135 rfl hm (fun w => ?_)
 refine au [24,12,2,4,24,5] ?_
 intro g11
 refine au [0,1] ?_
 refine qe (fun ((x13, _) : (Bool × Unit)) => ([(0, .pointer (some ⟨g1, 0, none⟩)), (3, .pointer (some ⟨g11, 0, none⟩))], [⟨g11, 65, [.int .i64 x7, .slice a9 x8.length c10]⟩, ⟨g1, 183, [.int .i64 x2, .slice a4 x3.length c5, .bool x13]⟩], [Ro (eI .u8) 5 1 (.slice a4 x3.length c5) x3], [Sl (eI .u8) 1 (.slice a9 x8.length c10) x8], kJ F x2 x3 x7 x8 x13)) ?_ ?_
 refine av [26,13] ?_ ?_
 intro h18
 refine qq mixed [18] [⟨g11, 65, [.int .i64 x7, .slice a9 x8.length c10]⟩] [Sl (eI .u8) 1 (.slice a9 x8.length c10) x8, (BlkD.is ⟨g1, 183, [.int .i64 x2, .slice a4 x3.length c5, .bool x6]⟩)] (.cons 0 rfl .nil) (qF 0 rfl (qey 1 rfl qm)) 19 rfl ?_
 refine au [6,0,6,1,6,2,19,3] ?_
 refine zr 4 (.bool x6) [[18]] rfl rfl rfl (vG (j := 1) rfl tf4 rfl rfl (fun _ => rfl) rfl) ?_
 refine au [6,5] ?_
 refine qf (d := 9) (v := .bool true) rfl (by rw [h18] <;> rfl) ?_
 refine au [7,6,7,7,7,8,7,9,7,10,7,11,7,12,7,13,7,14,6,15,6,16,19,17,20,18,25,6,0,31,14,24,1] ?_
 exact qt (qa (true, ())) (by intro c h; cases h)
 intro h18
 refine qq mixed [18] [⟨g11, 65, [.int .i64 x7, .slice a9 x8.length c10]⟩] [Sl (eI .u8) 1 (.slice a9 x8.length c10) x8, (BlkD.is ⟨g1, 183, [.int .i64 x2, .slice a4 x3.length c5, .bool x6]⟩)] (.cons 0 rfl .nil) (qF 0 rfl (qey 1 rfl qm)) 19 rfl ?_
 refine au [6,0,6,1,6,2,19,3] ?_
 refine zr 4 (.bool x6) [[18]] rfl rfl rfl (vG (j := 1) rfl tf4 rfl rfl (fun _ => rfl) rfl) ?_
 refine au [6,5] ?_
 refine qf (d := 9) (v := .bool false) rfl (by rw [h18] <;> rfl) ?_
 refine au [6,6,6,7,19,8,19,9] ?_
 refine zr 10 (.int .i64 x2) [[18]] rfl rfl rfl (vG (j := 1) rfl tf3 rfl rfl (fun _ => rfl) rfl) ?_
 refine au [19,11,25,7,12,6,13,6,14,6,15,6,16,19,17,20,18,25,6,0,31,14,24,1] ?_
 exact qt (qa ((decide (8192 < (iadd .i64 x2 x7))), ())) (by intro c h; cases h)
 rintro ⟨x13, _⟩
 try dsimp only
 refine av [2,4,3,24,7,13,25,11,25,1,0,1,9] ?_ ?_
 intro _
 refine qq mixed [9] [⟨g11, 65, [.int .i64 x7, .slice a9 x8.length c10]⟩] [Sl (eI .u8) 1 (.slice a9 x8.length c10) x8, (BlkD.is ⟨g1, 183, [.int .i64 x2, .slice a4 x3.length c5, .bool x13]⟩)] (.cons 0 rfl .nil) (qF 0 rfl (qey 1 rfl qm)) 10 rfl ?_
 refine au [6,0,6,1,6,2,19,3] ?_
 refine zr 4 (.agg #[.int .i64 x2, .slice a4 x3.length c5]) [[9]] rfl rfl rfl (vG (j := 1) rfl tf65 rfl rfl (by simp) rfl) (zG 5 (.agg #[.int .i64 x7, .slice a9 x8.length c10]) rfl rfl rfl (qZ (i := 0) rfl tf65 rfl rfl (by simp) rfl) ?_)
 refine au [20,6,28,10] ?_
 rintro x14 e14 ⟨a15, c16⟩
 refine au [0] ?_
 refine zT (.cons 0 rfl .nil) (qF 0 rfl (qey 1 rfl qm)) ?_
 refine au [6,7,19,8,20,9,25,6,0] ?_
 refine qaS 9 rfl (by kernel_rfl) (.cons 0 rfl .nil) ?_
 refine au [24,1] ?_
 exact qt (zl (a15, c16)) (by intro c h; cases h)
 intro _
 refine au [12] ?_
 exact zl (a4, c5)
end Go.Proofs.YtlioijpkhffbnaaGreat
