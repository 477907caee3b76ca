/- Each Go function of this seat computes what its model says. -/
import Derived.Test.YtmoikolponkmpaaGreatRows
import Derived.Test.YtmoikolponkmpaaGreatModels
import Derived.Test.YtmoikolponkmpaaGreatShelf
namespace Go.Proofs.YtmoikolponkmpaaGreat
open Go SX
def eN22 (p : List Int × (Option Addr × Nat)) : List Value := [.slice p.2.1 p.1.length p.2.2]
def iN22 (p : List Int × (Option Addr × Nat)) : List (World → Prop) := [Sl (eI .i64) 1 (.slice p.2.1 p.1.length p.2.2) p.1]
theorem qfj : EncOk eN22 1 := ⟨fun _ => rfl, fun _ => rfl⟩
def rN22 (p : List Int × (Option Addr × Nat)) : List RowF := [FoR (eI .i64) 3 1 (.slice p.2.1 p.1.length p.2.2) p.1]
theorem qre : ∀ p, iN22 p = (rN22 p).map RowF.cells := fun _ => rfl
theorem qq8 : ∀ f ∈ rN22 (([] : List Int), ((none, 0) : Option Addr × Nat)), f.v = .slice none 0 0 ∧ f.n = 0 ∧ f.cs = [] := by simp [rN22, FoR]
def eN25 (p : (Int × List Int) × (Option Addr × Nat)) : List Value := [.int .i64 p.1.1, .slice p.2.1 p.1.2.length p.2.2]
def iN25 (p : (Int × List Int) × (Option Addr × Nat)) : List (World → Prop) := [Sl (eI .u8) 1 (.slice p.2.1 p.1.2.length p.2.2) p.1.2]
theorem kR : EncOk eN25 2 := ⟨fun _ => rfl, fun _ => rfl⟩
def rN25 (p : (Int × List Int) × (Option Addr × Nat)) : List RowF := [FoR (eI .u8) 5 1 (.slice p.2.1 p.1.2.length p.2.2) p.1.2]
theorem qrf : ∀ p, iN25 p = (rN25 p).map RowF.cells := fun _ => rfl
theorem qnL : ∀ f ∈ rN25 (((0 : Int), ([] : List Int)), ((none, 0) : Option Addr × Nat)), f.v = .slice none 0 0 ∧ f.n = 0 ∧ f.cs = [] := by simp [rN25, FoR]
def eN33 (p : List Int × (Option Addr × Nat)) : List Value := [.slice p.2.1 p.1.length p.2.2]
def iN33 (p : List Int × (Option Addr × Nat)) : List (World → Prop) := [Sl (eI .u64) 1 (.slice p.2.1 p.1.length p.2.2) p.1]
theorem qlw : EncOk eN33 1 := ⟨fun _ => rfl, fun _ => rfl⟩
def rN33 (p : List Int × (Option Addr × Nat)) : List RowF := [FoR (eI .u64) 80 1 (.slice p.2.1 p.1.length p.2.2) p.1]
theorem qrg : ∀ p, iN33 p = (rN33 p).map RowF.cells := fun _ => rfl
theorem qq9 : ∀ f ∈ rN33 (([] : List Int), ((none, 0) : Option Addr × Nat)), f.v = .slice none 0 0 ∧ f.n = 0 ∧ f.cs = [] := by simp [rN33, FoR]
def eN193 (p : (List Int × Int) × (Option Addr × Nat)) : List Value := [.slice p.2.1 p.1.1.length p.2.2, .int .i64 p.1.2]
def iN193 (p : (List Int × Int) × (Option Addr × Nat)) : List (World → Prop) := [Sl (eI .i64) 1 (.slice p.2.1 p.1.1.length p.2.2) p.1.1]
theorem ju : EncOk eN193 2 := ⟨fun _ => rfl, fun _ => rfl⟩
def rN193 (p : (List Int × Int) × (Option Addr × Nat)) : List RowF := [FoR (eI .i64) 3 1 (.slice p.2.1 p.1.1.length p.2.2) p.1.1]
theorem qq7 : ∀ p, iN193 p = (rN193 p).map RowF.cells := fun _ => rfl
theorem qqW : ∀ f ∈ rN193 ((([] : List Int), (0 : Int)), ((none, 0) : Option Addr × Nat)), f.v = .slice none 0 0 ∧ f.n = 0 ∧ f.cs = [] := by simp [rN193, FoR]
instance tf3 : TyF Tryz.prog 3 false (.int .i64 0) 1 8 := .of (by kernel_rfl) (by kernel_rfl)
instance tf4 : TyF Tryz.prog 4 false (.bool false) 1 1 := .of (by kernel_rfl) (by kernel_rfl)
instance tf5 : TyF Tryz.prog 5 false (.int .u8 0) 1 1 := .of (by kernel_rfl) (by kernel_rfl)
instance tf22 : TyF Tryz.prog 22 false (.slice none 0 0) 1 24 := .of (by kernel_rfl) (by kernel_rfl)
instance tf23 : TyF Tryz.prog 23 false (.slice none 0 0) 1 24 := .of (by kernel_rfl) (by kernel_rfl)
instance tf25 : TyF Tryz.prog 25 true (.agg #[.int .i64 0, .slice none 0 0]) 2 32 := .of (by kernel_rfl) (by kernel_rfl)
instance tf33 : TyF Tryz.prog 33 false (.slice none 0 0) 1 24 := .of (by kernel_rfl) (by kernel_rfl)
instance tf34 : TyF Tryz.prog 34 false (.int .i64 0) 1 8 := .of (by kernel_rfl) (by kernel_rfl)
instance tf80 : TyF Tryz.prog 80 false (.int .u64 0) 1 8 := .of (by kernel_rfl) (by kernel_rfl)
instance tf170 : TyF Tryz.prog 170 false (.pointer none) 1 8 := .of (by kernel_rfl) (by kernel_rfl)
instance tf180 : TyF Tryz.prog 180 true (.agg #[.int .u64 0, .int .u64 0, .int .u64 0, .int .u64 0, .int .u64 0, .int .u64 0, .int .u64 0, .int .u64 0, .int .u64 0, .int .u64 0, .int .u64 0, .int .u64 0, .int .u64 0, .int .u64 0, .int .u64 0, .int .u64 0, .int .u64 0, .int .u64 0, .int .u64 0, .int .u64 0, .int .u64 0, .int .u64 0, .int .u64 0, .int .u64 0, .int .u64 0, .int .u64 0, .int .u64 0, .int .u64 0, .int .u64 0, .int .u64 0, .int .u64 0, .int .u64 0, .int .u64 0, .int .u64 0, .int .u64 0, .int .u64 0, .int .u64 0, .int .u64 0, .int .u64 0, .int .u64 0, .int .u64 0, .int .u64 0, .int .u64 0, .int .u64 0, .int .u64 0, .int .u64 0, .int .u64 0, .int .u64 0, .int .u64 0, .int .u64 0, .int .u64 0, .int .u64 0, .int .u64 0, .int .u64 0, .int .u64 0, .int .u64 0, .int .u64 0, .int .u64 0, .int .u64 0, .int .u64 0, .int .u64 0, .int .u64 0, .int .u64 0, .int .u64 0]) 64 512 := .of (by kernel_rfl) (by kernel_rfl)
instance tf190 : TyF Tryz.prog 190 false (.slice none 0 0) 1 24 := .of (by kernel_rfl) (by kernel_rfl)
instance tf193 : TyF Tryz.prog 193 true (.agg #[.slice none 0 0, .int .i64 0]) 2 32 := .of (by kernel_rfl) (by kernel_rfl)
instance ff25_0 : FdF Tryz.prog 25 0 0 := .of (by kernel_rfl)
instance ff25_1 : FdF Tryz.prog 25 1 1 := .of (by kernel_rfl)
instance ff172_0 : FdF Tryz.prog 172 0 0 := .of (by kernel_rfl)
instance ff193_0 : FdF Tryz.prog 193 0 0 := .of (by kernel_rfl)
instance ff193_1 : FdF Tryz.prog 193 1 1 := .of (by kernel_rfl)
instance st25 : StF Tryz.prog 25 [(0, 1), (1, 1)] (.agg #[.int .i64 0, .slice none 0 0]) := .of (by kernel_rfl) (by kernel_rfl)
instance st172 : StF Tryz.prog 172 [(0, 2)] (.agg #[.int .i64 0, .slice none 0 0]) := .of (by kernel_rfl) (by kernel_rfl)
instance st193 : StF Tryz.prog 193 [(0, 1), (1, 1)] (.agg #[.slice none 0 0, .int .i64 0]) := .of (by kernel_rfl) (by kernel_rfl)
theorem mixed : Tryz.prog.follows .mixedOrders = true := by kernel_rfl
instance en5 : EnC Tryz.prog 5 := ⟨qd Tryz.func5 rfl rfl⟩
instance en6 : EnC Tryz.prog 6 := ⟨qd Tryz.func6 rfl rfl⟩
instance en33 : EnC Tryz.prog 33 := ⟨qd Tryz.func33 rfl rfl⟩
instance en35 : EnC Tryz.prog 35 := ⟨qd Tryz.func35 rfl rfl⟩
instance en36 : EnC Tryz.prog 36 := ⟨qd Tryz.func36 rfl rfl⟩
instance en37 : EnC Tryz.prog 37 := ⟨qd Tryz.func37 rfl rfl⟩
theorem ent38 : Enters Tryz.prog 38 := qd Tryz.func38 rfl rfl
instance en38 : EnC Tryz.prog 38 := ⟨ent38⟩
theorem ent39 : Enters Tryz.prog 39 := qd Tryz.func39 rfl rfl
instance en39 : EnC Tryz.prog 39 := ⟨ent39⟩
theorem ent40 : Enters Tryz.prog 40 := qd Tryz.func40 rfl rfl
instance en40 : EnC Tryz.prog 40 := ⟨ent40⟩
theorem ent41 : Enters Tryz.prog 41 := qd Tryz.func41 rfl rfl
instance en41 : EnC Tryz.prog 41 := ⟨ent41⟩
instance en42 : EnC Tryz.prog 42 := ⟨qd Tryz.func42 rfl rfl⟩
instance en43 : EnC Tryz.prog 43 := ⟨qd Tryz.func43 rfl rfl⟩
instance en44 : EnC Tryz.prog 44 := ⟨qd Tryz.func44 rfl rfl⟩
instance en45 : EnC Tryz.prog 45 := ⟨qd Tryz.func45 rfl rfl⟩
theorem ent46 : Enters Tryz.prog 46 := qd Tryz.func46 rfl rfl
instance en46 : EnC Tryz.prog 46 := ⟨ent46⟩
theorem ent47 : Enters Tryz.prog 47 := qd Tryz.func47 rfl rfl
instance en47 : EnC Tryz.prog 47 := ⟨ent47⟩
theorem ent48 : Enters Tryz.prog 48 := qd Tryz.func48 rfl rfl
instance en48 : EnC Tryz.prog 48 := ⟨ent48⟩
theorem ent49 : Enters Tryz.prog 49 := qd Tryz.func49 rfl rfl
instance en49 : EnC Tryz.prog 49 := ⟨ent49⟩
theorem ent50 : Enters Tryz.prog 50 := qd Tryz.func50 rfl rfl
instance en50 : EnC Tryz.prog 50 := ⟨ent50⟩
instance en51 : EnC Tryz.prog 51 := ⟨qd Tryz.func51 rfl rfl⟩
theorem ent52 : Enters Tryz.prog 52 := qd Tryz.func52 rfl rfl
instance en52 : EnC Tryz.prog 52 := ⟨ent52⟩
theorem ent53 : Enters Tryz.prog 53 := qd Tryz.func53 rfl rfl
instance en53 : EnC Tryz.prog 53 := ⟨ent53⟩
theorem ent54 : Enters Tryz.prog 54 := qd Tryz.func54 rfl rfl
instance en54 : EnC Tryz.prog 54 := ⟨ent54⟩
instance en55 : EnC Tryz.prog 55 := ⟨qd Tryz.func55 rfl rfl⟩
instance en56 : EnC Tryz.prog 56 := ⟨qd Tryz.func56 rfl rfl⟩
instance en57 : EnC Tryz.prog 57 := ⟨qd Tryz.func57 rfl rfl⟩
instance en58 : EnC Tryz.prog 58 := ⟨qd Tryz.func58 rfl rfl⟩
instance en59 : EnC Tryz.prog 59 := ⟨qd Tryz.func59 rfl rfl⟩
instance en60 : EnC Tryz.prog 60 := ⟨qd Tryz.func60 rfl rfl⟩
instance en61 : EnC Tryz.prog 61 := ⟨qd Tryz.func61 rfl rfl⟩
instance en62 : EnC Tryz.prog 62 := ⟨qd Tryz.func62 rfl rfl⟩
instance en63 : EnC Tryz.prog 63 := ⟨qd Tryz.func63 rfl rfl⟩
theorem ent64 : Enters Tryz.prog 64 := qd Tryz.func64 rfl rfl
instance en64 : EnC Tryz.prog 64 := ⟨ent64⟩
theorem ent72 : Enters Tryz.prog 72 := qd Tryz.func72 rfl rfl
instance en72 : EnC Tryz.prog 72 := ⟨ent72⟩
theorem ent73 : Enters Tryz.prog 73 := qd Tryz.func73 rfl rfl
instance en73 : EnC Tryz.prog 73 := ⟨ent73⟩
instance en82 : EnC Tryz.prog 82 := ⟨qd Tryz.func82 rfl rfl⟩
instance en97 : EnC Tryz.prog 97 := ⟨qd Tryz.func97 rfl rfl⟩
instance en110 : EnC Tryz.prog 110 := ⟨qd Tryz.func110 rfl rfl⟩
instance en111 : EnC Tryz.prog 111 := ⟨qd Tryz.func111 rfl rfl⟩
instance en112 : EnC Tryz.prog 112 := ⟨qd Tryz.func112 rfl rfl⟩
instance en113 : EnC Tryz.prog 113 := ⟨qd Tryz.func113 rfl rfl⟩
instance en114 : EnC Tryz.prog 114 := ⟨qd Tryz.func114 rfl rfl⟩
instance en115 : EnC Tryz.prog 115 := ⟨qd Tryz.func115 rfl rfl⟩
instance en116 : EnC Tryz.prog 116 := ⟨qd Tryz.func116 rfl rfl⟩
theorem ent117 : Enters Tryz.prog 117 := qd Tryz.func117 rfl rfl
instance en117 : EnC Tryz.prog 117 := ⟨ent117⟩
instance en118 : EnC Tryz.prog 118 := ⟨qd Tryz.func118 rfl rfl⟩
instance en119 : EnC Tryz.prog 119 := ⟨qd Tryz.func119 rfl rfl⟩
instance en120 : EnC Tryz.prog 120 := ⟨qd Tryz.func120 rfl rfl⟩
instance en121 : EnC Tryz.prog 121 := ⟨qd Tryz.func121 rfl rfl⟩
instance en122 : EnC Tryz.prog 122 := ⟨qd Tryz.func122 rfl rfl⟩
instance en123 : EnC Tryz.prog 123 := ⟨qd Tryz.func123 rfl rfl⟩
instance en124 : EnC Tryz.prog 124 := ⟨qd Tryz.func124 rfl rfl⟩
instance en125 : EnC Tryz.prog 125 := ⟨qd Tryz.func125 rfl rfl⟩
instance en126 : EnC Tryz.prog 126 := ⟨qd Tryz.func126 rfl rfl⟩
instance en127 : EnC Tryz.prog 127 := ⟨qd Tryz.func127 rfl rfl⟩
instance en128 : EnC Tryz.prog 128 := ⟨qd Tryz.func128 rfl rfl⟩
instance en129 : EnC Tryz.prog 129 := ⟨qd Tryz.func129 rfl rfl⟩
theorem ent130 : Enters Tryz.prog 130 := qd Tryz.func130 rfl rfl
instance en130 : EnC Tryz.prog 130 := ⟨ent130⟩
theorem ent131 : Enters Tryz.prog 131 := qd Tryz.func131 rfl rfl
instance en131 : EnC Tryz.prog 131 := ⟨ent131⟩
theorem ent132 : Enters Tryz.prog 132 := qd Tryz.func132 rfl rfl
instance en132 : EnC Tryz.prog 132 := ⟨ent132⟩
theorem ent133 : Enters Tryz.prog 133 := qd Tryz.func133 rfl rfl
instance en133 : EnC Tryz.prog 133 := ⟨ent133⟩
theorem ent134 : Enters Tryz.prog 134 := qd Tryz.func134 rfl rfl
instance en134 : EnC Tryz.prog 134 := ⟨ent134⟩
instance en135 : EnC Tryz.prog 135 := ⟨qd Tryz.func135 rfl rfl⟩
instance en136 : EnC Tryz.prog 136 := ⟨qd Tryz.func136 rfl rfl⟩
instance en137 : EnC Tryz.prog 137 := ⟨qd Tryz.func137 rfl rfl⟩
instance en138 : EnC Tryz.prog 138 := ⟨qd Tryz.func138 rfl rfl⟩
instance en139 : EnC Tryz.prog 139 := ⟨qd Tryz.func139 rfl rfl⟩
instance en140 : EnC Tryz.prog 140 := ⟨qd Tryz.func140 rfl rfl⟩
instance en141 : EnC Tryz.prog 141 := ⟨qd Tryz.func141 rfl rfl⟩
instance en142 : EnC Tryz.prog 142 := ⟨qd Tryz.func142 rfl rfl⟩
instance en143 : EnC Tryz.prog 143 := ⟨qd Tryz.func143 rfl rfl⟩
instance en144 : EnC Tryz.prog 144 := ⟨qd Tryz.func144 rfl rfl⟩
instance en145 : EnC Tryz.prog 145 := ⟨qd Tryz.func145 rfl rfl⟩
instance en146 : EnC Tryz.prog 146 := ⟨qd Tryz.func146 rfl rfl⟩
instance en147 : EnC Tryz.prog 147 := ⟨qd Tryz.func147 rfl rfl⟩
instance en148 : EnC Tryz.prog 148 := ⟨qd Tryz.func148 rfl rfl⟩
instance en149 : EnC Tryz.prog 149 := ⟨qd Tryz.func149 rfl rfl⟩
instance en150 : EnC Tryz.prog 150 := ⟨qd Tryz.func150 rfl rfl⟩
instance en151 : EnC Tryz.prog 151 := ⟨qd Tryz.func151 rfl rfl⟩
instance en152 : EnC Tryz.prog 152 := ⟨qd Tryz.func152 rfl rfl⟩
instance en153 : EnC Tryz.prog 153 := ⟨qd Tryz.func153 rfl rfl⟩
instance en154 : EnC Tryz.prog 154 := ⟨qd Tryz.func154 rfl rfl⟩
instance en155 : EnC Tryz.prog 155 := ⟨qd Tryz.func155 rfl rfl⟩
instance en156 : EnC Tryz.prog 156 := ⟨qd Tryz.func156 rfl rfl⟩
instance en157 : EnC Tryz.prog 157 := ⟨qd Tryz.func157 rfl rfl⟩
instance en161 : EnC Tryz.prog 161 := ⟨qd Tryz.func161 rfl rfl⟩
instance en184 : EnC Tryz.prog 184 := ⟨qd Tryz.func184 rfl rfl⟩
instance en185 : EnC Tryz.prog 185 := ⟨qd Tryz.func185 rfl rfl⟩
theorem ent186 : Enters Tryz.prog 186 := qd Tryz.func186 rfl rfl
instance en186 : EnC Tryz.prog 186 := ⟨ent186⟩
instance en187 : EnC Tryz.prog 187 := ⟨qd Tryz.func187 rfl rfl⟩
instance en188 : EnC Tryz.prog 188 := ⟨qd Tryz.func188 rfl rfl⟩
instance en189 : EnC Tryz.prog 189 := ⟨qd Tryz.func189 rfl rfl⟩
instance en190 : EnC Tryz.prog 190 := ⟨qd Tryz.func190 rfl rfl⟩
instance en191 : EnC Tryz.prog 191 := ⟨qd Tryz.func191 rfl rfl⟩
instance en192 : EnC Tryz.prog 192 := ⟨qd Tryz.func192 rfl rfl⟩
theorem ent193 : Enters Tryz.prog 193 := qd Tryz.func193 rfl rfl
instance en193 : EnC Tryz.prog 193 := ⟨ent193⟩
instance en194 : EnC Tryz.prog 194 := ⟨qd Tryz.func194 rfl rfl⟩
theorem ent195 : Enters Tryz.prog 195 := qd Tryz.func195 rfl rfl
instance en195 : EnC Tryz.prog 195 := ⟨ent195⟩
instance en196 : EnC Tryz.prog 196 := ⟨qd Tryz.func196 rfl rfl⟩
theorem ent197 : Enters Tryz.prog 197 := qd Tryz.func197 rfl rfl
instance en197 : EnC Tryz.prog 197 := ⟨ent197⟩
instance en198 : EnC Tryz.prog 198 := ⟨qd Tryz.func198 rfl rfl⟩
instance en199 : EnC Tryz.prog 199 := ⟨qd Tryz.func199 rfl rfl⟩
theorem ent200 : Enters Tryz.prog 200 := qd Tryz.func200 rfl rfl
instance en200 : EnC Tryz.prog 200 := ⟨ent200⟩
instance en201 : EnC Tryz.prog 201 := ⟨qd Tryz.func201 rfl rfl⟩
theorem ent202 : Enters Tryz.prog 202 := qd Tryz.func202 rfl rfl
instance en202 : EnC Tryz.prog 202 := ⟨ent202⟩
theorem ent203 : Enters Tryz.prog 203 := qd Tryz.func203 rfl rfl
instance en203 : EnC Tryz.prog 203 := ⟨ent203⟩
theorem ent204 : Enters Tryz.prog 204 := qd Tryz.func204 rfl rfl
instance en204 : EnC Tryz.prog 204 := ⟨ent204⟩
instance en205 : EnC Tryz.prog 205 := ⟨qd Tryz.func205 rfl rfl⟩
instance en206 : EnC Tryz.prog 206 := ⟨qd Tryz.func206 rfl rfl⟩
theorem ent207 : Enters Tryz.prog 207 := qd Tryz.func207 rfl rfl
instance en207 : EnC Tryz.prog 207 := ⟨ent207⟩
instance en208 : EnC Tryz.prog 208 := ⟨qd Tryz.func208 rfl rfl⟩
theorem ent209 : Enters Tryz.prog 209 := qd Tryz.func209 rfl rfl
instance en209 : EnC Tryz.prog 209 := ⟨ent209⟩
theorem ent210 : Enters Tryz.prog 210 := qd Tryz.func210 rfl rfl
instance en210 : EnC Tryz.prog 210 := ⟨ent210⟩
instance en211 : EnC Tryz.prog 211 := ⟨qd Tryz.func211 rfl rfl⟩
instance en212 : EnC Tryz.prog 212 := ⟨qd Tryz.func212 rfl rfl⟩
instance en213 : EnC Tryz.prog 213 := ⟨qd Tryz.func213 rfl rfl⟩
instance en214 : EnC Tryz.prog 214 := ⟨qd Tryz.func214 rfl rfl⟩
instance en215 : EnC Tryz.prog 215 := ⟨qd Tryz.func215 rfl rfl⟩
instance en216 : EnC Tryz.prog 216 := ⟨qd Tryz.func216 rfl rfl⟩
instance en228 : EnC Tryz.prog 228 := ⟨qd Tryz.func228 rfl rfl⟩
instance en235 : EnC Tryz.prog 235 := ⟨qd Tryz.func235 rfl rfl⟩
instance en236 : EnC Tryz.prog 236 := ⟨qd Tryz.func236 rfl rfl⟩
instance en238 : EnC Tryz.prog 238 := ⟨qd Tryz.func238 rfl rfl⟩
theorem ent241 : Enters Tryz.prog 241 := qd Tryz.func241 rfl rfl
instance en241 : EnC Tryz.prog 241 := ⟨ent241⟩
instance en242 : EnC Tryz.prog 242 := ⟨qd Tryz.func242 rfl rfl⟩
instance en243 : EnC Tryz.prog 243 := ⟨qd Tryz.func243 rfl rfl⟩
instance en263 : EnC Tryz.prog 263 := ⟨qd Tryz.func263 rfl rfl⟩
theorem qk0 (cb : Array Value) : qiG Tryz.prog 196 197 1 (fun l => l.getD 0 undef) cb :=
  qmy fun _ _ enc h1 cf hO blk cap d w hc hH hb hsz hT => Go.Proofs.Any.slices_SortFunc_total Tryz.sortf196 enc h1 cf hO 197 cb blk 0 cap d w ent197 hc hH hb hsz hT
instance un2 : UnF Tryz.prog 2 (.int .i64) := ⟨Tryz.underlying2⟩
instance un3 : UnF Tryz.prog 3 (.int .i64) := ⟨Tryz.underlying3⟩
instance un4 : UnF Tryz.prog 4 .bool := ⟨Tryz.underlying4⟩
instance un5 : UnF Tryz.prog 5 (.int .u8) := ⟨Tryz.underlying5⟩
instance un9 : UnF Tryz.prog 9 .string := ⟨Tryz.underlying9⟩
instance un22 : UnF Tryz.prog 22 (.slice 3) := ⟨Tryz.underlying22⟩
instance un23 : UnF Tryz.prog 23 (.slice 5) := ⟨Tryz.underlying23⟩
instance un28 : UnF Tryz.prog 28 (.slice 22) := ⟨Tryz.underlying28⟩
instance un33 : UnF Tryz.prog 33 (.slice 80) := ⟨Tryz.underlying33⟩
instance un80 : UnF Tryz.prog 80 (.int .u64) := ⟨Tryz.underlying80⟩
instance un95 : UnF Tryz.prog 95 (.slice 25) := ⟨Tryz.underlying95⟩
instance un104 : UnF Tryz.prog 104 (.slice 33) := ⟨Tryz.underlying104⟩
instance un189 : UnF Tryz.prog 189 (.slice 193) := ⟨Tryz.underlying189⟩
instance un190 : UnF Tryz.prog 190 (.slice 193) := ⟨Tryz.underlying190⟩
instance un219 : UnF Tryz.prog 219 (.int .u64) := ⟨Tryz.underlying219⟩
instance un296 : UnF Tryz.prog 296 (.slice 4) := ⟨Tryz.underlying296⟩
set_option maxRecDepth 100000 in
theorem au0 (p : List Nat) {A B : Prop} (t : B → Stp p A := by
  intro h
  repeat (first
    | exact stp0 h
    | (refine stc 0 ?_; refine stk (fun h => qD h) ?_)
    | (refine stc 1 ?_; refine stk (fun h => qB rfl rfl rfl h) ?_)
    | (refine stc 2 ?_; refine stk (fun h => qE h) ?_)
    | (refine stc 3 ?_; refine stk (fun h => qO h) ?_)
    | (refine stc 4 ?_; refine stk (fun h => zl rfl rfl rfl h) ?_)
    | (refine stc 5 ?_; refine stk (fun h => qr h) ?_)
    | (refine stc 6 ?_; refine stk (fun h => qox rfl rfl rfl h) ?_)
    | (refine stc 7 ?_; refine stk (fun h => qkj rfl rfl rfl rfl h) ?_)
    | (refine stc 8 ?_; exact stz (qmM))
    | (refine stc 9 ?_; refine stk (fun h => qc7 h) ?_)
    | (refine stc 10 ?_; refine stk (fun h => qem rfl (And.left h) (And.right h)) ?_)
    | (refine stc 11 ?_; refine qg8 rfl rfl rfl (vc rfl) ?_)
    | (refine stc 12 ?_; refine stk (fun h => qcH h) ?_)
    | (refine stc 13 ?_; refine stk (fun h => jx h) ?_)
    | (refine stc 14 ?_; refine stk (fun h => qkm (b := true) rfl rfl rfl rfl h) ?_)
    | (refine stc 15 ?_; refine stk (fun h => qkm (b := false) rfl rfl rfl rfl h) ?_)
    | (refine stc 16 ?_; exact stz (zC ()))
    | (refine stc 17 ?_; refine qpm rfl (by kernel_rfl) rfl ?_)
    | (refine stc 18 ?_; refine stk (fun h => qbR h) ?_)
    | (refine stc 19 ?_; refine stk (fun h => qgr rfl rfl rfl rfl h) ?_)
    | (refine stc 20 ?_; refine stk (fun h => qbT h) ?_)
    | (refine stc 21 ?_; refine stk (fun h => qc8 rfl rfl rfl rfl h) ?_)
    | (refine stc 22 ?_; refine stk (fun h => zw (i := 0) rfl rfl rfl inferInstance rfl rfl rfl rfl rfl h) ?_)
    | (refine stc 23 ?_; refine stk (fun h => qah rfl inferInstance rfl h) ?_)
    | (refine stc 24 ?_; first
      | (refine sta 0 ?_; refine stk (fun h => qoy h) ?_)
      | (refine sta 1 ?_; refine stk (fun h => q9 (.cons 2 rfl (.cons 2 rfl .nil)) (qz 0 rfl (qz 1 rfl (qz 2 rfl (qz 3 rfl qL)))) h) ?_)
      | (refine sta 2 ?_; refine stk (fun h => qeo h) ?_)
      | (refine sta 3 ?_; refine stk (fun h => qi9 rfl rfl rfl rfl h) ?_)
      | (refine sta 4 ?_; refine stk (fun h => qdP rfl UnF.u rfl rfl h) ?_)
      | (refine sta 5 ?_; refine stk (fun h => zh (i := 0) rfl rfl inferInstance rfl rfl (by simp) rfl rfl h) ?_)
      | (refine sta 6 ?_; refine stk (fun h => qlU rfl rfl rfl h) ?_)
      | (refine sta 7 ?_; refine stk (fun h => qb8 (by kernel_rfl) h) ?_)
      | (refine sta 8 ?_; refine stk (fun h => qfw h) ?_)
      | (refine sta 9 ?_; refine stk (fun h => qfB h) ?_)
      | (refine sta 10 ?_; refine stk (fun h => qn9 h) ?_)
      | (refine sta 11 ?_; refine stk (fun h => qbY rfl rfl inferInstance rfl h) ?_)
      | (refine sta 12 ?_; refine stk (fun h => qqL (And.left h) (And.right h)) ?_)
      | (refine sta 13 ?_; refine stk (fun h => qgs rfl rfl rfl rfl h) ?_)
      | (refine sta 14 ?_; refine stk (fun h => qn8 h) ?_)
      | (refine sta 15 ?_; refine stk (fun h => qlV rfl rfl rfl rfl h) ?_))
    | (refine stc 25 ?_; first
      | (refine sta 0 ?_; refine stk (fun h => qlX rfl rfl rfl rfl h) ?_)
      | (refine sta 1 ?_; refine qpl rfl rfl rfl ?_)
      | (refine sta 2 ?_; refine stk (fun h => zh (i := 0) rfl rfl inferInstance rfl rfl (fun _ => rfl) rfl rfl h) ?_)
      | (refine sta 3 ?_; refine qg8 rfl rfl rfl (qbF rfl inferInstance) ?_)
      | (refine sta 4 ?_; refine stk (fun h => qfy h) ?_)
      | (refine sta 5 ?_; refine stk (fun h => qps rfl rfl rfl rfl h) ?_)
      | (refine sta 6 ?_; refine stk (fun h => zw (i := 1) rfl rfl rfl inferInstance rfl rfl rfl rfl rfl h) ?_)
      | (refine sta 7 ?_; refine stk (fun h => qlW rfl rfl rfl h) ?_)
      | (refine sta 8 ?_; refine stk (fun h => qoa h) ?_)
      | (refine sta 9 ?_; refine stk (fun h => qeB (j := 0) rfl rfl inferInstance rfl rfl (fun _ => rfl) rfl rfl h) ?_)
      | (refine sta 10 ?_; refine stk (fun h => qom rfl UnF.u UnF.u rfl rfl h) ?_)
      | (refine sta 11 ?_; refine qkh rfl rfl rfl (zQ (i := 0) rfl inferInstance rfl rfl (fun _ => rfl) rfl) ?_)
      | (refine sta 12 ?_; refine stk (fun h => q9 (.cons 1 rfl (.cons 1 rfl .nil)) (qz 0 rfl (qz 1 rfl (qz 2 rfl (qz 3 rfl qL)))) h) ?_)
      | (refine sta 13 ?_; exact stz (qc ((), ())))
      | (refine sta 14 ?_; refine stk (fun h => zh (i := 1) rfl rfl inferInstance rfl rfl (by simp) rfl rfl h) ?_)
      | (refine sta 15 ?_; refine stk (fun h => qh ql7 h) ?_))
    | (refine stc 26 ?_; first
      | (refine sta 0 ?_; refine stk (fun h => q9 (.cons 1 rfl .nil) (qz 0 rfl qL) h) ?_)
      | (refine sta 1 ?_; refine stk (fun h => qcW Int (eI .u8) 5 1 h) ?_)
      | (refine sta 2 ?_; refine stk (fun h => qh qiq h) ?_)
      | (refine sta 3 ?_; refine stk (fun h => qh qip h) ?_)
      | (refine sta 4 ?_; refine stk (fun h => qou h) ?_)
      | (refine sta 5 ?_; refine stk (fun h => zh (i := 2) rfl rfl inferInstance rfl rfl (by simp) rfl rfl h) ?_)
      | (refine sta 6 ?_; refine stk (fun h => vv (j := 0) (qn .i64) (by decide) rfl UnF.u inferInstance rfl rfl rfl rfl h) ?_)
      | (refine sta 7 ?_; refine stk (fun h => zh (i := 1) rfl rfl inferInstance rfl rfl (fun _ => rfl) rfl rfl h) ?_)
      | (refine sta 8 ?_; refine stk (fun h => qh qis h) ?_)
      | (refine sta 9 ?_; refine stk (fun h => qpn h) ?_)
      | (refine sta 10 ?_; refine stk (fun h => qh qkt h) ?_)
      | (refine sta 11 ?_; refine stk (fun h => qn7 h) ?_)
      | (refine sta 12 ?_; refine stk (fun h => q9 (.cons 0 rfl .nil) (qz 0 rfl qL) h) ?_)
      | (refine sta 13 ?_; refine stk (fun h => qcB rfl rfl rfl h) ?_)
      | (refine sta 14 ?_; refine stk (fun h => qcW Int (eI .i64) 3 1 h) ?_)
      | (refine sta 15 ?_; refine stk (fun h => zh (i := 3) rfl rfl inferInstance rfl rfl (by simp) rfl rfl h) ?_))
    | (refine stc 27 ?_; first
      | (refine sta 0 ?_; refine stk (fun h => qgt rfl rfl rfl rfl rfl h) ?_)
      | (refine sta 1 ?_; refine stk (fun h => qpx rfl rfl rfl rfl h) ?_)
      | (refine sta 2 ?_; refine stk (fun h => q9 (.cons 0 rfl (.cons 0 rfl .nil)) (qz 0 rfl (qz 1 rfl (qz 2 rfl (qz 3 rfl qL)))) h) ?_)
      | (refine sta 3 ?_; refine stk (fun h => qh qir h) ?_)
      | (refine sta 4 ?_; refine stk (fun h => qof (j := 0) rfl h) ?_)
      | (refine sta 5 ?_; refine stk (fun h => qh ql8 h) ?_)
      | (refine sta 6 ?_; refine stk (fun h => qop (i := 0) rfl UnF.u inferInstance rfl rfl rfl rfl h) ?_)
      | (refine sta 7 ?_; refine qg8 rfl rfl rfl (qqT UnF.u rfl) ?_)
      | (refine sta 8 ?_; refine stk (fun h => jy (j := 0) rfl UnF.u inferInstance rfl rfl rfl rfl h) ?_)
      | (refine sta 9 ?_; refine stk (fun h => qpo rfl rfl rfl rfl h) ?_)
      | (refine sta 10 ?_; refine stk (fun h => qeW Int (eI .u8) 5 1 h) ?_)
      | (refine sta 11 ?_; refine stk (fun h => qh qjp h) ?_)
      | (refine sta 12 ?_; refine stk (fun h => qpt rfl rfl rfl rfl h) ?_)
      | (refine sta 13 ?_; refine stk (fun h => qh qiD h) ?_)
      | (refine sta 14 ?_; refine stk (fun h => qh (fun h => qda F _ _ _ _ h) h) ?_)
      | (refine sta 15 ?_; refine stk (fun h => qh qjk h) ?_))
    | (refine stc 28 ?_; first
      | (refine sta 0 ?_; refine stk (fun h => qh qhs h) ?_)
      | (refine sta 1 ?_; refine stk (fun h => qfz (j := 0) rfl UnF.u inferInstance rfl rfl rfl rfl h) ?_)
      | (refine sta 2 ?_; refine stk (fun h => qpB h) ?_)
      | (refine sta 3 ?_; refine stk (fun h => qh qiv h) ?_)
      | (refine sta 4 ?_; refine stk (fun h => qh qgC h) ?_)
      | (refine sta 5 ?_; refine stk (fun h => qh qhv h) ?_)
      | (refine sta 6 ?_; refine stk (fun h => qh qe3 h) ?_)
      | (refine sta 7 ?_; refine stk (fun h => q9 (.cons 0 rfl .nil) (qz 0 rfl (qz 1 rfl (qz 2 rfl qL))) h) ?_)
      | (refine sta 8 ?_; refine stk (fun h => qen Int (eI .u8) 5 1 h) ?_)
      | (refine sta 9 ?_; refine stk (fun h => qeB (j := 0) rfl rfl inferInstance rfl rfl (by simp) rfl rfl h) ?_)
      | (refine sta 10 ?_; refine stk (fun h => yo 0 (qn .u8) rfl UnF.u inferInstance rfl rfl rfl rfl rfl (.inr ⟨0, rfl⟩) rfl rfl h) ?_)
      | (refine sta 11 ?_; refine qkh rfl rfl rfl (zQ (i := 1) rfl inferInstance rfl rfl (fun _ => rfl) rfl) ?_)
      | (refine sta 12 ?_; refine stk (fun h => qb9 (j := 0) (qn .i64) (by decide) rfl h) ?_)
      | (refine sta 13 ?_; refine stk (fun h => qb9 (j := 2) (qn .i64) (by decide) rfl h) ?_)
      | (refine sta 14 ?_; refine stk (fun h => vv (j := 1) (qn .i64) (by decide) rfl UnF.u inferInstance rfl rfl rfl rfl h) ?_)
      | (refine sta 15 ?_; refine stk (fun h => qjc rfl rfl rfl rfl rfl h) ?_))
    | (refine stc 29 ?_; first
      | (refine sta 0 ?_; refine stk (fun h => qpz rfl rfl rfl rfl rfl h) ?_)
      | (refine sta 1 ?_; refine stk (fun h => kU qe2 h) ?_)
      | (refine sta 2 ?_; refine stk (fun h => qja rfl rfl rfl h) ?_)
      | (refine sta 3 ?_; refine stk (fun h => zh (i := 4) rfl rfl inferInstance rfl rfl (fun _ => rfl) rfl rfl h) ?_)
      | (refine sta 4 ?_; refine stk (fun h => zh (i := 5) rfl rfl inferInstance rfl rfl (by simp) rfl rfl h) ?_)
      | (refine sta 5 ?_; refine stk (fun h => kU qjj h) ?_)
      | (refine sta 6 ?_; refine stk (fun h => vv (j := 0) (qn .u64) (by decide) rfl UnF.u inferInstance rfl rfl rfl rfl h) ?_)
      | (refine sta 7 ?_; refine stk (fun h => qh qfc h) ?_)
      | (refine sta 8 ?_; refine stk (fun h => q9 .nil qL h) ?_)
      | (refine sta 9 ?_; refine stk (fun h => qh qe9 h) ?_)
      | (refine sta 10 ?_; refine stk (fun h => qod (j := 0) rfl h) ?_)
      | (refine sta 11 ?_; refine stk (fun h => qeW Int (eI .i64) 3 1 h) ?_)
      | (refine sta 12 ?_; refine stk (fun h => qqM rfl rfl rfl rfl h) ?_)
      | (refine sta 13 ?_; refine stk (fun h => qcW Int (eI .u64) 80 1 h) ?_)
      | (refine sta 14 ?_; refine stk (fun h => qh qhB h) ?_)
      | (refine sta 15 ?_; refine stk (fun h => qeY (j := 0) kR (by decide) rfl UnF.u inferInstance rfl rfl rfl rfl h) ?_))
    | (refine stc 30 ?_; first
      | (refine sta 0 ?_; refine stk (fun h => qh (fun h => qd4 F _ _ _ _ h) h) ?_)
      | (refine sta 1 ?_; refine stk (fun h => qh qhu h) ?_)
      | (refine sta 2 ?_; refine stk (fun h => qh qgA h) ?_)
      | (refine sta 3 ?_; refine stk (fun h => qh qeN h) ?_)
      | (refine sta 4 ?_; refine stk (fun h => qh qgB h) ?_)
      | (refine sta 5 ?_; refine stk (fun h => qh qhF h) ?_)
      | (refine sta 6 ?_; refine stk (fun h => zh (i := 4) rfl rfl inferInstance rfl rfl (by simp) rfl rfl h) ?_)
      | (refine sta 7 ?_; refine stk (fun h => qjb (lim := 140737488355328) (qn .u8) rfl UnF.u inferInstance rfl rfl rfl rfl rfl h) ?_)
      | (refine sta 8 ?_; refine stk (fun h => qb9 (j := 0) (qn .u8) (by decide) rfl h) ?_)
      | (refine sta 9 ?_; refine stk (fun h => qh qhq h) ?_)
      | (refine sta 10 ?_; refine stk (fun h => q9 (.cons 0 rfl (.cons 0 rfl .nil)) (qz 0 rfl (qz 1 rfl (qz 2 rfl qL))) h) ?_)
      | (refine sta 11 ?_; refine stk (fun h => q9 (.cons 0 rfl (.cons 0 rfl .nil)) (qz 1 rfl (qz 2 rfl (qz 3 rfl qL))) h) ?_)
      | (refine sta 12 ?_; refine stk (fun h => jy (j := 1) rfl UnF.u inferInstance rfl rfl rfl rfl h) ?_)
      | (refine sta 13 ?_; refine stk (fun h => qmB (And.left h) (And.right h)) ?_)
      | (refine sta 14 ?_; refine stk (fun h => kU qkv h) ?_)
      | (refine sta 15 ?_; refine stk (fun h => vv (j := 0) (qn .u8) (by decide) rfl UnF.u inferInstance rfl rfl rfl rfl h) ?_))
    | (refine stc 31 ?_; first
      | (refine sta 0 ?_; refine stk (fun h => kU qhr h) ?_)
      | (refine sta 1 ?_; refine stk (fun h => zw (i := 6) rfl rfl rfl inferInstance rfl rfl rfl rfl rfl h) ?_)
      | (refine sta 2 ?_; refine stk (fun h => zh (i := 2) rfl rfl inferInstance rfl rfl (fun _ => rfl) rfl rfl h) ?_)
      | (refine sta 3 ?_; refine stk (fun h => qpu rfl rfl rfl rfl h) ?_)
      | (refine sta 4 ?_; refine stk (fun h => q9 (.cons 1 rfl .nil) (qz 0 rfl (qz 1 rfl (qkJ 0 rfl qL))) h) ?_)
      | (refine sta 5 ?_; refine stk (fun h => qh qjl h) ?_)
      | (refine sta 6 ?_; refine stk (fun h => qh qgD h) ?_)
      | (refine sta 7 ?_; refine stk (fun h => qdu 13 rfl (by kernel_rfl) .nil h) ?_)
      | (refine sta 8 ?_; exact stz (vN ()))
      | (refine sta 9 ?_; refine stk (fun h => qh qjn h) ?_)
      | (refine sta 10 ?_; refine stk (fun h => qh qhE h) ?_)
      | (refine sta 11 ?_; refine stk (fun h => qeW Int (eI .u64) 80 1 h) ?_)
      | (refine sta 12 ?_; refine stk (fun h => qh qgg h) ?_)
      | (refine sta 13 ?_; refine stk (fun h => qb9 (j := 1) (qn .i64) (by decide) rfl h) ?_)
      | (refine sta 14 ?_; refine stk (fun h => qh qit h) ?_)
      | (refine sta 15 ?_; refine stk (fun h => qh qiA h) ?_))
    | (refine stc 32 ?_; first
      | (refine sta 0 ?_; refine stk (fun h => qfx (j := 0) rfl h) ?_)
      | (refine sta 1 ?_; refine stk (fun h => q9 .nil (qz 0 rfl (qz 1 rfl (qz 2 rfl (qz 3 rfl qL)))) h) ?_)
      | (refine sta 2 ?_; refine stk (fun h => q9 (.cons 0 rfl (.cons 0 rfl .nil)) (qz 0 rfl (qz 1 rfl qL)) h) ?_)
      | (refine sta 3 ?_; refine stk (fun h => qh qgG h) ?_)
      | (refine sta 4 ?_; exact stz (qoi))
      | (refine sta 5 ?_; refine stk (fun h => qpp rfl UnF.u rfl rfl h) ?_)
      | (refine sta 6 ?_; refine stk (fun h => qor (i := 0) (qn .i64) rfl UnF.u inferInstance rfl rfl rfl rfl h) ?_)
      | (refine sta 7 ?_; refine stk (fun h => qeY (j := 0) qfj (by decide) rfl UnF.u inferInstance rfl rfl rfl rfl h) ?_)
      | (refine sta 8 ?_; refine stk (fun h => qoe (j := 0) ju (by decide) rfl h) ?_)
      | (refine sta 9 ?_; refine stk (fun h => q9 (.cons 0 rfl .nil) (qz 0 rfl (qz 1 rfl (qz 2 rfl (qz 3 rfl qL)))) h) ?_)
      | (refine sta 10 ?_; refine stk (fun h => qh qhC h) ?_)
      | (refine sta 11 ?_; refine stk (fun h => qc9 rfl rfl rfl rfl rfl h) ?_)
      | (refine sta 12 ?_; refine stk (fun h => qh (fun h => qgy F _ _ _ _ _ _ _ h) h) ?_)
      | (refine sta 13 ?_; refine stk (fun h => qh qku h) ?_)
      | (refine sta 14 ?_; refine stk (fun h => qh qiE h) ?_)
      | (refine sta 15 ?_; refine stk (fun h => qh (fun h => qe1 F _ _ _ _ _ _ _ h) h) ?_))
    | (refine stc 33 ?_; first
      | (refine sta 0 ?_; refine stk (fun h => qh qe6 h) ?_)
      | (refine sta 1 ?_; refine stk (fun h => qh qgz h) ?_)
      | (refine sta 2 ?_; refine stk (fun h => qh qhw h) ?_)
      | (refine sta 3 ?_; refine stk (fun h => qh qjm h) ?_)
      | (refine sta 4 ?_; refine stk (fun h => qh (fun h => qhQ F _ _ _ _ h) h) ?_)
      | (refine sta 5 ?_; refine stk (fun h => qh qkw h) ?_)
      | (refine sta 6 ?_; refine stk (fun h => qh qky h) ?_)
      | (refine sta 7 ?_; refine stk (fun h => qpA rfl rfl rfl rfl h) ?_)
      | (refine sta 8 ?_; refine stk (fun h => qh qhD h) ?_)
      | (refine sta 9 ?_; refine stk (fun h => qh qhA h) ?_)
      | (refine sta 10 ?_; refine stk (fun h => qh qiz h) ?_)
      | (refine sta 11 ?_; refine stk (fun h => qh (fun h => qeF F _ _ _ _ _ _ _ _ _ h) h) ?_)
      | (refine sta 12 ?_; refine stk (fun h => zh (i := 9) rfl rfl inferInstance rfl rfl (by simp) rfl rfl h) ?_)
      | (refine sta 13 ?_; refine stk (fun h => zh (i := 10) rfl rfl inferInstance rfl rfl (by simp) rfl rfl h) ?_)
      | (refine sta 14 ?_; refine stk (fun h => qeX 16 rfl h) ?_)
      | (refine sta 15 ?_; refine stk (fun h => qow 0 (qn .u8) rfl h) ?_))
    | (refine stc 34 ?_; first
      | (refine sta 0 ?_; refine stk (fun h => kU qge h) ?_)
      | (refine sta 1 ?_; refine stk (fun h => jy (j := 2) rfl UnF.u inferInstance rfl rfl rfl rfl h) ?_)
      | (refine sta 2 ?_; refine stk (fun h => qh qio h) ?_)))) : Stv p B A := ⟨fun h => (t h).go⟩
theorem au (p : List Nat) {A B : Prop} (h : B) (t : Stv p B A := by exact au0 _) : A := t.go h
theorem av (p : List Nat) {A B C : Prop} (h : B) (k : C) (t : Stv p (B ∧ C) A := by exact au0 _) : A := t.go ⟨h, k⟩
theorem az (p : List Nat) {A : Prop} (t : Stv p True A := by exact au0 _) : A := t.go trivial
theorem ql7 {F : Nat} {x1 : List Int} {a2 : Option Addr} {c3 : Nat} {r : (List Int × List Int)} (hm : zt F x1 = some r) :
    Pure Tryz.prog 5 [.slice a2 x1.length c3] [Sl (eI .i64) 1 (.slice a2 x1.length c3) x1] (Option Addr × Nat) (fun g => .slice g.1 r.1.length g.2) (fun g => [Ro (eI .i64) 3 1 (.slice g.1 (r.1 ++ r.2).length g.2) (r.1 ++ r.2)]) (fun _ => []) := by
 refine qk Tryz.func5 rfl Tryz.ntmps5 rfl hm (fun w => ?_)
 refine au [24,14,3,5,4,0,2,3,5,1,24,4,21] ?_
 refine qjb (lim := 35184372088832) (qn .i64) rfl UnF.u inferInstance rfl rfl rfl rfl rfl ?_
 intro a4 c5
 refine au [1] ?_
 refine yo 0 (qn .i64) rfl UnF.u inferInstance rfl rfl rfl rfl rfl (.inr ⟨0, rfl⟩) rfl rfl ?_
 intro x6 e6 a7 c8
 refine qq (vs := [.int .i64 77]) (ys := ([77] : List Int)) (qn .i64) (by decide) rfl Tryz.underlying22 tf3 rfl rfl rfl rfl rfl (by decide) (fun a9 c10 => yo 1 (qn .i64) rfl Tryz.underlying22 tf3 rfl rfl rfl rfl rfl (.inl ⟨0, _, rfl⟩) rfl rfl (fun x11 e11 a12 c13 => ?_))
 refine au [1,24,4,27,6] ?_
 intro x14 e14
 refine au [4,0,2,9] ?_
 exact zC (a12, c13)
set_option maxHeartbeats 4000000 in
theorem qip {F : Nat} {x1 : Int} {x2 : List Int} {a3 : Option Addr} {c4 : Nat} {r : (Int × (List Int × List Int))} (hm : q6 F x1 x2 = some r) :
    Pure Tryz.prog 6 [.agg #[.int .i64 x1, .slice a3 x2.length c4]] [Sl (eI .u8) 1 (.slice a3 x2.length c4) x2] (Option Addr × Nat) (fun g => .agg #[.int .i64 r.1, .slice g.1 r.2.1.length g.2]) (fun g => [Ro (eI .u8) 5 1 (.slice g.1 (r.2.1 ++ r.2.2).length g.2) (r.2.1 ++ r.2.2)]) (fun _ => []) := by
 refine qk Tryz.func6 rfl Tryz.ntmps6 rfl hm (fun w => ?_)
 refine au [24,14,3,5,24,6] ?_
 intro g5
 refine au [23] ?_
 intro g6
 refine au [0,2] ?_
 refine qm (fun ((x40, (a38, c39)) : ((List Int × List Int) × (Option Addr × Nat))) => ([(2, .pointer (some ⟨g6, 0, none⟩))], [⟨g6, 25, [.int .i64 x1, .slice a38 x40.1.length c39]⟩], [Ro (eI .u8) 5 1 (.slice a38 (x40.1 ++ x40.2).length c39) (x40.1 ++ x40.2)], [], vy F x1 x40)) ?_ ?_
 refine qT mixed [] [⟨g5, 25, [.int .i64 x1, .slice a3 x2.length c4]⟩] [Sl (eI .u8) 1 (.slice a3 x2.length c4) x2] (.cons 1 rfl .nil) (qz 0 rfl qL) 18 rfl ?_
 refine au [25,3,0,25,11,1,25,3,2,25,11,3,27,7,4,11,5,25,3,7,25,11,8,25,3,12,25,11,13,27,7,14] ?_
 refine yI 6 10 rfl rfl (by kernel_rfl) rfl rfl ?_ ?_
 refine au [30,7] ?_
 intro a41 c42
 refine au [0,26,0] ?_
 refine yI 9 10 rfl rfl (by kernel_rfl) rfl rfl ?_ ?_
 refine au [28,10] ?_
 intro x43 e43 a44 c45
 refine au [0,26,0,17,10] ?_
 refine qq (vs := [.int .u8 77]) (ys := ([77] : List Int)) (qn .u8) (by decide) rfl Tryz.underlying23 tf5 rfl rfl rfl rfl rfl (by decide) (fun a46 c47 => ?_)
 refine au [0,26,0,17,11] ?_
 refine yo 1 (qn .u8) rfl Tryz.underlying23 tf5 rfl rfl rfl rfl rfl (.inl ⟨0, _, rfl⟩) rfl rfl (fun x48 e48 a49 c50 => ?_)
 refine au [0,26,0,17,15,27,6] ?_
 intro x51 e51
 refine au [0,26,0] ?_
 refine qj 16 (.agg #[.int .i64 x1, .slice a49 x51.1.length c50]) rfl rfl rfl (qbE (cells := [.int .i64 x1, .slice a49 x51.1.length c50]) st25 rfl (by kernel_rfl)) ?_
 refine au [17,17,22,0,26,0,24,7] ?_
 exact qR (qc (x51, (a49, c50))) (by intro c h; cases h)
 refine kj (m' := ((app 140737488355328 ([] : List Int) x2).bind fun x54 => ((app 140737488355328 x54 ([77] : List Int)).bind fun x57 => ((cutP x57 (x2.length : Int)).bind fun x60 => vy F x1 x60)))) (rfl) (qq (vs := [.int .u8 77]) (ys := ([77] : List Int)) (qn .u8) (by decide) rfl Tryz.underlying23 tf5 rfl rfl rfl rfl rfl (by decide) (fun a52 c53 => ?_))
 refine au [0,26,0,17,9] ?_
 refine yo 1 (qn .u8) rfl UnF.u inferInstance rfl rfl rfl rfl rfl (.inr ⟨0, rfl⟩) rfl rfl ?_
 intro x54 e54 a55 c56
 refine au [0,26,0,17,11] ?_
 refine yo 0 (qn .u8) rfl Tryz.underlying23 tf5 rfl rfl rfl rfl rfl (.inl ⟨1, _, rfl⟩) rfl rfl (fun x57 e57 a58 c59 => ?_)
 refine au [0,26,0,17,15,27,6] ?_
 intro x60 e60
 refine au [0,26,0] ?_
 refine qj 16 (.agg #[.int .i64 x1, .slice a58 x60.1.length c59]) rfl rfl rfl (qbE (cells := [.int .i64 x1, .slice a58 x60.1.length c59]) st25 rfl (by kernel_rfl)) ?_
 refine au [17,17,22,0,26,0,24,7] ?_
 exact qR (qc (x60, (a58, c59))) (by intro c h; cases h)
 refine kj (m' := (chk (decide (0 ≤ (iadd .i64 (x2.length : Int) 1) ∧ (iadd .i64 (x2.length : Int) 1) ≤ (140737488355328 : Int))) (((app 140737488355328 ([] : List Int) x2).bind fun x65 => ((app 140737488355328 x65 ([77] : List Int)).bind fun x68 => ((cutP x68 (x2.length : Int)).bind fun x71 => vy F x1 x71)))))) (rfl) (qq (vs := [.int .u8 77]) (ys := ([77] : List Int)) (qn .u8) (by decide) rfl Tryz.underlying23 tf5 rfl rfl rfl rfl rfl (by decide) (fun a61 c62 => ?_))
 refine au [0,26,0,17,6,30,7] ?_
 intro a63 c64
 refine au [0,26,0,17,9,28,10] ?_
 intro x65 e65 a66 c67
 refine au [0,26,0,17,11] ?_
 refine yo 0 (qn .u8) rfl Tryz.underlying23 tf5 rfl rfl rfl rfl rfl (.inl ⟨1, _, rfl⟩) rfl rfl (fun x68 e68 a69 c70 => ?_)
 refine au [0,26,0,17,15,27,6] ?_
 intro x71 e71
 refine au [0,26,0] ?_
 refine qj 16 (.agg #[.int .i64 x1, .slice a69 x71.1.length c70]) rfl rfl rfl (qbE (cells := [.int .i64 x1, .slice a69 x71.1.length c70]) st25 rfl (by kernel_rfl)) ?_
 refine au [17,17,22,0,26,0,24,7] ?_
 exact qR (qc (x71, (a69, c70))) (by intro c h; cases h)
 rintro ⟨x40, ⟨a38, c39⟩⟩
 try dsimp only
 refine au [9] ?_
 exact qI (a38, c39) (resL (rs := [.cell 2 25]) rfl (.cell (i := 0) rfl tf25 rfl rfl (by simp) rfl ResOk.nil) rfl) (fun h => by subst h; exact (.cons 0 rfl .nil))
set_option maxHeartbeats 4000000 in
theorem qji {F : Nat} {x1 : List (List Int)} {a2 : Option Addr} {c3 : Nat} {s3 : List (Option Addr × Nat)} {r : List (List Int)} (hm : qd7 F x1 = some r) :
    PureM Tryz.prog 33 [.slice a2 x1.length c3] [] [RoN eN22 rN22 22 1 (.slice a2 x1.length c3) x1 s3 []] [] (List (Option Addr × Nat)) (fun _ => .tuple #[]) (fun _ => []) (fun g => [RoN eN22 rN22 22 1 (.slice a2 r.length c3) r g []]) := by
 refine k6 Tryz.func33 rfl Tryz.ntmps33 rfl hm (fun w => ?_)
 refine au [24,14,3,5,1,24,4,1,0,2,18] ?_
 refine qx (fun (((x149, x150), g148) : ((List (List Int) × Int) × List (Option Addr × Nat))) => ([(5, .slice a2 x149.length c3), (6, .int .i64 (x1.length : Int)), (7, .int .i64 x150)], [], [RoN eN22 rN22 22 1 (.slice a2 x149.length c3) x149 g148 []], [])) (fun k (s : ((List (List Int) × Int) × List (Option Addr × Nat))) => zK F x1 k s.1) ((x1, 0), s3) F ?_
 intro k295
 rintro ⟨⟨x149, x150⟩, g148⟩
 try dsimp only
 refine qN (m' := qa6 F x1 (zK F x1 k295) x149 x150) rfl ?_
 refine av [3,5,24,3,0,2,3,10] ?_ ?_
 intro _
 refine au [13,2] ?_
 refine qm (fun ((x368, g367) : (List (List Int) × List (Option Addr × Nat))) => ([(5, .slice a2 x368.length c3), (6, .int .i64 (x1.length : Int)), (7, .int .i64 x150)], [], [RoN eN22 rN22 22 1 (.slice a2 x368.length c3) x368 g367 []], [], qa7 F (zK F x1 k295) x150 x368)) ?_ ?_
 refine au [18,3,5,28,1] ?_
 intro x369 e369 g370 h371 g372 h373
 refine qbS (i := 0) rfl h371 (List.not_mem_nil) (qaY (j := 1) (p := (x369, g370)) qfj rfl rfl tf22 rfl h373 h371 rfl (fun _ => rfl) rfl rfl ?_)
 refine au [4,0,2,3,5,4,0,2,18] ?_
 refine qx (fun (((x388, x389), _) : ((List Int × Int) × Unit)) => ([(3, .slice g370.1 x388.length g370.2), (4, .int .i64 x389), (5, .slice a2 x149.length c3), (6, .int .i64 (x1.length : Int)), (7, .int .i64 x150)], [], [Ro (eI .i64) 3 1 (.slice g370.1 x388.length g370.2) x388, RoN eN22 rN22 22 1 (.slice a2 x149.length c3) x149 g148 [x150.toNat]], [])) (fun k (s : ((List Int × Int) × Unit)) => yp F (zK F x1 k295) x149 x150 x369 k s.1) ((x369, 0), ()) F ?_
 intro k414
 rintro ⟨⟨x388, x389⟩, _⟩
 try dsimp only
 refine qN (m' := qaz F (zK F x1 k295) x149 x150 x369 (yp F (zK F x1 k295) x149 x150 x369 k414) x388 x389) rfl ?_
 refine av [3,3,5,1,1,24,4,24,3,0,2,10] ?_ ?_
 intro _
 refine au [13,2,3,18,5,1,1,27,8] ?_
 intro x427 e427 g428 h429
 refine kz (j := 0) (y' := -9) (qn .i64) rfl rfl rfl tf3 rfl h429 (qt e427).2.1 rfl (fun x430 e430 h431 => ?_)
 have h432 : x430.length = x388.length := by rw [← e430, List.length_set]
 refine qb (d := 3) (v := .slice g370.1 x430.length g370.2) rfl h431 (qb (d := 12) (v := .slice g370.1 x430.length g370.2) rfl h431 (qb (d := 17) (v := .slice g370.1 x430.length g370.2) rfl h431 ?_))
 refine au [0,24,2,2,5,1,21,4,0] ?_
 exact qs ((x430, iadd .i64 x389 1), ())
 intro _
 refine au [24,8,20,20,24,9,24,2,28,2] ?_
 intro h433
 replace h433 := of_decide_eq_true h433
 refine qe0 (rin := rN22) (i := 0) (kh := 0) (y := x388) (q := g370) (.cons 0 rfl .nil) rfl rfl h371 (by simp only [eN22, h433]) (fun x434 e434 h435 g437 => ?_)
 have h436 : x434.length = x149.length := by rw [← e434, List.length_set]
 exact qhg (d := 5) (v := .slice a2 x434.length c3) rfl (by rw [h435] <;> rfl) (qc (x434, g437))
 rintro ⟨x368, g367⟩
 try dsimp only
 refine au [5,21,1,0] ?_
 exact qs ((x368, iadd .i64 x150 1), g367)
 intro _
 refine au [24,8,20,20,24,9] ?_
 exact vN g148
set_option maxHeartbeats 4000000 in
theorem qhq {F : Nat} {x1 : List Int} {a2 : Option Addr} {c3 : Nat} {x4 : List Int} {a5 : Option Addr} {c6 : Nat} {r : Bool} (hm : z7 F x1 x4 = some r) :
    Pure Tryz.prog 152 [.slice a2 x1.length c3, .slice a5 x4.length c6] [Sl (eI .u8) 1 (.slice a2 x1.length c3) x1, Sl (eI .u8) 1 (.slice a5 x4.length c6) x4] Unit (fun _ => .bool r) (fun _ => []) (fun _ => []) := by
 refine qk Tryz.func152 rfl Tryz.ntmps152 rfl hm (fun w => ?_)
 refine av [24,10,3,5,4,0,2,3,3,5,1,24,4,1,24,4,24,15,0,2,10] ?_ ?_
 intro _
 exact az [3,5,4,0,2,9,12,16]
 intro _
 refine au [13,2] ?_
 refine qm (fun ((_, _) : (Unit × Unit)) => ([], [], [], [], qdl F)) ?_ ?_
 refine au [3,5,4,0,2,18] ?_
 refine qx (fun ((x154, _) : (Int × Unit)) => ([(0, .slice a2 x1.length c3), (1, .slice a5 x4.length c6), (5, .int .i64 x154)], [], [], [Sl (eI .u8) 1 (.slice a2 x1.length c3) x1, Sl (eI .u8) 1 (.slice a5 x4.length c6) x4])) (fun k (s : (Int × Unit)) => zA F x1 x4 k s.1) (0, ()) F ?_
 intro k191
 rintro ⟨x154, _⟩
 try dsimp only
 refine qN (m' := yd F x1 x4 (zA F x1 x4 k191) x154) rfl ?_
 refine av [3,3,5,1,1,24,4,24,3,0,2,10] ?_ ?_
 intro _
 refine au [13,2,3,18,3,30,8] ?_
 intro x218 e218 b219 o220 h221
 replace h221 : a2 = some ⟨b219, o220, none⟩ := h221
 refine qb9 (j := 2) (qn .u8) (by decide) rfl ?_
 intro x222 e222 b223 o224 h225
 replace h225 : a5 = some ⟨b223, o224, none⟩ := h225
 refine qT mixed [] [] [qJ b223 (o224 + x154.toNat * 1) ((eI .u8) x222), qJ b219 (o220 + x154.toNat * 1) ((eI .u8) x218), Sl (eI .u8) 1 (.slice a2 x1.length c3) x1, Sl (eI .u8) 1 (.slice a5 x4.length c6) x4] .nil (qz 0 rfl (qz 1 rfl (qz 2 rfl (qz 3 rfl qL)))) 9 rfl ?_
 refine au [11,0,11,1] ?_
 refine qo (d := 17) (v := .slice (some ⟨b219, o220, none⟩) x1.length c3) rfl (by rw [h221] <;> rfl) (qj 2 (.pointer (some ⟨b219, (o220 + x154.toNat * 1), none⟩)) rfl rfl rfl (qak Tryz.underlying23 tf5 rfl rfl (qt e218).1 (kH e218)) (qo (d := 17) (v := .slice a2 x1.length c3) rfl (by rw [h221] <;> rfl) (zq 3 (.int .u8 x218) [] rfl rfl rfl (zN (j := 1) rfl tf5 rfl rfl (fun _ => rfl) rfl) ?_)))
 refine au [11,4,11,5] ?_
 refine qo (d := 21) (v := .slice (some ⟨b223, o224, none⟩) x4.length c6) rfl (by rw [h225] <;> rfl) (qj 6 (.pointer (some ⟨b223, (o224 + x154.toNat * 1), none⟩)) rfl rfl rfl (qak Tryz.underlying23 tf5 rfl rfl (qt e222).1 (kH e222)) (qo (d := 21) (v := .slice a5 x4.length c6) rfl (by rw [h225] <;> rfl) (zq 7 (.int .u8 x222) [] rfl rfl rfl (zN (j := 0) rfl tf5 rfl rfl (fun _ => rfl) rfl) ?_)))
 refine au [11,8,24,7] ?_
 refine qR ?_ (by intro c h; cases h)
 refine av [2,10] ?_ ?_
 intro _
 exact az [3,5,4,0,2,9,24,0,12,12,24,0,12,16]
 intro _
 refine au [13,24,2,2,5,1,21,4,0] ?_
 exact qs (iadd .i64 x154 1, ())
 intro _
 exact az [24,8,20,20,24,9,25,13]
 rintro ⟨_, _⟩
 try dsimp only
 exact az [3,5,4,0,2,9,16]
theorem qiq {F : Nat} {x1 : Int} {x2 : List Int} {a3 : Option Addr} {c4 : Nat} {x5 : Int} {x6 : List Int} {a7 : Option Addr} {c8 : Nat} {r : Bool} (hm : qX F x1 x2 x5 x6 = some r) :
    Pure Tryz.prog 63 [.agg #[.int .i64 x1, .slice a3 x2.length c4], .agg #[.int .i64 x5, .slice a7 x6.length c8]] [Sl (eI .u8) 1 (.slice a3 x2.length c4) x2, Sl (eI .u8) 1 (.slice a7 x6.length c8) x6] Unit (fun _ => .bool r) (fun _ => []) (fun _ => []) := by
 refine qk Tryz.func63 rfl Tryz.ntmps63 rfl hm (fun w => ?_)
 refine au [24,10,3,5,24,6] ?_
 intro g9
 refine au [24,6] ?_
 intro g10
 refine au [4,0,2,3,5,24,11,26,7,24,11,25,2,19,1] ?_
 refine qy 6 (fun ((x13, _) : (Bool × Unit)) => ([(16, .bool x13)], [], [], [], vz F x13)) ?_ ?_
 refine qa (os := _) rfl ?_
 refine av [24,12] ?_ ?_
 intro h11
 refine qg (k := 10) rfl h11 ?_
 refine au [24,11,26,7,24,11,25,2,30,9] ?_
 intro x14 e14 _
 refine au [14,0] ?_
 exact qc (x14, ())
 intro h11
 refine qf (k := 10) rfl h11 ?_
 refine au [6,6,6,6,6,15,0] ?_
 exact qc (false, ())
 rintro ⟨x13, _⟩
 try dsimp only
 refine qa (os := _) rfl ?_
 exact az [4,0,2,9,16]
set_option maxHeartbeats 4000000 in
theorem qio {F : Nat} {x1 : Int} {x2 : (List Int × List Int)} {a3 : Option Addr} {c4 : Nat} {x5 : Int} {x6 : List Int} {a7 : Option Addr} {c8 : Nat} {r : Bool} (hm : ve F x1 x2 x5 x6 = some r) :
    Pure Tryz.prog 35 [.agg #[.int .i64 x1, .slice a3 x2.1.length c4], .agg #[.int .i64 x5, .slice a7 x6.length c8]] [Sl (eI .u8) 1 (.slice a3 (x2.1 ++ x2.2).length c4) (x2.1 ++ x2.2), Sl (eI .u8) 1 (.slice a7 x6.length c8) x6] Unit (fun _ => .bool r) (fun _ => []) (fun _ => []) := by
 refine qk Tryz.func35 rfl Tryz.ntmps35 rfl hm (fun w => ?_)
 refine au [24,10] ?_
 refine qki 0 (qn .u8) rfl ?_
 refine au [3,5,24,6] ?_
 intro g9
 refine au [24,6] ?_
 intro g10
 refine au [4,0,2] ?_
 refine qm (fun ((x18, _) : (Bool × Unit)) => ([(4, .bool x18)], [], [], [], qax F x18)) ?_ ?_
 refine qT mixed [] [⟨g10, 25, [.int .i64 x5, .slice a7 x6.length c8]⟩, ⟨g9, 25, [.int .i64 x1, .slice a3 x2.1.length c4]⟩] [Sl (eI .u8) 1 (.slice a3 x2.1.length c4) x2.1, Sl (eI .u8) 1 (.slice a3 (x2.1 ++ x2.2).length c4) (x2.1 ++ x2.2), Sl (eI .u8) 1 (.slice a7 x6.length c8) x6] (.cons 0 rfl (.cons 0 rfl .nil)) (qz 0 rfl (qz 1 rfl (qz 2 rfl qL))) 19 rfl (zJ 0 (.agg #[.int .i64 x1, .slice a3 x2.1.length c4]) rfl rfl rfl (zQ (i := 1) rfl tf25 rfl rfl (by simp) rfl) (zJ 1 (.agg #[.int .i64 x5, .slice a7 x6.length c8]) rfl rfl rfl (zQ (i := 0) rfl tf25 rfl rfl (by simp) rfl) ?_))
 refine au [17,2,26,2] ?_
 intro x19 e19 _
 refine au [0,30,10,11,3] ?_
 refine qqJ ?_ ?_
 intro h20
 refine qo (d := 8) (v := .bool true) rfl (by rw [h20] <;> rfl) ?_
 refine au [25,3,4,28,11,5,25,3,6,25,11,7,27,7,8,11,9,25,3,11,25,11,12,27,7,13,17,10,25,4] ?_
 intro h22
 refine qhc (xs := x2.1) (ts := x2.2) (j := 1) (qn .u8) (by decide) (of_decide_eq_true h22) rfl Tryz.underlying23 tf5 rfl rfl rfl rfl ?_
 refine au [0,30,10,17,14] ?_
 refine vv (j := 1) (qn .u8) (by decide) rfl UnF.u inferInstance rfl rfl rfl rfl ?_
 intro x23 e23 b24 o25
 refine au [0,30,11,17,15,25,9,0,30,11,11,16,11,17,11,18,24,7] ?_
 exact qR (qc (((x23 : Int) == 77), ())) (by intro c h; cases h)
 intro h20
 refine qo (d := 8) (v := .bool false) rfl (by rw [h20] <;> rfl) ?_
 refine au [25,1,4,25,1,5,25,1,6,25,1,7,25,1,8,25,1,9,25,1,10,25,1,11,25,1,12,25,1,13,25,1,14,25,1,15,25,1,16,11,17,11,18,24,7] ?_
 exact qR (qc (false, ())) (by intro c h; cases h)
 rintro ⟨x18, _⟩
 try dsimp only
 exact az [9,16]
set_option maxHeartbeats 4000000 in
theorem qge {F : Nat} {x1 : List (Int × List Int)} {a2 : Option Addr} {c3 : Nat} {s3 : List (Option Addr × Nat)} {r : List (Int × List Int)} (hm : qay F x1 = some r) :
    PureM Tryz.prog 36 [.slice a2 x1.length c3] [] [RoN eN25 rN25 25 2 (.slice a2 x1.length c3) x1 s3 []] [] (List (Option Addr × Nat)) (fun _ => .tuple #[]) (fun _ => []) (fun g => [RoN eN25 rN25 25 2 (.slice a2 r.length c3) r g []]) := by
 refine k6 Tryz.func36 rfl Tryz.ntmps36 rfl hm (fun w => ?_)
 refine au [24,14,3,5,1,24,4,1,0,2,18] ?_
 refine qx (fun (((x151, x152), g150) : ((List (Int × List Int) × Int) × List (Option Addr × Nat))) => ([(5, .slice a2 x151.length c3), (6, .int .i64 (x1.length : Int)), (7, .int .i64 x152)], [], [RoN eN25 rN25 25 2 (.slice a2 x151.length c3) x151 g150 []], [])) (fun k (s : ((List (Int × List Int) × Int) × List (Option Addr × Nat))) => ze F x1 k s.1) ((x1, 0), s3) F ?_
 intro k299
 rintro ⟨⟨x151, x152⟩, g150⟩
 try dsimp only
 refine qN (m' := vf F x1 (ze F x1 k299) x151 x152) rfl ?_
 refine av [3,5,24,3,0,2,3,10] ?_ ?_
 intro _
 refine au [13,2] ?_
 refine qm (fun ((x373, g372) : (List (Int × List Int) × List (Option Addr × Nat))) => ([(5, .slice a2 x373.length c3), (6, .int .i64 (x1.length : Int)), (7, .int .i64 x152)], [], [RoN eN25 rN25 25 2 (.slice a2 x373.length c3) x373 g372 []], [], vg F (ze F x1 k299) x152 x373)) ?_ ?_
 refine au [18,3,5,28,1] ?_
 intro x374 e374 g375 h376 g377 h378
 refine qbS (i := 0) rfl h376 (List.not_mem_nil) (qaY (j := 1) (p := (x374, g375)) kR rfl rfl tf25 rfl h378 h376 rfl (by simp) rfl rfl ?_)
 refine au [23] ?_
 intro g379
 refine au [22,0,2,3,5,4,0,2,18] ?_
 refine qx (fun (((x394, x395), _) : ((Int × List Int) × Unit)) => ([(3, .pointer (some ⟨g379, 0, none⟩)), (4, .int .i64 x394), (5, .slice a2 x151.length c3), (6, .int .i64 (x1.length : Int)), (7, .int .i64 x152)], [⟨g379, 25, [.int .i64 x374.1, .slice g375.1 x395.length g375.2]⟩], [RoN eN25 rN25 25 2 (.slice a2 x151.length c3) x151 g150 [x152.toNat], Ro (eI .u8) 5 1 (.slice g375.1 x395.length g375.2) x395], [])) (fun k (s : ((Int × List Int) × Unit)) => km F (ze F x1 k299) x151 x152 x374 k s.1) ((0, x374.2), ()) F ?_
 intro k420
 rintro ⟨⟨x394, x395⟩, _⟩
 try dsimp only
 refine qN (m' := yO F (ze F x1 k299) x151 x152 x374 (km F (ze F x1 k299) x151 x152 x374 k420) x394 x395) rfl ?_
 refine av [3,3,5,1,24,11,25,2,24,4,24,3,0,2,10] ?_ ?_
 intro _
 refine au [13,2,3,18,5,24,11,25,2,1,30,12] ?_
 intro x433 e433 g434 h435
 refine kz (j := 1) (y' := 99) (qn .u8) rfl rfl rfl tf5 rfl h435 (qt e433).2.1 rfl (fun x436 e436 h437 => ?_)
 have h438 : x436.length = x395.length := by rw [← e436, List.length_set]
 refine qb (d := 13) (v := .slice g375.1 x436.length g375.2) rfl h437 (qb (d := 19) (v := .slice g375.1 x436.length g375.2) rfl h437 (vu (i := 0) (cs' := [.int .i64 x374.1, .slice g375.1 x436.length g375.2]) rfl (by rw [h437] <;> rfl) ?_))
 refine au [0,24,2,2,5,1,21,4,0] ?_
 exact qs ((iadd .i64 x394 1, x436), ())
 intro _
 refine au [24,8,20,20,24,9,24,2,28,2] ?_
 intro h439
 replace h439 := of_decide_eq_true h439
 refine qe0 (rin := rN25) (i := 0) (kh := 0) (y := (x374.1, x395)) (q := g375) (.cons 1 rfl .nil) rfl rfl h376 (by simp only [eN25, h439]) (fun x440 e440 h441 g443 => ?_)
 have h442 : x440.length = x151.length := by rw [← e440, List.length_set]
 exact qhg (d := 5) (v := .slice a2 x440.length c3) rfl (by rw [h441] <;> rfl) (qc (x440, g443))
 rintro ⟨x373, g372⟩
 try dsimp only
 refine au [5,21,1,0] ?_
 exact qs ((x373, iadd .i64 x152 1), g372)
 intro _
 refine au [24,8,20,20,24,9] ?_
 exact vN g150
set_option maxHeartbeats 4000000 in
theorem qir {F : Nat} {x1 : List Int} {a2 : Option Addr} {c3 : Nat} {x4 : List Int} {a5 : Option Addr} {c6 : Nat} {r : Bool} (hm : ka F x1 x4 = some r) :
    Pure Tryz.prog 97 [.slice a2 x1.length c3, .slice a5 x4.length c6] [Sl (eI .i64) 1 (.slice a2 x1.length c3) x1, Sl (eI .i64) 1 (.slice a5 x4.length c6) x4] Unit (fun _ => .bool r) (fun _ => []) (fun _ => []) := by
 refine qk Tryz.func97 rfl Tryz.ntmps97 rfl hm (fun w => ?_)
 refine av [24,10,3,5,4,0,2,3,3,5,1,24,4,1,24,4,24,15,0,2,10] ?_ ?_
 intro _
 exact az [3,5,4,0,2,9,12,16]
 intro _
 refine au [13,2] ?_
 refine qm (fun ((_, _) : (Unit × Unit)) => ([], [], [], [], qdT F)) ?_ ?_
 refine au [3,5,4,0,2,18] ?_
 refine qx (fun ((x154, _) : (Int × Unit)) => ([(0, .slice a2 x1.length c3), (1, .slice a5 x4.length c6), (5, .int .i64 x154)], [], [], [Sl (eI .i64) 1 (.slice a2 x1.length c3) x1, Sl (eI .i64) 1 (.slice a5 x4.length c6) x4])) (fun k (s : (Int × Unit)) => ko F x1 x4 k s.1) (0, ()) F ?_
 intro k191
 rintro ⟨x154, _⟩
 try dsimp only
 refine qN (m' := vA F x1 x4 (ko F x1 x4 k191) x154) rfl ?_
 refine av [3,3,5,1,1,24,4,24,3,0,2,10] ?_ ?_
 intro _
 refine au [13,2,3,18,3,28,12] ?_
 intro x218 e218 b219 o220 h221
 replace h221 : a2 = some ⟨b219, o220, none⟩ := h221
 refine au [28,13] ?_
 intro x222 e222 b223 o224 h225
 replace h225 : a5 = some ⟨b223, o224, none⟩ := h225
 refine qT mixed [] [] [qJ b223 (o224 + x154.toNat * 1) ((eI .i64) x222), qJ b219 (o220 + x154.toNat * 1) ((eI .i64) x218), Sl (eI .i64) 1 (.slice a2 x1.length c3) x1, Sl (eI .i64) 1 (.slice a5 x4.length c6) x4] .nil (qz 0 rfl (qz 1 rfl (qz 2 rfl (qz 3 rfl qL)))) 9 rfl ?_
 refine au [11,0,11,1] ?_
 refine qo (d := 17) (v := .slice (some ⟨b219, o220, none⟩) x1.length c3) rfl (by rw [h221] <;> rfl) (qj 2 (.pointer (some ⟨b219, (o220 + x154.toNat * 1), none⟩)) rfl rfl rfl (qak Tryz.underlying22 tf3 rfl rfl (qt e218).1 (kH e218)) (qo (d := 17) (v := .slice a2 x1.length c3) rfl (by rw [h221] <;> rfl) (zq 3 (.int .i64 x218) [] rfl rfl rfl (zN (j := 1) rfl tf3 rfl rfl (fun _ => rfl) rfl) ?_)))
 refine au [11,4,11,5] ?_
 refine qo (d := 21) (v := .slice (some ⟨b223, o224, none⟩) x4.length c6) rfl (by rw [h225] <;> rfl) (qj 6 (.pointer (some ⟨b223, (o224 + x154.toNat * 1), none⟩)) rfl rfl rfl (qak Tryz.underlying22 tf3 rfl rfl (qt e222).1 (kH e222)) (qo (d := 21) (v := .slice a5 x4.length c6) rfl (by rw [h225] <;> rfl) (zq 7 (.int .i64 x222) [] rfl rfl rfl (zN (j := 0) rfl tf3 rfl rfl (fun _ => rfl) rfl) ?_)))
 refine au [11,8,24,7] ?_
 refine qR ?_ (by intro c h; cases h)
 refine av [2,10] ?_ ?_
 intro _
 exact az [3,5,4,0,2,9,24,0,12,12,24,0,12,16]
 intro _
 refine au [13,24,2,2,5,1,21,4,0] ?_
 exact qs (iadd .i64 x154 1, ())
 intro _
 exact az [24,8,20,20,24,9,25,13]
 rintro ⟨_, _⟩
 try dsimp only
 exact az [3,5,4,0,2,9,16]
set_option maxHeartbeats 4000000 in
theorem qmT {F : Nat} {x1 : (List Int × List Int)} {a2 : Option Addr} {c3 : Nat} {x4 : List Int} {a5 : Option Addr} {c6 : Nat} {r : Bool} (hm : qd6 F x1 x4 = some r) :
    Pure Tryz.prog 37 [.slice a2 x1.1.length c3, .slice a5 x4.length c6] [Sl (eI .i64) 1 (.slice a2 (x1.1 ++ x1.2).length c3) (x1.1 ++ x1.2), Sl (eI .i64) 1 (.slice a5 x4.length c6) x4] Unit (fun _ => .bool r) (fun _ => []) (fun _ => []) := by
 refine qk Tryz.func37 rfl Tryz.ntmps37 rfl hm (fun w => ?_)
 refine au [24,10] ?_
 refine qki 0 (qn .i64) rfl ?_
 refine au [3,5,4,0,2,3,5,1,1,27,3] ?_
 intro x7 e7 _
 refine au [1] ?_
 refine qy 11 (fun ((x14, _) : (Bool × Unit)) => ([(19, .bool x14)], [], [], [], qcZ F x14)) ?_ ?_
 refine qa (os := _) rfl ?_
 refine av [24,12] ?_ ?_
 intro h8
 refine qg (k := 8) rfl h8 ?_
 refine au [1,1,24,4,21,25,4] ?_
 intro h16
 refine qhc (xs := x1.1) (ts := x1.2) (j := 1) (qn .i64) (by decide) (of_decide_eq_true h16) rfl Tryz.underlying22 tf3 rfl rfl rfl rfl ?_
 refine au [1,24,4,28,14] ?_
 intro x17 e17 b18 o19
 refine au [25,9,19,14,0] ?_
 exact qc (((x17 : Int) == 77), ())
 intro h8
 refine qf (k := 8) rfl h8 ?_
 refine au [6,6,6,6,6,6,6,6,6,6,15,0] ?_
 exact qc (false, ())
 rintro ⟨x14, _⟩
 try dsimp only
 refine qa (os := _) rfl ?_
 exact az [4,0,2,9,16]
set_option maxHeartbeats 4000000 in
theorem qis {F : Nat} {x1 : Int} {x2 : List Int} {a3 : Option Addr} {c4 : Nat} {r : Int} (hm : zE F x1 x2 = some r) :
    Pure Tryz.prog 110 [.agg #[.int .i64 x1, .slice a3 x2.length c4]] [Sl (eI .u8) 1 (.slice a3 x2.length c4) x2] Unit (fun _ => .int .i64 r) (fun _ => []) (fun _ => []) := by
 refine qk Tryz.func110 rfl Tryz.ntmps110 rfl hm (fun w => ?_)
 refine au [24,14,3,5,24,6] ?_
 intro g5
 refine au [4,0,2,3,18,3,5,24,11,25,2,24,3,1] ?_
 refine qi 4 (decide (x1 < 0)) [(1, .pointer (some ⟨g5, 0, none⟩)), (11, .bool ((decide (x1 < 0)) || (decide (8192 < x1))))] (fun h27 => ?_) (fun h27 => ?_) ?_
 refine qa (os := _) rfl (qg (k := 7) rfl h27 ?_)
 refine au [6,6,6,14] ?_
 refine qb (d := 11) (v := .bool ((decide (x1 < 0)) || (decide (8192 < x1)))) rfl (by rw [h27]; simp only [Bool.true_or]) ?_
 exact az [0,8]
 refine qa (os := _) rfl (qf (k := 7) rfl h27 ?_)
 refine au [24,11,25,2,24,13,15] ?_
 refine qb (d := 11) (v := .bool ((decide (x1 < 0)) || (decide (8192 < x1)))) rfl (by rw [h27]; simp only [Bool.false_or]) ?_
 exact az [0,8]
 refine qa (os := _) rfl ?_
 refine av [4,0,2,10] ?_ ?_
 intro _
 exact az [3,5,4,0,2,9,24,0,12,16]
 intro _
 refine av [3,5,24,11,25,2,24,4,24,11,25,2,21,28,15,24,15,4,0,2,10] ?_ ?_
 intro _
 exact az [3,5,4,0,2,9,24,0,12,16]
 intro _
 refine qm (fun ((x36, _) : (Bool × Unit)) => ([(21, .bool x36)], [], [], [], vB F x36)) ?_ ?_
 refine av [30,13] ?_ ?_
 intro h38
 refine au [30,8] ?_
 intro x39 e39 b40 o41 h42
 replace h42 : a3 = some ⟨b40, o41, none⟩ := h42
 refine au [26,9] ?_
 intro h43
 refine qT mixed [] [⟨g5, 25, [.int .i64 x1, .slice a3 x2.length c4]⟩] [qJ b40 (o41 + (isub .i64 (x2.length : Int) 1).toNat * 1) ((eI .u8) x39), Sl (eI .u8) 1 (.slice a3 x2.length c4) x2] (.cons 0 rfl .nil) (qz 0 rfl (qz 1 rfl qL)) 20 rfl ?_
 refine au [25,3,0,25,11,1] ?_
 refine qj 2 (.int .i64 (irem x1 8)) rfl rfl rfl (qhn rfl rfl rfl) ?_
 refine au [11,3,11,4] ?_
 refine qo (d := 26) (v := .bool true) rfl (by rw [h38] <;> rfl) ?_
 refine au [25,3,5,25,11,6,25,3,7,25,11,8,27,7,9,11,10] ?_
 refine qo (d := 28) (v := .slice (some ⟨b40, o41, none⟩) x2.length c4) rfl (by rw [h42] <;> rfl) (qj 11 (.pointer (some ⟨b40, (o41 + (isub .i64 (x2.length : Int) 1).toNat * 1), none⟩)) rfl rfl rfl (qak Tryz.underlying23 tf5 rfl rfl (qt e39).1 (kH e39)) (qo (d := 28) (v := .slice a3 x2.length c4) rfl (by rw [h42] <;> rfl) (zq 12 (.int .u8 x39) [] rfl rfl rfl (zN (j := 0) rfl tf5 rfl rfl (fun _ => rfl) rfl) ?_)))
 refine au [25,3,13,25,11,14] ?_
 refine qj 15 (.int .i64 (irem x1 8)) rfl rfl rfl (qhn rfl rfl rfl) (qj 16 (.int .u8 (ishl .u8 x39 (irem x1 8))) rfl rfl rfl (qf1 rfl rfl h43) ?_)
 refine au [11,17,11,18,11,19,24,7] ?_
 exact qR (qc ((((ishl .u8 x39 (irem x1 8)) : Int) != 0), ())) (by intro c h; cases h)
 intro h38
 refine qT mixed [] [⟨g5, 25, [.int .i64 x1, .slice a3 x2.length c4]⟩] [Sl (eI .u8) 1 (.slice a3 x2.length c4) x2] (.cons 0 rfl .nil) (qz 0 rfl qL) 20 rfl ?_
 refine au [25,3,0,25,11,1] ?_
 refine qj 2 (.int .i64 (irem x1 8)) rfl rfl rfl (qhn rfl rfl rfl) ?_
 refine au [11,3,11,4] ?_
 refine qo (d := 26) (v := .bool false) rfl (by rw [h38] <;> rfl) ?_
 refine au [25,1,5,25,1,6,25,1,7,25,1,8,25,1,9,25,1,10,25,1,11,25,1,12,25,1,13,25,1,14,25,1,15,25,1,16,25,1,17,11,18,11,19,24,7] ?_
 exact qR (qc (false, ())) (by intro c h; cases h)
 rintro ⟨x36, _⟩
 try dsimp only
 refine av [10] ?_ ?_
 intro _
 exact az [3,5,4,0,2,9,24,0,12,16]
 intro _
 exact az [13,24,2,2,3,5,4,0,2,9,16]
theorem qdb {F : Nat} {x1 : List Int} {a2 : Option Addr} {c3 : Nat} {r : List Int} (hm : kB F x1 = some r) :
    Pure Tryz.prog 235 [.slice a2 x1.length c3] [Sl (eI .u8) 1 (.slice a2 x1.length c3) x1] (Option Addr × Nat) (fun g => .slice g.1 r.length g.2) (fun g => [Ro (eI .u8) 5 1 (.slice g.1 r.length g.2) r]) (fun _ => []) := by
 refine qk Tryz.func235 rfl Tryz.ntmps235 rfl hm (fun w => ?_)
 refine au [24,14,3,5,4,0,2,3,3,5,1] ?_
 refine qmG rfl UnF.u rfl rfl rfl ?_
 refine au [0,2] ?_
 refine qbC rfl ?_ ?_
 intro h11
 refine qoh 0 (qn .u8) (by decide) rfl h11 (fun h12 => ?_)
 subst h12
 refine qN (m' := some ([] : List Int)) rfl ?_
 refine au [3,5,4,0,2,9,12,26,1] ?_
 exact zC (none, 0)
 intro _
 refine au [13,2,3,5] ?_
 refine qq (vs := []) (ys := ([] : List Int)) (qn .u8) (by decide) rfl UnF.u inferInstance rfl rfl rfl rfl rfl (by decide) ?_
 intro a6 c7
 refine au [1,28,10] ?_
 intro x8 e8 a9 c10
 refine au [4,0,2,9] ?_
 exact zC (a9, c10)
theorem qkv {F : Nat} {x1 : Int} {x2 : List Int} {a3 : Option Addr} {c4 : Nat} {r : (Int × List Int)} (hm : qcK F x1 x2 = some r) :
    PureM Tryz.prog 184 [.agg #[.int .i64 x1, .slice a3 x2.length c4]] [] [] [Sl (eI .u8) 1 (.slice a3 x2.length c4) x2] ((Option Addr × Nat) × Nat) (fun g => .pointer (some ⟨g.2, 0, none⟩)) (fun g => [⟨g.2, 172, [.int .i64 r.1, .slice g.1.1 r.2.length g.1.2]⟩]) (fun g => [Ro (eI .u8) 5 1 (.slice g.1.1 r.2.length g.1.2) r.2]) := by
 refine k6 Tryz.func184 rfl Tryz.ntmps184 rfl hm (fun w => ?_)
 refine au [24,14,3,5,24,6] ?_
 intro g5
 refine au [4,0,2,3] ?_
 refine qT mixed [] [⟨g5, 25, [.int .i64 x1, .slice a3 x2.length c4]⟩] [Sl (eI .u8) 1 (.slice a3 x2.length c4) x2] (.cons 0 rfl .nil) (qz 0 rfl qL) 9 rfl ?_
 refine au [25,3,0,25,11,1,25,3,2,25,11,3,17,4] ?_
 refine qh qdb ?_
 rintro x10 e10 ⟨a11, c12⟩
 refine au [0,26,12] ?_
 refine qj 5 (.agg #[.int .i64 x1, .slice a11 x10.length c12]) rfl rfl rfl (qbE (cells := [.int .i64 x1, .slice a11 x10.length c12]) st25 rfl (by kernel_rfl)) (qj 6 (.agg #[.int .i64 x1, .slice a11 x10.length c12]) rfl rfl rfl (qbE (cells := [.int .i64 x1, .slice a11 x10.length c12]) st172 rfl (by kernel_rfl)) ?_)
 refine au [17,7,24,6] ?_
 intro g13
 refine au [0,26,0,11,8,24,7] ?_
 refine qR ?_ (by intro c h; cases h)
 refine au [2,9] ?_
 exact vN ((a11, c12), g13)
set_option maxHeartbeats 4000000 in
theorem qe2 {F : Nat} {g1 : Nat} {x2 : Int} {x3 : List Int} {a4 : Option Addr} {c5 : Nat} {x6 : Int} {r : (Int × List Int)} (hm : kJ F x2 x3 x6 = some r) :
    PureM Tryz.prog 114 [.pointer (some ⟨g1, 0, none⟩), .int .u64 x6] [⟨g1, 172, [.int .i64 x2, .slice a4 x3.length c5]⟩] [Ro (eI .u8) 5 1 (.slice a4 x3.length c5) x3] [] (Option Addr × Nat) (fun _ => .tuple #[]) (fun g => [⟨g1, 172, [.int .i64 r.1, .slice g.1 r.2.length g.2]⟩]) (fun g => [Ro (eI .u8) 5 1 (.slice g.1 r.2.length g.2) r.2]) := by
 refine k6 Tryz.func114 rfl Tryz.ntmps114 rfl hm (fun w => ?_)
 refine au [24,10] ?_
 refine qm (fun ((x15, (a13, c14)) : (List Int × (Option Addr × Nat))) => ([(0, .pointer (some ⟨g1, 0, none⟩)), (1, .int .u64 x6)], [⟨g1, 172, [.int .i64 x2, .slice a13 x15.length c14]⟩], [Ro (eI .u8) 5 1 (.slice a13 x15.length c14) x15], [], kD F x2 x6 x15)) ?_ ?_
 refine av [3,5,1,26,13,24,11,24,11,25,2,29,0,19,0,2,10] ?_ ?_
 intro _
 refine au [5,1,1,26,13,24,11,24,11,25,2] ?_
 refine qq (vs := [.int .u8 0]) (ys := ([0] : List Int)) (qn .u8) (by decide) rfl Tryz.underlying23 tf5 rfl rfl rfl rfl rfl (by decide) (fun a44 c45 => yo 1 (qn .u8) rfl Tryz.underlying23 tf5 rfl rfl rfl rfl rfl (.inl ⟨0, _, rfl⟩) rfl rfl (fun x46 e46 a47 c48 => ?_))
 refine au [26,13,24,11,24,11,22,0] ?_
 exact qc (x46, (a47, c48))
 intro _
 refine au [13] ?_
 exact qc (x3, (a4, c5))
 rintro ⟨x15, ⟨a13, c14⟩⟩
 try dsimp only
 refine au [3,27,4] ?_
 intro x30 e30 g31 h32
 replace h32 : a13 = some ⟨g31, 0, none⟩ := h32
 have h33 := qaV (k := x15.length) (c := c14) h32
 refine au [26,9] ?_
 intro h34
 refine au [27,4] ?_
 intro x36 e36 g37 h38
 replace h38 : a13 = some ⟨g37, 0, none⟩ := h38
 have h39 := qaV (k := x15.length) (c := c14) h38
 refine qT mixed [25] [⟨g1, 172, [.int .i64 x2, .slice a13 x15.length c14]⟩] [qJ g31 ((iquo .i64 x2 8).toNat * 1) ((eI .u8) x30), qJ g37 ((iquo .i64 x2 8).toNat * 1) ((eI .u8) x36)] (.cons 0 rfl .nil) (qeE 0 rfl (qdC (qn .u8) e30 h32) (qeE 0 rfl (qdC (qn .u8) e36 h38) qL)) 26 rfl ?_
 refine au [11,0,11,1,25,3,2,25,3,3,25,11,4,11,5,11,6,25,3,7,25,3,8,25,11,9] ?_
 refine qj 10 (.int .i64 (iquo .i64 x2 8)) rfl rfl rfl (qoN rfl rfl rfl) (qo (d := 26) (v := .slice (some ⟨g31, 0, none⟩) x15.length c14) rfl (by rw [h32] <;> rfl) (qj 11 (.pointer (some ⟨g31, (iquo .i64 x2 8).toNat * 1, none⟩)) rfl rfl rfl (qbG Tryz.underlying23 tf5 rfl rfl (qt e30).1 (kH e30)) (qo (d := 26) (v := .slice a13 x15.length c14) rfl (by rw [h32] <;> rfl) (zq 12 (.int .u8 x30) [[25]] rfl rfl rfl (zN (j := 0) rfl tf5 rfl rfl (fun _ => rfl) rfl) ?_))))
 refine au [11,13] ?_
 refine qj 14 (.int .u64 (ishl .u64 x6 7)) rfl rfl rfl (qf1 rfl rfl rfl) (qj 15 _ rfl rfl rfl (qpT UnF.u UnF.u rfl) ?_)
 refine au [11,16,11,17,25,3,18,25,3,19,25,11,20] ?_
 refine qj 21 (.int .i64 (irem x2 8)) rfl rfl rfl (qhn rfl rfl rfl) (qj 22 (.int .u8 (ishr .u8 (iconv .u8 (ishl .u64 x6 7)) (irem x2 8))) rfl rfl rfl (qqV rfl rfl h34) ?_)
 refine au [11,23] ?_
 refine qo (d := 26) (v := .slice (some ⟨g37, 0, none⟩) x15.length c14) rfl (by rw [h38] <;> rfl) (qj 24 (.pointer (some ⟨g37, (iquo .i64 x2 8).toNat * 1, none⟩)) rfl rfl rfl (qbG Tryz.underlying23 tf5 rfl rfl (qt e36).1 (kH e36)) (qo (d := 26) (v := .slice a13 x15.length c14) rfl (by rw [h38] <;> rfl) ?_))
 refine au [17,25] ?_
 refine kz (j := 0) (y' := ior .u8 x30 (ishr .u8 (iconv .u8 (ishl .u64 x6 7)) (irem x2 8))) (qn .u8) rfl rfl rfl tf5 rfl (qaV h38) (qt e36).2.1 rfl (fun x41 e41 h42 => ?_)
 have h43 : x41.length = x15.length := by rw [← e41, List.length_set]
 refine qb (d := 26) (v := .slice a13 x41.length c14) rfl h42 (vu (i := 0) (cs' := [.int .i64 x2, .slice a13 x41.length c14]) rfl (by rw [h42] <;> rfl) ?_)
 refine au [0] ?_
 refine qdu 25 rfl (by kernel_rfl) (.cons 0 (by rw [h43]; rfl) .nil) ?_
 refine au [24,7] ?_
 refine qR ?_ (by intro c h; cases h)
 refine au [2,5,1,26,13,24,11,24,11,25,2,21,26,13,24,11,24,11,22,0] ?_
 exact vN (a13, c14)
theorem qd3 {F : Nat} {g1 : Nat} {x2 : Int} {x3 : List Int} {a4 : Option Addr} {c5 : Nat} {x6 : Int} {x7 : Int} {r : (Int × List Int)} (hm : yB F x2 x3 x6 x7 = some r) :
    PureM Tryz.prog 185 [.pointer (some ⟨g1, 0, none⟩), .int .u64 x6, .int .i64 x7] [⟨g1, 172, [.int .i64 x2, .slice a4 x3.length c5]⟩] [Ro (eI .u8) 5 1 (.slice a4 x3.length c5) x3] [] (Option Addr × Nat) (fun _ => .tuple #[]) (fun g => [⟨g1, 172, [.int .i64 r.1, .slice g.1 r.2.length g.2]⟩]) (fun g => [Ro (eI .u8) 5 1 (.slice g.1 r.2.length g.2) r.2]) := by
 refine k6 Tryz.func185 rfl Tryz.ntmps185 rfl hm (fun w => ?_)
 refine au [25,8,3,5,1,25,0,4,0,2,18] ?_
 refine qx (fun (((x18, x19, x22), (a20, c21)) : ((Int × Int × List Int) × (Option Addr × Nat))) => ([(0, .pointer (some ⟨g1, 0, none⟩)), (1, .int .u64 x6), (6, .int .i64 x18)], [⟨g1, 172, [.int .i64 x19, .slice a20 x22.length c21]⟩], [Ro (eI .u8) 5 1 (.slice a20 x22.length c21) x22], [])) (fun k (s : ((Int × Int × List Int) × (Option Addr × Nat))) => zH F x6 k s.1) ((isub .i64 x7 1, x2, x3), (a4, c5)) F ?_
 intro k33
 rintro ⟨⟨x18, x19, x22⟩, ⟨a20, c21⟩⟩
 try dsimp only
 refine qN (m' := zG F x6 (zH F x6 k33) x18 x19 x22) rfl ?_
 refine av [3,3,5,1,25,5,0,2,10] ?_ ?_
 intro _
 refine au [13,2,3,18,5,1,1,1,25,4] ?_
 intro h39
 refine qgt rfl rfl rfl rfl h39 ?_
 refine au [27,9,29,1] ?_
 rintro x40 e40 ⟨a41, c42⟩
 refine au [0,24,2,2,5,1,25,0,4,0] ?_
 exact qs ((isub .i64 x18 1, x40.1, x40.2), (a41, c42))
 intro _
 refine au [24,8,20,20,24,9] ?_
 exact vN (a20, c21)
theorem qkt {F : Nat} {x1 : Int} {x2 : List Int} {a3 : Option Addr} {c4 : Nat} {x5 : Int} {x6 : Int} {r : (Int × List Int)} (hm : kb F x1 x2 x5 x6 = some r) :
    Pure Tryz.prog 111 [.agg #[.int .i64 x1, .slice a3 x2.length c4], .int .u64 x5, .int .i64 x6] [Sl (eI .u8) 1 (.slice a3 x2.length c4) x2] (Option Addr × Nat) (fun g => .agg #[.int .i64 r.1, .slice g.1 r.2.length g.2]) (fun g => [Ro (eI .u8) 5 1 (.slice g.1 r.2.length g.2) r.2]) (fun _ => []) := by
 refine qk Tryz.func111 rfl Tryz.ntmps111 rfl hm (fun w => ?_)
 refine au [25,8,3,5,24,6] ?_
 intro g7
 refine au [23] ?_
 intro g8
 refine au [0,2,3,5,25,14,30,14] ?_
 rintro x9 e9 ⟨⟨a10, c11⟩, g12⟩
 refine au [4,0,2,3,5,1,1,1] ?_
 refine kU qd3 ?_
 rintro x13 e13 ⟨a14, c15⟩
 refine au [0,2,3,5,1,26,13,24,11,24,5,25,6,0,2,9] ?_
 exact qI (a14, c15) (resL (rs := [.cell 6 25]) rfl (.cell (i := 1) rfl tf25 rfl rfl (by simp) rfl ResOk.nil) rfl) (fun h => by subst h; exact (.cons 0 rfl .nil))
set_option maxHeartbeats 4000000 in
theorem qgy (F : Nat) (x1 : Int) (x2 : List Int) (a3 : Option Addr) (c4 : Nat) (x5 : Int) (x6 : Int) (r : (Int × List Int × Int)) (hm : qbM F x1 x2 x5 x6 = some r) :
    Pure Tryz.prog 38 [.agg #[.int .i64 x1, .slice a3 x2.length c4], .int .u64 x5, .int .i64 x6] [Sl (eI .u8) 1 (.slice a3 x2.length c4) x2] (Option Addr × Nat) (fun g => .tuple #[.agg #[.int .i64 r.1, .slice g.1 r.2.1.length g.2], .int .i64 r.2.2]) (fun g => [Ro (eI .u8) 5 1 (.slice g.1 r.2.1.length g.2) r.2.1]) (fun _ => []) := by
 refine qk Tryz.func38 rfl Tryz.ntmps38 rfl hm (fun w => ?_)
 refine au [25,8,3,5,24,6] ?_
 intro g7
 refine au [23] ?_
 intro g8
 refine au [4,0,2,3,5,25,14,26,8] ?_
 intro x9 e9 _
 refine au [4,0,2] ?_
 refine qm (fun ((x24, _) : (Int × Unit)) => ([(1, .int .u64 x5), (2, .int .i64 x6), (3, .pointer (some ⟨g7, 0, none⟩)), (6, .pointer (some ⟨g8, 0, none⟩)), (8, .int .i64 x24)], [⟨g8, 25, [.int .i64 0, .slice none 0 0]⟩, ⟨g7, 25, [.int .i64 x1, .slice a3 x2.length c4]⟩], [], [Sl (eI .u8) 1 (.slice a3 x2.length c4) x2], yJ F x1 x2 x5 x6 x24)) ?_ ?_
 refine av [18,3,5,1,24,15,4,0,2,10] ?_ ?_
 intro _
 refine au [13,24,2] ?_
 exact qc (x9, ())
 intro _
 refine au [3,5,1,24,3,1] ?_
 refine qi 3 (decide (x6 < 0)) [(1, .int .u64 x5), (2, .int .i64 x6), (3, .pointer (some ⟨g7, 0, none⟩)), (6, .pointer (some ⟨g8, 0, none⟩)), (8, .int .i64 x9), (20, .bool ((decide (x6 < 0)) || (decide (64 < x6))))] (fun h30 => ?_) (fun h30 => ?_) ?_
 refine qa (os := _) rfl (qg (k := 17) rfl h30 ?_)
 refine au [6,6,14] ?_
 refine qb (d := 20) (v := .bool ((decide (x6 < 0)) || (decide (64 < x6)))) rfl (by rw [h30]; simp only [Bool.true_or]) ?_
 exact az [0,8]
 refine qa (os := _) rfl (qf (k := 17) rfl h30 ?_)
 refine au [1,24,13,15] ?_
 refine qb (d := 20) (v := .bool ((decide (x6 < 0)) || (decide (64 < x6)))) rfl (by rw [h30]; simp only [Bool.false_or]) ?_
 exact az [0,8]
 refine qa (os := _) rfl ?_
 refine au [1] ?_
 refine qy 9 (fun ((x36, _) : (Bool × Unit)) => ([(1, .int .u64 x5), (2, .int .i64 x6), (3, .pointer (some ⟨g7, 0, none⟩)), (6, .pointer (some ⟨g8, 0, none⟩)), (8, .int .i64 x9), (30, .bool x36)], [⟨g8, 25, [.int .i64 0, .slice none 0 0]⟩, ⟨g7, 25, [.int .i64 x1, .slice a3 x2.length c4]⟩], [], [Sl (eI .u8) 1 (.slice a3 x2.length c4) x2], qam F x1 x2 x5 x6 x9 x36)) ?_ ?_
 refine qa (os := _) rfl ?_
 refine av [24,12] ?_ ?_
 intro h31
 refine qg (k := 21) rfl h31 ?_
 refine au [6,6,6,6,6,6,6,6,14,0] ?_
 exact qc (true, ())
 intro h31
 refine qf (k := 21) rfl h31 ?_
 refine au [1,24,3,1] ?_
 refine qy 5 (fun ((x41, _) : (Bool × Unit)) => ([(1, .int .u64 x5), (2, .int .i64 x6), (3, .pointer (some ⟨g7, 0, none⟩)), (6, .pointer (some ⟨g8, 0, none⟩)), (8, .int .i64 x9), (21, .bool false), (29, .bool x41)], [⟨g8, 25, [.int .i64 0, .slice none 0 0]⟩, ⟨g7, 25, [.int .i64 x1, .slice a3 x2.length c4]⟩], [], [Sl (eI .u8) 1 (.slice a3 x2.length c4) x2], qdg F x1 x2 x5 x6 x9 x41)) ?_ ?_
 refine qa (os := _) rfl ?_
 refine av [24,12] ?_ ?_
 intro h39
 refine qg (k := 24) rfl h39 ?_
 refine au [1,1,25,4] ?_
 intro h42
 refine qgt rfl rfl rfl rfl h42 ?_
 refine au [24,15,14,0] ?_
 exact qc ((((ishr .u64 x5 x6) : Int) != 0), ())
 intro h39
 refine qf (k := 24) rfl h39 ?_
 refine au [6,6,6,6,15,0] ?_
 exact qc (false, ())
 rintro ⟨x41, _⟩
 try dsimp only
 refine qa (os := _) rfl ?_
 refine au [15,0] ?_
 exact qc (x41, ())
 rintro ⟨x36, _⟩
 try dsimp only
 refine qa (os := _) rfl ?_
 refine av [4,0,2,10] ?_ ?_
 intro _
 refine au [5,4,0,24,2] ?_
 exact qc ((3 : Int), ())
 intro _
 refine av [3,5,24,11,26,7,1,21,24,13,4,0,2,10] ?_ ?_
 intro _
 refine au [5,4,0,24,2] ?_
 exact qc ((8 : Int), ())
 intro _
 refine au [13,24,2] ?_
 exact qc (x9, ())
 rintro ⟨x24, _⟩
 try dsimp only
 refine av [3,3,5,1,24,15,0,2,10] ?_ ?_
 intro _
 refine au [3,5] ?_
 refine qH (cells := [.int .i64 0, .slice none 0 0]) rfl st25 rfl (by kernel_rfl) rfl ?_
 refine au [1,22,4,0,2,9,12,26,1] ?_
 exact qI (none, 0) (resL (rs := [.cell 6 25, .tmp 7]) rfl (.cell (i := 0) rfl tf25 rfl rfl (by simp) rfl (.tmp rfl ResOk.nil)) rfl) (fun h => by subst h; exact (.cons 0 rfl .nil))
 intro _
 refine au [13,2,3,5,25,14,1,1,26,10] ?_
 rintro x26 e26 ⟨a27, c28⟩
 refine au [22,4,0,2,9] ?_
 exact qI (a27, c28) (resL (rs := [.cell 6 25, .tmp 7]) rfl (.cell (i := 0) rfl tf25 rfl rfl (by simp) rfl (.tmp rfl ResOk.nil)) rfl) (fun h => by subst h; exact (.cons 0 rfl .nil))
theorem qhr {F : Nat} {x1 : Int} {x2 : List Int} {a3 : Option Addr} {c4 : Nat} {x5 : Int} {x6 : Int} {r : Unit} (hm : qan F x1 x2 x5 x6 = some r) :
    PureM Tryz.prog 113 [.agg #[.int .i64 x1, .slice a3 x2.length c4], .int .i64 x5, .int .i64 x6] [] [] [Sl (eI .u8) 1 (.slice a3 x2.length c4) x2] (Nat × Nat × Nat) (fun g => .func (.func 186) #[] #[.pointer (some ⟨g.1, 0, none⟩), .pointer (some ⟨g.2.1, 0, none⟩), .pointer (some ⟨g.2.2, 0, none⟩)]) (fun g => [⟨g.1, 3, [.int .i64 x5]⟩, ⟨g.2.1, 3, [.int .i64 x6]⟩, ⟨g.2.2, 25, [.int .i64 x1, .slice a3 x2.length c4]⟩]) (fun _ => []) := by
 refine k6 Tryz.func113 rfl Tryz.ntmps113 rfl hm (fun w => ?_)
 refine au [25,8,3,5,24,6] ?_
 intro g7
 refine au [24,6] ?_
 intro g8
 refine au [24,6] ?_
 intro g9
 refine au [4,0,2,3,5,29,2,4,0,2,9] ?_
 exact vN (g8, g9, g7)
theorem ql8 {F : Nat} {x1 : Int} {x2 : List Int} {a3 : Option Addr} {c4 : Nat} {x5 : Int} {r : Int} (hm : vH F x1 x2 x5 = some r) :
    Pure Tryz.prog 187 [.agg #[.int .i64 x1, .slice a3 x2.length c4], .int .i64 x5] [Sl (eI .u8) 1 (.slice a3 x2.length c4) x2] Unit (fun _ => .int .u64 r) (fun _ => []) (fun _ => []) := by
 refine qk Tryz.func187 rfl Tryz.ntmps187 rfl hm (fun w => ?_)
 refine au [24,10,3,5,24,6] ?_
 intro g6
 refine au [4,0,2,3,5,24,11,25,2,1,28,15,30,15] ?_
 intro x7 e7 b8 o9
 refine au [25,9,1,29,0,25,0,25,4] ?_
 intro h10
 refine qgt rfl rfl rfl rfl h10 ?_
 refine au [25,10,27,9,4,26,4] ?_
 intro x11 e11
 refine qb (d := 4) (v := .int .u64 x11) rfl (by rw [e11] <;> rfl) ?_
 exact az [0,2,9,16]
theorem qdS (F : Nat) {σ τ : Type} {J : Rounds σ τ} {yy : σ → Int → Option (σ ⊕ τ)} {L : Nat} (hY : YieldC Tryz.prog L (fun (p : Int) => [.int .u64 p]) J yy) (s0 : σ) (gs0 : J.γ) (g1 : Nat) (x2 : Int) (g3 : Nat) (x4 : Int) (g5 : Nat) (x6 : Int) (x7 : List Int) (a8 : Option Addr) (c9 : Nat) (r : σ ⊕ τ) (hm : vC F yy x2 x4 x6 x7 s0 = some r) :
    PureM Tryz.prog 186 ([.func (.yield L) #[] #[], .pointer (some ⟨g1, 0, none⟩), .pointer (some ⟨g3, 0, none⟩), .pointer (some ⟨g5, 0, none⟩)]) ([⟨g1, 3, [.int .i64 x2]⟩, ⟨g3, 3, [.int .i64 x4]⟩, ⟨g5, 25, [.int .i64 x6, .slice a8 x7.length c9]⟩] ++ J.IB s0 gs0) (J.IR s0 gs0) [J.F, Sl (eI .u8) 1 (.slice a8 x7.length c9) x7] (J.G r) (fun _ => .tuple #[]) (fun g => [⟨g1, 3, [.int .i64 x2]⟩, ⟨g3, 3, [.int .i64 x4]⟩, ⟨g5, 25, [.int .i64 x6, .slice a8 x7.length c9]⟩] ++ J.bs r g) (fun g => J.rs r g) := by
 refine k6 Tryz.func186 rfl Tryz.ntmps186 rfl hm (fun w => qob ?_)
 refine au [3,5,25,2,4,0,2,18] ?_
 refine qcE (fun (((x22, x23), g24) : ((Int × σ) × J.γ)) => [(0, .func (.yield L) #[] #[]), (2, .pointer (some ⟨g3, 0, none⟩)), (3, .pointer (some ⟨g5, 0, none⟩)), (5, .int .i64 x22)]) (fun (((x22, x23), g24) : ((Int × σ) × J.γ)) => [⟨g1, 3, [.int .i64 x2]⟩, ⟨g3, 3, [.int .i64 x4]⟩, ⟨g5, 25, [.int .i64 x6, .slice a8 x7.length c9]⟩] ++ J.IB x23 g24) (fun (((x22, x23), g24) : ((Int × σ) × J.γ)) => [] ++ J.IR x23 g24) (fun (((x22, x23), g24) : ((Int × σ) × J.γ)) => [Sl (eI .u8) 1 (.slice a8 x7.length c9) x7, J.F]) (fun k (s : ((Int × σ) × J.γ)) => zu F yy x4 x6 x7 k s.1) ((x2, s0), gs0) F ?_ (hB := (.cons 0 rfl (.cons 0 rfl (.cons 0 rfl (zP 0 rfl))))) (hR := (zP 0 rfl)) (hF := (qe 1 rfl (qe 0 rfl zi)))
 intro k37
 rintro ⟨⟨x22, x23⟩, g24⟩
 try dsimp only
 refine qN (m' := vh F yy x4 x6 x7 (zu F yy x4 x6 x7 k37) x22 x23) rfl ?_
 refine av [3,3,5,1,26,7,24,3,0,2,10] ?_ ?_
 intro _
 refine au [13,2,3,18,3,5,1,26,5,1,27,5] ?_
 intro x44 e44 _
 refine qih hY x23 x44 g24 (B1 := [⟨g1, 3, [.int .i64 x2]⟩, ⟨g3, 3, [.int .i64 x4]⟩, ⟨g5, 25, [.int .i64 x6, .slice a8 x7.length c9]⟩]) (R1 := []) (j := 1) rfl rfl rfl rfl rfl rfl rfl (fun x45 _ g47 => ?_) (fun x46 _ g47 => ?_)
 refine au [25,7,0,2] ?_
 refine qbC (b := false) rfl (fun h => by cases h) (fun _ => ?_)
 refine au [13,24,2,2,5,1,21,4,0] ?_
 exact jz ((iadd .i64 x22 1, x45), g47) (hB := (.cons 0 rfl (.cons 0 rfl (.cons 0 rfl (zP 0 rfl))))) (hR := (zP 0 rfl)) (hF := (qe 0 rfl (qe 1 rfl zi)))
 refine au [25,7,0,2] ?_
 refine qbC (b := true) rfl (fun _ => ?_) (fun h => by cases h)
 refine au [9,24,0,12,12,24,0] ?_
 exact qdv (B0 := [⟨g1, 3, [.int .i64 x2]⟩, ⟨g3, 3, [.int .i64 x4]⟩, ⟨g5, 25, [.int .i64 x6, .slice a8 x7.length c9]⟩]) (x := .inr x46) g47 (.inl rfl) (res0 rfl) (.cons 0 rfl (.cons 0 rfl (.cons 0 rfl (zP 0 rfl)))) (zP 0 rfl)
 intro _
 refine au [24,8,20,20,24,9] ?_
 exact qdv (B0 := [⟨g1, 3, [.int .i64 x2]⟩, ⟨g3, 3, [.int .i64 x4]⟩, ⟨g5, 25, [.int .i64 x6, .slice a8 x7.length c9]⟩]) (x := .inl x23) g24 (.inr rfl) (res0 rfl) (.cons 0 rfl (.cons 0 rfl (.cons 0 rfl (zP 0 rfl)))) (zP 0 rfl)
set_option maxHeartbeats 4000000 in
theorem qjj {F : Nat} {x1 : Int} {x2 : List Int} {a3 : Option Addr} {c4 : Nat} {x5 : Int} {x6 : List Int} {a7 : Option Addr} {c8 : Nat} {r : (Int × List Int)} (hm : jl F x1 x2 x5 x6 = some r) :
    PureM Tryz.prog 112 [.agg #[.int .i64 x1, .slice a3 x2.length c4], .agg #[.int .i64 x5, .slice a7 x6.length c8]] [] [] [Sl (eI .u8) 1 (.slice a3 x2.length c4) x2, Sl (eI .u8) 1 (.slice a7 x6.length c8) x6] (Option Addr × Nat) (fun g => .agg #[.int .i64 r.1, .slice g.1 r.2.length g.2]) (fun _ => []) (fun g => [Ro (eI .u8) 5 1 (.slice g.1 r.2.length g.2) r.2]) := by
 refine qg0 Tryz.func112 rfl Tryz.ntmps112 rfl hm (fun w => ?_)
 refine au [24,10,3,5,24,6] ?_
 intro g9
 refine au [24,6] ?_
 intro g10
 refine au [23] ?_
 intro g11
 refine au [0,2,3,5,26,5,30,14] ?_
 rintro x12 e12 ⟨⟨a13, c14⟩, g15⟩
 refine au [23] ?_
 intro g16
 refine au [22,0,2,3,3,5,26,15,24,11] ?_
 refine zh (i := 3) rfl rfl inferInstance rfl rfl (fun _ => rfl) rfl rfl ?_
 refine au [31,0] ?_
 rintro x37 e37 ⟨g38, g39, g40⟩
 refine au [0,2,18] ?_
 refine qfU (encs := (fun (p : Int) => [.int .u64 p])) (y := (fun ((x45, x48) : (Int × List Int)) (x53 : Int) => jm F x45 x48 x53)) (lb := [.pointer (some ⟨g38, 0, none⟩), .pointer (some ⟨g39, 0, none⟩), .pointer (some ⟨g40, 0, none⟩)]) (fun ((x45, x48) : (Int × List Int)) ((a46, c47) : (Option Addr × Nat)) => [⟨g16, 170, [.pointer (some ⟨g15, 0, none⟩)]⟩, ⟨g15, 172, [.int .i64 x45, .slice a46 x48.length c47]⟩, ⟨g11, 25, [.int .i64 0, .slice none 0 0]⟩, ⟨g10, 25, [.int .i64 x5, .slice a7 x6.length c8]⟩, ⟨g9, 25, [.int .i64 x1, .slice a3 x2.length c4]⟩]) (fun ((x45, x48) : (Int × List Int)) ((a46, c47) : (Option Addr × Nat)) => [Ro (eI .u8) 5 1 (.slice a46 x48.length c47) x48]) (fun (_ : Empty) (_ : Unit) => []) (fun (_ : Empty) (_ : Unit) => []) (fun _ => .skip) (x12.1, x12.2) (a13, c14) rfl ent186 (fun _ => rfl) rfl (.cons 0 rfl (.cons 0 rfl (.cons 0 rfl .nil))) (.cons 0 rfl (.cons 0 rfl (.cons 0 rfl (.cons 0 rfl (.cons 0 rfl .nil))))) (.cons 0 rfl .nil) (.consF 1 rfl .nil) (fun z hz _ _ _ hY => qdS F hY (x12.1, x12.2) (a13, c14) g38 0 g39 x5 g40 x5 x6 a7 c8 z hz) ?_ ?_ ?_
 rintro rc1 L1 D1 ⟨x45, x48⟩ ⟨a46, c47⟩ x53 z w M _
 try dsimp only
 refine qg9 [(0, .agg #[.int .i64 x1, .slice a3 x2.length c4]), (1, .agg #[.int .i64 x5, .slice a7 x6.length c8]), (2, .pointer (some ⟨g9, 0, none⟩)), (3, .pointer (some ⟨g10, 0, none⟩)), (4, .pointer (some ⟨g11, 0, none⟩)), (5, .pointer (some ⟨g16, 0, none⟩)), (7, .agg #[.int .i64 x1, .slice a3 x2.length c4]), (8, .pointer (some ⟨g15, 0, none⟩)), (9, .agg #[.int .i64 x5, .slice a7 x6.length c8]), (10, .pointer (some ⟨g10, 0, none⟩)), (11, .int .i64 x5), (12, .func (.func 186) #[] #[.pointer (some ⟨g38, 0, none⟩), .pointer (some ⟨g39, 0, none⟩), .pointer (some ⟨g40, 0, none⟩)]), (13, .int .u64 x53)] (qS rfl (qS rfl (qS rfl (qS rfl (qS rfl (qS rfl (qS rfl (qS rfl (qS rfl (qS rfl (qS rfl (qS rfl (qS rfl qeU))))))))))))) ?_
 refine au [5,4,0] ?_
 refine qfW (i := 5) rfl ?_
 refine au [18,5,25,2,1,29,1] ?_
 rintro x54 e54 ⟨a55, c56⟩
 refine au [0,24,2] ?_
 exact qeC (rc := rc1) rfl (.cons 5 rfl .nil) rfl (a55, c56) (.cons 2 rfl (.cons 1 rfl (.cons 1 rfl (.cons 1 rfl (.cons 1 rfl (.cons 0 rfl (.cons 0 rfl .nil))))))) (.cons 0 rfl .nil)
 rintro ⟨x45, x48⟩ _ ⟨a46, c47⟩ D1
 try dsimp only
 refine au [24,2,2,3,5,29,3,26,13,24,11,29,4,31,1,0,2,9] ?_
 exact qcG [D1] (a46, c47) (.inl rfl) rfl (.cons 0 rfl .nil) (resL (rs := [.cell 4 25]) rfl (.cell (i := 5) rfl tf25 rfl rfl (by simp) rfl ResOk.nil) rfl) (fun h => by subst h; rfl) (fun h => by subst h; exact .nil) (fun h => by subst h; exact (.cons 0 rfl .nil))
 intro t; exact t.elim
set_option maxHeartbeats 4000000 in
theorem qf2 (F : Nat) (x1 : Int) (x2 : List Int) (a3 : Option Addr) (c4 : Nat) (x5 : Int) (x6 : List Int) (a7 : Option Addr) (c8 : Nat) (r : (Int × List Int × Int)) (hm : qbZ F x1 x2 x5 x6 = some r) :
    Pure Tryz.prog 39 [.agg #[.int .i64 x1, .slice a3 x2.length c4], .agg #[.int .i64 x5, .slice a7 x6.length c8]] [Sl (eI .u8) 1 (.slice a3 x2.length c4) x2, Sl (eI .u8) 1 (.slice a7 x6.length c8) x6] (Option Addr × Nat) (fun g => .tuple #[.agg #[.int .i64 r.1, .slice g.1 r.2.1.length g.2], .int .i64 r.2.2]) (fun g => [Ro (eI .u8) 5 1 (.slice g.1 r.2.1.length g.2) r.2.1]) (fun _ => []) := by
 refine qk Tryz.func39 rfl Tryz.ntmps39 rfl hm (fun w => ?_)
 refine au [24,10,3,5,24,6] ?_
 intro g9
 refine au [24,6] ?_
 intro g10
 refine au [23] ?_
 intro g11
 refine au [4,0,2,3,5,26,5,26,8] ?_
 intro x12 e12 _
 refine au [4,0,2] ?_
 refine qm (fun ((x15, _) : (Int × Unit)) => ([(2, .pointer (some ⟨g9, 0, none⟩)), (3, .pointer (some ⟨g10, 0, none⟩)), (4, .pointer (some ⟨g11, 0, none⟩)), (6, .int .i64 x15)], [⟨g11, 25, [.int .i64 0, .slice none 0 0]⟩, ⟨g10, 25, [.int .i64 x5, .slice a7 x6.length c8]⟩, ⟨g9, 25, [.int .i64 x1, .slice a3 x2.length c4]⟩], [], [Sl (eI .u8) 1 (.slice a7 x6.length c8) x6, Sl (eI .u8) 1 (.slice a3 x2.length c4) x2], jo F x1 x2 x5 x6 x15)) ?_ ?_
 refine av [3,5,1,19,0,2,10] ?_ ?_
 intro _
 refine au [5,25,14,26,8] ?_
 intro x26 e26 _
 refine au [4,0] ?_
 exact qc (x26, ())
 intro _
 refine au [13] ?_
 exact qc (x12, ())
 rintro ⟨x15, _⟩
 try dsimp only
 refine qm (fun ((x18, _) : (Int × Unit)) => ([(2, .pointer (some ⟨g9, 0, none⟩)), (3, .pointer (some ⟨g10, 0, none⟩)), (4, .pointer (some ⟨g11, 0, none⟩)), (6, .int .i64 x18)], [⟨g11, 25, [.int .i64 0, .slice none 0 0]⟩, ⟨g10, 25, [.int .i64 x5, .slice a7 x6.length c8]⟩, ⟨g9, 25, [.int .i64 x1, .slice a3 x2.length c4]⟩], [], [Sl (eI .u8) 1 (.slice a7 x6.length c8) x6, Sl (eI .u8) 1 (.slice a3 x2.length c4) x2], yh F x1 x2 x5 x6 x18)) ?_ ?_
 refine au [3,5,1,19,1] ?_
 refine qi 7 ((x15 : Int) == 0) [(2, .pointer (some ⟨g9, 0, none⟩)), (3, .pointer (some ⟨g10, 0, none⟩)), (4, .pointer (some ⟨g11, 0, none⟩)), (6, .int .i64 x15), (22, .bool (((x15 : Int) == 0) && (decide (8192 < (iadd .i64 x1 x5)))))] (fun h24 => ?_) (fun h24 => ?_) ?_
 refine qa (os := _) rfl (qg (k := 15) rfl h24 ?_)
 refine au [24,11,31,2,24,11,26,7,21,24,13,14] ?_
 refine qb (d := 22) (v := .bool (((x15 : Int) == 0) && (decide (8192 < (iadd .i64 x1 x5))))) rfl (by rw [h24]; simp only [Bool.true_and]) ?_
 exact az [0,8]
 refine qa (os := _) rfl (qf (k := 15) rfl h24 ?_)
 refine au [6,6,6,6,6,6,15] ?_
 refine qb (d := 22) (v := .bool (((x15 : Int) == 0) && (decide (8192 < (iadd .i64 x1 x5))))) rfl (by rw [h24]; simp only [Bool.false_and]) ?_
 exact az [0,8]
 refine qa (os := _) rfl ?_
 refine av [0,2,10] ?_ ?_
 intro _
 refine au [5,4,0] ?_
 exact qc ((8 : Int), ())
 intro _
 refine au [13] ?_
 exact qc (x15, ())
 rintro ⟨x18, _⟩
 try dsimp only
 refine av [3,3,5,1,24,15,0,2,10] ?_ ?_
 intro _
 refine au [3,5] ?_
 refine qH (cells := [.int .i64 0, .slice none 0 0]) rfl st25 rfl (by kernel_rfl) rfl ?_
 refine au [1,22,4,0,2,9,12,26,1] ?_
 exact qI (none, 0) (resL (rs := [.cell 4 25, .tmp 5]) rfl (.cell (i := 0) rfl tf25 rfl rfl (by simp) rfl (.tmp rfl ResOk.nil)) rfl) (fun h => by subst h; exact (.cons 0 rfl .nil))
 intro _
 refine au [13,2,3,5,26,5,25,14,29,5] ?_
 rintro x20 e20 ⟨a21, c22⟩
 refine au [22,4,0,2,9] ?_
 exact qI (a21, c22) (resL (rs := [.cell 4 25, .tmp 5]) rfl (.cell (i := 0) rfl tf25 rfl rfl (by simp) rfl (.tmp rfl ResOk.nil)) rfl) (fun h => by subst h; exact (.cons 0 rfl .nil))
set_option maxHeartbeats 4000000 in
theorem qgx (F : Nat) (x1 : Int) (x2 : List Int) (a3 : Option Addr) (c4 : Nat) (x5 : Int) (x6 : Int) (r : (Int × List Int × Int)) (hm : qcJ F x1 x2 x5 x6 = some r) :
    PureM Tryz.prog 40 [.agg #[.int .i64 x1, .slice a3 x2.length c4], .int .i64 x5, .int .i64 x6] [] [] [Sl (eI .u8) 1 (.slice a3 x2.length c4) x2] (Option Addr × Nat) (fun g => .tuple #[.agg #[.int .i64 r.1, .slice g.1 r.2.1.length g.2], .int .i64 r.2.2]) (fun _ => []) (fun g => [Ro (eI .u8) 5 1 (.slice g.1 r.2.1.length g.2) r.2.1]) := by
 refine qg0 Tryz.func40 rfl Tryz.ntmps40 rfl hm (fun w => ?_)
 refine au [25,8,3,5,24,6] ?_
 intro g7
 refine au [23] ?_
 intro g8
 refine au [4,0,2,3,5,25,14,26,8] ?_
 intro x9 e9 _
 refine au [4,0,2] ?_
 refine qm (fun ((x19, _) : (Int × Unit)) => ([(1, .int .i64 x5), (2, .int .i64 x6), (3, .pointer (some ⟨g7, 0, none⟩)), (6, .pointer (some ⟨g8, 0, none⟩)), (7, .int .i64 0), (8, .int .i64 x19)], [⟨g8, 25, [.int .i64 0, .slice none 0 0]⟩, ⟨g7, 25, [.int .i64 x1, .slice a3 x2.length c4]⟩], [], [Sl (eI .u8) 1 (.slice a3 x2.length c4) x2], vI F x1 x2 x5 x6 x19)) ?_ ?_
 refine au [3,5,1,19,1] ?_
 refine qy 20 (fun ((x68, _) : (Bool × Unit)) => ([(1, .int .i64 x5), (2, .int .i64 x6), (3, .pointer (some ⟨g7, 0, none⟩)), (6, .pointer (some ⟨g8, 0, none⟩)), (7, .int .i64 0), (8, .int .i64 x9), (35, .bool x68)], [⟨g8, 25, [.int .i64 0, .slice none 0 0]⟩, ⟨g7, 25, [.int .i64 x1, .slice a3 x2.length c4]⟩], [], [Sl (eI .u8) 1 (.slice a3 x2.length c4) x2], vJ F x1 x2 x5 x6 x9 x68)) ?_ ?_
 refine qa (os := _) rfl ?_
 refine av [24,12] ?_ ?_
 intro h64
 refine qg (k := 15) rfl h64 ?_
 refine au [1,24,3,1] ?_
 refine qi 5 (decide (x5 < 0)) [(1, .int .i64 x5), (2, .int .i64 x6), (3, .pointer (some ⟨g7, 0, none⟩)), (6, .pointer (some ⟨g8, 0, none⟩)), (7, .int .i64 0), (8, .int .i64 x9), (15, .bool true), (23, .bool ((decide (x5 < 0)) || (decide (x1 < x5))))] (fun h70 => ?_) (fun h70 => ?_) ?_
 refine qa (os := _) rfl (qg (k := 18) rfl h70 ?_)
 refine au [6,6,6,6,14] ?_
 refine qb (d := 23) (v := .bool ((decide (x5 < 0)) || (decide (x1 < x5)))) rfl (by rw [h70]; simp only [Bool.true_or]) ?_
 exact az [0,8]
 refine qa (os := _) rfl (qf (k := 18) rfl h70 ?_)
 refine au [1,24,11,26,7,24,13,15] ?_
 refine qb (d := 23) (v := .bool ((decide (x5 < 0)) || (decide (x1 < x5)))) rfl (by rw [h70]; simp only [Bool.false_or]) ?_
 exact az [0,8]
 refine qa (os := _) rfl ?_
 refine au [1] ?_
 refine qi 4 ((decide (x5 < 0)) || (decide (x1 < x5))) [(1, .int .i64 x5), (2, .int .i64 x6), (3, .pointer (some ⟨g7, 0, none⟩)), (6, .pointer (some ⟨g8, 0, none⟩)), (7, .int .i64 0), (8, .int .i64 x9), (15, .bool true), (28, .bool (((decide (x5 < 0)) || (decide (x1 < x5))) || (decide (x6 < x5))))] (fun h71 => ?_) (fun h71 => ?_) ?_
 refine qa (os := _) rfl (qg (k := 24) rfl h71 ?_)
 refine au [6,6,6,14] ?_
 refine qb (d := 28) (v := .bool (((decide (x5 < 0)) || (decide (x1 < x5))) || (decide (x6 < x5)))) rfl (by rw [h71]; simp only [Bool.true_or]) ?_
 exact az [0,8]
 refine qa (os := _) rfl (qf (k := 24) rfl h71 ?_)
 refine au [1,1,24,3,15] ?_
 refine qb (d := 28) (v := .bool (((decide (x5 < 0)) || (decide (x1 < x5))) || (decide (x6 < x5)))) rfl (by rw [h71]; simp only [Bool.false_or]) ?_
 exact az [0,8]
 refine qa (os := _) rfl ?_
 refine au [1] ?_
 refine qi 5 (((decide (x5 < 0)) || (decide (x1 < x5))) || (decide (x6 < x5))) [(1, .int .i64 x5), (2, .int .i64 x6), (3, .pointer (some ⟨g7, 0, none⟩)), (6, .pointer (some ⟨g8, 0, none⟩)), (7, .int .i64 0), (8, .int .i64 x9), (15, .bool true), (34, .bool ((((decide (x5 < 0)) || (decide (x1 < x5))) || (decide (x6 < x5))) || (decide (x1 < x6))))] (fun h72 => ?_) (fun h72 => ?_) ?_
 refine qa (os := _) rfl (qg (k := 29) rfl h72 ?_)
 refine au [6,6,6,6,14] ?_
 refine qb (d := 34) (v := .bool ((((decide (x5 < 0)) || (decide (x1 < x5))) || (decide (x6 < x5))) || (decide (x1 < x6)))) rfl (by rw [h72]; simp only [Bool.true_or]) ?_
 exact az [0,8]
 refine qa (os := _) rfl (qf (k := 29) rfl h72 ?_)
 refine au [1,24,11,26,7,24,13,15] ?_
 refine qb (d := 34) (v := .bool ((((decide (x5 < 0)) || (decide (x1 < x5))) || (decide (x6 < x5))) || (decide (x1 < x6)))) rfl (by rw [h72]; simp only [Bool.false_or]) ?_
 exact az [0,8]
 refine qa (os := _) rfl ?_
 refine au [14,0] ?_
 exact qc (((((decide (x5 < 0)) || (decide (x1 < x5))) || (decide (x6 < x5))) || (decide (x1 < x6))), ())
 intro h64
 refine qf (k := 15) rfl h64 ?_
 refine au [6,6,6,6,6,6,6,6,6,6,6,6,6,6,6,6,6,6,6,15,0] ?_
 exact qc (false, ())
 rintro ⟨x68, _⟩
 try dsimp only
 refine qa (os := _) rfl ?_
 refine av [0,2,10] ?_ ?_
 intro _
 refine au [5,4,0] ?_
 exact qc ((3 : Int), ())
 intro _
 refine au [13] ?_
 exact qc (x9, ())
 rintro ⟨x19, _⟩
 try dsimp only
 refine av [3,3,5,1,24,15,0,2,10] ?_ ?_
 intro _
 refine au [3,5] ?_
 refine qH (cells := [.int .i64 0, .slice none 0 0]) rfl st25 rfl (by kernel_rfl) rfl ?_
 refine au [1,22,4,0,2,9,12,26,1] ?_
 exact qcG [] (none, 0) (.inl rfl) rfl .nil (resL (rs := [.cell 6 25, .tmp 7]) rfl (.cell (i := 0) rfl tf25 rfl rfl (by simp) rfl (.tmp rfl ResOk.nil)) rfl) (fun h => by subst h; rfl) (fun h => by subst h; exact .nil) (fun h => by subst h; exact (.cons 0 rfl .nil))
 intro _
 refine au [13,2,3,5] ?_
 refine qH (cells := [.int .i64 0, .slice none 0 0]) rfl st172 rfl (by kernel_rfl) rfl ?_
 refine au [24,6] ?_
 intro g21
 refine au [23] ?_
 intro g22
 refine au [22,0,2,3,3,5,26,15,1,1,31,0] ?_
 rintro x43 e43 ⟨g44, g45, g46⟩
 refine au [0,2,18,27,10] ?_
 refine qfU (encs := (fun (p : Int) => [.int .u64 p])) (y := (fun ((x51, x54) : (Int × List Int)) (x59 : Int) => qal F x51 x54 x59)) (lb := [.pointer (some ⟨g44, 0, none⟩), .pointer (some ⟨g45, 0, none⟩), .pointer (some ⟨g46, 0, none⟩)]) (fun ((x51, x54) : (Int × List Int)) ((a52, c53) : (Option Addr × Nat)) => [⟨g22, 170, [.pointer (some ⟨g21, 0, none⟩)]⟩, ⟨g21, 172, [.int .i64 x51, .slice a52 x54.length c53]⟩, ⟨g8, 25, [.int .i64 0, .slice none 0 0]⟩, ⟨g7, 25, [.int .i64 x1, .slice a3 x2.length c4]⟩]) (fun ((x51, x54) : (Int × List Int)) ((a52, c53) : (Option Addr × Nat)) => [Ro (eI .u8) 5 1 (.slice a52 x54.length c53) x54]) (fun (_ : Empty) (_ : Unit) => []) (fun (_ : Empty) (_ : Unit) => []) (fun _ => .skip) (0, ([] : List Int)) (none, 0) rfl ent186 (fun _ => rfl) rfl (.cons 0 rfl (.cons 0 rfl (.cons 0 rfl .nil))) (.cons 0 rfl (.cons 0 rfl (.cons 0 rfl (.cons 0 rfl .nil)))) (.cons 0 rfl .nil) (.consF 0 rfl .nil) (fun z hz _ _ _ hY => qdS F hY (0, ([] : List Int)) (none, 0) g44 x5 g45 x6 g46 x1 x2 a3 c4 z hz) ?_ ?_ ?_
 rintro rc1 L1 D1 ⟨x51, x54⟩ ⟨a52, c53⟩ x59 z w M _
 try dsimp only
 refine qg9 [(1, .int .i64 x5), (2, .int .i64 x6), (3, .pointer (some ⟨g7, 0, none⟩)), (6, .pointer (some ⟨g8, 0, none⟩)), (7, .int .i64 0), (8, .int .i64 x19), (9, .pointer (some ⟨g22, 0, none⟩)), (36, .int .i64 x19), (37, .bool ((x19 : Int) != 0)), (40, .agg #[.int .i64 0, .slice none 0 0]), (41, .pointer (some ⟨g21, 0, none⟩)), (42, .agg #[.int .i64 x1, .slice a3 x2.length c4]), (43, .int .i64 x5), (44, .int .i64 x6), (45, .func (.func 186) #[] #[.pointer (some ⟨g44, 0, none⟩), .pointer (some ⟨g45, 0, none⟩), .pointer (some ⟨g46, 0, none⟩)]), (46, .int .u64 x59)] (qS rfl (qS rfl (qS rfl (qS rfl (qS rfl (qS rfl (qS rfl (qS rfl (qS rfl (qS rfl (qS rfl (qS rfl (qS rfl (qS rfl (qS rfl (qS rfl qeU)))))))))))))))) ?_
 refine au [5,4,0] ?_
 refine qfW (i := 4) rfl ?_
 refine au [18,5,25,2,1,29,1] ?_
 rintro x60 e60 ⟨a61, c62⟩
 refine au [0,24,2] ?_
 exact qeC (rc := rc1) rfl (.cons 4 rfl .nil) rfl (a61, c62) (.cons 2 rfl (.cons 1 rfl (.cons 1 rfl (.cons 1 rfl (.cons 0 rfl (.cons 0 rfl .nil)))))) (.cons 0 rfl .nil)
 rintro ⟨x51, x54⟩ _ ⟨a52, c53⟩ D1
 try dsimp only
 refine au [24,2,2,3,5,29,3,26,13,24,11,29,4,31,1,4,0,2,9] ?_
 exact qcG [D1] (a52, c53) (.inl rfl) rfl (.cons 0 rfl .nil) (resL (rs := [.cell 6 25, .tmp 7]) rfl (.cell (i := 5) rfl tf25 rfl rfl (by simp) rfl (.tmp rfl ResOk.nil)) rfl) (fun h => by subst h; rfl) (fun h => by subst h; exact .nil) (fun h => by subst h; exact (.cons 0 rfl .nil))
 intro t; exact t.elim
theorem qjp {F : Nat} {x1 : Int} {r : (Int × List Int)} (hm : va F x1 = some r) :
    Pure Tryz.prog 115 [.int .u64 x1] [] (Option Addr × Nat) (fun g => .agg #[.int .i64 r.1, .slice g.1 r.2.length g.2]) (fun g => [Ro (eI .u8) 5 1 (.slice g.1 r.2.length g.2) r.2]) (fun _ => []) := by
 refine qk Tryz.func115 rfl Tryz.ntmps115 rfl hm (fun w => ?_)
 refine au [24,14,3,5,23] ?_
 intro g2
 refine au [0,2,3,5,1,25,10,1,21,28,15] ?_
 refine qk9 (qn .u8) rfl UnF.u inferInstance rfl rfl rfl rfl rfl rfl rfl ?_
 intro x3 e3 a4 c5
 refine qH (cells := [.int .i64 (iconv .i64 x1), .slice a4 x3.length c5]) rfl st25 rfl (by kernel_rfl) rfl ?_
 refine au [26,10] ?_
 rintro x6 e6 ⟨a7, c8⟩
 refine au [22,0,2,9] ?_
 exact qI (a7, c8) (resL (rs := [.cell 2 25]) rfl (.cell (i := 0) rfl tf25 rfl rfl (by simp) rfl ResOk.nil) rfl) (fun h => by subst h; exact (.cons 0 rfl .nil))
set_option maxHeartbeats 4000000 in
theorem qfd (F : Nat) (x1 : List Int) (a2 : Option Addr) (c3 : Nat) (r : (Int × List Int × Int)) (hm : qbx F x1 = some r) :
    Pure Tryz.prog 41 [.slice a2 x1.length c3] [Sl (eI .u64) 1 (.slice a2 x1.length c3) x1] (Option Addr × Nat) (fun g => .tuple #[.agg #[.int .i64 r.1, .slice g.1 r.2.1.length g.2], .int .i64 r.2.2]) (fun g => [Ro (eI .u8) 5 1 (.slice g.1 r.2.1.length g.2) r.2.1]) (fun _ => []) := by
 refine qk Tryz.func41 rfl Tryz.ntmps41 rfl hm (fun w => ?_)
 refine au [24,14,3,5,23] ?_
 intro g4
 refine au [4,0,2,3,5,4,0,2] ?_
 refine qm (fun ((x49, _) : (Int × Unit)) => ([(0, .slice a2 x1.length c3), (2, .pointer (some ⟨g4, 0, none⟩)), (4, .int .u64 x49)], [⟨g4, 25, [.int .i64 0, .slice none 0 0]⟩], [], [Sl (eI .u64) 1 (.slice a2 x1.length c3) x1], qaM F x1 x49)) ?_ ?_
 refine au [3,5,1,24,4,1,0,2,18] ?_
 refine qx (fun (((x205, x206), _) : ((Int × Int) × Unit)) => ([(0, .slice a2 x1.length c3), (2, .pointer (some ⟨g4, 0, none⟩)), (4, .int .u64 x205), (10, .slice a2 x1.length c3), (11, .int .i64 (x1.length : Int)), (12, .int .i64 x206)], [⟨g4, 25, [.int .i64 0, .slice none 0 0]⟩], [], [Sl (eI .u64) 1 (.slice a2 x1.length c3) x1])) (fun k (s : ((Int × Int) × Unit)) => yw F x1 k s.1) ((0, 0), ()) F ?_
 intro k221
 rintro ⟨⟨x205, x206⟩, _⟩
 try dsimp only
 refine qN (m' := qaL F x1 (yw F x1 k221) x205 x206) rfl ?_
 refine av [3,5,24,3,0,2,3,10] ?_ ?_
 intro _
 refine au [13,2,3,18,3,5,29,6] ?_
 intro x229 e229 b230 o231
 refine av [25,9,4,0,2,3,3,5,1,25,5,0,2,10] ?_ ?_
 intro _
 refine au [3,5] ?_
 refine qH (cells := [.int .i64 0, .slice none 0 0]) rfl st25 rfl (by kernel_rfl) rfl ?_
 refine au [22,4,0,2,9,12,24,0,12,12,24,0,12,26,1] ?_
 exact qI (none, 0) (resL (rs := [.cell 2 25, .tmp 3]) rfl (.cell (i := 0) rfl tf25 rfl rfl (by simp) rfl (.tmp rfl ResOk.nil)) rfl) (fun h => by subst h; exact (.cons 0 rfl .nil))
 intro _
 refine au [13,2,5,1,1,21,21,31,3,4,26,4] ?_
 intro x233 e233
 refine qb (d := 4) (v := .int .u64 x233) rfl (by rw [e233] <;> rfl) ?_
 refine au [0,24,2,2,5,21,1,0] ?_
 exact qs ((x233, iadd .i64 x206 1), ())
 intro _
 refine au [24,8,20,20,24,9] ?_
 exact qc (x205, ())
 rintro ⟨x49, _⟩
 try dsimp only
 refine av [3,3,5,1,24,13,0,2,10] ?_ ?_
 intro _
 refine au [3,5] ?_
 refine qH (cells := [.int .i64 0, .slice none 0 0]) rfl st25 rfl (by kernel_rfl) rfl ?_
 refine au [22,4,0,2,9,12,26,1] ?_
 exact qI (none, 0) (resL (rs := [.cell 2 25, .tmp 3]) rfl (.cell (i := 0) rfl tf25 rfl rfl (by simp) rfl (.tmp rfl ResOk.nil)) rfl) (fun h => by subst h; exact (.cons 0 rfl .nil))
 intro _
 refine au [13,2,3,5] ?_
 refine qH (cells := [.int .i64 0, .slice none 0 0]) rfl st25 rfl (by kernel_rfl) rfl ?_
 refine au [23] ?_
 intro g51
 refine au [22,0,2] ?_
 refine qm (fun (((x119, x122), (a120, c121)) : ((Int × List Int) × (Option Addr × Nat))) => ([(2, .pointer (some ⟨g4, 0, none⟩)), (7, .pointer (some ⟨g51, 0, none⟩))], [⟨g51, 25, [.int .i64 x119, .slice a120 x122.length c121]⟩, ⟨g4, 25, [.int .i64 0, .slice none 0 0]⟩], [Ro (eI .u8) 5 1 (.slice a120 x122.length c121) x122], [], qdZ F x119 x122)) ?_ ?_
 refine au [3,5,1,24,4,1,0,2,18,27,10] ?_
 refine qx (fun (((x144, x145, x148), (a146, c147)) : ((Int × Int × List Int) × (Option Addr × Nat))) => ([(2, .pointer (some ⟨g4, 0, none⟩)), (7, .pointer (some ⟨g51, 0, none⟩)), (29, .slice a2 x1.length c3), (30, .int .i64 (x1.length : Int)), (31, .int .i64 x144)], [⟨g51, 25, [.int .i64 x145, .slice a146 x148.length c147]⟩, ⟨g4, 25, [.int .i64 0, .slice none 0 0]⟩], [Ro (eI .u8) 5 1 (.slice a146 x148.length c147) x148], [Sl (eI .u64) 1 (.slice a2 x1.length c3) x1])) (fun k (s : ((Int × Int × List Int) × (Option Addr × Nat))) => yv F x1 k s.1) ((0, 0, ([] : List Int)), (none, 0)) F ?_
 intro k169
 rintro ⟨⟨x144, x145, x148⟩, ⟨a146, c147⟩⟩
 try dsimp only
 refine qN (m' := qaK F x1 (yv F x1 k169) x144 x145 x148) rfl ?_
 refine av [3,5,24,3,0,2,3,10] ?_ ?_
 intro _
 refine au [13,2,3,18,3,5,29,6] ?_
 intro x180 e180 b181 o182
 refine au [25,9,4,0,2] ?_
 refine qT mixed [4] [⟨g4, 25, [.int .i64 0, .slice none 0 0]⟩] [qJ b181 o182 ((eI .u64) x180), Sl (eI .u64) 1 (.slice a2 x1.length c3) x1, (BlkD.is ⟨g51, 25, [.int .i64 x145, .slice a146 x148.length c147]⟩)] (.cons 1 rfl .nil) (qz 0 rfl (qz 1 rfl (qkJ 0 rfl qL))) 5 rfl (zq 0 (.agg #[.int .i64 x145, .slice a146 x148.length c147]) [[4]] rfl rfl rfl (qhm (j := 2) rfl tf25 rfl rfl (by simp) rfl) ?_)
 refine au [11,1,17,2,27,11] ?_
 rintro x183 e183 ⟨a184, c185⟩
 refine au [0,31,4,17,3,29,5] ?_
 rintro x186 e186 ⟨a187, c188⟩
 refine au [0,31,4,17,4,22,0] ?_
 refine qdu 4 rfl (by kernel_rfl) (.cons 1 rfl .nil) ?_
 refine au [24,7] ?_
 refine qR ?_ (by intro c h; cases h)
 refine au [24,2,2,5,21,1,0] ?_
 exact qs ((iadd .i64 x144 1, x186.1, x186.2), (a187, c188))
 intro _
 refine au [24,8,20,20,24,9] ?_
 exact qc ((x145, x148), (a146, c147))
 rintro ⟨⟨x119, x122⟩, ⟨a120, c121⟩⟩
 try dsimp only
 refine au [3,5,24,5,25,6,4,0,2,9] ?_
 exact qI (a120, c121) (resL (rs := [.cell 2 25, .tmp 3]) rfl (.cell (i := 1) rfl tf25 rfl rfl (by simp) rfl (.tmp rfl ResOk.nil)) rfl) (fun h => by subst h; exact (.cons 0 rfl .nil))
set_option maxHeartbeats 4000000 in
theorem qfc {F : Nat} {x1 : Int} {r : Int} (hm : kP F x1 = some r) :
    Pure Tryz.prog 228 [.int .u64 x1] [] Unit (fun _ => .int .i64 r) (fun _ => []) (fun _ => []) := by
 refine qk Tryz.func228 rfl Tryz.ntmps228 rfl hm (fun w => ?_)
 refine au [24,14,3,5,4,0,2] ?_
 refine qm (fun (((x3, x4), _) : ((Int × Int) × Unit)) => ([(0, .int .u64 x3), (2, .int .i64 x4)], [], [], [], kE F x3 x4)) ?_ ?_
 refine av [3,5,1,25,5,0,2,10] ?_ ?_
 intro _
 refine au [3,5,1,27,0,4,0,2,5,4,0] ?_
 exact qc ((ishr .u64 x1 32, (32 : Int)), ())
 intro _
 refine au [13] ?_
 exact qc ((x1, (0 : Int)), ())
 rintro ⟨⟨x3, x4⟩, _⟩
 try dsimp only
 refine qm (fun (((x6, x7), _) : ((Int × Int) × Unit)) => ([(0, .int .u64 x6), (2, .int .i64 x7)], [], [], [], kF F x6 x7)) ?_ ?_
 refine av [3,5,1,25,5,0,2,10] ?_ ?_
 intro _
 refine au [3,5,1,27,0,4,0,2,5,1,21,4,0] ?_
 exact qc ((ishr .u64 x3 16, iadd .i64 x4 16), ())
 intro _
 refine au [13] ?_
 exact qc ((x3, x4), ())
 rintro ⟨⟨x6, x7⟩, _⟩
 try dsimp only
 refine qm (fun (((x9, x10), _) : ((Int × Int) × Unit)) => ([(0, .int .u64 x9), (2, .int .i64 x10)], [], [], [], kG F x9 x10)) ?_ ?_
 refine av [3,5,1,25,5,0,2,10] ?_ ?_
 intro _
 refine au [3,5,1,27,0,4,0,2,5,1,21,4,0] ?_
 exact qc ((ishr .u64 x6 8, iadd .i64 x7 8), ())
 intro _
 refine au [13] ?_
 exact qc ((x6, x7), ())
 rintro ⟨⟨x9, x10⟩, _⟩
 try dsimp only
 refine au [3,5,1,1,25,10] ?_
 refine qk6 (xs := ([0, 1, 2, 2, 3, 3, 3, 3, 4, 4, 4, 4, 4, 4, 4, 4, 5, 5, 5, 5, 5, 5, 5, 5, 5, 5, 5, 5, 5, 5, 5, 5, 6, 6, 6, 6, 6, 6, 6, 6, 6, 6, 6, 6, 6, 6, 6, 6, 6, 6, 6, 6, 6, 6, 6, 6, 6, 6, 6, 6, 6, 6, 6, 6, 7, 7, 7, 7, 7, 7, 7, 7, 7, 7, 7, 7, 7, 7, 7, 7, 7, 7, 7, 7, 7, 7, 7, 7, 7, 7, 7, 7, 7, 7, 7, 7, 7, 7, 7, 7, 7, 7, 7, 7, 7, 7, 7, 7, 7, 7, 7, 7, 7, 7, 7, 7, 7, 7, 7, 7, 7, 7, 7, 7, 7, 7, 7, 7, 8, 8, 8, 8, 8, 8, 8, 8, 8, 8, 8, 8, 8, 8, 8, 8, 8, 8, 8, 8, 8, 8, 8, 8, 8, 8, 8, 8, 8, 8, 8, 8, 8, 8, 8, 8, 8, 8, 8, 8, 8, 8, 8, 8, 8, 8, 8, 8, 8, 8, 8, 8, 8, 8, 8, 8, 8, 8, 8, 8, 8, 8, 8, 8, 8, 8, 8, 8, 8, 8, 8, 8, 8, 8, 8, 8, 8, 8, 8, 8, 8, 8, 8, 8, 8, 8, 8, 8, 8, 8, 8, 8, 8, 8, 8, 8, 8, 8, 8, 8, 8, 8, 8, 8, 8, 8, 8, 8, 8, 8, 8, 8, 8, 8, 8, 8, 8, 8, 8, 8, 8, 8, 8, 8, 8, 8, 8, 8] : List Int)) rfl UnF.u rfl rfl (by kernel_rfl) rfl ?_
 intro x11 e11
 exact az [25,10,21,4,0,2,9,16]
theorem qiv {F : Nat} {x1 : Int} {r : Int} (hm : vi F x1 = some r) :
    Pure Tryz.prog 188 [.int .u64 x1] [] Unit (fun _ => .int .i64 r) (fun _ => []) (fun _ => []) := by
 refine qk Tryz.func188 rfl Tryz.ntmps188 rfl hm (fun w => ?_)
 refine au [24,14,3,5,4,0,2,3,5,1,21,29,7] ?_
 intro x2 e2 _
 exact az [25,0,4,0,2,9,16]
theorem qjl {F : Nat} {x1 : Int} {x2 : Int} {r : Int} (hm : qb0 F x1 x2 = some r) :
    Pure Tryz.prog 189 [.int .u64 x1, .int .i64 x2] [] Unit (fun _ => .int .u64 r) (fun _ => []) (fun _ => []) := by
 refine qk Tryz.func189 rfl Tryz.ntmps189 rfl hm (fun w => ?_)
 refine au [24,10,3,5,4,0,2,3,5,1,1,25,4] ?_
 intro h3
 refine qc9 rfl rfl rfl rfl h3 ?_
 refine au [25,0,27,9,4,26,4] ?_
 intro x4 e4
 refine qb (d := 4) (v := .int .u64 x4) rfl (by rw [e4] <;> rfl) ?_
 exact az [0,2,9,16]
theorem qdk (F : Nat) (x1 : Int) (r : (Int × List Int)) (hm : yR F x1 = some r) :
    Pure Tryz.prog 117 [.int .u64 x1] [] (Option Addr × Nat) (fun g => .agg #[.int .i64 r.1, .slice g.1 r.2.length g.2]) (fun g => [Ro (eI .u8) 5 1 (.slice g.1 r.2.length g.2) r.2]) (fun _ => []) := by
 refine qk Tryz.func117 rfl Tryz.ntmps117 rfl hm (fun w => ?_)
 refine au [24,14,3,5,23] ?_
 intro g2
 refine au [0,2,3,5,1,28,3] ?_
 intro x3 e3 _
 refine au [4,0,2,3,5,1,25,10,27,11] ?_
 rintro x4 e4 ⟨a5, c6⟩
 refine au [1,21,1,31,5] ?_
 intro x7 e7 _
 refine au [1,26,10] ?_
 rintro x8 e8 ⟨a9, c10⟩
 refine au [22,0,2,9] ?_
 exact qI (a9, c10) (resL (rs := [.cell 2 25]) rfl (.cell (i := 0) rfl tf25 rfl rfl (by simp) rfl ResOk.nil) rfl) (fun h => by subst h; exact (.cons 0 rfl .nil))
end Go.Proofs.YtmoikolponkmpaaGreat
