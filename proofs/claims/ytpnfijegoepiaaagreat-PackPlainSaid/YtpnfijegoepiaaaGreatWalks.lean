/- Each Go function of this seat computes what its model says. -/
import Derived.Test.YtpnfijegoepiaaaGreatRows
import Derived.Test.YtpnfijegoepiaaaGreatModels
import Derived.Test.YtpnfijegoepiaaaGreatShelf
namespace Go.Proofs.YtpnfijegoepiaaaGreat
open Go SX
def eN37 (p : List Int × (Option Addr × Nat)) : List Value := [.slice p.2.1 p.1.length p.2.2]
def iN37 (p : List Int × (Option Addr × Nat)) : List (World → Prop) := [Sl (eI .i64) 1 (.slice p.2.1 p.1.length p.2.2) p.1]
theorem yP : EncOk eN37 1 := ⟨fun _ => rfl, fun _ => rfl⟩
def rN37 (p : List Int × (Option Addr × Nat)) : List RowF := [FoR (eI .i64) 3 1 (.slice p.2.1 p.1.length p.2.2) p.1]
theorem qaX : ∀ p, iN37 p = (rN37 p).map RowF.cells := fun _ => rfl
theorem qhQ : ∀ f ∈ rN37 (([] : List Int), ((none, 0) : Option Addr × Nat)), f.v = .slice none 0 0 ∧ f.n = 0 ∧ f.cs = [] := by simp [rN37, FoR]
def eS141 (p : (Int × Int)) : List Value := [.int .i64 p.1, .int .i64 p.2]
theorem qa2 : EncOk eS141 2 := ⟨fun _ => rfl, fun _ => rfl⟩
theorem tf3 : TyF Tryz.prog 3 false (.int .i64 0) 1 8 := .of (by kernel_rfl) (by kernel_rfl)
theorem tf4 : TyF Tryz.prog 4 false (.bool false) 1 1 := .of (by kernel_rfl) (by kernel_rfl)
theorem tf5 : TyF Tryz.prog 5 false (.int .u8 0) 1 1 := .of (by kernel_rfl) (by kernel_rfl)
theorem tf22 : TyF Tryz.prog 22 false (.slice none 0 0) 1 24 := .of (by kernel_rfl) (by kernel_rfl)
theorem tf24 : TyF Tryz.prog 24 true (.agg #[.slice none 0 0]) 1 24 := .of (by kernel_rfl) (by kernel_rfl)
theorem tf26 : TyF Tryz.prog 26 true (.agg #[.int .i64 0, .int .i64 0, .int .i64 0]) 3 24 := .of (by kernel_rfl) (by kernel_rfl)
theorem tf27 : TyF Tryz.prog 27 false (.slice none 0 0) 1 24 := .of (by kernel_rfl) (by kernel_rfl)
theorem tf29 : TyF Tryz.prog 29 true (.agg #[.int .i64 0, .slice none 0 0]) 2 32 := .of (by kernel_rfl) (by kernel_rfl)
theorem tf31 : TyF Tryz.prog 31 true (.agg #[.int .i64 0, .int .i64 0, .int .i64 0, .int .i64 0, .int .i64 0, .slice none 0 0]) 6 64 := .of (by kernel_rfl) (by kernel_rfl)
theorem tf37 : TyF Tryz.prog 37 false (.slice none 0 0) 1 24 := .of (by kernel_rfl) (by kernel_rfl)
theorem tf50 : TyF Tryz.prog 50 false (.int .u64 0) 1 8 := .of (by kernel_rfl) (by kernel_rfl)
theorem tf92 : TyF Tryz.prog 92 false (.pointer none) 1 8 := .of (by kernel_rfl) (by kernel_rfl)
theorem tf117 : TyF Tryz.prog 117 false (.slice none 0 0) 1 24 := .of (by kernel_rfl) (by kernel_rfl)
theorem tf131 : TyF Tryz.prog 131 true (.agg #[.int .i64 0, .int .i64 0, .slice none 0 0]) 3 40 := .of (by kernel_rfl) (by kernel_rfl)
theorem tf141 : TyF Tryz.prog 141 true (.agg #[.int .i64 0, .int .i64 0]) 2 16 := .of (by kernel_rfl) (by kernel_rfl)
theorem tf168 : TyF Tryz.prog 168 true (.agg #[]) 0 0 := .of (by kernel_rfl) (by kernel_rfl)
theorem qdx : FdF Tryz.prog 24 0 0 := .of (by kernel_rfl)
theorem qaC : FdF Tryz.prog 26 0 0 := .of (by kernel_rfl)
theorem qcR : FdF Tryz.prog 26 1 1 := .of (by kernel_rfl)
theorem qgC : FdF Tryz.prog 26 2 2 := .of (by kernel_rfl)
theorem ky : FdF Tryz.prog 29 0 0 := .of (by kernel_rfl)
theorem qa9 : FdF Tryz.prog 29 1 1 := .of (by kernel_rfl)
theorem qcS : FdF Tryz.prog 31 0 0 := .of (by kernel_rfl)
theorem qbF : FdF Tryz.prog 31 1 1 := .of (by kernel_rfl)
theorem qas : FdF Tryz.prog 31 2 4 := .of (by kernel_rfl)
theorem qed : FdF Tryz.prog 66 0 0 := .of (by kernel_rfl)
theorem qe1 : FdF Tryz.prog 66 1 6 := .of (by kernel_rfl)
theorem qe2 : FdF Tryz.prog 66 2 7 := .of (by kernel_rfl)
theorem qdy : FdF Tryz.prog 90 0 0 := .of (by kernel_rfl)
theorem qb6 : FdF Tryz.prog 90 1 2 := .of (by kernel_rfl)
theorem qb7 : FdF Tryz.prog 94 0 0 := .of (by kernel_rfl)
theorem qlY : FdF Tryz.prog 131 0 0 := .of (by kernel_rfl)
theorem qeL : FdF Tryz.prog 131 1 1 := .of (by kernel_rfl)
theorem qgA : FdF Tryz.prog 137 0 0 := .of (by kernel_rfl)
theorem qcr : FdF Tryz.prog 137 1 2 := .of (by kernel_rfl)
theorem qbk : FdF Tryz.prog 141 0 0 := .of (by kernel_rfl)
theorem qbl : FdF Tryz.prog 141 1 1 := .of (by kernel_rfl)
theorem qgB : FdF Tryz.prog 153 0 0 := .of (by kernel_rfl)
theorem qi2 : FdF Tryz.prog 153 1 1 := .of (by kernel_rfl)
theorem qeM : FdF Tryz.prog 153 2 2 := .of (by kernel_rfl)
theorem qbm : FdF Tryz.prog 162 0 0 := .of (by kernel_rfl)
theorem qeN : FdF Tryz.prog 162 1 1 := .of (by kernel_rfl)
theorem st24 : StF Tryz.prog 24 [(0, 1)] (.agg #[.slice none 0 0]) := .of (by kernel_rfl) (by kernel_rfl)
theorem st26 : StF Tryz.prog 26 [(0, 1), (1, 1), (2, 1)] (.agg #[.int .i64 0, .int .i64 0, .int .i64 0]) := .of (by kernel_rfl) (by kernel_rfl)
theorem st29 : StF Tryz.prog 29 [(0, 1), (1, 1)] (.agg #[.int .i64 0, .slice none 0 0]) := .of (by kernel_rfl) (by kernel_rfl)
theorem st31 : StF Tryz.prog 31 [(0, 1), (1, 3), (4, 2)] (.agg #[.int .i64 0, .int .i64 0, .int .i64 0, .int .i64 0, .int .i64 0, .slice none 0 0]) := .of (by kernel_rfl) (by kernel_rfl)
theorem st66 : StF Tryz.prog 66 [(0, 6), (6, 1), (7, 1)] (.agg #[.int .i64 0, .int .i64 0, .int .i64 0, .int .i64 0, .int .i64 0, .slice none 0 0, .slice none 0 0, .slice none 0 0]) := .of (by kernel_rfl) (by kernel_rfl)
theorem st90 : StF Tryz.prog 90 [(0, 2), (2, 1)] (.agg #[.int .i64 0, .slice none 0 0, .bool false]) := .of (by kernel_rfl) (by kernel_rfl)
theorem st94 : StF Tryz.prog 94 [(0, 2)] (.agg #[.int .i64 0, .slice none 0 0]) := .of (by kernel_rfl) (by kernel_rfl)
theorem st131 : StF Tryz.prog 131 [(0, 1), (1, 2)] (.agg #[.int .i64 0, .int .i64 0, .slice none 0 0]) := .of (by kernel_rfl) (by kernel_rfl)
theorem st137 : StF Tryz.prog 137 [(0, 2), (2, 1)] (.agg #[.int .i64 0, .slice none 0 0, .int .i64 0]) := .of (by kernel_rfl) (by kernel_rfl)
theorem st141 : StF Tryz.prog 141 [(0, 1), (1, 1)] (.agg #[.int .i64 0, .int .i64 0]) := .of (by kernel_rfl) (by kernel_rfl)
theorem st153 : StF Tryz.prog 153 [(0, 1), (1, 1), (2, 1)] (.agg #[.slice none 0 0, .bool false, .int .i64 0]) := .of (by kernel_rfl) (by kernel_rfl)
theorem st162 : StF Tryz.prog 162 [(0, 1), (1, 1)] (.agg #[.int .i64 0, .bool false]) := .of (by kernel_rfl) (by kernel_rfl)
theorem st168 : StF Tryz.prog 168 [] (.agg #[]) := .of (by kernel_rfl) (by kernel_rfl)
theorem se26 : StE3 Tryz.prog 26 .i64 .i64 .i64 := ⟨_, _, _, Tryz.underlying26, by kernel_rfl, by kernel_rfl, by decide, by decide, by decide, rfl, rfl, rfl, Tryz.underlying3, Tryz.underlying3, Tryz.underlying3⟩
theorem mixed : Tryz.prog.follows .mixedOrders = true := by kernel_rfl
theorem ent9 : Enters Tryz.prog 9 := qw Tryz.func9 rfl rfl
theorem ent10 : Enters Tryz.prog 10 := qw Tryz.func10 rfl rfl
theorem ent11 : Enters Tryz.prog 11 := qw Tryz.func11 rfl rfl
theorem ent15 : Enters Tryz.prog 15 := qw Tryz.func15 rfl rfl
theorem ent16 : Enters Tryz.prog 16 := qw Tryz.func16 rfl rfl
theorem ent17 : Enters Tryz.prog 17 := qw Tryz.func17 rfl rfl
theorem ent18 : Enters Tryz.prog 18 := qw Tryz.func18 rfl rfl
theorem ent24 : Enters Tryz.prog 24 := qw Tryz.func24 rfl rfl
theorem ent26 : Enters Tryz.prog 26 := qw Tryz.func26 rfl rfl
theorem ent28 : Enters Tryz.prog 28 := qw Tryz.func28 rfl rfl
theorem ent29 : Enters Tryz.prog 29 := qw Tryz.func29 rfl rfl
theorem ent30 : Enters Tryz.prog 30 := qw Tryz.func30 rfl rfl
theorem ent31 : Enters Tryz.prog 31 := qw Tryz.func31 rfl rfl
theorem ent38 : Enters Tryz.prog 38 := qw Tryz.func38 rfl rfl
theorem ent39 : Enters Tryz.prog 39 := qw Tryz.func39 rfl rfl
theorem ent43 : Enters Tryz.prog 43 := qw Tryz.func43 rfl rfl
theorem ent46 : Enters Tryz.prog 46 := qw Tryz.func46 rfl rfl
theorem ent47 : Enters Tryz.prog 47 := qw Tryz.func47 rfl rfl
theorem ent48 : Enters Tryz.prog 48 := qw Tryz.func48 rfl rfl
theorem ent49 : Enters Tryz.prog 49 := qw Tryz.func49 rfl rfl
theorem ent50 : Enters Tryz.prog 50 := qw Tryz.func50 rfl rfl
theorem ent51 : Enters Tryz.prog 51 := qw Tryz.func51 rfl rfl
theorem ent52 : Enters Tryz.prog 52 := qw Tryz.func52 rfl rfl
theorem ent53 : Enters Tryz.prog 53 := qw Tryz.func53 rfl rfl
theorem ent54 : Enters Tryz.prog 54 := qw Tryz.func54 rfl rfl
theorem ent55 : Enters Tryz.prog 55 := qw Tryz.func55 rfl rfl
theorem ent56 : Enters Tryz.prog 56 := qw Tryz.func56 rfl rfl
theorem ent57 : Enters Tryz.prog 57 := qw Tryz.func57 rfl rfl
theorem ent67 : Enters Tryz.prog 67 := qw Tryz.func67 rfl rfl
theorem ent68 : Enters Tryz.prog 68 := qw Tryz.func68 rfl rfl
theorem ent69 : Enters Tryz.prog 69 := qw Tryz.func69 rfl rfl
theorem ent70 : Enters Tryz.prog 70 := qw Tryz.func70 rfl rfl
theorem ent71 : Enters Tryz.prog 71 := qw Tryz.func71 rfl rfl
theorem ent72 : Enters Tryz.prog 72 := qw Tryz.func72 rfl rfl
theorem ent73 : Enters Tryz.prog 73 := qw Tryz.func73 rfl rfl
theorem ent74 : Enters Tryz.prog 74 := qw Tryz.func74 rfl rfl
theorem ent75 : Enters Tryz.prog 75 := qw Tryz.func75 rfl rfl
theorem ent76 : Enters Tryz.prog 76 := qw Tryz.func76 rfl rfl
theorem ent77 : Enters Tryz.prog 77 := qw Tryz.func77 rfl rfl
theorem ent78 : Enters Tryz.prog 78 := qw Tryz.func78 rfl rfl
theorem ent79 : Enters Tryz.prog 79 := qw Tryz.func79 rfl rfl
theorem ent80 : Enters Tryz.prog 80 := qw Tryz.func80 rfl rfl
theorem ent81 : Enters Tryz.prog 81 := qw Tryz.func81 rfl rfl
theorem ent82 : Enters Tryz.prog 82 := qw Tryz.func82 rfl rfl
theorem ent83 : Enters Tryz.prog 83 := qw Tryz.func83 rfl rfl
theorem ent94 : Enters Tryz.prog 94 := qw Tryz.func94 rfl rfl
theorem ent95 : Enters Tryz.prog 95 := qw Tryz.func95 rfl rfl
theorem ent96 : Enters Tryz.prog 96 := qw Tryz.func96 rfl rfl
theorem ent97 : Enters Tryz.prog 97 := qw Tryz.func97 rfl rfl
theorem ent98 : Enters Tryz.prog 98 := qw Tryz.func98 rfl rfl
theorem ent99 : Enters Tryz.prog 99 := qw Tryz.func99 rfl rfl
theorem ent100 : Enters Tryz.prog 100 := qw Tryz.func100 rfl rfl
theorem ent101 : Enters Tryz.prog 101 := qw Tryz.func101 rfl rfl
theorem ent102 : Enters Tryz.prog 102 := qw Tryz.func102 rfl rfl
theorem ent103 : Enters Tryz.prog 103 := qw Tryz.func103 rfl rfl
theorem ent104 : Enters Tryz.prog 104 := qw Tryz.func104 rfl rfl
theorem ent105 : Enters Tryz.prog 105 := qw Tryz.func105 rfl rfl
theorem ent106 : Enters Tryz.prog 106 := qw Tryz.func106 rfl rfl
theorem ent107 : Enters Tryz.prog 107 := qw Tryz.func107 rfl rfl
theorem ent108 : Enters Tryz.prog 108 := qw Tryz.func108 rfl rfl
theorem ent112 : Enters Tryz.prog 112 := qw Tryz.func112 rfl rfl
theorem ent113 : Enters Tryz.prog 113 := qw Tryz.func113 rfl rfl
theorem ent114 : Enters Tryz.prog 114 := qw Tryz.func114 rfl rfl
theorem ent115 : Enters Tryz.prog 115 := qw Tryz.func115 rfl rfl
theorem ent116 : Enters Tryz.prog 116 := qw Tryz.func116 rfl rfl
theorem ent117 : Enters Tryz.prog 117 := qw Tryz.func117 rfl rfl
theorem ent118 : Enters Tryz.prog 118 := qw Tryz.func118 rfl rfl
theorem ent119 : Enters Tryz.prog 119 := qw Tryz.func119 rfl rfl
theorem ent120 : Enters Tryz.prog 120 := qw Tryz.func120 rfl rfl
theorem ent121 : Enters Tryz.prog 121 := qw Tryz.func121 rfl rfl
theorem ent122 : Enters Tryz.prog 122 := qw Tryz.func122 rfl rfl
theorem ent123 : Enters Tryz.prog 123 := qw Tryz.func123 rfl rfl
theorem ent124 : Enters Tryz.prog 124 := qw Tryz.func124 rfl rfl
theorem ent125 : Enters Tryz.prog 125 := qw Tryz.func125 rfl rfl
theorem ent126 : Enters Tryz.prog 126 := qw Tryz.func126 rfl rfl
theorem ent127 : Enters Tryz.prog 127 := qw Tryz.func127 rfl rfl
theorem ent128 : Enters Tryz.prog 128 := qw Tryz.func128 rfl rfl
theorem ent133 : Enters Tryz.prog 133 := qw Tryz.func133 rfl rfl
theorem ent134 : Enters Tryz.prog 134 := qw Tryz.func134 rfl rfl
theorem ent135 : Enters Tryz.prog 135 := qw Tryz.func135 rfl rfl
theorem ent136 : Enters Tryz.prog 136 := qw Tryz.func136 rfl rfl
theorem ent137 : Enters Tryz.prog 137 := qw Tryz.func137 rfl rfl
theorem ent138 : Enters Tryz.prog 138 := qw Tryz.func138 rfl rfl
theorem ent139 : Enters Tryz.prog 139 := qw Tryz.func139 rfl rfl
theorem ent140 : Enters Tryz.prog 140 := qw Tryz.func140 rfl rfl
theorem ent141 : Enters Tryz.prog 141 := qw Tryz.func141 rfl rfl
theorem ent142 : Enters Tryz.prog 142 := qw Tryz.func142 rfl rfl
theorem ent143 : Enters Tryz.prog 143 := qw Tryz.func143 rfl rfl
theorem ent144 : Enters Tryz.prog 144 := qw Tryz.func144 rfl rfl
theorem ent148 : Enters Tryz.prog 148 := qw Tryz.func148 rfl rfl
theorem ent149 : Enters Tryz.prog 149 := qw Tryz.func149 rfl rfl
theorem ent150 : Enters Tryz.prog 150 := qw Tryz.func150 rfl rfl
theorem qmb (v : Value) (w : World) : (Instr.makeInterface 168 v).run Tryz.prog w = .ok (.iface 168 v) w := by simp [Instr.makeInterface, run_underlying Tryz.underlying168]
abbrev lostCh : List PanicEntry := [{ v := .iface 168 (.agg #[]), recovered := false }]
theorem ql8 (p q : Addr) : qfO Tryz.prog 106 #[.pointer (some p), .pointer (some q)] := by
  intro w
  refine callsD_of_wpS Tryz.func106 rfl fun c₀ cs hu => ?_
  apply wpS_seq
  apply wpS_region
  simp [wpOpsS, go_sem, recoverD, hu, Tryz.ntmps106, Exit.thenS]
  refine wpS_of_wp ?_
  go_wp2
  cases c₀
  simp_all [bodyPostS, results, Tryz.results106]
theorem qjP (w : World) : (Instr.typeAssert (.iface 168 (.agg #[])) 20 168 true).run Tryz.prog w = .ok (.tuple #[.agg #[], .bool true]) w := by
  simp [Instr.typeAssert, run_underlying Tryz.underlying168]
theorem eqn106 (x y : Operand) (w : World) : (do eqGuard .eql 20 x y (.iface 168 (.agg #[])) .nilIface; binOp .eql 20 (.iface 168 (.agg #[])) .nilIface : Sem Value).run Tryz.prog w = .ok (.bool false) w := by
  simp [go_sem]
set_option maxRecDepth 100000 in
theorem qdT (g1 g2 : Nat) (v1 v2 : Value) : qfP Tryz.prog 106 #[.pointer (some ⟨g1, 0, none⟩), .pointer (some ⟨g2, 0, none⟩)] 168 (.agg #[]) [⟨g1, 37, [v1]⟩, ⟨g2, 4, [v2]⟩] [⟨g1, 37, [.slice none 0 0]⟩, ⟨g2, 4, [.bool false]⟩] := by
  intro w hp
  refine callsD_of_wpS Tryz.func106 rfl fun c₀ cs hu => ?_
  apply wpS_seq
  apply wpS_region
  simp [wpOpsS, go_sem, recoverD, hu, Tryz.ntmps106, Exit.thenS]
  refine wpS_of_wp (qcT.1 ?_)
  refine (show SXC Tryz.prog none 11 [] (muts [⟨g1, 37, [v1]⟩, ⟨g2, 4, [v2]⟩] []) w _ _ [(0, .pointer (some ⟨g1, 0, none⟩)), (1, .pointer (some ⟨g2, 0, none⟩)), (5, .iface 168 (.agg #[]))] [⟨g1, 37, [v1]⟩, ⟨g2, 4, [v2]⟩] [] [] (some ()) () from ?_) rfl _ _ ⟨rfl, by simp, fun i v hv => ?_⟩ hp
  · refine qB ?_
    refine qg ?_
    refine qa ?_
    refine qh6 rfl rfl rfl (eqn106 _ _) rfl ?_
    refine qd ?_
    refine qc ?_
    refine qax (b := false) rfl (fun h => by cases h) (fun _ => ?_)
    refine qg ?_
    refine qa ?_
    refine qg2 rfl rfl qjP rfl ?_
    refine qv rfl rfl rfl rfl ?_
    refine qv rfl rfl rfl rfl ?_
    refine qd ?_
    refine qc ?_
    refine qax (b := true) rfl (fun _ => ?_) (fun h => by cases h)
    refine qg ?_
    refine qa ?_
    refine qR rfl tf168 rfl (fun g => ?_)
    refine qu (i := 0) rfl rfl rfl tf168 rfl rfl rfl rfl rfl ?_
    refine qd ?_
    refine qc ?_
    refine qa ?_
    refine qu (i := 1) rfl rfl rfl tf37 rfl rfl rfl rfl rfl ?_
    refine qu (i := 2) rfl rfl rfl tf4 rfl rfl rfl rfl rfl ?_
    refine qd ?_
    refine qU ?_
    intro _ a w' hf hp'
    exact ⟨hf.defers, _, rfl, _, results_none rfl _ _ _, rfl, rfl, hp'.pick (.cons 1 rfl (.cons 1 rfl .nil)) .nil (by simp)⟩
  · simp only [vp] at hv
    split at hv
    · rename_i h; subst h; simpa using hv
    · split at hv
      · rename_i h; subst h; simpa using hv
      · split at hv
        · rename_i h; subst h; simpa using hv
        · cases hv
theorem qcn (F : Nat) (x1 : Int) (x2 : Int) (x3 : Int) (r : Int) (hm : jI F x1 x2 x3 = some r) :
    Pure Tryz.prog 43 [.agg #[.int .i64 x1, .int .i64 x2, .int .i64 x3]] [] Unit (fun _ => .int .i64 r) (fun _ => []) (fun _ => []) := by
 refine qS Tryz.func43 rfl Tryz.ntmps43 rfl hm (fun w => qH (l' := [(0, .agg #[.int .i64 x1, .int .i64 x2, .int .i64 x3])]) rfl (qg (qa (qV rfl rfl rfl (fun g4 => qb rfl rfl rfl (qd (qc (qg (qg (qa (qi rfl rfl qaC rfl (ql (i := 0) rfl rfl tf3 rfl rfl (fun _ => rfl) rfl rfl ?_))))))))))))
 refine qZ rfl rfl rfl rfl (qe rfl rfl rfl (zS 4 (decide (x1 < 0)) [(1, .pointer (some ⟨g4, 0, none⟩)), (10, .bool ((decide (x1 < 0)) || (decide (7 < x1))))] (fun h12 => ?_) (fun h12 => ?_) ?_))
 exact qy (os := _) rfl (zA (k := 6) rfl h12 (qn rfl rfl rfl (qn rfl rfl rfl (qn rfl rfl rfl (qG (b := true) rfl rfl rfl rfl (qC (d := 10) (v := .bool ((decide (x1 < 0)) || (decide (7 < x1)))) rfl (by rw [h12]; simp only [Bool.true_or]) (qd (qT (qk rfl (qk rfl zd))))))))))
 exact qy (os := _) rfl (zz (k := 6) rfl h12 (qi rfl rfl qaC rfl (ql (i := 0) rfl rfl tf3 rfl rfl (fun _ => rfl) rfl rfl (zG rfl rfl rfl rfl (qG (b := false) rfl rfl rfl rfl (qC (d := 10) (v := .bool ((decide (x1 < 0)) || (decide (7 < x1)))) rfl (by rw [h12]; simp only [Bool.false_or]) (qd (qT (qk rfl (qk rfl zd))))))))))
 refine qy (os := _) rfl (qe rfl rfl rfl (zS 4 ((decide (x1 < 0)) || (decide (7 < x1))) [(1, .pointer (some ⟨g4, 0, none⟩)), (15, .bool (((decide (x1 < 0)) || (decide (7 < x1))) || (decide (x2 < 0))))] (fun h13 => ?_) (fun h13 => ?_) ?_))
 exact qy (os := _) rfl (zA (k := 11) rfl h13 (qn rfl rfl rfl (qn rfl rfl rfl (qn rfl rfl rfl (qG (b := true) rfl rfl rfl rfl (qC (d := 15) (v := .bool (((decide (x1 < 0)) || (decide (7 < x1))) || (decide (x2 < 0)))) rfl (by rw [h13]; simp only [Bool.true_or]) (qd (qT (qk rfl (qk rfl zd))))))))))
 exact qy (os := _) rfl (zz (k := 11) rfl h13 (qi rfl rfl qcR rfl (ql (i := 0) rfl rfl tf3 rfl rfl (fun _ => rfl) rfl rfl (qZ rfl rfl rfl rfl (qG (b := false) rfl rfl rfl rfl (qC (d := 15) (v := .bool (((decide (x1 < 0)) || (decide (7 < x1))) || (decide (x2 < 0)))) rfl (by rw [h13]; simp only [Bool.false_or]) (qd (qT (qk rfl (qk rfl zd))))))))))
 refine qy (os := _) rfl (qe rfl rfl rfl (zS 4 (((decide (x1 < 0)) || (decide (7 < x1))) || (decide (x2 < 0))) [(1, .pointer (some ⟨g4, 0, none⟩)), (20, .bool ((((decide (x1 < 0)) || (decide (7 < x1))) || (decide (x2 < 0))) || ((x2 : Int) == 1)))] (fun h14 => ?_) (fun h14 => ?_) ?_))
 exact qy (os := _) rfl (zA (k := 16) rfl h14 (qn rfl rfl rfl (qn rfl rfl rfl (qn rfl rfl rfl (qG (b := true) rfl rfl rfl rfl (qC (d := 20) (v := .bool ((((decide (x1 < 0)) || (decide (7 < x1))) || (decide (x2 < 0))) || ((x2 : Int) == 1))) rfl (by rw [h14]; simp only [Bool.true_or]) (qd (qT (qk rfl (qk rfl zd))))))))))
 exact qy (os := _) rfl (zz (k := 16) rfl h14 (qi rfl rfl qcR rfl (ql (i := 0) rfl rfl tf3 rfl rfl (fun _ => rfl) rfl rfl (ku rfl rfl rfl rfl (qG (b := false) rfl rfl rfl rfl (qC (d := 20) (v := .bool ((((decide (x1 < 0)) || (decide (7 < x1))) || (decide (x2 < 0))) || ((x2 : Int) == 1))) rfl (by rw [h14]; simp only [Bool.false_or]) (qd (qT (qk rfl (qk rfl zd))))))))))
 refine qy (os := _) rfl (qe rfl rfl rfl (zS 4 ((((decide (x1 < 0)) || (decide (7 < x1))) || (decide (x2 < 0))) || ((x2 : Int) == 1)) [(1, .pointer (some ⟨g4, 0, none⟩)), (25, .bool (((((decide (x1 < 0)) || (decide (7 < x1))) || (decide (x2 < 0))) || ((x2 : Int) == 1)) || (decide (300 < x2))))] (fun h15 => ?_) (fun h15 => ?_) ?_))
 exact qy (os := _) rfl (zA (k := 21) rfl h15 (qn rfl rfl rfl (qn rfl rfl rfl (qn rfl rfl rfl (qG (b := true) rfl rfl rfl rfl (qC (d := 25) (v := .bool (((((decide (x1 < 0)) || (decide (7 < x1))) || (decide (x2 < 0))) || ((x2 : Int) == 1)) || (decide (300 < x2)))) rfl (by rw [h15]; simp only [Bool.true_or]) (qd (qT (qk rfl (qk rfl zd))))))))))
 exact qy (os := _) rfl (zz (k := 21) rfl h15 (qi rfl rfl qcR rfl (ql (i := 0) rfl rfl tf3 rfl rfl (fun _ => rfl) rfl rfl (zG rfl rfl rfl rfl (qG (b := false) rfl rfl rfl rfl (qC (d := 25) (v := .bool (((((decide (x1 < 0)) || (decide (7 < x1))) || (decide (x2 < 0))) || ((x2 : Int) == 1)) || (decide (300 < x2)))) rfl (by rw [h15]; simp only [Bool.false_or]) (qd (qT (qk rfl (qk rfl zd))))))))))
 refine qy (os := _) rfl (qe rfl rfl rfl (zS 4 (((((decide (x1 < 0)) || (decide (7 < x1))) || (decide (x2 < 0))) || ((x2 : Int) == 1)) || (decide (300 < x2))) [(1, .pointer (some ⟨g4, 0, none⟩)), (30, .bool ((((((decide (x1 < 0)) || (decide (7 < x1))) || (decide (x2 < 0))) || ((x2 : Int) == 1)) || (decide (300 < x2))) || (decide (x3 < 1))))] (fun h16 => ?_) (fun h16 => ?_) ?_))
 exact qy (os := _) rfl (zA (k := 26) rfl h16 (qn rfl rfl rfl (qn rfl rfl rfl (qn rfl rfl rfl (qG (b := true) rfl rfl rfl rfl (qC (d := 30) (v := .bool ((((((decide (x1 < 0)) || (decide (7 < x1))) || (decide (x2 < 0))) || ((x2 : Int) == 1)) || (decide (300 < x2))) || (decide (x3 < 1)))) rfl (by rw [h16]; simp only [Bool.true_or]) (qd (qT (qk rfl (qk rfl zd))))))))))
 exact qy (os := _) rfl (zz (k := 26) rfl h16 (qi rfl rfl qgC rfl (ql (i := 0) rfl rfl tf3 rfl rfl (fun _ => rfl) rfl rfl (qZ rfl rfl rfl rfl (qG (b := false) rfl rfl rfl rfl (qC (d := 30) (v := .bool ((((((decide (x1 < 0)) || (decide (7 < x1))) || (decide (x2 < 0))) || ((x2 : Int) == 1)) || (decide (300 < x2))) || (decide (x3 < 1)))) rfl (by rw [h16]; simp only [Bool.false_or]) (qd (qT (qk rfl (qk rfl zd))))))))))
 refine qy (os := _) rfl (qe rfl rfl rfl (zS 4 ((((((decide (x1 < 0)) || (decide (7 < x1))) || (decide (x2 < 0))) || ((x2 : Int) == 1)) || (decide (300 < x2))) || (decide (x3 < 1))) [(35, .bool (((((((decide (x1 < 0)) || (decide (7 < x1))) || (decide (x2 < 0))) || ((x2 : Int) == 1)) || (decide (300 < x2))) || (decide (x3 < 1))) || (decide (16 < x3))))] (fun h17 => ?_) (fun h17 => ?_) ?_))
 exact qy (os := _) rfl (zA (k := 31) rfl h17 (qn rfl rfl rfl (qn rfl rfl rfl (qn rfl rfl rfl (qG (b := true) rfl rfl rfl rfl (qC (d := 35) (v := .bool (((((((decide (x1 < 0)) || (decide (7 < x1))) || (decide (x2 < 0))) || ((x2 : Int) == 1)) || (decide (300 < x2))) || (decide (x3 < 1))) || (decide (16 < x3)))) rfl (by rw [h17]; simp only [Bool.true_or]) (qd (qT (qk rfl zd)))))))))
 exact qy (os := _) rfl (zz (k := 31) rfl h17 (qi rfl rfl qgC rfl (ql (i := 0) rfl rfl tf3 rfl rfl (fun _ => rfl) rfl rfl (zG rfl rfl rfl rfl (qG (b := false) rfl rfl rfl rfl (qC (d := 35) (v := .bool (((((((decide (x1 < 0)) || (decide (7 < x1))) || (decide (x2 < 0))) || ((x2 : Int) == 1)) || (decide (300 < x2))) || (decide (x3 < 1))) || (decide (16 < x3)))) rfl (by rw [h17]; simp only [Bool.false_or]) (qd (qT (qk rfl zd)))))))))
 refine qy (os := _) rfl (qd (qc (qz rfl (fun h18 => ?_) (fun h18 => ?_))))
 exact qg (qa (qb rfl rfl rfl (qd (qc (qs (qp (qq () (res1 rfl rfl))))))))
 exact qr (qc (qg (qa (qb rfl rfl rfl (qd (qc (qs (qq () (res1 rfl rfl)))))))))
set_option maxHeartbeats 4000000 in
theorem qfD (F : Nat) (x1 : List (List Int)) (a2 : Option Addr) (c3 : (Nat × List (Option Addr × Nat))) (r : Int) (hm : qaR F x1 = some r) :
    Pure Tryz.prog 54 [.agg #[.slice a2 x1.length c3.1]] [SlN eN37 iN37 1 (.slice a2 x1.length c3.1) x1 c3.2] Unit (fun _ => .int .i64 r) (fun _ => []) (fun _ => []) := by
 refine qS Tryz.func54 rfl Tryz.ntmps54 rfl hm (fun w => qH (l' := [(0, .agg #[.slice a2 x1.length c3.1])]) rfl (qg (qa (qV rfl rfl rfl (fun g4 => qb rfl rfl rfl (qd (qc (qg (qa (qi rfl rfl qdx rfl (ql (i := 0) rfl rfl tf22 rfl rfl (fun _ => rfl) rfl rfl (qX rfl Tryz.underlying22 rfl rfl ?_))))))))))))
 refine qb rfl rfl rfl (qd (qc (qg (qg (qa (qe rfl rfl rfl (zG rfl rfl rfl rfl (qd (qc (qz rfl (fun h1593 => ?_) (fun h1593 => ?_)))))))))))
 exact qg (qa (qb rfl rfl rfl (qd (qc (qs (qp (qq () (res1 rfl rfl))))))))
 refine qr (qc (qg (qa (qb rfl rfl rfl (qd (qc (qK (fun ((x798, _) : (Int × Unit)) => [(4, .int .i64 x798)]) (fun ((x798, _) : (Int × Unit)) => []) (fun ((x798, _) : (Int × Unit)) => []) (fun ((x798, _) : (Int × Unit)) => []) (fun ((x798, _) : (Int × Unit)) => qal F x798) ?_ ?_)))))))
 refine qg (qa (qi rfl rfl qdx rfl (ql (i := 0) rfl rfl tf22 rfl rfl (fun _ => rfl) rfl rfl (qX rfl Tryz.underlying22 rfl rfl (qe rfl rfl rfl (qd (qc (qB (q7 (fun (((x1064, x1065), _) : ((Int × Int) × Unit)) => [(3, .int .i64 (x1.length : Int)), (4, .int .i64 x1064), (16, .slice a2 x1.length c3.1), (17, .int .i64 (x1.length : Int)), (18, .int .i64 x1065)]) (fun (((x1064, x1065), _) : ((Int × Int) × Unit)) => []) (fun (((x1064, x1065), _) : ((Int × Int) × Unit)) => []) (fun (((x1064, x1065), _) : ((Int × Int) × Unit)) => [SlN eN37 iN37 1 (.slice a2 x1.length c3.1) x1 c3.2]) (fun k (s : ((Int × Int) × Unit)) => zy F x1 k s.1) ((0, 0), ()) F ?_ (hF := (qo 0 rfl qA)))))))))))
 intro k1329
 rintro ⟨⟨x1064, x1065⟩, _⟩
 try dsimp only
 refine zB (m' := jf F x1 (zy F x1 k1329) x1064 x1065) rfl (qg (qa (qZ rfl rfl rfl rfl (qd (qc (qg (qz rfl (fun h1592 => ?_) (fun h1592 => ?_))))))))
 refine qr (qc (qK (fun ((x1461, _) : (Int × Unit)) => [(3, .int .i64 (x1.length : Int)), (4, .int .i64 x1461), (16, .slice a2 x1.length c3.1), (17, .int .i64 (x1.length : Int)), (18, .int .i64 x1065)]) (fun ((x1461, _) : (Int × Unit)) => []) (fun ((x1461, _) : (Int × Unit)) => []) (fun ((x1461, _) : (Int × Unit)) => [SlN eN37 iN37 1 (.slice a2 x1.length c3.1) x1 c3.2]) (fun ((x1461, _) : (Int × Unit)) => qam F (zy F x1 k1329) x1065 x1461) ?_ ?_))
 refine qB (qg (qa (qbK (j := 0) yP (by decide) rfl Tryz.underlying22 tf37 rfl rfl rfl rfl (fun x1462 e1462 g1465 b1463 o1464 => zU (j := 0) rfl rfl tf37 rfl rfl (fun _ => rfl) rfl rfl (qb rfl rfl rfl (qd (qc (qg (qa (qb rfl rfl rfl (qd (qc ?_))))))))))))
 refine qK (fun ((_, _) : (Unit × Unit)) => [(3, .int .i64 (x1.length : Int)), (4, .int .i64 x1064), (6, .slice g1465.1 x1462.length g1465.2), (16, .slice a2 x1.length c3.1), (17, .int .i64 (x1.length : Int)), (18, .int .i64 x1065)]) (fun ((_, _) : (Unit × Unit)) => []) (fun ((_, _) : (Unit × Unit)) => []) (fun ((_, _) : (Unit × Unit)) => [Sl (eI .i64) 1 (.slice g1465.1 x1462.length g1465.2) x1462, SlN eN37 iN37 1 (.slice a2 x1.length c3.1) x1 c3.2]) (fun ((_, _) : (Unit × Unit)) => jh F (zy F x1 k1329) x1064 x1065 x1462) ?_ ?_
 refine qg (qa (qe rfl rfl rfl (qX rfl Tryz.underlying37 rfl rfl (qe rfl rfl rfl (qd (qc (qB (q7 (fun (((x1549, x1550), _) : ((Int × Int) × Unit)) => [(3, .int .i64 (x1.length : Int)), (4, .int .i64 x1064), (6, .slice g1465.1 x1462.length g1465.2), (7, .int .i64 x1549), (16, .slice a2 x1.length c3.1), (17, .int .i64 (x1.length : Int)), (18, .int .i64 x1065), (22, .slice g1465.1 x1462.length g1465.2), (23, .int .i64 (x1462.length : Int)), (24, .int .i64 x1550)]) (fun (((x1549, x1550), _) : ((Int × Int) × Unit)) => []) (fun (((x1549, x1550), _) : ((Int × Int) × Unit)) => []) (fun (((x1549, x1550), _) : ((Int × Int) × Unit)) => [Sl (eI .i64) 1 (.slice g1465.1 x1462.length g1465.2) x1462, SlN eN37 iN37 1 (.slice a2 x1.length c3.1) x1 c3.2]) (fun k (s : ((Int × Int) × Unit)) => yi F (zy F x1 k1329) x1 x1064 x1065 x1462 k s.1) ((-1, 0), ()) F ?_ (hF := (qo 1 rfl (qo 2 rfl qA)))))))))))
 intro k1571
 rintro ⟨⟨x1549, x1550⟩, _⟩
 try dsimp only
 refine zB (m' := jg F (zy F x1 k1329) x1 x1064 x1065 x1462 (yi F (zy F x1 k1329) x1 x1064 x1065 x1462 k1571) x1549 x1550) rfl (qg (qa (qZ rfl rfl rfl rfl (qd (qc (qg (qz rfl (fun h1591 => ?_) (fun h1591 => ?_))))))))
 refine qr (qc (qg (qB (qg (qa (zZ (j := 0) (zb .i64) (by decide) rfl Tryz.underlying37 tf3 rfl rfl rfl rfl (fun x1582 e1582 b1583 o1584 => zU (j := 0) rfl rfl tf3 rfl rfl (fun _ => rfl) rfl rfl (qb rfl rfl rfl (qd (qc (qg (qB ?_))))))))))))
 refine qg (qa (qe rfl rfl rfl (qZ rfl rfl rfl rfl (qe rfl rfl rfl (zS 4 (decide (x1582 < 0)) [(3, .int .i64 (x1.length : Int)), (4, .int .i64 x1064), (6, .slice g1465.1 x1462.length g1465.2), (7, .int .i64 x1549), (16, .slice a2 x1.length c3.1), (17, .int .i64 (x1.length : Int)), (18, .int .i64 x1065), (22, .slice g1465.1 x1462.length g1465.2), (23, .int .i64 (x1462.length : Int)), (24, .int .i64 x1550), (9, .int .i64 x1582), (35, .bool ((decide (x1582 < 0)) || (decide ((x1.length : Int) ≤ x1582))))] (fun h1588 => ?_) (fun h1588 => ?_) ?_)))))
 exact qy (os := _) rfl (zA (k := 31) rfl h1588 (qn rfl rfl rfl (qn rfl rfl rfl (qn rfl rfl rfl (qG (b := true) rfl rfl rfl rfl (qC (d := 35) (v := .bool ((decide (x1582 < 0)) || (decide ((x1.length : Int) ≤ x1582)))) rfl (by rw [h1588]; simp only [Bool.true_or]) (qd (qT (qk rfl (qk rfl (qk rfl (qk rfl (qk rfl (qk rfl (qk rfl (qk rfl (qk rfl (qk rfl (qk rfl (qk rfl zd))))))))))))))))))))
 exact qy (os := _) rfl (zz (k := 31) rfl h1588 (qe rfl rfl rfl (qe rfl rfl rfl (qaY rfl rfl rfl rfl (qG (b := false) rfl rfl rfl rfl (qC (d := 35) (v := .bool ((decide (x1582 < 0)) || (decide ((x1.length : Int) ≤ x1582)))) rfl (by rw [h1588]; simp only [Bool.false_or]) (qd (qT (qk rfl (qk rfl (qk rfl (qk rfl (qk rfl (qk rfl (qk rfl (qk rfl (qk rfl (qk rfl (qk rfl (qk rfl zd))))))))))))))))))))
 refine qy (os := _) rfl (qb rfl rfl rfl (qd (qc (qz rfl (fun h1590 => ?_) (fun h1590 => ?_)))))
 refine qg (qa (qb rfl rfl rfl (qd (qc (qs (qM (qp (qM (qp (qp (qM (qp ?_))))))))))))
 exact qM (qp (qp (qM (qp (qq () (res1 rfl rfl))))))
 refine qg (qa (qe rfl rfl rfl (qe rfl rfl rfl (qcC rfl rfl rfl rfl (qb rfl rfl rfl (qd (qc (qz rfl (fun h1589 => ?_) (fun h1589 => ?_)))))))))
 refine qg (qa (qb rfl rfl rfl (qd (qc (qs (qM (qp (qM (qp (qp (qM (qp ?_))))))))))))
 exact qM (qp (qp (qM (qp (qq () (res1 rfl rfl))))))
 refine qr (qU (qc (qa (qe rfl rfl rfl (qb rfl rfl rfl (qd (qU (qc (qa (qL rfl rfl rfl rfl (qe rfl rfl rfl (qd ?_))))))))))))
 exact qW ((x1582, iadd .i64 x1550 1), ()) (hF := (qo 1 rfl (qo 2 rfl qA)))
 exact zj (qD (qD (zk (qm ((), ()) (hF := (qo 0 rfl (qo 1 rfl qA)))))))
 rintro ⟨_, _⟩
 try dsimp only
 exact qa (qe rfl rfl rfl (qe rfl rfl rfl (qX rfl Tryz.underlying37 rfl rfl (qL rfl rfl rfl rfl (qb rfl rfl rfl (qd (qU (qm (iadd .i64 x1064 (x1462.length : Int), ()) (hF := (qo 1 rfl qA))))))))))
 rintro ⟨x1461, _⟩
 try dsimp only
 exact qa (qL rfl rfl rfl rfl (qe rfl rfl rfl (qd (qW ((x1461, iadd .i64 x1065 1), ()) (hF := (qo 0 rfl qA))))))
 exact zj (qD (qD (zk (qm (x1064, ())))))
 rintro ⟨x798, _⟩
 try dsimp only
 refine qg (qg (qa (qe rfl rfl rfl (zG rfl rfl rfl rfl (qd (qc (qz rfl (fun h800 => ?_) (fun h800 => ?_))))))))
 exact qg (qa (qb rfl rfl rfl (qd (qc (qs (qp (qq () (res1 rfl rfl))))))))
 exact qr (qc (qg (qa (qb rfl rfl rfl (qd (qc (qs (qq () (res1 rfl rfl)))))))))
theorem qfA (F : Nat) (x1 : Int) (x2 : List Int) (a3 : Option Addr) (c4 : Nat) (x5 : Int) (x6 : Int) (r : Unit) (hm : qb4 F x1 x2 x5 x6 = some r) :
    PureM Tryz.prog 50 [.agg #[.int .i64 x1, .slice a3 x2.length c4], .int .i64 x5, .int .i64 x6] [] [] [Sl (eI .u8) 1 (.slice a3 x2.length c4) x2] (Nat × Nat × Nat) (fun g => .func (.func 78) #[] #[.pointer (some ⟨g.1, 0, none⟩), .pointer (some ⟨g.2.1, 0, none⟩), .pointer (some ⟨g.2.2, 0, none⟩)]) (fun g => [⟨g.1, 3, [.int .i64 x5]⟩, ⟨g.2.1, 3, [.int .i64 x6]⟩, ⟨g.2.2, 29, [.int .i64 x1, .slice a3 x2.length c4]⟩]) (fun _ => []) := by
 refine kP Tryz.func50 rfl Tryz.ntmps50 rfl hm (fun w => qH (l' := [(0, .agg #[.int .i64 x1, .slice a3 x2.length c4]), (1, .int .i64 x5), (2, .int .i64 x6)]) rfl (qg (qa (qV rfl rfl rfl (fun g7 => qV rfl rfl rfl (fun g8 => qV rfl rfl rfl (fun g9 => qb rfl rfl rfl (qd (qc (qg (qa (qcD rfl rfl rfl ?_))))))))))))
 exact qb rfl rfl rfl (qd (qc (qs (zr (g8, g9, g7) (res1 rfl rfl) (hB := fun h => by subst h; exact (.cons 1 rfl (.cons 0 rfl (.cons 0 rfl .nil))))))))
theorem qbN (F : Nat) (g1 : Nat) (x2 : Int) (x3 : List Int) (a4 : Option Addr) (c5 : Nat) (x6 : Int) (r : (Int × List Int)) (hm : yZ F x2 x3 x6 = some r) :
    PureM Tryz.prog 51 [.pointer (some ⟨g1, 0, none⟩), .int .u64 x6] [⟨g1, 94, [.int .i64 x2, .slice a4 x3.length c5]⟩] [Ro (eI .u8) 5 1 (.slice a4 x3.length c5) x3] [] (Option Addr × Nat) (fun _ => .tuple #[]) (fun g => [⟨g1, 94, [.int .i64 r.1, .slice g.1 r.2.length g.2]⟩]) (fun g => [Ro (eI .u8) 5 1 (.slice g.1 r.2.length g.2) r.2]) := by
  refine kP Tryz.func51 rfl Tryz.ntmps51 rfl hm (fun w => ?_)
  refine qH (l' := [(0, .pointer (some ⟨g1, 0, none⟩)), (1, .int .u64 x6)]) rfl ?_
  refine qK (fun ((x15, (a13, c14)) : (List Int × (Option Addr × Nat))) => [(0, .pointer (some ⟨g1, 0, none⟩)), (1, .int .u64 x6)]) (fun ((x15, (a13, c14)) : (List Int × (Option Addr × Nat))) => [⟨g1, 94, [.int .i64 x2, .slice a13 x15.length c14]⟩]) (fun ((x15, (a13, c14)) : (List Int × (Option Addr × Nat))) => [Ro (eI .u8) 5 1 (.slice a13 x15.length c14) x15]) (fun ((x15, (a13, c14)) : (List Int × (Option Addr × Nat))) => []) (fun ((x15, _) : (List Int × (Option Addr × Nat))) => yc F x2 x6 x15) ?_ ?_
  · refine qg ?_
    refine qa ?_
    refine qe rfl rfl rfl ?_
    refine qN rfl rfl rfl ?_
    refine qi rfl rfl qb7 rfl ?_
    refine qi rfl rfl ky rfl ?_
    refine ql (i := 0) rfl rfl tf3 rfl rfl (fun _ => rfl) rfl rfl ?_
    refine qjG rfl rfl rfl rfl rfl ?_
    refine ku rfl rfl rfl rfl ?_
    refine qd ?_
    refine qc ?_
    refine qz rfl (fun h49 => ?_) (fun h49 => ?_)
    · refine qa ?_
      refine qe rfl rfl rfl ?_
      refine qe rfl rfl rfl ?_
      refine qN rfl rfl rfl ?_
      refine qi rfl rfl qb7 rfl ?_
      refine qi rfl rfl qa9 rfl ?_
      refine ql (i := 0) rfl rfl tf27 rfl rfl (fun _ => rfl) rfl rfl ?_
      refine zW (vs := [.int .u8 0]) (ys := ([0] : List Int)) (zb .u8) (by decide) rfl Tryz.underlying27 tf5 rfl rfl rfl rfl rfl (by decide) (fun a44 c45 => ?_)
      refine yp 1 (zb .u8) rfl Tryz.underlying27 tf5 rfl rfl rfl rfl rfl (.inl ⟨0, _, rfl⟩) rfl rfl (fun x46 e46 a47 c48 => ?_)
      refine qN rfl rfl rfl ?_
      refine qi rfl rfl qb7 rfl ?_
      refine qi rfl rfl qa9 rfl ?_
      refine qu (i := 0) rfl rfl rfl tf27 rfl rfl rfl rfl rfl ?_
      refine qd ?_
      exact qm (x46, (a47, c48)) (hB := (.cons 0 rfl .nil)) (hR := (.cons 0 rfl .nil))
    · refine qr ?_
      exact qm (x3, (a4, c5)) (hB := (.cons 0 rfl .nil)) (hR := (.cons 0 rfl .nil))
  · rintro ⟨x15, ⟨a13, c14⟩⟩
    try dsimp only
    refine qg ?_
    refine qh0 (j := 0) rfl (fun x30 e30 g31 h32 => ?_)
    replace h32 : a13 = some ⟨g31, 0, none⟩ := h32
    have h33 := qip (k := x15.length) (c := c14) h32
    refine qc8 (fun h34 => ?_)
    refine qh0 (j := 0) rfl (fun x36 e36 g37 h38 => ?_)
    replace h38 : a13 = some ⟨g37, 0, none⟩ := h38
    have h39 := qip (k := x15.length) (c := c14) h38
    refine zg mixed [25] [⟨g1, 94, [.int .i64 x2, .slice a13 x15.length c14]⟩] [zC g31 ((iquo .i64 x2 8).toNat * 1) ((eI .u8) x30), zC g37 ((iquo .i64 x2 8).toNat * 1) ((eI .u8) x36)] (.cons 0 rfl .nil) (qnL 0 rfl (qkm (zb .u8) e30 h32) (qnL 0 rfl (qkm (zb .u8) e36 h38) qE)) 26 rfl ?_
    refine qf 0 (.pointer (some ⟨g1, 0, none⟩)) rfl rfl rfl (qj rfl) ?_
    refine qf 1 (.pointer (some ⟨g1, 0, none⟩)) rfl rfl rfl (qj rfl) ?_
    refine qf 2 (.pointer (some ⟨g1, 0, none⟩)) rfl rfl rfl (qt rfl qb7) ?_
    refine qf 3 (.pointer (some ⟨g1, 1, none⟩)) rfl rfl rfl (qt rfl qa9) ?_
    refine qP 4 (.slice a13 x15.length c14) rfl rfl rfl (qQ (i := 0) rfl tf27 rfl rfl (fun _ => rfl) rfl) ?_
    refine qf 5 (.pointer (some ⟨g1, 0, none⟩)) rfl rfl rfl (qj rfl) ?_
    refine qf 6 (.pointer (some ⟨g1, 0, none⟩)) rfl rfl rfl (qj rfl) ?_
    refine qf 7 (.pointer (some ⟨g1, 0, none⟩)) rfl rfl rfl (qt rfl qb7) ?_
    refine qf 8 (.pointer (some ⟨g1, 0, none⟩)) rfl rfl rfl (qt rfl ky) ?_
    refine qP 9 (.int .i64 x2) rfl rfl rfl (qQ (i := 0) rfl tf3 rfl rfl (fun _ => rfl) rfl) ?_
    refine qf 10 (.int .i64 (iquo .i64 x2 8)) rfl rfl rfl (qnz rfl rfl rfl) ?_
    refine qJ (d := 26) (v := .slice (some ⟨g31, 0, none⟩) x15.length c14) rfl (by rw [h32] <;> rfl) ?_
    refine qf 11 (.pointer (some ⟨g31, (iquo .i64 x2 8).toNat * 1, none⟩)) rfl rfl rfl (qjL Tryz.underlying27 tf5 rfl rfl (kj e30).1 (qaE e30)) ?_
    refine qJ (d := 26) (v := .slice a13 x15.length c14) rfl (by rw [h32] <;> rfl) ?_
    refine ko 12 (.int .u8 x30) [[25]] rfl rfl rfl (vW (j := 0) rfl tf5 rfl rfl (fun _ => rfl) rfl) ?_
    refine qf 13 (.int .u64 x6) rfl rfl rfl (qj rfl) ?_
    refine qf 14 (.int .u64 (ishl .u64 x6 7)) rfl rfl rfl (qev rfl rfl rfl) ?_
    refine qf 15 (.int .u8 (iconv .u8 (ishl .u64 x6 7))) rfl rfl rfl (qmE Tryz.underlying50 Tryz.underlying5 rfl) ?_
    refine qf 16 (.pointer (some ⟨g1, 0, none⟩)) rfl rfl rfl (qj rfl) ?_
    refine qf 17 (.pointer (some ⟨g1, 0, none⟩)) rfl rfl rfl (qj rfl) ?_
    refine qf 18 (.pointer (some ⟨g1, 0, none⟩)) rfl rfl rfl (qt rfl qb7) ?_
    refine qf 19 (.pointer (some ⟨g1, 0, none⟩)) rfl rfl rfl (qt rfl ky) ?_
    refine qP 20 (.int .i64 x2) rfl rfl rfl (qQ (i := 0) rfl tf3 rfl rfl (fun _ => rfl) rfl) ?_
    refine qf 21 (.int .i64 (irem x2 8)) rfl rfl rfl (qhd rfl rfl rfl) ?_
    refine qf 22 (.int .u8 (ishr .u8 (iconv .u8 (ishl .u64 x6 7)) (irem x2 8))) rfl rfl rfl (qnA rfl rfl h34) ?_
    refine qf 23 (.int .u8 (ior .u8 x30 (ishr .u8 (iconv .u8 (ishl .u64 x6 7)) (irem x2 8)))) rfl rfl rfl (qj rfl) ?_
    refine qJ (d := 26) (v := .slice (some ⟨g37, 0, none⟩) x15.length c14) rfl (by rw [h38] <;> rfl) ?_
    refine qf 24 (.pointer (some ⟨g37, (iquo .i64 x2 8).toNat * 1, none⟩)) rfl rfl rfl (qjL Tryz.underlying27 tf5 rfl rfl (kj e36).1 (qaE e36)) ?_
    refine qJ (d := 26) (v := .slice a13 x15.length c14) rfl (by rw [h38] <;> rfl) ?_
    refine qI 25 rfl (by kernel_rfl) rfl ?_
    refine qdC (j := 0) (y' := ior .u8 x30 (ishr .u8 (iconv .u8 (ishl .u64 x6 7)) (irem x2 8))) (zb .u8) rfl rfl rfl tf5 rfl (qip h38) (kj e36).2.1 rfl (fun x41 e41 h42 => ?_)
    have h43 : x41.length = x15.length := by rw [← e41, List.length_set]
    refine qC (d := 26) (v := .slice a13 x41.length c14) rfl h42 ?_
    refine qg3 (i := 0) (cs' := [.int .i64 x2, .slice a13 x41.length c14]) rfl (by rw [h42] <;> rfl) ?_
    refine qd ?_
    refine vu 25 rfl (by kernel_rfl) (.cons 0 (by rw [h43]; rfl) .nil) ?_
    refine qO (by kernel_rfl) ?_
    refine zm ?_ (by intro c h; cases h)
    refine qc ?_
    refine qa ?_
    refine qe rfl rfl rfl ?_
    refine qN rfl rfl rfl ?_
    refine qi rfl rfl qb7 rfl ?_
    refine qi rfl rfl ky rfl ?_
    refine ql (i := 0) rfl rfl tf3 rfl rfl (fun _ => rfl) rfl rfl ?_
    refine qL rfl rfl rfl rfl ?_
    refine qN rfl rfl rfl ?_
    refine qi rfl rfl qb7 rfl ?_
    refine qi rfl rfl ky rfl ?_
    refine qu (i := 0) rfl rfl rfl tf3 rfl rfl rfl rfl rfl ?_
    refine qd ?_
    exact zr (a13, c14) (res0 rfl) (hB := fun h => by subst h; exact (.cons 0 rfl .nil)) (hR := fun h => by subst h; exact (.cons 0 rfl .nil))
theorem qb0 (F : Nat) (x1 : List Int) (a2 : Option Addr) (c3 : Nat) (r : List Int) (hm : ya F x1 = some r) :
    Pure Tryz.prog 102 [.slice a2 x1.length c3] [Sl (eI .u8) 1 (.slice a2 x1.length c3) x1] (Option Addr × Nat) (fun g => .slice g.1 r.length g.2) (fun g => [Ro (eI .u8) 5 1 (.slice g.1 r.length g.2) r]) (fun _ => []) := by
 refine qS Tryz.func102 rfl Tryz.ntmps102 rfl hm (fun w => qH (l' := [(0, .slice a2 x1.length c3)]) rfl (qg (qa (qb rfl rfl rfl (qd (qc (qg (qg (qa (qe rfl rfl rfl (qga rfl Tryz.underlying27 rfl rfl rfl (qd ?_))))))))))))
 refine qc (qax rfl (fun h11 => ?_) (fun h11 => ?_))
 refine qh2 0 (zb .u8) (by decide) rfl h11 (fun h12 => ?_)
 subst h12
 exact zB (m' := some ([] : List Int)) rfl (qg (qa (qb rfl rfl rfl (qd (qc (qs (qp (q3 Int (eI .u8) 5 1 (qq (none, 0) (res1 rfl rfl) (fun h => by subst h; exact (.cons 0 rfl .nil)))))))))))
 exact qr (qc (qg (qa (zW (vs := []) (ys := ([] : List Int)) (zb .u8) (by decide) rfl Tryz.underlying27 tf5 rfl rfl rfl rfl rfl (by decide) (fun a6 c7 => qe rfl rfl rfl (yp 0 (zb .u8) rfl Tryz.underlying27 tf5 rfl rfl rfl rfl rfl (.inr ⟨0, rfl⟩) rfl rfl (fun x8 e8 a9 c10 => qb rfl rfl rfl (qd (qc (qs (qq (a9, c10) (res1 rfl rfl) (fun h => by subst h; exact (.cons 0 rfl .nil)))))))))))))
theorem qeS (F : Nat) (x1 : Int) (x2 : List Int) (a3 : Option Addr) (c4 : Nat) (r : (Int × List Int)) (hm : qbx F x1 x2 = some r) :
    PureM Tryz.prog 80 [.agg #[.int .i64 x1, .slice a3 x2.length c4]] [] [] [Sl (eI .u8) 1 (.slice a3 x2.length c4) x2] ((Option Addr × Nat) × Nat) (fun g => .pointer (some ⟨g.2, 0, none⟩)) (fun g => [⟨g.2, 94, [.int .i64 r.1, .slice g.1.1 r.2.length g.1.2]⟩]) (fun g => [Ro (eI .u8) 5 1 (.slice g.1.1 r.2.length g.1.2) r.2]) := by
 refine kP Tryz.func80 rfl Tryz.ntmps80 rfl hm (fun w => qH (l' := [(0, .agg #[.int .i64 x1, .slice a3 x2.length c4])]) rfl (qg (qa (qV rfl rfl rfl (fun g5 => qb rfl rfl rfl (qd (qc (qg (zg mixed [] [⟨g5, 29, [.int .i64 x1, .slice a3 x2.length c4]⟩] [Sl (eI .u8) 1 (.slice a3 x2.length c4) x2] (.cons 0 rfl .nil) (q8 0 rfl qE) 9 rfl (qf 0 (.pointer (some ⟨g5, 0, none⟩)) rfl rfl rfl (qt rfl ky) (qP 1 (.int .i64 x1) rfl rfl rfl (qQ (i := 0) rfl tf3 rfl rfl (fun _ => rfl) rfl) (qf 2 (.pointer (some ⟨g5, 1, none⟩)) rfl rfl rfl (qt rfl qa9) ?_))))))))))))
 refine qP 3 (.slice a3 x2.length c4) rfl rfl rfl (qQ (i := 0) rfl tf27 rfl rfl (fun _ => rfl) rfl) (qI 4 rfl (by kernel_rfl) rfl (qx ent102 rfl rfl rfl (fun x10 e10 => qb0 F x2 a3 c4 x10 e10) (.consF 0 rfl .nil) (fun x10 e10 => ?_)))
 rintro ⟨a11, c12⟩
 refine qd (qF (.cons 0 rfl .nil) (q8 0 rfl qE) (qf 5 (.agg #[.int .i64 x1, .slice a11 x10.length c12]) rfl rfl rfl (qc1 (cells := [.int .i64 x1, .slice a11 x10.length c12]) st29 rfl (by kernel_rfl)) (qf 6 (.agg #[.int .i64 x1, .slice a11 x10.length c12]) rfl rfl rfl (qc1 (cells := [.int .i64 x1, .slice a11 x10.length c12]) st94 rfl (by kernel_rfl)) (qI 7 rfl (by kernel_rfl) rfl (qV rfl rfl rfl (fun g13 => qd (qF (.cons 1 rfl .nil) (q8 0 rfl qE) (qf 8 (.pointer (some ⟨g13, 0, none⟩)) rfl rfl rfl (qj rfl) (qO (by kernel_rfl) (zm (qc (qs ?_)) (by intro c h; cases h)))))))))))
 exact zr ((a11, c12), g13) (res1 rfl rfl) (hB := fun h => by subst h; exact (.cons 0 rfl .nil)) (hR := fun h => by subst h; exact (.cons 0 rfl .nil))
theorem qcc (F : Nat) (x1 : Int) (x2 : List Int) (a3 : Option Addr) (c4 : Nat) (x5 : Int) (r : Int) (hm : jH F x1 x2 x5 = some r) :
    Pure Tryz.prog 79 [.agg #[.int .i64 x1, .slice a3 x2.length c4], .int .i64 x5] [Sl (eI .u8) 1 (.slice a3 x2.length c4) x2] Unit (fun _ => .int .u64 r) (fun _ => []) (fun _ => []) := by
 refine qS Tryz.func79 rfl Tryz.ntmps79 rfl hm (fun w => qH (l' := [(0, .agg #[.int .i64 x1, .slice a3 x2.length c4]), (1, .int .i64 x5)]) rfl (qg (qa (qV rfl rfl rfl (fun g6 => qb rfl rfl rfl (qd (qc (qg (qa (qi rfl rfl qa9 rfl (ql (i := 0) rfl rfl tf27 rfl rfl (fun _ => rfl) rfl rfl (qe rfl rfl rfl ?_))))))))))))
 refine qd3 rfl rfl rfl rfl rfl (zZ (j := 0) (zb .u8) (by decide) rfl Tryz.underlying27 tf5 rfl rfl rfl rfl (fun x7 e7 b8 o9 => zU (j := 0) rfl rfl tf5 rfl rfl (fun _ => rfl) rfl rfl (qe rfl rfl rfl (qjG rfl rfl rfl rfl rfl (zJ rfl rfl rfl rfl (qbr (fun h10 => qbZ rfl rfl rfl rfl h10 (zQ rfl Tryz.underlying5 Tryz.underlying50 rfl rfl (qeP rfl rfl rfl rfl (qb rfl rfl rfl (jT (fun x11 e11 => qC (d := 4) (v := .int .u64 x11) rfl (by rw [e11] <;> rfl) ?_))))))))))))
 exact qd (qc (qs (qq () (res1 rfl rfl))))
theorem qeI (F : Nat) {σ τ : Type} {J : Rounds σ τ} {yy : σ → Int → Option (σ ⊕ τ)} {L : Nat} (hY : YieldC Tryz.prog L (fun (p : Int) => [.int .u64 p]) J yy) (s0 : σ) (gs0 : J.γ) (g1 : Nat) (x2 : Int) (g3 : Nat) (x4 : Int) (g5 : Nat) (x6 : Int) (x7 : List Int) (a8 : Option Addr) (c9 : Nat) (r : σ ⊕ τ) (hm : qa7 F yy x2 x4 x6 x7 s0 = some r) :
    PureM Tryz.prog 78 ([.func (.yield L) #[] #[], .pointer (some ⟨g1, 0, none⟩), .pointer (some ⟨g3, 0, none⟩), .pointer (some ⟨g5, 0, none⟩)]) ([⟨g1, 3, [.int .i64 x2]⟩, ⟨g3, 3, [.int .i64 x4]⟩, ⟨g5, 29, [.int .i64 x6, .slice a8 x7.length c9]⟩] ++ J.IB s0 gs0) (J.IR s0 gs0) [J.F, Sl (eI .u8) 1 (.slice a8 x7.length c9) x7] (J.G r) (fun _ => .tuple #[]) (fun g => [⟨g1, 3, [.int .i64 x2]⟩, ⟨g3, 3, [.int .i64 x4]⟩, ⟨g5, 29, [.int .i64 x6, .slice a8 x7.length c9]⟩] ++ J.bs r g) (fun g => J.rs r g) := by
 refine kP Tryz.func78 rfl Tryz.ntmps78 rfl hm (fun w => qH (l' := [(0, .func (.yield L) #[] #[]), (1, .pointer (some ⟨g1, 0, none⟩)), (2, .pointer (some ⟨g3, 0, none⟩)), (3, .pointer (some ⟨g5, 0, none⟩))]) rfl (qg (qa (ql (i := 0) rfl rfl tf3 rfl rfl (fun _ => rfl) rfl rfl (qb rfl rfl rfl (qd (qc (qB (q7 (fun (((x22, x23), g24) : ((Int × σ) × J.γ)) => [(0, .func (.yield L) #[] #[]), (2, .pointer (some ⟨g3, 0, none⟩)), (3, .pointer (some ⟨g5, 0, none⟩)), (5, .int .i64 x22)]) (fun (((x22, x23), g24) : ((Int × σ) × J.γ)) => [⟨g1, 3, [.int .i64 x2]⟩, ⟨g3, 3, [.int .i64 x4]⟩, ⟨g5, 29, [.int .i64 x6, .slice a8 x7.length c9]⟩] ++ J.IB x23 g24) (fun (((x22, x23), g24) : ((Int × σ) × J.γ)) => [] ++ J.IR x23 g24) (fun (((x22, x23), g24) : ((Int × σ) × J.γ)) => [Sl (eI .u8) 1 (.slice a8 x7.length c9) x7, J.F]) (fun k (s : ((Int × σ) × J.γ)) => km F yy x4 x6 x7 k s.1) ((x2, s0), gs0) F ?_ (hB := (.cons 0 rfl (.cons 0 rfl (.cons 0 rfl (zx 0 rfl))))) (hR := (zx 0 rfl)) (hF := (qo 1 rfl (qo 0 rfl qA))))))))))))
 intro k37
 rintro ⟨⟨x22, x23⟩, g24⟩
 try dsimp only
 refine zB (m' := vC F yy x4 x6 x7 (km F yy x4 x6 x7 k37) x22 x23) rfl (qg (qg (qa (qe rfl rfl rfl (ql (i := 1) rfl rfl tf3 rfl rfl (fun _ => rfl) rfl rfl (qZ rfl rfl rfl rfl (qd (qc (qz rfl (fun h49 => ?_) (fun h49 => ?_))))))))))
 refine qr (qc (qg (qB (qg (qa (qe rfl rfl rfl (ql (i := 2) rfl rfl tf29 rfl rfl (by simp) rfl rfl (qe rfl rfl rfl (qx ent79 rfl rfl rfl (fun x44 e44 => qcc F x6 x7 a8 c9 x22 x44 e44) (.consF 0 rfl .nil) (fun x44 e44 => ?_))))))))))
 intro _
 refine qgc hY x23 x44 g24 (B1 := [⟨g1, 3, [.int .i64 x2]⟩, ⟨g3, 3, [.int .i64 x4]⟩, ⟨g5, 29, [.int .i64 x6, .slice a8 x7.length c9]⟩]) (R1 := []) (j := 1) rfl rfl rfl rfl rfl rfl rfl (fun x45 _ g47 => ?_) (fun x46 _ g47 => ?_)
 exact kw rfl rfl rfl (qd (qc (qax (b := false) rfl (fun h => by cases h) (fun _ => qr (qU (qc (qa (qe rfl rfl rfl (qL rfl rfl rfl rfl (qb rfl rfl rfl (qd (qW ((iadd .i64 x22 1, x45), g47) (hB := (.cons 0 rfl (.cons 0 rfl (.cons 0 rfl (zx 0 rfl))))) (hR := (zx 0 rfl)) (hF := (qo 0 rfl (qo 1 rfl qA)))))))))))))))
 exact kw rfl rfl rfl (qd (qc (qax (b := true) rfl (fun _ => qs (qM (qp (qp (qM (qc9 (B0 := [⟨g1, 3, [.int .i64 x2]⟩, ⟨g3, 3, [.int .i64 x4]⟩, ⟨g5, 29, [.int .i64 x6, .slice a8 x7.length c9]⟩]) (x := .inr x46) g47 (.inl rfl) (res0 rfl) (.cons 0 rfl (.cons 0 rfl (.cons 0 rfl (zx 0 rfl)))) (zx 0 rfl))))))) (fun h => by cases h))))
 exact zj (qD (qD (zk (qc9 (B0 := [⟨g1, 3, [.int .i64 x2]⟩, ⟨g3, 3, [.int .i64 x4]⟩, ⟨g5, 29, [.int .i64 x6, .slice a8 x7.length c9]⟩]) (x := .inl x23) g24 (.inr rfl) (res0 rfl) (.cons 0 rfl (.cons 0 rfl (.cons 0 rfl (zx 0 rfl)))) (zx 0 rfl)))))
theorem qbM (F : Nat) (x1 : Int) (x2 : List Int) (a3 : Option Addr) (c4 : Nat) (x5 : Int) (x6 : List Int) (a7 : Option Addr) (c8 : Nat) (r : (Int × List Int)) (hm : vx F x1 x2 x5 x6 = some r) :
    PureM Tryz.prog 53 [.agg #[.int .i64 x1, .slice a3 x2.length c4], .agg #[.int .i64 x5, .slice a7 x6.length c8]] [] [] [Sl (eI .u8) 1 (.slice a3 x2.length c4) x2, Sl (eI .u8) 1 (.slice a7 x6.length c8) x6] (Option Addr × Nat) (fun g => .agg #[.int .i64 r.1, .slice g.1 r.2.length g.2]) (fun _ => []) (fun g => [Ro (eI .u8) 5 1 (.slice g.1 r.2.length g.2) r.2]) := by
 refine qhO Tryz.func53 rfl Tryz.ntmps53 rfl hm (fun w => qH (l' := [(0, .agg #[.int .i64 x1, .slice a3 x2.length c4]), (1, .agg #[.int .i64 x5, .slice a7 x6.length c8])]) rfl (qg (qa (qV rfl rfl rfl (fun g9 => qV rfl rfl rfl (fun g10 => qR rfl tf29 rfl (fun g11 => qd (qc (qg (qa (ql (i := 2) rfl rfl tf29 rfl rfl (by simp) rfl rfl (qY ent80 rfl rfl rfl (fun x12 e12 => qeS F x1 x2 a3 c4 x12 e12) .nil .nil (.consF 0 rfl .nil) (fun x12 e12 => ?_)))))))))))))
 rintro ⟨⟨a13, c14⟩, g15⟩
 refine qR rfl tf92 rfl (fun g16 => qu (i := 0) rfl rfl rfl tf92 rfl rfl rfl rfl rfl (qd (qc (qg (qg (qa (ql (i := 3) rfl rfl tf29 rfl rfl (by simp) rfl rfl (qi rfl rfl ky rfl (ql (i := 3) rfl rfl tf3 rfl rfl (fun _ => rfl) rfl rfl (qY ent50 rfl rfl rfl (fun x37 e37 => qfA F x5 x6 a7 c8 0 x5 x37 e37) .nil .nil (.consF 1 rfl .nil) (fun x37 e37 => ?_)))))))))))
 rintro ⟨g38, g39, g40⟩
 refine qd (qc (qB (qf9 (encs := (fun (p : Int) => [.int .u64 p])) (y := (fun ((x45, x48) : (Int × List Int)) (x53 : Int) => jz F x45 x48 x53)) (lb := [.pointer (some ⟨g38, 0, none⟩), .pointer (some ⟨g39, 0, none⟩), .pointer (some ⟨g40, 0, none⟩)]) (fun ((x45, x48) : (Int × List Int)) ((a46, c47) : (Option Addr × Nat)) => [⟨g16, 92, [.pointer (some ⟨g15, 0, none⟩)]⟩, ⟨g15, 94, [.int .i64 x45, .slice a46 x48.length c47]⟩, ⟨g11, 29, [.int .i64 0, .slice none 0 0]⟩, ⟨g10, 29, [.int .i64 x5, .slice a7 x6.length c8]⟩, ⟨g9, 29, [.int .i64 x1, .slice a3 x2.length c4]⟩]) (fun ((x45, x48) : (Int × List Int)) ((a46, c47) : (Option Addr × Nat)) => [Ro (eI .u8) 5 1 (.slice a46 x48.length c47) x48]) (fun (_ : Empty) (_ : Unit) => []) (fun (_ : Empty) (_ : Unit) => []) (fun _ => .skip) (x12.1, x12.2) (a13, c14) rfl ent78 (fun _ => rfl) rfl (.cons 0 rfl (.cons 0 rfl (.cons 0 rfl .nil))) (.cons 0 rfl (.cons 0 rfl (.cons 0 rfl (.cons 0 rfl (.cons 0 rfl .nil))))) (.cons 0 rfl .nil) (.consF 1 rfl .nil) (fun z hz _ _ _ hY => qeI F hY (x12.1, x12.2) (a13, c14) g38 0 g39 x5 g40 x5 x6 a7 c8 z hz) ?_ ?_ ?_)))
 rintro rc1 L1 D1 ⟨x45, x48⟩ ⟨a46, c47⟩ x53 z w M _
 try dsimp only
 refine qh1 [(0, .agg #[.int .i64 x1, .slice a3 x2.length c4]), (1, .agg #[.int .i64 x5, .slice a7 x6.length c8]), (2, .pointer (some ⟨g9, 0, none⟩)), (3, .pointer (some ⟨g10, 0, none⟩)), (4, .pointer (some ⟨g11, 0, none⟩)), (5, .pointer (some ⟨g16, 0, none⟩)), (7, .agg #[.int .i64 x1, .slice a3 x2.length c4]), (8, .pointer (some ⟨g15, 0, none⟩)), (9, .agg #[.int .i64 x5, .slice a7 x6.length c8]), (10, .pointer (some ⟨g10, 0, none⟩)), (11, .int .i64 x5), (12, .func (.func 78) #[] #[.pointer (some ⟨g38, 0, none⟩), .pointer (some ⟨g39, 0, none⟩), .pointer (some ⟨g40, 0, none⟩)]), (13, .int .u64 x53)] (qk rfl (qk rfl (qk rfl (qk rfl (qk rfl (qk rfl (qk rfl (qk rfl (qk rfl (qk rfl (qk rfl (qk rfl (qk rfl zd))))))))))))) (qa (qb rfl rfl rfl (qd (qgd (i := 5) rfl (qB (qa (ql (i := 0) rfl rfl tf92 rfl rfl (fun _ => rfl) rfl rfl (qe rfl rfl rfl (qY ent51 rfl rfl rfl (fun x54 e54 => qbN F g15 x45 x48 a46 c47 x53 x54 e54) (.cons 1 rfl .nil) (.cons 0 rfl .nil) .nil (fun x54 e54 => ?_))))))))))
 rintro ⟨a55, c56⟩
 exact qd (qU (qes (rc := rc1) rfl (.cons 5 rfl .nil) rfl (a55, c56) (.cons 2 rfl (.cons 1 rfl (.cons 1 rfl (.cons 1 rfl (.cons 1 rfl (.cons 0 rfl (.cons 0 rfl .nil))))))) (.cons 0 rfl .nil)))
 rintro ⟨x45, x48⟩ _ ⟨a46, c47⟩ D1
 try dsimp only
 exact qU (qc (qg (qa (ql (i := 4) rfl rfl tf92 rfl rfl (fun _ => rfl) rfl rfl (qN rfl rfl rfl (qi rfl rfl qb7 rfl (ql (i := 5) rfl rfl tf29 rfl rfl (by simp) rfl rfl (qu (i := 6) rfl rfl rfl tf29 rfl rfl rfl rfl rfl (qd (qc (qs (qge [D1] (a46, c47) (.inl rfl) rfl (.cons 0 rfl .nil) (resL (rs := [.cell 4 29]) rfl (.cell (i := 5) rfl tf29 rfl rfl (by simp) rfl ResOk.nil) rfl) (fun h => by subst h; rfl) (fun h => by subst h; exact .nil) (fun h => by subst h; exact (.cons 0 rfl .nil))))))))))))))
 intro t; exact t.elim
theorem qew (F : Nat) (x1 : Int) (r : Bool) (hm : qaZ F x1 = some r) :
    Pure Tryz.prog 69 [.int .i64 x1] [] Unit (fun _ => .bool r) (fun _ => []) (fun _ => []) := by
 refine qS Tryz.func69 rfl Tryz.ntmps69 rfl hm (fun w => qH (l' := [(0, .int .i64 x1)]) rfl (qg (qa (qb rfl rfl rfl (qd (qc (qg (qa (qe rfl rfl rfl (qaY rfl rfl rfl rfl (qe rfl rfl rfl (zS 3 (decide (0 ≤ x1)) [(8, .bool ((decide (0 ≤ x1)) && (decide (x1 ≤ 1048576))))] (fun h2 => ?_) (fun h2 => ?_) ?_))))))))))))
 exact qy (os := _) rfl (zA (k := 5) rfl h2 (qe rfl rfl rfl (qcC rfl rfl rfl rfl (qG (b := true) rfl rfl rfl rfl (qC (d := 8) (v := .bool ((decide (0 ≤ x1)) && (decide (x1 ≤ 1048576)))) rfl (by rw [h2]; simp only [Bool.true_and]) (qd (qT (qk rfl zd))))))))
 exact qy (os := _) rfl (zz (k := 5) rfl h2 (qn rfl rfl rfl (qn rfl rfl rfl (qG (b := false) rfl rfl rfl rfl (qC (d := 8) (v := .bool ((decide (0 ≤ x1)) && (decide (x1 ≤ 1048576)))) rfl (by rw [h2]; simp only [Bool.false_and]) (qd (qT (qk rfl zd))))))))
 exact qy (os := _) rfl (qb rfl rfl rfl (qd (qc (qs (qq () (res1 rfl rfl))))))
theorem qae (F : Nat) (x1 : List Int) (a2 : Option Addr) (c3 : Nat) (r : Int) (hm : va F x1 = some r) :
    Pure Tryz.prog 47 [.slice a2 x1.length c3] [Sl (eI .i64) 1 (.slice a2 x1.length c3) x1] Unit (fun _ => .int .i64 r) (fun _ => []) (fun _ => []) := by
 refine qS Tryz.func47 rfl Tryz.ntmps47 rfl hm (fun w => qH (l' := [(0, .slice a2 x1.length c3)]) rfl (qg (qa (qb rfl rfl rfl (qd (qc (qg (qg (qa (qe rfl rfl rfl (qX rfl Tryz.underlying37 rfl rfl (zG rfl rfl rfl rfl ?_))))))))))))
 refine qd (qc (qz rfl (fun h131 => ?_) (fun h131 => ?_)))
 exact qg (qa (qb rfl rfl rfl (qd (qc (qs (qp (qq () (res1 rfl rfl))))))))
 refine qr (qc (qg (qa (qb rfl rfl rfl (qd (qc (qK (fun ((_, _) : (Unit × Unit)) => []) (fun ((_, _) : (Unit × Unit)) => []) (fun ((_, _) : (Unit × Unit)) => []) (fun ((_, _) : (Unit × Unit)) => []) (fun ((_, _) : (Unit × Unit)) => qcI F) ?_ ?_)))))))
 refine qg (qa (qe rfl rfl rfl (qX rfl Tryz.underlying37 rfl rfl (qe rfl rfl rfl (qd (qc (qB (q7 (fun (((x88, x89), _) : ((Int × Int) × Unit)) => [(3, .int .i64 x88), (9, .slice a2 x1.length c3), (10, .int .i64 (x1.length : Int)), (11, .int .i64 x89)]) (fun (((x88, x89), _) : ((Int × Int) × Unit)) => []) (fun (((x88, x89), _) : ((Int × Int) × Unit)) => []) (fun (((x88, x89), _) : ((Int × Int) × Unit)) => [Sl (eI .i64) 1 (.slice a2 x1.length c3) x1]) (fun k (s : ((Int × Int) × Unit)) => yR F x1 k s.1) ((-1, 0), ()) F ?_ (hF := (qo 0 rfl qA))))))))))
 intro k110
 rintro ⟨⟨x88, x89⟩, _⟩
 try dsimp only
 refine zB (m' := jW F x1 (yR F x1 k110) x88 x89) rfl (qg (qa (qZ rfl rfl rfl rfl (qd (qc (qg (qz rfl (fun h130 => ?_) (fun h130 => ?_))))))))
 refine qr (qc (qg (qB (qg (qa (zZ (j := 0) (zb .i64) (by decide) rfl Tryz.underlying37 tf3 rfl rfl rfl rfl (fun x121 e121 b122 o123 => zU (j := 0) rfl rfl tf3 rfl rfl (fun _ => rfl) rfl rfl (qb rfl rfl rfl (qd (qc (qg (qB ?_))))))))))))
 refine qg (qa (qe rfl rfl rfl (qx ent69 rfl rfl rfl (fun x127 e127 => qew F x121 x127 e127) .nil (fun x127 e127 => ?_))))
 intro _
 refine kw rfl rfl rfl (qb rfl rfl rfl (qd (qc (qz rfl (fun h129 => ?_) (fun h129 => ?_)))))
 refine qg (qa (qb rfl rfl rfl (qd (qc (qs (qM (qp (qM (qp (qp (qM (qp ?_))))))))))))
 exact qq () (res1 rfl rfl)
 refine qg (qa (qe rfl rfl rfl (qe rfl rfl rfl (qcC rfl rfl rfl rfl (qb rfl rfl rfl (qd (qc (qz rfl (fun h128 => ?_) (fun h128 => ?_)))))))))
 refine qg (qa (qb rfl rfl rfl (qd (qc (qs (qM (qp (qM (qp (qp (qM (qp ?_))))))))))))
 exact qq () (res1 rfl rfl)
 refine qr (qU (qc (qa (qe rfl rfl rfl (qb rfl rfl rfl (qd (qU (qc (qa (qL rfl rfl rfl rfl (qe rfl rfl rfl (qd ?_))))))))))))
 exact qW ((x121, iadd .i64 x89 1), ()) (hF := (qo 1 rfl qA))
 exact zj (qD (qD (zk (qm ((), ())))))
 rintro ⟨_, _⟩
 try dsimp only
 exact qg (qa (qb rfl rfl rfl (qd (qc (qs (qq () (res1 rfl rfl)))))))
theorem qgs (F : Nat) (x1 : Int) (x2 : List Int) (a3 : Option Addr) (c4 : Nat) (x5 : Int) (x6 : Int) (x7 : Int) (r : Int) (hm : qbj F x1 x2 x5 x6 x7 = some r) :
    Pure Tryz.prog 48 [.int .i64 x1, .slice a3 x2.length c4, .agg #[.int .i64 x5, .int .i64 x6, .int .i64 x7]] [Sl (eI .i64) 1 (.slice a3 x2.length c4) x2] Unit (fun _ => .int .i64 r) (fun _ => []) (fun _ => []) := by
 refine qS Tryz.func48 rfl Tryz.ntmps48 rfl hm (fun w => qH (l' := [(0, .int .i64 x1), (1, .slice a3 x2.length c4), (2, .agg #[.int .i64 x5, .int .i64 x6, .int .i64 x7])]) rfl (qg (qa (qV rfl rfl rfl (fun g8 => qb rfl rfl rfl (qd (qc (qg (qg (qa (qe rfl rfl rfl (qZ rfl rfl rfl rfl ?_))))))))))))
 refine qe rfl rfl rfl (zS 3 (decide (x1 < 0)) [(1, .slice a3 x2.length c4), (5, .pointer (some ⟨g8, 0, none⟩)), (12, .bool ((decide (x1 < 0)) || (decide (1048576 < x1))))] (fun h11 => ?_) (fun h11 => ?_) ?_)
 exact qy (os := _) rfl (zA (k := 9) rfl h11 (qn rfl rfl rfl (qn rfl rfl rfl (qG (b := true) rfl rfl rfl rfl (qC (d := 12) (v := .bool ((decide (x1 < 0)) || (decide (1048576 < x1)))) rfl (by rw [h11]; simp only [Bool.true_or]) (qd (qT (qk rfl (qk rfl (qk rfl zd))))))))))
 exact qy (os := _) rfl (zz (k := 9) rfl h11 (qe rfl rfl rfl (zG rfl rfl rfl rfl (qG (b := false) rfl rfl rfl rfl (qC (d := 12) (v := .bool ((decide (x1 < 0)) || (decide (1048576 < x1)))) rfl (by rw [h11]; simp only [Bool.false_or]) (qd (qT (qk rfl (qk rfl (qk rfl zd))))))))))
 refine qy (os := _) rfl (qd (qc (qz rfl (fun h16 => ?_) (fun h16 => ?_))))
 exact qg (qa (qb rfl rfl rfl (qd (qc (qs (qp (qq () (res1 rfl rfl))))))))
 refine qr (qc (qg (qg (qa (qi rfl rfl qaC rfl (ql (i := 0) rfl rfl tf3 rfl rfl (fun _ => rfl) rfl rfl (zG rfl rfl rfl rfl (qd (qc (qz rfl (fun h15 => ?_) (fun h15 => ?_)))))))))))
 refine qg (qa (qe rfl rfl rfl (qx ent47 rfl rfl rfl (fun x14 e14 => qae F x2 a3 c4 x14 e14) (.consF 0 rfl .nil) (fun x14 e14 => ?_))))
 intro _
 exact qb rfl rfl rfl (qd (qc (qs (qp (qq () (res1 rfl rfl))))))
 exact qr (qc (qg (qa (qb rfl rfl rfl (qd (qc (qs (qq () (res1 rfl rfl)))))))))
theorem qbP (F : Nat) (g1 : Nat) (x2 : Int) (x3 : List Int) (a4 : Option Addr) (c5 : Nat) (x6 : Bool) (x7 : Int) (x8 : List Int) (a9 : Option Addr) (c10 : Nat) (r : (Int × List Int × Bool)) (hm : ym F x2 x3 x6 x7 x8 = some r) :
    PureM Tryz.prog 77 [.pointer (some ⟨g1, 0, none⟩), .agg #[.int .i64 x7, .slice a9 x8.length c10]] [⟨g1, 90, [.int .i64 x2, .slice a4 x3.length c5, .bool x6]⟩] [Ro (eI .u8) 5 1 (.slice a4 x3.length c5) x3] [Sl (eI .u8) 1 (.slice a9 x8.length c10) x8] (Option Addr × Nat) (fun _ => .tuple #[]) (fun g => [⟨g1, 90, [.int .i64 r.1, .slice g.1 r.2.1.length g.2, .bool r.2.2]⟩]) (fun g => [Ro (eI .u8) 5 1 (.slice g.1 r.2.1.length g.2) r.2.1]) := by
 refine kP Tryz.func77 rfl Tryz.ntmps77 rfl hm (fun w => qH (l' := [(0, .pointer (some ⟨g1, 0, none⟩)), (1, .agg #[.int .i64 x7, .slice a9 x8.length c10])]) rfl (qg (qa (qV rfl rfl rfl (fun g11 => qd (qc (qK (fun ((x13, _) : (Bool × Unit)) => [(0, .pointer (some ⟨g1, 0, none⟩)), (3, .pointer (some ⟨g11, 0, none⟩))]) (fun ((x13, _) : (Bool × Unit)) => [⟨g11, 29, [.int .i64 x7, .slice a9 x8.length c10]⟩, ⟨g1, 90, [.int .i64 x2, .slice a4 x3.length c5, .bool x13]⟩]) (fun ((x13, _) : (Bool × Unit)) => [Ro (eI .u8) 5 1 (.slice a4 x3.length c5) x3]) (fun ((x13, _) : (Bool × Unit)) => [Sl (eI .u8) 1 (.slice a9 x8.length c10) x8]) (fun ((x13, _) : (Bool × Unit)) => yg F x2 x3 x7 x8 x13) ?_ ?_)))))))
 refine qad (fun h18 => ?_) (fun h18 => ?_)
 refine zg mixed [18] [⟨g11, 29, [.int .i64 x7, .slice a9 x8.length c10]⟩] [Sl (eI .u8) 1 (.slice a9 x8.length c10) x8, (BlkD.is ⟨g1, 90, [.int .i64 x2, .slice a4 x3.length c5, .bool x6]⟩)] (.cons 0 rfl .nil) (q8 0 rfl (qbG 1 rfl qE)) 19 rfl (qf 0 (.pointer (some ⟨g1, 0, none⟩)) rfl rfl rfl (qj rfl) (qf 1 (.pointer (some ⟨g1, 0, none⟩)) rfl rfl rfl (qj rfl) (qf 2 (.pointer (some ⟨g1, 0, none⟩)) rfl rfl rfl (qj rfl) (qf 3 (.pointer (some ⟨g1, 2, none⟩)) rfl rfl rfl (qt rfl qb6) (ko 4 (.bool x6) [[18]] rfl rfl rfl (jE (j := 1) rfl tf4 rfl rfl (fun _ => rfl) rfl) (qf 5 (.bool x6) rfl rfl rfl (qj rfl) (qJ (d := 9) (v := .bool true) rfl (by rw [h18] <;> rfl) (qh 6 rfl rfl rfl (qh 7 rfl rfl rfl (qh 8 rfl rfl rfl (qh 9 rfl rfl rfl (qh 10 rfl rfl rfl ?_))))))))))))
 refine qh 11 rfl rfl rfl (qh 12 rfl rfl rfl (qh 13 rfl rfl rfl (qh 14 rfl rfl rfl (qf 15 (.bool true) rfl rfl rfl (qj rfl) (qf 16 (.pointer (some ⟨g1, 0, none⟩)) rfl rfl rfl (qj rfl) (qf 17 (.pointer (some ⟨g1, 2, none⟩)) rfl rfl rfl (qt rfl qb6) (qI 18 rfl (by kernel_rfl) rfl (qu (i := 1) rfl rfl rfl tf4 rfl rfl rfl rfl rfl (qd (vu 18 rfl (by kernel_rfl) (.cons 0 rfl .nil) (qO (by kernel_rfl) (zm ?_ (by intro c h; cases h)))))))))))))
 exact qm (true, ()) (hB := (.cons 0 rfl (.cons 0 rfl .nil))) (hR := (.cons 0 rfl .nil)) (hF := (qo 0 rfl qA))
 refine zg mixed [18] [⟨g11, 29, [.int .i64 x7, .slice a9 x8.length c10]⟩] [Sl (eI .u8) 1 (.slice a9 x8.length c10) x8, (BlkD.is ⟨g1, 90, [.int .i64 x2, .slice a4 x3.length c5, .bool x6]⟩)] (.cons 0 rfl .nil) (q8 0 rfl (qbG 1 rfl qE)) 19 rfl (qf 0 (.pointer (some ⟨g1, 0, none⟩)) rfl rfl rfl (qj rfl) (qf 1 (.pointer (some ⟨g1, 0, none⟩)) rfl rfl rfl (qj rfl) (qf 2 (.pointer (some ⟨g1, 0, none⟩)) rfl rfl rfl (qj rfl) (qf 3 (.pointer (some ⟨g1, 2, none⟩)) rfl rfl rfl (qt rfl qb6) (ko 4 (.bool x6) [[18]] rfl rfl rfl (jE (j := 1) rfl tf4 rfl rfl (fun _ => rfl) rfl) (qf 5 (.bool x6) rfl rfl rfl (qj rfl) (qJ (d := 9) (v := .bool false) rfl (by rw [h18] <;> rfl) (qf 6 (.pointer (some ⟨g1, 0, none⟩)) rfl rfl rfl (qj rfl) (qf 7 (.pointer (some ⟨g1, 0, none⟩)) rfl rfl rfl (qj rfl) (qf 8 (.pointer (some ⟨g1, 0, none⟩)) rfl rfl rfl (qt rfl qdy) (qf 9 (.pointer (some ⟨g1, 0, none⟩)) rfl rfl rfl (qt rfl ky) (ko 10 (.int .i64 x2) [[18]] rfl rfl rfl (jE (j := 1) rfl tf3 rfl rfl (fun _ => rfl) rfl) ?_))))))))))))
 refine qf 11 (.pointer (some ⟨g11, 0, none⟩)) rfl rfl rfl (qt rfl ky) (qP 12 (.int .i64 x7) rfl rfl rfl (qQ (i := 0) rfl tf3 rfl rfl (fun _ => rfl) rfl) (qf 13 (.int .i64 (iadd .i64 x2 x7)) rfl rfl rfl (qj rfl) (qf 14 (.bool (decide (8192 < (iadd .i64 x2 x7)))) rfl rfl rfl (qj rfl) (qf 15 (.bool (decide (8192 < (iadd .i64 x2 x7)))) rfl rfl rfl (qj rfl) (qf 16 (.pointer (some ⟨g1, 0, none⟩)) rfl rfl rfl (qj rfl) (qf 17 (.pointer (some ⟨g1, 2, none⟩)) rfl rfl rfl (qt rfl qb6) (qI 18 rfl (by kernel_rfl) rfl (qu (i := 1) rfl rfl rfl tf4 rfl rfl rfl rfl rfl (qd (vu 18 rfl (by kernel_rfl) (.cons 0 rfl .nil) (qO (by kernel_rfl) (zm ?_ (by intro c h; cases h)))))))))))))
 exact qm ((decide (8192 < (iadd .i64 x2 x7))), ()) (hB := (.cons 0 rfl (.cons 0 rfl .nil))) (hR := (.cons 0 rfl .nil)) (hF := (qo 0 rfl qA))
 rintro ⟨x13, _⟩
 try dsimp only
 refine qg (qa (qe rfl rfl rfl (qN rfl rfl rfl (qi rfl rfl qb6 rfl (ql (i := 1) rfl rfl tf4 rfl rfl (fun _ => rfl) rfl rfl (kw rfl rfl rfl (qd (qc (qz rfl (fun h17 => ?_) (fun h17 => ?_))))))))))
 refine zg mixed [9] [⟨g11, 29, [.int .i64 x7, .slice a9 x8.length c10]⟩] [Sl (eI .u8) 1 (.slice a9 x8.length c10) x8, (BlkD.is ⟨g1, 90, [.int .i64 x2, .slice a4 x3.length c5, .bool x13]⟩)] (.cons 0 rfl .nil) (q8 0 rfl (qbG 1 rfl qE)) 10 rfl (qf 0 (.pointer (some ⟨g1, 0, none⟩)) rfl rfl rfl (qj rfl) (qf 1 (.pointer (some ⟨g1, 0, none⟩)) rfl rfl rfl (qj rfl) (qf 2 (.pointer (some ⟨g1, 0, none⟩)) rfl rfl rfl (qj rfl) (qf 3 (.pointer (some ⟨g1, 0, none⟩)) rfl rfl rfl (qt rfl qdy) (ko 4 (.agg #[.int .i64 x2, .slice a4 x3.length c5]) [[9]] rfl rfl rfl (jE (j := 1) rfl tf29 rfl rfl (by simp) rfl) (qP 5 (.agg #[.int .i64 x7, .slice a9 x8.length c10]) rfl rfl rfl (qQ (i := 0) rfl tf29 rfl rfl (by simp) rfl) (qI 6 rfl (by kernel_rfl) rfl (qY ent53 rfl rfl rfl (fun x14 e14 => qbM F x2 x3 a4 c5 x7 x8 a9 c10 x14 e14) .nil .nil (.consR 0 (Ro (eI .u8) 5 1 (.slice a4 x3.length c5) x3) rfl (.consF 0 rfl .nil)) (fun x14 e14 => ?_)))))))))
 rintro ⟨a15, c16⟩
 exact qd (qF (.cons 0 rfl .nil) (q8 0 rfl (qbG 1 rfl qE)) (qf 7 (.pointer (some ⟨g1, 0, none⟩)) rfl rfl rfl (qj rfl) (qf 8 (.pointer (some ⟨g1, 0, none⟩)) rfl rfl rfl (qt rfl qdy) (qI 9 rfl (by kernel_rfl) rfl (qu (i := 1) rfl rfl rfl tf29 rfl rfl rfl rfl rfl (qd (vu 9 rfl (by kernel_rfl) (.cons 0 rfl .nil) (qO (by kernel_rfl) (zm (zr (a15, c16) (res0 rfl) (hB := fun h => by subst h; exact (.cons 1 rfl .nil)) (hR := fun h => by subst h; exact (.cons 0 rfl .nil))) (by intro c h; cases h))))))))))
 exact qr (zr (a4, c5) (res0 rfl) (hB := fun h => by subst h; exact (.cons 1 rfl .nil)) (hR := fun h => by subst h; exact (.cons 0 rfl .nil)))
theorem qcM (F : Nat) (g1 : Nat) (x2 : Int) (x3 : List Int) (a4 : Option Addr) (c5 : Nat) (x6 : Int) (x7 : Int) (r : (Int × List Int)) (hm : y8 F x2 x3 x6 x7 = some r) :
    PureM Tryz.prog 94 [.pointer (some ⟨g1, 0, none⟩), .int .u64 x6, .int .i64 x7] [⟨g1, 94, [.int .i64 x2, .slice a4 x3.length c5]⟩] [Ro (eI .u8) 5 1 (.slice a4 x3.length c5) x3] [] (Option Addr × Nat) (fun _ => .tuple #[]) (fun g => [⟨g1, 94, [.int .i64 r.1, .slice g.1 r.2.length g.2]⟩]) (fun g => [Ro (eI .u8) 5 1 (.slice g.1 r.2.length g.2) r.2]) := by
 refine kP Tryz.func94 rfl Tryz.ntmps94 rfl hm (fun w => qH (l' := [(0, .pointer (some ⟨g1, 0, none⟩)), (1, .int .u64 x6), (2, .int .i64 x7)]) rfl (qg (qa (qe rfl rfl rfl (zJ rfl rfl rfl rfl (qb rfl rfl rfl (qd (qc (qB (q7 (fun (((x18, x19, x22), (a20, c21)) : ((Int × Int × List Int) × (Option Addr × Nat))) => [(0, .pointer (some ⟨g1, 0, none⟩)), (1, .int .u64 x6), (6, .int .i64 x18)]) (fun (((x18, x19, x22), (a20, c21)) : ((Int × Int × List Int) × (Option Addr × Nat))) => [⟨g1, 94, [.int .i64 x19, .slice a20 x22.length c21]⟩]) (fun (((x18, x19, x22), (a20, c21)) : ((Int × Int × List Int) × (Option Addr × Nat))) => [Ro (eI .u8) 5 1 (.slice a20 x22.length c21) x22]) (fun (((x18, x19, x22), (a20, c21)) : ((Int × Int × List Int) × (Option Addr × Nat))) => []) (fun k (s : ((Int × Int × List Int) × (Option Addr × Nat))) => ke F x6 k s.1) ((isub .i64 x7 1, x2, x3), (a4, c5)) F ?_ (hB := (.cons 0 rfl .nil)) (hR := (.cons 0 rfl .nil))))))))))))
 intro k33
 rintro ⟨⟨x18, x19, x22⟩, ⟨a20, c21⟩⟩
 try dsimp only
 refine zB (m' := kd F x6 (ke F x6 k33) x18 x19 x22) rfl (qg (qg (qa (qe rfl rfl rfl (qaY rfl rfl rfl rfl (qd (qc (qz rfl (fun h43 => ?_) (fun h43 => ?_)))))))))
 refine qr (qc (qg (qB (qa (qe rfl rfl rfl (qe rfl rfl rfl (qe rfl rfl rfl (qbr (fun h39 => qbZ rfl rfl rfl rfl h39 (qeP rfl rfl rfl rfl (qY ent51 rfl rfl rfl (fun x40 e40 => qbN F g1 x19 x22 a20 c21 (iand .u64 (ishr .u64 x6 x18) 1) x40 e40) (.cons 0 rfl .nil) (.cons 0 rfl .nil) .nil (fun x40 e40 => ?_))))))))))))
 rintro ⟨a41, c42⟩
 exact qd (qU (qc (qa (qe rfl rfl rfl (zJ rfl rfl rfl rfl (qb rfl rfl rfl (qd (qW ((isub .i64 x18 1, x40.1, x40.2), (a41, c42)) (hB := (.cons 0 rfl .nil)) (hR := (.cons 0 rfl .nil))))))))))
 exact zj (qD (qD (zk (zr (a20, c21) (res0 rfl) (hB := fun h => by subst h; exact (.cons 0 rfl .nil)) (hR := fun h => by subst h; exact (.cons 0 rfl .nil))))))
theorem qcl (F : Nat) (x1 : Int) (x2 : List Int) (a3 : Option Addr) (c4 : Nat) (x5 : Int) (x6 : Int) (r : (Int × List Int)) (hm : jy F x1 x2 x5 x6 = some r) :
    Pure Tryz.prog 67 [.agg #[.int .i64 x1, .slice a3 x2.length c4], .int .u64 x5, .int .i64 x6] [Sl (eI .u8) 1 (.slice a3 x2.length c4) x2] (Option Addr × Nat) (fun g => .agg #[.int .i64 r.1, .slice g.1 r.2.length g.2]) (fun g => [Ro (eI .u8) 5 1 (.slice g.1 r.2.length g.2) r.2]) (fun _ => []) := by
 refine qS Tryz.func67 rfl Tryz.ntmps67 rfl hm (fun w => qH (l' := [(0, .agg #[.int .i64 x1, .slice a3 x2.length c4]), (1, .int .u64 x5), (2, .int .i64 x6)]) rfl (qg (qa (qV rfl rfl rfl (fun g7 => qR rfl tf29 rfl (fun g8 => qd (qc (qg (qa (ql (i := 1) rfl rfl tf29 rfl rfl (by simp) rfl rfl (qY ent80 rfl rfl rfl (fun x9 e9 => qeS F x1 x2 a3 c4 x9 e9) .nil .nil (.consF 0 rfl .nil) (fun x9 e9 => ?_))))))))))))
 rintro ⟨⟨a10, c11⟩, g12⟩
 refine qb rfl rfl rfl (qd (qc (qg (qa (qe rfl rfl rfl (qe rfl rfl rfl (qe rfl rfl rfl (qY ent94 rfl rfl rfl (fun x13 e13 => qcM F g12 x9.1 x9.2 a10 c11 x5 x6 x13 e13) (.cons 0 rfl .nil) (.cons 0 rfl .nil) .nil (fun x13 e13 => ?_)))))))))
 rintro ⟨a14, c15⟩
 exact qd (qc (qg (qa (qe rfl rfl rfl (qN rfl rfl rfl (qi rfl rfl qb7 rfl (ql (i := 0) rfl rfl tf29 rfl rfl (by simp) rfl rfl (qu (i := 1) rfl rfl rfl tf29 rfl rfl rfl rfl rfl (qd (qc (qs (qq (a14, c15) (resL (rs := [.cell 6 29]) rfl (.cell (i := 1) rfl tf29 rfl rfl (by simp) rfl ResOk.nil) rfl) (fun h => by subst h; exact (.cons 0 rfl .nil))))))))))))))
theorem qaf (F : Nat) (x1 : Int) (r : Int) (hm : yj F x1 = some r) :
    Pure Tryz.prog 133 [.int .u64 x1] [] Unit (fun _ => .int .i64 r) (fun _ => []) (fun _ => []) := by
 refine qS Tryz.func133 rfl Tryz.ntmps133 rfl hm (fun w => qH (l' := [(0, .int .u64 x1)]) rfl (qg (qa (qb rfl rfl rfl (qd (qc (qK (fun (((x3, x4), _) : ((Int × Int) × Unit)) => [(0, .int .u64 x3), (2, .int .i64 x4)]) (fun (((x3, x4), _) : ((Int × Int) × Unit)) => []) (fun (((x3, x4), _) : ((Int × Int) × Unit)) => []) (fun (((x3, x4), _) : ((Int × Int) × Unit)) => []) (fun (((x3, x4), _) : ((Int × Int) × Unit)) => yd F x3 x4) ?_ ?_)))))))
 refine qg (qa (qe rfl rfl rfl (qaY rfl rfl rfl rfl (qd (qc (qz rfl (fun h14 => ?_) (fun h14 => ?_)))))))
 exact qg (qa (qe rfl rfl rfl (qbZ rfl rfl rfl rfl rfl (qb rfl rfl rfl (qd (qc (qa (qb rfl rfl rfl (qd (qm ((ishr .u64 x1 32, 32), ())))))))))))
 exact qr (qm ((x1, 0), ()))
 rintro ⟨⟨x3, x4⟩, _⟩
 try dsimp only
 refine qK (fun (((x6, x7), _) : ((Int × Int) × Unit)) => [(0, .int .u64 x6), (2, .int .i64 x7)]) (fun (((x6, x7), _) : ((Int × Int) × Unit)) => []) (fun (((x6, x7), _) : ((Int × Int) × Unit)) => []) (fun (((x6, x7), _) : ((Int × Int) × Unit)) => []) (fun (((x6, x7), _) : ((Int × Int) × Unit)) => ye F x6 x7) ?_ ?_
 refine qg (qa (qe rfl rfl rfl (qaY rfl rfl rfl rfl (qd (qc (qz rfl (fun h13 => ?_) (fun h13 => ?_)))))))
 exact qg (qa (qe rfl rfl rfl (qbZ rfl rfl rfl rfl rfl (qb rfl rfl rfl (qd (qc (qa (qe rfl rfl rfl (qL rfl rfl rfl rfl (qb rfl rfl rfl (qd (qm ((ishr .u64 x3 16, iadd .i64 x4 16), ())))))))))))))
 exact qr (qm ((x3, x4), ()))
 rintro ⟨⟨x6, x7⟩, _⟩
 try dsimp only
 refine qK (fun (((x9, x10), _) : ((Int × Int) × Unit)) => [(0, .int .u64 x9), (2, .int .i64 x10)]) (fun (((x9, x10), _) : ((Int × Int) × Unit)) => []) (fun (((x9, x10), _) : ((Int × Int) × Unit)) => []) (fun (((x9, x10), _) : ((Int × Int) × Unit)) => []) (fun (((x9, x10), _) : ((Int × Int) × Unit)) => yf F x9 x10) ?_ ?_
 refine qg (qa (qe rfl rfl rfl (qaY rfl rfl rfl rfl (qd (qc (qz rfl (fun h12 => ?_) (fun h12 => ?_)))))))
 exact qg (qa (qe rfl rfl rfl (qbZ rfl rfl rfl rfl rfl (qb rfl rfl rfl (qd (qc (qa (qe rfl rfl rfl (qL rfl rfl rfl rfl (qb rfl rfl rfl (qd (qm ((ishr .u64 x6 8, iadd .i64 x7 8), ())))))))))))))
 exact qr (qm ((x6, x7), ()))
 rintro ⟨⟨x9, x10⟩, _⟩
 try dsimp only
 exact qg (qa (qe rfl rfl rfl (qe rfl rfl rfl (zQ rfl Tryz.underlying50 Tryz.underlying5 rfl rfl (qiC (xs := ([0, 1, 2, 2, 3, 3, 3, 3, 4, 4, 4, 4, 4, 4, 4, 4, 5, 5, 5, 5, 5, 5, 5, 5, 5, 5, 5, 5, 5, 5, 5, 5, 6, 6, 6, 6, 6, 6, 6, 6, 6, 6, 6, 6, 6, 6, 6, 6, 6, 6, 6, 6, 6, 6, 6, 6, 6, 6, 6, 6, 6, 6, 6, 6, 7, 7, 7, 7, 7, 7, 7, 7, 7, 7, 7, 7, 7, 7, 7, 7, 7, 7, 7, 7, 7, 7, 7, 7, 7, 7, 7, 7, 7, 7, 7, 7, 7, 7, 7, 7, 7, 7, 7, 7, 7, 7, 7, 7, 7, 7, 7, 7, 7, 7, 7, 7, 7, 7, 7, 7, 7, 7, 7, 7, 7, 7, 7, 7, 8, 8, 8, 8, 8, 8, 8, 8, 8, 8, 8, 8, 8, 8, 8, 8, 8, 8, 8, 8, 8, 8, 8, 8, 8, 8, 8, 8, 8, 8, 8, 8, 8, 8, 8, 8, 8, 8, 8, 8, 8, 8, 8, 8, 8, 8, 8, 8, 8, 8, 8, 8, 8, 8, 8, 8, 8, 8, 8, 8, 8, 8, 8, 8, 8, 8, 8, 8, 8, 8, 8, 8, 8, 8, 8, 8, 8, 8, 8, 8, 8, 8, 8, 8, 8, 8, 8, 8, 8, 8, 8, 8, 8, 8, 8, 8, 8, 8, 8, 8, 8, 8, 8, 8, 8, 8, 8, 8, 8, 8, 8, 8, 8, 8, 8, 8, 8, 8, 8, 8, 8, 8, 8, 8, 8, 8, 8, 8] : List Int)) rfl Tryz.underlying9 rfl rfl (by kernel_rfl) rfl (fun x11 e11 => zQ rfl Tryz.underlying5 Tryz.underlying3 rfl rfl (qL rfl rfl rfl rfl (qb rfl rfl rfl (qd (qc (qs (qq () (res1 rfl rfl)))))))))))))
theorem qgm (F : Nat) (x1 : Int) (r : Int) (hm : qbe F x1 = some r) :
    Pure Tryz.prog 112 [.int .u64 x1] [] Unit (fun _ => .int .i64 r) (fun _ => []) (fun _ => []) := by
 refine qS Tryz.func112 rfl Tryz.ntmps112 rfl hm (fun w => qH (l' := [(0, .int .u64 x1)]) rfl (qg (qa (qb rfl rfl rfl (qd (qc (qg (qa (qe rfl rfl rfl (qL rfl rfl rfl rfl (qx ent133 rfl rfl rfl (fun x2 e2 => qaf F (iadd .u64 x1 1) x2 e2) .nil (fun x2 e2 => ?_))))))))))))
 intro _
 exact zJ rfl rfl rfl rfl (qb rfl rfl rfl (qd (qc (qs (qq () (res1 rfl rfl))))))
theorem qeA (F : Nat) (x1 : Int) (r : (Int × List Int)) (hm : qa1 F x1 = some r) :
    Pure Tryz.prog 113 [.int .u64 x1] [] (Option Addr × Nat) (fun g => .agg #[.int .i64 r.1, .slice g.1 r.2.length g.2]) (fun g => [Ro (eI .u8) 5 1 (.slice g.1 r.2.length g.2) r.2]) (fun _ => []) := by
 refine qS Tryz.func113 rfl Tryz.ntmps113 rfl hm (fun w => qH (l' := [(0, .int .u64 x1)]) rfl (qg (qa (qR rfl tf29 rfl (fun g2 => qd (qc (qg (qa (qe rfl rfl rfl (zQ rfl Tryz.underlying50 Tryz.underlying3 rfl rfl (qe rfl rfl rfl (qL rfl rfl rfl rfl ?_))))))))))))
 refine qd3 rfl rfl rfl rfl rfl (qlE (zb .u8) rfl Tryz.underlying27 tf5 rfl rfl rfl rfl rfl rfl rfl (fun x3 e3 a4 c5 => zv (cells := [.int .i64 (iconv .i64 x1), .slice a4 x3.length c5]) rfl st29 rfl (by kernel_rfl) rfl (qx ent67 rfl rfl rfl (fun x6 e6 => qcl F (iconv .i64 x1) x3 a4 c5 1 1 x6 e6) (.consR 0 (Ro (eI .u8) 5 1 (.slice a4 x3.length c5) x3) rfl .nil) (fun x6 e6 => ?_))))
 rintro ⟨a7, c8⟩
 exact qu (i := 0) rfl rfl rfl tf29 rfl rfl rfl rfl rfl (qd (qc (qs (qq (a7, c8) (resL (rs := [.cell 2 29]) rfl (.cell (i := 0) rfl tf29 rfl rfl (by simp) rfl ResOk.nil) rfl) (fun h => by subst h; exact (.cons 0 rfl .nil))))))
theorem qhf (F : Nat) (x1 : Int) (x2 : Int) (r : Int) (hm : qbQ F x1 x2 = some r) :
    Pure Tryz.prog 114 [.int .u64 x1, .int .i64 x2] [] Unit (fun _ => .int .u64 r) (fun _ => []) (fun _ => []) := by
 refine qS Tryz.func114 rfl Tryz.ntmps114 rfl hm (fun w => qH (l' := [(0, .int .u64 x1), (1, .int .i64 x2)]) rfl (qg (qa (qb rfl rfl rfl (qd (qc (qg (qa (qe rfl rfl rfl (qe rfl rfl rfl (qbr (fun h3 => qd4 rfl rfl rfl rfl h3 ?_))))))))))))
 exact zJ rfl rfl rfl rfl (qeP rfl rfl rfl rfl (qb rfl rfl rfl (jT (fun x4 e4 => qC (d := 4) (v := .int .u64 x4) rfl (by rw [e4] <;> rfl) (qd (qc (qs (qq () (res1 rfl rfl)))))))))
theorem qcd (F : Nat) (x1 : Int) (r : (Int × List Int)) (hm : vl F x1 = some r) :
    Pure Tryz.prog 95 [.int .u64 x1] [] (Option Addr × Nat) (fun g => .agg #[.int .i64 r.1, .slice g.1 r.2.length g.2]) (fun g => [Ro (eI .u8) 5 1 (.slice g.1 r.2.length g.2) r.2]) (fun _ => []) := by
 refine qS Tryz.func95 rfl Tryz.ntmps95 rfl hm (fun w => qH (l' := [(0, .int .u64 x1)]) rfl (qg (qa (qR rfl tf29 rfl (fun g2 => qd (qc (qg (qa (qe rfl rfl rfl (qx ent112 rfl rfl rfl (fun x3 e3 => qgm F x1 x3 e3) .nil (fun x3 e3 => ?_)))))))))))
 intro _
 refine qb rfl rfl rfl (qd (qc (qg (qa (qe rfl rfl rfl (zQ rfl Tryz.underlying3 Tryz.underlying50 rfl rfl (qx ent113 rfl rfl rfl (fun x4 e4 => qeA F (iconv .u64 x3) x4 e4) .nil (fun x4 e4 => ?_))))))))
 rintro ⟨a5, c6⟩
 refine qe rfl rfl rfl (qL rfl rfl rfl rfl (qe rfl rfl rfl (qx ent114 rfl rfl rfl (fun x7 e7 => qhf F (iadd .u64 x1 1) x3 x7 e7) .nil (fun x7 e7 => ?_))))
 intro _
 refine qe rfl rfl rfl (qx ent67 rfl rfl rfl (fun x8 e8 => qcl F x4.1 x4.2 a5 c6 x7 x3 x8 e8) (.consR 0 (Ro (eI .u8) 5 1 (.slice a5 x4.2.length c6) x4.2) rfl .nil) (fun x8 e8 => ?_))
 rintro ⟨a9, c10⟩
 exact qu (i := 0) rfl rfl rfl tf29 rfl rfl rfl rfl rfl (qd (qc (qs (qq (a9, c10) (resL (rs := [.cell 2 29]) rfl (.cell (i := 0) rfl tf29 rfl rfl (by simp) rfl ResOk.nil) rfl) (fun h => by subst h; exact (.cons 0 rfl .nil))))))
theorem kr (F : Nat) (g1 : Nat) (x2 : Int) (x3 : List Int) (a4 : Option Addr) (c5 : Nat) (x6 : Bool) (x7 : Int) (r : (Int × List Int × Bool)) (hm : zu F x2 x3 x6 x7 = some r) :
    PureM Tryz.prog 70 [.pointer (some ⟨g1, 0, none⟩), .int .i64 x7] [⟨g1, 90, [.int .i64 x2, .slice a4 x3.length c5, .bool x6]⟩] [Ro (eI .u8) 5 1 (.slice a4 x3.length c5) x3] [] (Option Addr × Nat) (fun _ => .tuple #[]) (fun g => [⟨g1, 90, [.int .i64 r.1, .slice g.1 r.2.1.length g.2, .bool r.2.2]⟩]) (fun g => [Ro (eI .u8) 5 1 (.slice g.1 r.2.1.length g.2) r.2.1]) := by
 refine kP Tryz.func70 rfl Tryz.ntmps70 rfl hm (fun w => qH (l' := [(0, .pointer (some ⟨g1, 0, none⟩)), (1, .int .i64 x7)]) rfl (qa (qe rfl rfl rfl (qe rfl rfl rfl (zQ rfl Tryz.underlying3 Tryz.underlying50 rfl rfl (qx ent95 rfl rfl rfl (fun x8 e8 => qcd F (iconv .u64 x7) x8 e8) .nil (fun x8 e8 => ?_)))))))
 rintro ⟨a9, c10⟩
 refine qY ent77 rfl rfl rfl (fun x11 e11 => qbP F g1 x2 x3 a4 c5 x6 x8.1 x8.2 a9 c10 x11 e11) (.cons 0 rfl .nil) (.cons 1 rfl .nil) (.consR 0 (Ro (eI .u8) 5 1 (.slice a9 x8.2.length c10) x8.2) rfl .nil) (fun x11 e11 => ?_)
 rintro ⟨a12, c13⟩
 exact qd (zr (a12, c13) (res0 rfl) (hB := fun h => by subst h; exact (.cons 0 rfl .nil)) (hR := fun h => by subst h; exact (.cons 0 rfl .nil)))
theorem qcF (F : Nat) (x1 : Int) (r : Bool) (hm : jV F x1 = some r) :
    Pure Tryz.prog 134 [.int .i64 x1] [] Unit (fun _ => .bool r) (fun _ => []) (fun _ => []) := by
 refine qS Tryz.func134 rfl Tryz.ntmps134 rfl hm (fun w => qH (l' := [(0, .int .i64 x1)]) rfl (qg (qa (qb rfl rfl rfl (qd (qc (qg (qa (qe rfl rfl rfl (qe rfl rfl rfl (kQ rfl rfl rfl rfl (qb rfl rfl rfl ?_))))))))))))
 exact qd (qc (qs (qq () (res1 rfl rfl))))
theorem qeT (F : Nat) (x1 : Int) (x2 : Int) (r : Bool) (hm : qai F x1 x2 = some r) :
    Pure Tryz.prog 115 [.int .i64 x1, .int .i64 x2] [] Unit (fun _ => .bool r) (fun _ => []) (fun _ => []) := by
 refine qS Tryz.func115 rfl Tryz.ntmps115 rfl hm (fun w => qH (l' := [(0, .int .i64 x1), (1, .int .i64 x2)]) rfl (qg (qa (qb rfl rfl rfl (qd (qc (qg (qa (qe rfl rfl rfl (qx ent134 rfl rfl rfl (fun x3 e3 => qcF F x1 x3 e3) .nil (fun x3 e3 => ?_)))))))))))
 intro _
 refine qe rfl rfl rfl (vt 4 (fun ((x6, _) : (Bool × Unit)) => [(0, .int .i64 x1), (1, .int .i64 x2), (11, .bool x6)]) (fun ((x6, _) : (Bool × Unit)) => []) (fun ((x6, _) : (Bool × Unit)) => []) (fun ((x6, _) : (Bool × Unit)) => []) (fun ((x6, _) : (Bool × Unit)) => jb F x1 x2 x6) ?_ ?_)
 refine qy (os := _) rfl (qba (fun h4 => ?_) (fun h4 => ?_))
 refine zA (k := 7) rfl h4 (qe rfl rfl rfl (qx ent134 rfl rfl rfl (fun x8 e8 => qcF F x2 x8 e8) .nil (fun x8 e8 => ?_)))
 intro _
 exact kw rfl rfl rfl (qG (b := true) rfl rfl rfl rfl (qd (qm ((!x8), ()))))
 exact zz (k := 7) rfl h4 (qn rfl rfl rfl (qn rfl rfl rfl (qn rfl rfl rfl (qG (b := false) rfl rfl rfl rfl (qd (qm (false, ())))))))
 rintro ⟨x6, _⟩
 try dsimp only
 refine qy (os := _) rfl (qe rfl rfl rfl (zS 4 x6 [(16, .bool (x6 || (decide (x1 < x2))))] (fun h7 => ?_) (fun h7 => ?_) ?_))
 exact qy (os := _) rfl (zA (k := 12) rfl h7 (qn rfl rfl rfl (qn rfl rfl rfl (qn rfl rfl rfl (qG (b := true) rfl rfl rfl rfl (qC (d := 16) (v := .bool (x6 || (decide (x1 < x2)))) rfl (by rw [h7]; simp only [Bool.true_or]) (qd (qT (qk rfl zd)))))))))
 exact qy (os := _) rfl (zz (k := 12) rfl h7 (qe rfl rfl rfl (qe rfl rfl rfl (qZ rfl rfl rfl rfl (qG (b := false) rfl rfl rfl rfl (qC (d := 16) (v := .bool (x6 || (decide (x1 < x2)))) rfl (by rw [h7]; simp only [Bool.false_or]) (qd (qT (qk rfl zd)))))))))
 exact qy (os := _) rfl (qb rfl rfl rfl (qd (qc (qs (qq () (res1 rfl rfl))))))
theorem qbt (F : Nat) (x1 : Int) (r : Bool) (hm : vH F x1 = some r) :
    Pure Tryz.prog 116 [.int .i64 x1] [] Unit (fun _ => .bool r) (fun _ => []) (fun _ => []) := by
 refine qS Tryz.func116 rfl Tryz.ntmps116 rfl hm (fun w => qH (l' := [(0, .int .i64 x1)]) rfl (qg (qa (qb rfl rfl rfl (qd (qc (qg (qa (qe rfl rfl rfl (qe rfl rfl rfl (kQ rfl rfl rfl rfl (qb rfl rfl rfl ?_))))))))))))
 exact qd (qc (qs (qq () (res1 rfl rfl))))
theorem vv (F : Nat) (x1 : List Int) (a2 : Option Addr) (c3 : Nat) (x4 : Int) (r : (Int × Bool)) (hm : zR F x1 x4 = some r) :
    Pure Tryz.prog 96 [.slice a2 x1.length c3, .int .i64 x4] [Sl (eI .i64) 1 (.slice a2 x1.length c3) x1] Unit (fun _ => .tuple #[.int .i64 r.1, .bool r.2]) (fun _ => []) (fun _ => []) := by
 refine qS Tryz.func96 rfl Tryz.ntmps96 rfl hm (fun w => qH (l' := [(0, .slice a2 x1.length c3), (1, .int .i64 x4)]) rfl (qg (qa (qb rfl rfl rfl (qb rfl rfl rfl (qd (qc (qg (qa (qe rfl rfl rfl (qX rfl Tryz.underlying37 rfl rfl (qb rfl rfl rfl ?_))))))))))))
 refine qd (qc (qg (qa (qe rfl rfl rfl (qb rfl rfl rfl (qb rfl rfl rfl (qd (qc (qK (fun ((x32, _) : (Int × Unit)) => [(0, .slice a2 x1.length c3), (1, .int .i64 x4), (6, .int .i64 (x1.length : Int)), (7, .int .i64 x32)]) (fun ((x32, _) : (Int × Unit)) => []) (fun ((x32, _) : (Int × Unit)) => []) (fun ((x32, _) : (Int × Unit)) => [Sl (eI .i64) 1 (.slice a2 x1.length c3) x1]) (fun ((x32, _) : (Int × Unit)) => kK F x1 x4 x32) ?_ ?_)))))))))
 refine qB (q7 (fun (((x85, x86), _) : ((Int × Int) × Unit)) => [(0, .slice a2 x1.length c3), (1, .int .i64 x4), (6, .int .i64 (x1.length : Int)), (7, .int .i64 x85), (8, .int .i64 x86)]) (fun (((x85, x86), _) : ((Int × Int) × Unit)) => []) (fun (((x85, x86), _) : ((Int × Int) × Unit)) => []) (fun (((x85, x86), _) : ((Int × Int) × Unit)) => [Sl (eI .i64) 1 (.slice a2 x1.length c3) x1]) (fun k (s : ((Int × Int) × Unit)) => zn F x1 x4 k s.1) ((0, (x1.length : Int)), ()) F ?_ (hF := (qo 0 rfl qA)))
 intro k95
 rintro ⟨⟨x85, x86⟩, _⟩
 try dsimp only
 refine zB (m' := zX F x1 x4 (zn F x1 x4 k95) x85 x86) rfl (qg (qg (qa (qe rfl rfl rfl (qe rfl rfl rfl (qZ rfl rfl rfl rfl (qd (qc (qz rfl (fun h103 => ?_) (fun h103 => ?_))))))))))
 refine qr (qc (qB (qg (qa (qe rfl rfl rfl (qe rfl rfl rfl (qL rfl rfl rfl rfl (zQ rfl Tryz.underlying3 Tryz.underlying128 rfl rfl (qbZ rfl rfl rfl rfl rfl (zQ rfl Tryz.underlying128 Tryz.underlying3 rfl rfl (qb rfl rfl rfl (jT (fun x97 e97 => ?_)))))))))))))
 refine qC (d := 9) (v := .int .i64 x97) rfl (by rw [e97] <;> rfl) (qd (qc (qg (qa (qe rfl rfl rfl (qe rfl rfl rfl (zZ (j := 0) (zb .i64) (by decide) rfl Tryz.underlying37 tf3 rfl rfl rfl rfl (fun x98 e98 b99 o100 => zU (j := 0) rfl rfl tf3 rfl rfl (fun _ => rfl) rfl rfl (qe rfl rfl rfl (qx ent115 rfl rfl rfl (fun x101 e101 => qeT F x98 x4 x101 e101) .nil (fun x101 e101 => ?_)))))))))))
 intro _
 refine qd (qc (qz rfl (fun h102 => ?_) (fun h102 => ?_)))
 exact qa (qe rfl rfl rfl (qL rfl rfl rfl rfl (qb rfl rfl rfl (qd (qU (qW ((iadd .i64 x97 1, x86), ()) (hF := (qo 1 rfl qA))))))))
 exact qa (qe rfl rfl rfl (qb rfl rfl rfl (qd (qU (qW ((x85, x97), ()) (hF := (qo 1 rfl qA)))))))
 exact zj (qD (qD (zk (qm (x85, ()) (hF := (qo 0 rfl qA))))))
 rintro ⟨x32, _⟩
 try dsimp only
 refine qg (qa (qe rfl rfl rfl (qe rfl rfl rfl (qe rfl rfl rfl (qZ rfl rfl rfl rfl (qe rfl rfl rfl (vt 18 (fun ((x55, _) : (Bool × Unit)) => [(31, .int .i64 x32), (53, .bool x55)]) (fun ((x55, _) : (Bool × Unit)) => []) (fun ((x55, _) : (Bool × Unit)) => []) (fun ((x55, _) : (Bool × Unit)) => []) (fun ((x55, _) : (Bool × Unit)) => kL F x32 x55) ?_ ?_)))))))
 refine qy (os := _) rfl (qba (fun h33 => ?_) (fun h33 => ?_))
 refine zA (k := 35) rfl h33 (qe rfl rfl rfl (qe rfl rfl rfl (zZ (j := 0) (zb .i64) (by decide) rfl Tryz.underlying37 tf3 rfl rfl rfl rfl (fun x56 e56 b57 o58 => zU (j := 0) rfl rfl tf3 rfl rfl (fun _ => rfl) rfl rfl (qe rfl rfl rfl (ku rfl rfl rfl rfl (qe rfl rfl rfl (vt 10 (fun ((x68, _) : (Bool × Unit)) => [(31, .int .i64 x32), (35, .bool true), (52, .bool x68)]) (fun ((x68, _) : (Bool × Unit)) => []) (fun ((x68, _) : (Bool × Unit)) => []) (fun ((x68, _) : (Bool × Unit)) => []) (fun ((x68, _) : (Bool × Unit)) => kM F x32 x68) ?_ ?_))))))))
 refine qy (os := _) rfl (qba (fun h59 => ?_) (fun h59 => ?_))
 exact zA (k := 42) rfl h59 (qn rfl rfl rfl (qn rfl rfl rfl (qn rfl rfl rfl (qn rfl rfl rfl (qn rfl rfl rfl (qn rfl rfl rfl (qn rfl rfl rfl (qn rfl rfl rfl (qn rfl rfl rfl (qG (b := true) rfl rfl rfl rfl (qd (qm (true, ())))))))))))))
 refine zz (k := 42) rfl h59 (qe rfl rfl rfl (qe rfl rfl rfl (zZ (j := 1) (zb .i64) (by decide) rfl Tryz.underlying37 tf3 rfl rfl rfl rfl (fun x69 e69 b70 o71 => zU (j := 0) rfl rfl tf3 rfl rfl (fun _ => rfl) rfl rfl (qx ent116 rfl rfl rfl (fun x72 e72 => qbt F x69 x72 e72) .nil (fun x72 e72 => ?_))))))
 intro _
 refine qe rfl rfl rfl (vt 3 (fun ((x75, _) : (Bool × Unit)) => [(31, .int .i64 x32), (35, .bool true), (42, .bool false), (51, .bool x75)]) (fun ((x75, _) : (Bool × Unit)) => []) (fun ((x75, _) : (Bool × Unit)) => []) (fun ((x75, _) : (Bool × Unit)) => []) (fun ((x75, _) : (Bool × Unit)) => kN F x32 x75) ?_ ?_)
 refine qy (os := _) rfl (qba (fun h73 => ?_) (fun h73 => ?_))
 refine zA (k := 48) rfl h73 (qe rfl rfl rfl (qx ent116 rfl rfl rfl (fun x76 e76 => qbt F x4 x76 e76) .nil (fun x76 e76 => ?_)))
 intro _
 exact qG (b := true) rfl rfl rfl rfl (qd (qm (x76, ())))
 exact zz (k := 48) rfl h73 (qn rfl rfl rfl (qn rfl rfl rfl (qG (b := false) rfl rfl rfl rfl (qd (qm (false, ()))))))
 rintro ⟨x75, _⟩
 try dsimp only
 exact qy (os := _) rfl (qG (b := false) rfl rfl rfl rfl (qd (qm (x75, ()))))
 rintro ⟨x68, _⟩
 try dsimp only
 exact qy (os := _) rfl (qG (b := true) rfl rfl rfl rfl (qd (qm (x68, ()))))
 refine zz (k := 35) rfl h33 (qn rfl rfl rfl (qn rfl rfl rfl (qn rfl rfl rfl (qn rfl rfl rfl (qn rfl rfl rfl (qn rfl rfl rfl (qn rfl rfl rfl (qn rfl rfl rfl (qn rfl rfl rfl (qn rfl rfl rfl (qn rfl rfl rfl (qn rfl rfl rfl ?_))))))))))))
 exact qn rfl rfl rfl (qn rfl rfl rfl (qn rfl rfl rfl (qn rfl rfl rfl (qn rfl rfl rfl (qG (b := false) rfl rfl rfl rfl (qd (qm (false, ()))))))))
 rintro ⟨x55, _⟩
 try dsimp only
 exact qy (os := _) rfl (qb rfl rfl rfl (qb rfl rfl rfl (qd (qc (qs (qq () (res2 rfl rfl rfl)))))))
theorem qdq (F : Nat) (g1 : Nat) (x2 : List Int) (a3 : Option Addr) (c4 : Nat) (x5 : Bool) (x6 : Int) (x7 : Bool) (r : (List Int × Bool × Int)) (hm : vG F x2 x5 x6 x7 = some r) :
    PureM Tryz.prog 97 [.pointer (some ⟨g1, 0, none⟩), .bool x7] [⟨g1, 153, [.slice a3 x2.length c4, .bool x5, .int .i64 x6]⟩] [Ro (eI .i64) 3 1 (.slice a3 x2.length c4) x2] [] (Option Addr × Nat) (fun _ => .tuple #[]) (fun g => [⟨g1, 153, [.slice g.1 r.1.length g.2, .bool r.2.1, .int .i64 r.2.2]⟩]) (fun g => [Ro (eI .i64) 3 1 (.slice g.1 r.1.length g.2) r.1]) := by
 refine kP Tryz.func97 rfl Tryz.ntmps97 rfl hm (fun w => qH (l' := [(0, .pointer (some ⟨g1, 0, none⟩)), (1, .bool x7)]) rfl (qK (fun (((x21, x22, x23), (a19, c20)) : ((List Int × Bool × Int) × (Option Addr × Nat))) => [(0, .pointer (some ⟨g1, 0, none⟩))]) (fun (((x21, x22, x23), (a19, c20)) : ((List Int × Bool × Int) × (Option Addr × Nat))) => [⟨g1, 153, [.slice a19 x21.length c20, .bool x22, .int .i64 x23]⟩]) (fun (((x21, x22, x23), (a19, c20)) : ((List Int × Bool × Int) × (Option Addr × Nat))) => [Ro (eI .i64) 3 1 (.slice a19 x21.length c20) x21]) (fun (((x21, x22, x23), (a19, c20)) : ((List Int × Bool × Int) × (Option Addr × Nat))) => []) (fun (((x21, x22, x23), _) : ((List Int × Bool × Int) × (Option Addr × Nat))) => yK F x21 x22 x23) ?_ ?_))
 refine qg (qa (qe rfl rfl rfl (qe rfl rfl rfl (qN rfl rfl rfl (qi rfl rfl qi2 rfl (ql (i := 0) rfl rfl tf4 rfl rfl (fun _ => rfl) rfl rfl (qmA rfl Tryz.underlying4 rfl rfl rfl (qd (qc (qz rfl (fun h34 => ?_) (fun h34 => ?_)))))))))))
 refine qg (zg mixed [13] [] [(BlkD.is ⟨g1, 153, [.slice a3 x2.length c4, .bool x5, .int .i64 x6]⟩)] .nil (qbG 0 rfl qE) 14 rfl (qf 0 (.pointer (some ⟨g1, 0, none⟩)) rfl rfl rfl (qj rfl) (qf 1 (.pointer (some ⟨g1, 0, none⟩)) rfl rfl rfl (qj rfl) (qf 2 (.pointer (some ⟨g1, 0, none⟩)) rfl rfl rfl (qj rfl) (qf 3 (.pointer (some ⟨g1, 0, none⟩)) rfl rfl rfl (qt rfl qgB) (ko 4 (.slice a3 x2.length c4) [[13]] rfl rfl rfl (jE (j := 0) rfl tf37 rfl rfl (fun _ => rfl) rfl) (qf 5 (.pointer (some ⟨g1, 0, none⟩)) rfl rfl rfl (qj rfl) (qf 6 (.pointer (some ⟨g1, 0, none⟩)) rfl rfl rfl (qj rfl) (qf 7 (.pointer (some ⟨g1, 2, none⟩)) rfl rfl rfl (qt rfl qeM) (ko 8 (.int .i64 x6) [[13]] rfl rfl rfl (jE (j := 0) rfl tf3 rfl rfl (fun _ => rfl) rfl) (qI 9 rfl (by kernel_rfl) rfl (zW (vs := [.int .i64 x6]) (ys := ([x6] : List Int)) (zb .i64) (by decide) rfl Tryz.underlying37 tf3 rfl rfl rfl rfl rfl (by decide) (fun a29 c30 => ?_)))))))))))))
 refine qd (qF .nil (qbG 0 rfl qE) (qI 10 rfl (by kernel_rfl) rfl (yp 1 (zb .i64) rfl Tryz.underlying37 tf3 rfl rfl rfl rfl rfl (.inl ⟨0, _, rfl⟩) rfl rfl (fun x31 e31 a32 c33 => qd (qF .nil (qbG 0 rfl qE) (qf 11 (.pointer (some ⟨g1, 0, none⟩)) rfl rfl rfl (qj rfl) (qf 12 (.pointer (some ⟨g1, 0, none⟩)) rfl rfl rfl (qt rfl qgB) (qI 13 rfl (by kernel_rfl) rfl (qu (i := 0) rfl rfl rfl tf37 rfl rfl rfl rfl rfl (qd (vu 13 rfl (by kernel_rfl) .nil (qO (by kernel_rfl) ?_))))))))))))
 refine zm (qc (qa (qe rfl rfl rfl (qe rfl rfl rfl (qe rfl rfl rfl (qN rfl rfl rfl (qi rfl rfl qi2 rfl (qu (i := 0) rfl rfl rfl tf4 rfl rfl rfl rfl rfl (qN rfl rfl rfl (qi rfl rfl qeM rfl (qu (i := 0) rfl rfl rfl tf3 rfl rfl rfl rfl rfl (qd ?_)))))))))))) (by intro c h; cases h)
 exact qm ((x31, x7, 0), (a32, c33)) (hB := (.cons 0 rfl .nil)) (hR := (.cons 0 rfl .nil))
 exact qr (qm ((x2, x5, x6), (a3, c4)) (hB := (.cons 0 rfl .nil)) (hR := (.cons 0 rfl .nil)))
 rintro ⟨⟨x21, x22, x23⟩, ⟨a19, c20⟩⟩
 try dsimp only
 exact qa (qe rfl rfl rfl (qN rfl rfl rfl (qi rfl rfl qeM rfl (ql (i := 0) rfl rfl tf3 rfl rfl (fun _ => rfl) rfl rfl (qL rfl rfl rfl rfl (qN rfl rfl rfl (qi rfl rfl qeM rfl (qu (i := 0) rfl rfl rfl tf3 rfl rfl rfl rfl rfl (qd (zr (a19, c20) (res0 rfl) (hB := fun h => by subst h; exact (.cons 0 rfl .nil)) (hR := fun h => by subst h; exact (.cons 0 rfl .nil))))))))))))
theorem qhj (F : Nat) (x1 : List Int) (a2 : Option Addr) (c3 : Nat) (x4 : List Int) (a5 : Option Addr) (c6 : Nat) (r : (List Int × List Int)) (hm : qbV F x1 x4 = some r) :
    Pure Tryz.prog 71 [.slice a2 x1.length c3, .slice a5 x4.length c6] [Sl (eI .i64) 1 (.slice a2 x1.length c3) x1, Sl (eI .i64) 1 (.slice a5 x4.length c6) x4] ((Option Addr × Nat) × (Option Addr × Nat)) (fun g => .tuple #[.slice g.1.1 r.1.length g.1.2, .slice g.2.1 r.2.length g.2.2]) (fun g => [Ro (eI .i64) 3 1 (.slice g.1.1 r.1.length g.1.2) r.1, Ro (eI .i64) 3 1 (.slice g.2.1 r.2.length g.2.2) r.2]) (fun _ => []) := by
 refine qS Tryz.func71 rfl Tryz.ntmps71 rfl hm (fun w => qH (l' := [(0, .slice a2 x1.length c3), (1, .slice a5 x4.length c6)]) rfl (qg (qa (qb rfl rfl rfl (qb rfl rfl rfl (qd (qc (qg (qa (zv (cells := [.slice none 0 0, .bool true, .int .i64 0]) rfl st153 rfl (by kernel_rfl) rfl (qV rfl rfl rfl (fun g7 => qb rfl rfl rfl ?_))))))))))))
 refine qd (qc (qK (fun (((x66, x67, x68), (a64, c65)) : ((List Int × Bool × Int) × (Option Addr × Nat))) => [(0, .slice a2 x1.length c3), (1, .slice a5 x4.length c6), (5, .slice none 0 0), (6, .pointer (some ⟨g7, 0, none⟩))]) (fun (((x66, x67, x68), (a64, c65)) : ((List Int × Bool × Int) × (Option Addr × Nat))) => [⟨g7, 153, [.slice a64 x66.length c65, .bool x67, .int .i64 x68]⟩]) (fun (((x66, x67, x68), (a64, c65)) : ((List Int × Bool × Int) × (Option Addr × Nat))) => [Ro (eI .i64) 3 1 (.slice a64 x66.length c65) x66]) (fun (((x66, x67, x68), (a64, c65)) : ((List Int × Bool × Int) × (Option Addr × Nat))) => [Sl (eI .i64) 1 (.slice a2 x1.length c3) x1, Sl (eI .i64) 1 (.slice a5 x4.length c6) x4]) (fun (((x66, x67, x68), _) : ((List Int × Bool × Int) × (Option Addr × Nat))) => qbB F x1 x4 x66 x67 x68) ?_ ?_))
 refine qg (qa (qe rfl rfl rfl (qX rfl Tryz.underlying37 rfl rfl (qe rfl rfl rfl (qd (qc (qB (vM Int (eI .i64) 3 1 (q7 (fun (((x249, x252, x253, x254), (a250, c251)) : ((Int × List Int × Bool × Int) × (Option Addr × Nat))) => [(0, .slice a2 x1.length c3), (1, .slice a5 x4.length c6), (5, .slice none 0 0), (6, .pointer (some ⟨g7, 0, none⟩)), (17, .slice a2 x1.length c3), (18, .int .i64 (x1.length : Int)), (19, .int .i64 x249)]) (fun (((x249, x252, x253, x254), (a250, c251)) : ((Int × List Int × Bool × Int) × (Option Addr × Nat))) => [⟨g7, 153, [.slice a250 x252.length c251, .bool x253, .int .i64 x254]⟩]) (fun (((x249, x252, x253, x254), (a250, c251)) : ((Int × List Int × Bool × Int) × (Option Addr × Nat))) => [Ro (eI .i64) 3 1 (.slice a250 x252.length c251) x252]) (fun (((x249, x252, x253, x254), (a250, c251)) : ((Int × List Int × Bool × Int) × (Option Addr × Nat))) => [Sl (eI .i64) 1 (.slice a2 x1.length c3) x1, Sl (eI .i64) 1 (.slice a5 x4.length c6) x4]) (fun k (s : ((Int × List Int × Bool × Int) × (Option Addr × Nat))) => yS F x1 x4 k s.1) ((0, ([] : List Int), true, 0), (none, 0)) F ?_ (hB := (.cons 0 rfl .nil)) (hR := (.cons 0 rfl .nil)) (hF := (qo 0 rfl (qo 1 rfl qA))))))))))))
 intro k271
 rintro ⟨⟨x249, x252, x253, x254⟩, ⟨a250, c251⟩⟩
 try dsimp only
 refine zB (m' := j2 F x1 x4 (yS F x1 x4 k271) x249 x252 x253 x254) rfl (qg (qa (qZ rfl rfl rfl rfl (qd (qc (qg (qz rfl (fun h287 => ?_) (fun h287 => ?_))))))))
 refine qr (qc (qg (qB (qg (qa (zZ (j := 0) (zb .i64) (by decide) rfl Tryz.underlying37 tf3 rfl rfl rfl rfl (fun x280 e280 b281 o282 => zU (j := 0) rfl rfl tf3 rfl rfl (fun _ => rfl) rfl rfl (qb rfl rfl rfl (qd (qc (qg (qa ?_))))))))))))
 refine qe rfl rfl rfl (qe rfl rfl rfl (qx ent96 rfl rfl rfl (fun x283 e283 => vv F x4 a5 c6 x280 x283 e283) (.consF 2 rfl .nil) (fun x283 e283 => ?_)))
 intro _
 refine qe rfl rfl rfl (qv rfl rfl rfl rfl (qv rfl rfl rfl rfl (qb rfl rfl rfl (qb rfl rfl rfl (qd (qc (qa (qe rfl rfl rfl (qe rfl rfl rfl (qY ent97 rfl rfl rfl (fun x284 e284 => qdq F g7 x252 a250 c251 x253 x254 x283.2 x284 e284) (.cons 0 rfl .nil) (.cons 0 rfl .nil) .nil (fun x284 e284 => ?_)))))))))))
 rintro ⟨a285, c286⟩
 exact qd (qU (qc (qa (qL rfl rfl rfl rfl (qe rfl rfl rfl (qd (qW ((iadd .i64 x249 1, x284.1, x284.2.1, x284.2.2), (a285, c286)) (hB := (.cons 0 rfl .nil)) (hR := (.cons 0 rfl .nil)) (hF := (qo 1 rfl (qo 2 rfl qA))))))))))
 exact zj (qD (qD (zk (qm ((x252, x253, x254), (a250, c251)) (hB := (.cons 0 rfl .nil)) (hR := (.cons 0 rfl .nil)) (hF := (qo 0 rfl (qo 1 rfl qA)))))))
 rintro ⟨⟨x66, x67, x68⟩, ⟨a64, c65⟩⟩
 try dsimp only
 refine qK (fun ((x151, (a149, c150)) : (List Int × (Option Addr × Nat))) => [(5, .slice a149 x151.length c150), (6, .pointer (some ⟨g7, 0, none⟩))]) (fun ((x151, (a149, c150)) : (List Int × (Option Addr × Nat))) => [⟨g7, 153, [.slice a64 x66.length c65, .bool x67, .int .i64 x68]⟩]) (fun ((x151, (a149, c150)) : (List Int × (Option Addr × Nat))) => [Ro (eI .i64) 3 1 (.slice a149 x151.length c150) x151, Ro (eI .i64) 3 1 (.slice a64 x66.length c65) x66]) (fun ((x151, (a149, c150)) : (List Int × (Option Addr × Nat))) => []) (fun ((x151, _) : (List Int × (Option Addr × Nat))) => qbC F x66 x151) ?_ ?_
 refine qg (qa (qe rfl rfl rfl (qX rfl Tryz.underlying37 rfl rfl (qe rfl rfl rfl (qd (qc (qB (vM Int (eI .i64) 3 1 (q7 (fun (((x179, x180), (a177, c178)) : ((List Int × Int) × (Option Addr × Nat))) => [(0, .slice a2 x1.length c3), (5, .slice a177 x179.length c178), (6, .pointer (some ⟨g7, 0, none⟩)), (33, .slice a5 x4.length c6), (34, .int .i64 (x4.length : Int)), (35, .int .i64 x180)]) (fun (((x179, x180), (a177, c178)) : ((List Int × Int) × (Option Addr × Nat))) => [⟨g7, 153, [.slice a64 x66.length c65, .bool x67, .int .i64 x68]⟩]) (fun (((x179, x180), (a177, c178)) : ((List Int × Int) × (Option Addr × Nat))) => [Ro (eI .i64) 3 1 (.slice a177 x179.length c178) x179, Ro (eI .i64) 3 1 (.slice a64 x66.length c65) x66]) (fun (((x179, x180), (a177, c178)) : ((List Int × Int) × (Option Addr × Nat))) => [Sl (eI .i64) 1 (.slice a2 x1.length c3) x1, Sl (eI .i64) 1 (.slice a5 x4.length c6) x4]) (fun k (s : ((List Int × Int) × (Option Addr × Nat))) => yr F x1 x4 x66 k s.1) ((([] : List Int), 0), (none, 0)) F ?_ (hB := (.cons 0 rfl .nil)) (hR := (.cons 0 rfl (.cons 0 rfl .nil))) (hF := (qo 0 rfl (qo 1 rfl qA))))))))))))
 intro k206
 rintro ⟨⟨x179, x180⟩, ⟨a177, c178⟩⟩
 try dsimp only
 refine zB (m' := j1 F x1 x4 x66 (yr F x1 x4 x66 k206) x179 x180) rfl (qg (qa (qZ rfl rfl rfl rfl (qd (qc (qg (qz rfl (fun h231 => ?_) (fun h231 => ?_))))))))
 refine qr (qc (qK (fun ((x220, (a218, c219)) : (List Int × (Option Addr × Nat))) => [(0, .slice a2 x1.length c3), (5, .slice a218 x220.length c219), (6, .pointer (some ⟨g7, 0, none⟩)), (33, .slice a5 x4.length c6), (34, .int .i64 (x4.length : Int)), (35, .int .i64 x180)]) (fun ((x220, (a218, c219)) : (List Int × (Option Addr × Nat))) => [⟨g7, 153, [.slice a64 x66.length c65, .bool x67, .int .i64 x68]⟩]) (fun ((x220, (a218, c219)) : (List Int × (Option Addr × Nat))) => [Ro (eI .i64) 3 1 (.slice a218 x220.length c219) x220, Ro (eI .i64) 3 1 (.slice a64 x66.length c65) x66]) (fun ((x220, (a218, c219)) : (List Int × (Option Addr × Nat))) => [Sl (eI .i64) 1 (.slice a2 x1.length c3) x1, Sl (eI .i64) 1 (.slice a5 x4.length c6) x4]) (fun ((x220, _) : (List Int × (Option Addr × Nat))) => j3 F (yr F x1 x4 x66 k206) x180 x220) ?_ ?_))
 refine qB (qg (qa (zZ (j := 1) (zb .i64) (by decide) rfl Tryz.underlying37 tf3 rfl rfl rfl rfl (fun x221 e221 b222 o223 => zU (j := 0) rfl rfl tf3 rfl rfl (fun _ => rfl) rfl rfl (qb rfl rfl rfl (qd (qc (qg (qa (qe rfl rfl rfl (qe rfl rfl rfl (qx ent96 rfl rfl rfl (fun x224 e224 => vv F x1 a2 c3 x221 x224 e224) (.consF 1 rfl .nil) (fun x224 e224 => ?_)))))))))))))
 intro _
 refine qe rfl rfl rfl (qv rfl rfl rfl rfl (qv rfl rfl rfl rfl (qb rfl rfl rfl (qb rfl rfl rfl (qd (qc (qg (qa (qe rfl rfl rfl (kw rfl rfl rfl (qd (qc ?_))))))))))))
 refine qz rfl (fun h230 => ?_) (fun h230 => ?_)
 exact qa (qe rfl rfl rfl (qe rfl rfl rfl (zW (vs := [.int .i64 x221]) (ys := ([x221] : List Int)) (zb .i64) (by decide) rfl Tryz.underlying37 tf3 rfl rfl rfl rfl rfl (by decide) (fun a225 c226 => yp 1 (zb .i64) rfl Tryz.underlying37 tf3 rfl rfl rfl rfl rfl (.inl ⟨0, _, rfl⟩) rfl rfl (fun x227 e227 a228 c229 => qb rfl rfl rfl (qd (qU (qm (x227, (a228, c229)) (hB := (.cons 0 rfl .nil)) (hR := (.cons 0 rfl (.cons 1 rfl .nil))) (hF := (qo 1 rfl (qo 2 rfl qA)))))))))))
 exact qr (qU (qm (x179, (a177, c178)) (hB := (.cons 0 rfl .nil)) (hR := (.cons 0 rfl (.cons 0 rfl .nil))) (hF := (qo 1 rfl (qo 2 rfl qA)))))
 rintro ⟨x220, ⟨a218, c219⟩⟩
 try dsimp only
 exact qa (qL rfl rfl rfl rfl (qe rfl rfl rfl (qd (qW ((x220, iadd .i64 x180 1), (a218, c219)) (hB := (.cons 0 rfl .nil)) (hR := (.cons 0 rfl (.cons 0 rfl .nil))) (hF := (qo 0 rfl (qo 1 rfl qA)))))))
 exact zj (qD (qD (zk (qm (x179, (a177, c178)) (hB := (.cons 0 rfl .nil)) (hR := (.cons 0 rfl (.cons 0 rfl .nil)))))))
 rintro ⟨x151, ⟨a149, c150⟩⟩
 try dsimp only
 exact qg (qa (qe rfl rfl rfl (qN rfl rfl rfl (qi rfl rfl qgB rfl (ql (i := 0) rfl rfl tf37 rfl rfl (fun _ => rfl) rfl rfl (qe rfl rfl rfl (qb rfl rfl rfl (qb rfl rfl rfl (qd (qc (qs (qq ((a64, c65), (a149, c150)) (res2 rfl rfl rfl) (fun h => by subst h; exact (.cons 1 rfl (.cons 0 rfl .nil)))))))))))))))
theorem qcP (F : Nat) (g1 : Nat) (x2 : Int) (x3 : List Int) (a4 : Option Addr) (c5 : Nat) (x6 : Bool) (x7 : List Int) (a8 : Option Addr) (c9 : Nat) (r : (Int × List Int × Bool)) (hm : ve F x2 x3 x6 x7 = some r) :
    PureM Tryz.prog 72 [.pointer (some ⟨g1, 0, none⟩), .slice a8 x7.length c9] [⟨g1, 90, [.int .i64 x2, .slice a4 x3.length c5, .bool x6]⟩] [Ro (eI .u8) 5 1 (.slice a4 x3.length c5) x3] [Sl (eI .i64) 1 (.slice a8 x7.length c9) x7] (Option Addr × Nat) (fun _ => .tuple #[]) (fun g => [⟨g1, 90, [.int .i64 r.1, .slice g.1 r.2.1.length g.2, .bool r.2.2]⟩]) (fun g => [Ro (eI .u8) 5 1 (.slice g.1 r.2.1.length g.2) r.2.1]) := by
 refine kP Tryz.func72 rfl Tryz.ntmps72 rfl hm (fun w => qH (l' := [(0, .pointer (some ⟨g1, 0, none⟩)), (1, .slice a8 x7.length c9)]) rfl (qg (qa (qe rfl rfl rfl (qe rfl rfl rfl (qX rfl Tryz.underlying37 rfl rfl (qY ent70 rfl rfl rfl (fun x10 e10 => kr F g1 x2 x3 a4 c5 x6 (x7.length : Int) x10 e10) (.cons 0 rfl .nil) (.cons 0 rfl .nil) .nil (fun x10 e10 => ?_))))))))
 rintro ⟨a11, c12⟩
 refine qd (qc (qg (qa (qe rfl rfl rfl (qX rfl Tryz.underlying37 rfl rfl (qe rfl rfl rfl (qd (qc (qB (q7 (fun (((x27, x28, x31, x32), (a29, c30)) : ((Int × Int × List Int × Bool) × (Option Addr × Nat))) => [(0, .pointer (some ⟨g1, 0, none⟩)), (10, .slice a8 x7.length c9), (11, .int .i64 (x7.length : Int)), (12, .int .i64 x27)]) (fun (((x27, x28, x31, x32), (a29, c30)) : ((Int × Int × List Int × Bool) × (Option Addr × Nat))) => [⟨g1, 90, [.int .i64 x28, .slice a29 x31.length c30, .bool x32]⟩]) (fun (((x27, x28, x31, x32), (a29, c30)) : ((Int × Int × List Int × Bool) × (Option Addr × Nat))) => [Ro (eI .u8) 5 1 (.slice a29 x31.length c30) x31]) (fun (((x27, x28, x31, x32), (a29, c30)) : ((Int × Int × List Int × Bool) × (Option Addr × Nat))) => [Sl (eI .i64) 1 (.slice a8 x7.length c9) x7]) (fun k (s : ((Int × Int × List Int × Bool) × (Option Addr × Nat))) => kg F x7 k s.1) ((0, x10.1, x10.2.1, x10.2.2), (a11, c12)) F ?_ (hB := (.cons 0 rfl .nil)) (hR := (.cons 0 rfl .nil)) (hF := (qo 0 rfl qA))))))))))))
 intro k47
 rintro ⟨⟨x27, x28, x31, x32⟩, ⟨a29, c30⟩⟩
 try dsimp only
 refine zB (m' := yn F x7 (kg F x7 k47) x27 x28 x31 x32) rfl (qg (qa (qZ rfl rfl rfl rfl (qd (qc (qg (qz rfl (fun h61 => ?_) (fun h61 => ?_))))))))
 refine qr (qc (qg (qB (qg (qa (qe rfl rfl rfl (zZ (j := 0) (zb .i64) (by decide) rfl Tryz.underlying37 tf3 rfl rfl rfl rfl (fun x55 e55 b56 o57 => zU (j := 0) rfl rfl tf3 rfl rfl (fun _ => rfl) rfl rfl (qb rfl rfl rfl (qb rfl rfl rfl (qd (qc ?_))))))))))))
 refine qa (qe rfl rfl rfl (qe rfl rfl rfl (qe rfl rfl rfl (qcE rfl rfl rfl rfl (zJ rfl rfl rfl rfl (qY ent70 rfl rfl rfl (fun x58 e58 => kr F g1 x28 x31 a29 c30 x32 (isub .i64 x55 (imin x27 1)) x58 e58) (.cons 0 rfl .nil) (.cons 0 rfl .nil) .nil (fun x58 e58 => ?_)))))))
 rintro ⟨a59, c60⟩
 exact qd (qU (qc (qa (qL rfl rfl rfl rfl (qe rfl rfl rfl (qd (qW ((iadd .i64 x27 1, x58.1, x58.2.1, x58.2.2), (a59, c60)) (hB := (.cons 0 rfl .nil)) (hR := (.cons 0 rfl .nil)) (hF := (qo 1 rfl qA)))))))))
 exact zj (qD (qD (zk (zr (a29, c30) (res0 rfl) (hB := fun h => by subst h; exact (.cons 0 rfl .nil)) (hR := fun h => by subst h; exact (.cons 0 rfl .nil))))))
theorem qhk (F : Nat) (x1 : List Int) (a2 : Option Addr) (c3 : Nat) (r : Unit) (hm : qcQ F x1 = some r) :
    PureM Tryz.prog 98 [.slice a2 x1.length c3] [] [] [Sl (eI .i64) 1 (.slice a2 x1.length c3) x1] Nat (fun g => .func (.func 117) #[] #[.pointer (some ⟨g, 0, none⟩)]) (fun g => [⟨g, 37, [.slice a2 x1.length c3]⟩]) (fun _ => []) := by
 refine kP Tryz.func98 rfl Tryz.ntmps98 rfl hm (fun w => qH (l' := [(0, .slice a2 x1.length c3)]) rfl (qg (qa (qV rfl rfl rfl (fun g4 => qb rfl rfl rfl (qd (qc (qg (qa (qcD rfl rfl rfl (qb rfl rfl rfl (qd ?_))))))))))))
 exact qc (qs (zr g4 (res1 rfl rfl) (hB := fun h => by subst h; exact (.cons 0 rfl .nil))))
theorem qfF (F : Nat) {σ τ : Type} {J : Rounds σ τ} {yy : σ → (Int × Int) → Option (σ ⊕ τ)} {L : Nat} (hY : YieldC Tryz.prog L (fun (p : (Int × Int)) => [.agg #[.int .i64 p.1, .int .i64 p.2]]) J yy) (s0 : σ) (gs0 : J.γ) (g1 : Nat) (x2 : List Int) (a3 : Option Addr) (c4 : Nat) (r : σ ⊕ τ) (hm : jO F yy x2 s0 = some r) :
    PureM Tryz.prog 117 ([.func (.yield L) #[] #[], .pointer (some ⟨g1, 0, none⟩)]) ([⟨g1, 37, [.slice a3 x2.length c4]⟩] ++ J.IB s0 gs0) (J.IR s0 gs0) [J.F, Sl (eI .i64) 1 (.slice a3 x2.length c4) x2] (J.G r) (fun _ => .tuple #[]) (fun g => [⟨g1, 37, [.slice a3 x2.length c4]⟩] ++ J.bs r g) (fun g => J.rs r g) := by
  refine kP Tryz.func117 rfl Tryz.ntmps117 rfl hm (fun w => ?_)
  refine qH (l' := [(0, .func (.yield L) #[] #[]), (1, .pointer (some ⟨g1, 0, none⟩))]) rfl ?_
  refine qg ?_
  refine qa ?_
  refine qb rfl rfl rfl ?_
  refine qd ?_
  refine qc ?_
  refine qB ?_
  refine q7 (fun (((x266, x267), g268) : ((Int × σ) × J.γ)) => [(0, .func (.yield L) #[] #[]), (1, .pointer (some ⟨g1, 0, none⟩)), (3, .int .i64 x266)]) (fun (((x266, x267), g268) : ((Int × σ) × J.γ)) => [⟨g1, 37, [.slice a3 x2.length c4]⟩] ++ J.IB x267 g268) (fun (((x266, x267), g268) : ((Int × σ) × J.γ)) => [] ++ J.IR x267 g268) (fun (((x266, x267), g268) : ((Int × σ) × J.γ)) => [Sl (eI .i64) 1 (.slice a3 x2.length c4) x2, J.F]) (fun k (s : ((Int × σ) × J.γ)) => zp F yy x2 k s.1) ((0, s0), gs0) F ?_ (hB := (.cons 0 rfl (zx 0 rfl))) (hR := (zx 0 rfl)) (hF := (qo 1 rfl (qo 0 rfl qA)))
  intro k530
  rintro ⟨⟨x266, x267⟩, g268⟩
  try dsimp only
  refine zB (m' := jm F yy x2 (zp F yy x2 k530) x266 x267) rfl ?_
  refine qg ?_
  refine qg ?_
  refine qa ?_
  refine qe rfl rfl rfl ?_
  refine ql (i := 0) rfl rfl tf37 rfl rfl (fun _ => rfl) rfl rfl ?_
  refine qX rfl Tryz.underlying37 rfl rfl ?_
  refine qZ rfl rfl rfl rfl ?_
  refine qd ?_
  refine qc ?_
  refine qz rfl (fun h791 => ?_) (fun h791 => ?_)
  · refine qr ?_
    refine qc ?_
    refine qB ?_
    refine qg ?_
    refine qa ?_
    refine qb rfl rfl rfl ?_
    refine qd ?_
    refine qc ?_
    refine qK (fun ((x654, _) : (Int × Unit)) => [(0, .func (.yield L) #[] #[]), (1, .pointer (some ⟨g1, 0, none⟩)), (3, .int .i64 x266), (4, .int .i64 x654)]) (fun ((x654, _) : (Int × Unit)) => [⟨g1, 37, [.slice a3 x2.length c4]⟩] ++ J.IB x267 g268) (fun ((x654, _) : (Int × Unit)) => [] ++ J.IR x267 g268) (fun ((x654, _) : (Int × Unit)) => [Sl (eI .i64) 1 (.slice a3 x2.length c4) x2, J.F]) (fun ((x654, _) : (Int × Unit)) => jo F yy (zp F yy x2 k530) x2 x266 x267 x654) ?_ ?_
    · refine qB ?_
      refine q7 (fun ((x709, _) : (Int × Unit)) => [(0, .func (.yield L) #[] #[]), (1, .pointer (some ⟨g1, 0, none⟩)), (3, .int .i64 x266), (4, .int .i64 x709)]) (fun ((x709, _) : (Int × Unit)) => [⟨g1, 37, [.slice a3 x2.length c4]⟩] ++ J.IB x267 g268) (fun ((x709, _) : (Int × Unit)) => [] ++ J.IR x267 g268) (fun ((x709, _) : (Int × Unit)) => [Sl (eI .i64) 1 (.slice a3 x2.length c4) x2, J.F]) (fun k (s : (Int × Unit)) => kI F yy (zp F yy x2 k530) x2 x266 x267 k s.1) (1, ()) F ?_ (hB := (.cons 0 rfl (zx 0 rfl))) (hR := (zx 0 rfl)) (hF := (qo 0 rfl (qo 1 rfl qA)))
      intro k750
      rintro ⟨x709, _⟩
      try dsimp only
      refine zB (m' := jn F yy (zp F yy x2 k530) x2 x266 x267 (kI F yy (zp F yy x2 k530) x2 x266 x267 k750) x709) rfl ?_
      refine qg ?_
      refine qK (fun ((x780, _) : (Bool × Unit)) => [(0, .func (.yield L) #[] #[]), (1, .pointer (some ⟨g1, 0, none⟩)), (3, .int .i64 x266), (4, .int .i64 x709), (29, .bool x780)]) (fun ((x780, _) : (Bool × Unit)) => [⟨g1, 37, [.slice a3 x2.length c4]⟩] ++ J.IB x267 g268) (fun ((x780, _) : (Bool × Unit)) => [] ++ J.IR x267 g268) (fun ((x780, _) : (Bool × Unit)) => [Sl (eI .i64) 1 (.slice a3 x2.length c4) x2, J.F]) (fun ((x780, _) : (Bool × Unit)) => jp F yy (zp F yy x2 k530) (kI F yy (zp F yy x2 k530) x2 x266 x267 k750) x2 x266 x267 x709 x780) ?_ ?_
      · refine qad (fun h782 => ?_) (fun h782 => ?_)
        · refine jS (j := 0) (zb .i64) (by decide) rfl (fun x783 e783 b784 o785 h786 => ?_)
          replace h786 : a3 = some ⟨b784, o785, none⟩ := h786
          refine jS (j := 1) (zb .i64) (by decide) rfl (fun x787 e787 b788 o789 h790 => ?_)
          replace h790 : a3 = some ⟨b788, o789, none⟩ := h790
          refine zg mixed [] [⟨g1, 37, [.slice a3 x2.length c4]⟩] [zC b788 (o789 + x266.toNat * 1) ((eI .i64) x787), zC b784 (o785 + (iadd .i64 x266 x709).toNat * 1) ((eI .i64) x783), Sl (eI .i64) 1 (.slice a3 x2.length c4) x2, J.F] (.cons 0 rfl .nil) (q8 0 rfl (q8 1 rfl (q8 2 rfl (q8 3 rfl qE)))) 21 rfl ?_
          refine qf 0 (.int .i64 x266) rfl rfl rfl (qj rfl) ?_
          refine qf 1 (.int .i64 x709) rfl rfl rfl (qj rfl) ?_
          refine qf 2 (.int .i64 (iadd .i64 x266 x709)) rfl rfl rfl (qj rfl) ?_
          refine qP 3 (.slice a3 x2.length c4) rfl rfl rfl (qQ (i := 0) rfl tf37 rfl rfl (fun _ => rfl) rfl) ?_
          refine qf 4 (.int .i64 (x2.length : Int)) rfl rfl rfl (qeu Tryz.underlying37 rfl) ?_
          refine qf 5 (.bool (decide ((iadd .i64 x266 x709) < (x2.length : Int)))) rfl rfl rfl (qj rfl) ?_
          refine qf 6 (.bool (decide ((iadd .i64 x266 x709) < (x2.length : Int)))) rfl rfl rfl (qj rfl) ?_
          refine qJ (d := 15) (v := .bool true) rfl (by rw [h782] <;> rfl) ?_
          refine qP 7 (.slice a3 x2.length c4) rfl rfl rfl (qQ (i := 0) rfl tf37 rfl rfl (fun _ => rfl) rfl) ?_
          refine qf 8 (.int .i64 x266) rfl rfl rfl (qj rfl) ?_
          refine qf 9 (.int .i64 x709) rfl rfl rfl (qj rfl) ?_
          refine qf 10 (.int .i64 (iadd .i64 x266 x709)) rfl rfl rfl (qj rfl) ?_
          refine qJ (d := 16) (v := .slice (some ⟨b784, o785, none⟩) x2.length c4) rfl (by rw [h786] <;> rfl) ?_
          refine qf 11 (.pointer (some ⟨b784, (o785 + (iadd .i64 x266 x709).toNat * 1), none⟩)) rfl rfl rfl (qbb Tryz.underlying37 tf3 rfl rfl (kj e783).1 (qaE e783)) ?_
          refine qJ (d := 16) (v := .slice a3 x2.length c4) rfl (by rw [h786] <;> rfl) ?_
          refine ko 12 (.int .i64 x783) [] rfl rfl rfl (vW (j := 1) rfl tf3 rfl rfl (fun _ => rfl) rfl) ?_
          refine qP 13 (.slice a3 x2.length c4) rfl rfl rfl (qQ (i := 0) rfl tf37 rfl rfl (fun _ => rfl) rfl) ?_
          refine qf 14 (.int .i64 x266) rfl rfl rfl (qj rfl) ?_
          refine qJ (d := 22) (v := .slice (some ⟨b788, o789, none⟩) x2.length c4) rfl (by rw [h790] <;> rfl) ?_
          refine qf 15 (.pointer (some ⟨b788, (o789 + x266.toNat * 1), none⟩)) rfl rfl rfl (qbb Tryz.underlying37 tf3 rfl rfl (kj e787).1 (qaE e787)) ?_
          refine qJ (d := 22) (v := .slice a3 x2.length c4) rfl (by rw [h790] <;> rfl) ?_
          refine ko 16 (.int .i64 x787) [] rfl rfl rfl (vW (j := 0) rfl tf3 rfl rfl (fun _ => rfl) rfl) ?_
          refine qf 17 (.int .i64 x709) rfl rfl rfl (qj rfl) ?_
          refine qf 18 (.int .i64 (iadd .i64 x787 x709)) rfl rfl rfl (qj rfl) ?_
          refine qf 19 (.bool ((x783 : Int) == (iadd .i64 x787 x709))) rfl rfl rfl (qj rfl) ?_
          refine qf 20 (.bool ((x783 : Int) == (iadd .i64 x787 x709))) rfl rfl rfl (qj rfl) ?_
          refine qO (by kernel_rfl) ?_
          refine zm ?_ (by intro c h; cases h)
          exact qm (((x783 : Int) == (iadd .i64 x787 x709)), ()) (hB := (.cons 0 rfl (zx 0 rfl))) (hR := (zx 0 rfl)) (hF := (qo 2 rfl (qo 3 rfl qA)))
        · refine zg mixed [] [⟨g1, 37, [.slice a3 x2.length c4]⟩] [Sl (eI .i64) 1 (.slice a3 x2.length c4) x2, J.F] (.cons 0 rfl .nil) (q8 0 rfl (q8 1 rfl qE)) 21 rfl ?_
          refine qf 0 (.int .i64 x266) rfl rfl rfl (qj rfl) ?_
          refine qf 1 (.int .i64 x709) rfl rfl rfl (qj rfl) ?_
          refine qf 2 (.int .i64 (iadd .i64 x266 x709)) rfl rfl rfl (qj rfl) ?_
          refine qP 3 (.slice a3 x2.length c4) rfl rfl rfl (qQ (i := 0) rfl tf37 rfl rfl (fun _ => rfl) rfl) ?_
          refine qf 4 (.int .i64 (x2.length : Int)) rfl rfl rfl (qeu Tryz.underlying37 rfl) ?_
          refine qf 5 (.bool (decide ((iadd .i64 x266 x709) < (x2.length : Int)))) rfl rfl rfl (qj rfl) ?_
          refine qf 6 (.bool (decide ((iadd .i64 x266 x709) < (x2.length : Int)))) rfl rfl rfl (qj rfl) ?_
          refine qJ (d := 15) (v := .bool false) rfl (by rw [h782] <;> rfl) ?_
          refine qh 7 rfl rfl rfl ?_
          refine qh 8 rfl rfl rfl ?_
          refine qh 9 rfl rfl rfl ?_
          refine qh 10 rfl rfl rfl ?_
          refine qh 11 rfl rfl rfl ?_
          refine qh 12 rfl rfl rfl ?_
          refine qh 13 rfl rfl rfl ?_
          refine qh 14 rfl rfl rfl ?_
          refine qh 15 rfl rfl rfl ?_
          refine qh 16 rfl rfl rfl ?_
          refine qh 17 rfl rfl rfl ?_
          refine qh 18 rfl rfl rfl ?_
          refine qh 19 rfl rfl rfl ?_
          refine qf 20 (.bool false) rfl rfl rfl (qj rfl) ?_
          refine qO (by kernel_rfl) ?_
          refine zm ?_ (by intro c h; cases h)
          exact qm (false, ()) (hB := (.cons 0 rfl (zx 0 rfl))) (hR := (zx 0 rfl)) (hF := (qo 0 rfl (qo 1 rfl qA)))
      · rintro ⟨x780, _⟩
        try dsimp only
        refine qz rfl (fun h781 => ?_) (fun h781 => ?_)
        · refine qr ?_
          refine qc ?_
          refine qB ?_
          refine qa ?_
          refine qe rfl rfl rfl ?_
          refine qL rfl rfl rfl rfl ?_
          refine qb rfl rfl rfl ?_
          refine qd ?_
          refine qU ?_
          exact qW (iadd .i64 x709 1, ()) (hB := (.cons 0 rfl (zx 0 rfl))) (hR := (zx 0 rfl)) (hF := (qo 0 rfl (qo 1 rfl qA)))
        · refine zj ?_
          refine qD ?_
          refine qD ?_
          refine zk ?_
          exact qm (x709, ()) (hB := (.cons 0 rfl (zx 0 rfl))) (hR := (zx 0 rfl)) (hF := (qo 0 rfl (qo 1 rfl qA)))
    · rintro ⟨x654, _⟩
      try dsimp only
      refine qg ?_
      refine qg ?_
      refine qa ?_
      refine qe rfl rfl rfl ?_
      refine ql (i := 0) rfl rfl tf37 rfl rfl (fun _ => rfl) rfl rfl ?_
      refine qe rfl rfl rfl ?_
      refine zZ (j := 0) (zb .i64) (by decide) rfl Tryz.underlying37 tf3 rfl rfl rfl rfl (fun x662 e662 b663 o664 => ?_)
      refine zU (j := 0) rfl rfl tf3 rfl rfl (fun _ => rfl) rfl rfl ?_
      refine qe rfl rfl rfl ?_
      refine zv (cells := [.int .i64 x662, .int .i64 x654]) rfl st141 rfl (by kernel_rfl) rfl ?_
      refine qgc hY x267 (x662, x654) g268 (B1 := [⟨g1, 37, [.slice a3 x2.length c4]⟩]) (R1 := []) (j := 2) rfl rfl rfl rfl rfl rfl rfl (fun x665 _ g667 => ?_) (fun x666 _ g667 => ?_)
      · refine kw rfl rfl rfl ?_
        refine qd ?_
        refine qc ?_
        refine qax (b := false) rfl (fun h => by cases h) (fun _ => ?_)
        refine qr ?_
        refine qc ?_
        refine qa ?_
        refine qe rfl rfl rfl ?_
        refine qe rfl rfl rfl ?_
        refine qL rfl rfl rfl rfl ?_
        refine qb rfl rfl rfl ?_
        refine qd ?_
        refine qU ?_
        exact qW ((iadd .i64 x266 x654, x665), g667) (hB := (.cons 0 rfl (zx 0 rfl))) (hR := (zx 0 rfl)) (hF := (qo 1 rfl (qo 2 rfl qA)))
      · refine kw rfl rfl rfl ?_
        refine qd ?_
        refine qc ?_
        refine qax (b := true) rfl (fun _ => ?_) (fun h => by cases h)
        refine qs ?_
        refine qp ?_
        refine qM ?_
        refine qp ?_
        refine qM ?_
        exact qc9 (B0 := [⟨g1, 37, [.slice a3 x2.length c4]⟩]) (x := .inr x666) g667 (.inl rfl) (res0 rfl) (.cons 0 rfl (zx 0 rfl)) (zx 0 rfl)
  · refine zj ?_
    refine qD ?_
    refine qD ?_
    refine zk ?_
    exact qc9 (B0 := [⟨g1, 37, [.slice a3 x2.length c4]⟩]) (x := .inl x267) g268 (.inr rfl) (res0 rfl) (.cons 0 rfl (zx 0 rfl)) (zx 0 rfl)
theorem qib (F : Nat) (x1 : List Int) (a2 : Option Addr) (c3 : Nat) (x4 : Int) (r : (List (Int × Int) × List Int)) (hm : qcq F x1 x4 = some r) :
    PureM Tryz.prog 73 [.slice a2 x1.length c3, .int .i64 x4] [] [] [Sl (eI .i64) 1 (.slice a2 x1.length c3) x1] ((Option Addr × Nat) × (Option Addr × Nat)) (fun g => .tuple #[.slice g.1.1 r.1.length g.1.2, .slice g.2.1 r.2.length g.2.2]) (fun _ => []) (fun g => [Ro eS141 141 2 (.slice g.1.1 r.1.length g.1.2) r.1, Ro (eI .i64) 3 1 (.slice g.2.1 r.2.length g.2.2) r.2]) := by
 refine qhO Tryz.func73 rfl Tryz.ntmps73 rfl hm (fun w => qH (l' := [(0, .slice a2 x1.length c3), (1, .int .i64 x4)]) rfl (qg (qa (qV rfl rfl rfl (fun g5 => qR rfl tf117 rfl (fun g6 => qR rfl tf37 rfl (fun g7 => qd (qc (qg (qg (qa (qe rfl rfl rfl ?_))))))))))))
 refine qY ent98 rfl rfl rfl (fun x188 e188 => qhk F x1 a2 c3 x188 e188) .nil .nil (.consF 0 rfl .nil) (fun x188 e188 => ?_)
 rintro g189
 refine qd (qc (qB (vM Int (eI .i64) 3 1 (vM (Int × Int) eS141 141 2 (qf9 (encs := (fun (p : (Int × Int)) => [.agg #[.int .i64 p.1, .int .i64 p.2]])) (y := (fun ((x252, x255) : (List Int × List (Int × Int))) ((x312, x313) : (Int × Int)) => jN F x4 x252 x255 x312 x313)) (lb := [.pointer (some ⟨g189, 0, none⟩)]) (fun ((x252, x255) : (List Int × List (Int × Int))) ((a250, c251, a253, c254) : (Option Addr × Nat × Option Addr × Nat)) => [⟨g7, 37, [.slice a250 x252.length c251]⟩, ⟨g6, 117, [.slice a253 x255.length c254]⟩, ⟨g5, 3, [.int .i64 x4]⟩]) (fun ((x252, x255) : (List Int × List (Int × Int))) ((a250, c251, a253, c254) : (Option Addr × Nat × Option Addr × Nat)) => [Ro (eI .i64) 3 1 (.slice a250 x252.length c251) x252, Ro eS141 141 2 (.slice a253 x255.length c254) x255]) (fun (_ : Empty) (_ : Unit) => []) (fun (_ : Empty) (_ : Unit) => []) (fun _ => .skip) (([] : List Int), ([] : List (Int × Int))) (none, 0, none, 0) rfl ent117 (fun _ => rfl) rfl (.cons 0 rfl .nil) (.cons 0 rfl (.cons 0 rfl (.cons 0 rfl .nil))) (.cons 1 rfl (.cons 0 rfl .nil)) (.consF 0 rfl .nil) (fun z hz _ _ _ hY => qfF F hY (([] : List Int), ([] : List (Int × Int))) (none, 0, none, 0) g189 x1 a2 c3 z hz) ?_ ?_ ?_)))))
 rintro rc1 L1 D1 ⟨x252, x255⟩ ⟨a250, c251, a253, c254⟩ ⟨x312, x313⟩ z w M _
 try dsimp only
 refine qh1 [(0, .slice a2 x1.length c3), (1, .int .i64 x4), (3, .pointer (some ⟨g5, 0, none⟩)), (4, .pointer (some ⟨g6, 0, none⟩)), (5, .pointer (some ⟨g7, 0, none⟩)), (8, .slice a2 x1.length c3), (9, .func (.func 117) #[] #[.pointer (some ⟨g189, 0, none⟩)]), (10, .agg #[.int .i64 x312, .int .i64 x313])] (qk rfl (qk rfl (qk rfl (qk rfl (qk rfl (qk rfl (qk rfl (qk rfl zd)))))))) (qa (qR rfl tf141 rfl (fun g314 => qu (i := 0) rfl rfl rfl tf141 rfl rfl rfl rfl rfl (qd (qgd (i := 4) rfl (qB (qg (qg (qa (qi rfl rfl qbl rfl (ql (i := 0) rfl rfl tf3 rfl rfl (fun _ => rfl) rfl rfl (ql (i := 3) rfl rfl tf3 rfl rfl (fun _ => rfl) rfl rfl ?_))))))))))))
 refine qaY rfl rfl rfl rfl (qd (qc (qz rfl (fun h367 => ?_) (fun h367 => ?_))))
 exact qg (qa (ql (i := 2) rfl rfl tf117 rfl rfl (fun _ => rfl) rfl rfl (ql (i := 0) rfl rfl tf141 rfl rfl (by simp) rfl rfl (zW (vs := [.agg #[.int .i64 x312, .int .i64 x313]]) (ys := ([(x312, x313)] : List (Int × Int))) qa2 (by decide) rfl Tryz.underlying117 tf141 rfl rfl rfl rfl rfl (by decide) (fun a321 c322 => yp 2 qa2 rfl Tryz.underlying117 tf141 rfl rfl rfl rfl rfl (.inl ⟨0, _, rfl⟩) rfl rfl (fun x323 e323 a324 c325 => qu (i := 2) rfl rfl rfl tf117 rfl rfl rfl rfl rfl (qd (qc (zj (qD (zk (qes (rc := rc1) rfl (.cons 4 rfl .nil) rfl (a250, c251, a324, c325) (.cons 2 rfl (.cons 2 rfl (.cons 2 rfl (.cons 0 rfl (.cons 1 rfl .nil))))) (.cons 2 rfl (.cons 0 rfl .nil))))))))))))))
 refine qr (qc (qg (qa (qi rfl rfl qbl rfl (ql (i := 0) rfl rfl tf3 rfl rfl (fun _ => rfl) rfl rfl (qe rfl rfl rfl (qd (qc (qB (q7 (fun (((x338, x341), (a339, c340)) : ((Int × List Int) × (Option Addr × Nat))) => [(3, .pointer (some ⟨g5, 0, none⟩)), (4, .pointer (some ⟨g6, 0, none⟩)), (5, .pointer (some ⟨g7, 0, none⟩)), (6, .pointer (some ⟨g314, 0, none⟩)), (20, .int .i64 x313), (21, .int .i64 x338)]) (fun (((x338, x341), (a339, c340)) : ((Int × List Int) × (Option Addr × Nat))) => [⟨g314, 141, [.int .i64 x312, .int .i64 x313]⟩, ⟨g7, 37, [.slice a339 x341.length c340]⟩, ⟨g6, 117, [.slice a253 x255.length c254]⟩, ⟨g5, 3, [.int .i64 x4]⟩, (blkO L1 (.loop (bsy rc1))), (dblk D1)]) (fun (((x338, x341), (a339, c340)) : ((Int × List Int) × (Option Addr × Nat))) => [Ro (eI .i64) 3 1 (.slice a339 x341.length c340) x341, Ro eS141 141 2 (.slice a253 x255.length c254) x255]) (fun (((x338, x341), (a339, c340)) : ((Int × List Int) × (Option Addr × Nat))) => []) (fun k (s : ((Int × List Int) × (Option Addr × Nat))) => v6 F x255 x312 x313 k s.1) ((0, x252), (a250, c251)) F ?_ (hB := (.cons 0 rfl (.cons 0 rfl (.cons 0 rfl (.cons 0 rfl (.cons 0 rfl (.cons 0 rfl .nil))))))) (hR := (.cons 0 rfl (.cons 0 rfl .nil)))))))))))))
 intro k354
 rintro ⟨⟨x338, x341⟩, ⟨a339, c340⟩⟩
 try dsimp only
 refine zB (m' := qaU F x255 x312 x313 (v6 F x255 x312 x313 k354) x338 x341) rfl (qg (qa (qZ rfl rfl rfl rfl (qd (qc (qg (qz rfl (fun h366 => ?_) (fun h366 => ?_))))))))
 refine qr (qc (qg (qB (qg (qa (qe rfl rfl rfl (qb rfl rfl rfl (qd (qc (qa (ql (i := 1) rfl rfl tf37 rfl rfl (fun _ => rfl) rfl rfl (qi rfl rfl qbk rfl ?_))))))))))))
 refine ql (i := 0) rfl rfl tf3 rfl rfl (fun _ => rfl) rfl rfl (qe rfl rfl rfl (qL rfl rfl rfl rfl (zW (vs := [.int .i64 (iadd .i64 x312 x338)]) (ys := ([iadd .i64 x312 x338] : List Int)) (zb .i64) (by decide) rfl Tryz.underlying37 tf3 rfl rfl rfl rfl rfl (by decide) (fun a361 c362 => yp 1 (zb .i64) rfl Tryz.underlying37 tf3 rfl rfl rfl rfl rfl (.inl ⟨0, _, rfl⟩) rfl rfl (fun x363 e363 a364 c365 => qu (i := 1) rfl rfl rfl tf37 rfl rfl rfl rfl rfl (qd (qU (qc (qa (qL rfl rfl rfl rfl (qe rfl rfl rfl (qd ?_))))))))))))
 exact qW ((iadd .i64 x338 1, x363), (a364, c365)) (hB := (.cons 0 rfl (.cons 0 rfl (.cons 0 rfl (.cons 0 rfl (.cons 0 rfl (.cons 0 rfl .nil))))))) (hR := (.cons 0 rfl (.cons 1 rfl .nil)))
 exact zj (qD (qD (zk (qU (qes (rc := rc1) rfl (.cons 4 rfl .nil) rfl (a339, c340, a253, c254) (.cons 2 rfl (.cons 2 rfl (.cons 2 rfl (.cons 0 rfl (.cons 1 rfl .nil))))) (.cons 0 rfl (.cons 0 rfl .nil)))))))
 rintro ⟨x252, x255⟩ _ ⟨a250, c251, a253, c254⟩ D1
 try dsimp only
 refine qU (qc (qg (zg mixed [] [(dblk D1), ⟨g189, 37, [.slice a2 x1.length c3]⟩, ⟨g7, 37, [.slice a250 x252.length c251]⟩, ⟨g6, 117, [.slice a253 x255.length c254]⟩, ⟨g5, 3, [.int .i64 x4]⟩] [Sl (eI .i64) 1 (.slice a2 x1.length c3) x1] (.cons 0 rfl (.cons 0 rfl (.cons 0 rfl (.cons 0 rfl (.cons 0 rfl .nil))))) (q8 0 rfl qE) 4 rfl (qP 0 (.slice a253 x255.length c254) rfl rfl rfl (qQ (i := 3) rfl tf117 rfl rfl (fun _ => rfl) rfl) (qP 1 (.slice a250 x252.length c251) rfl rfl rfl (qQ (i := 2) rfl tf37 rfl rfl (fun _ => rfl) rfl) (qI 2 rfl (by kernel_rfl) rfl (qu (i := 3) rfl rfl rfl tf117 rfl rfl rfl rfl rfl (qd (qF (.cons 0 rfl (.cons 0 rfl (.cons 0 rfl (.cons 0 rfl (.cons 0 rfl .nil))))) (q8 0 rfl qE) (qI 3 rfl (by kernel_rfl) rfl (qu (i := 2) rfl rfl rfl tf37 rfl rfl rfl rfl rfl (qd ?_))))))))))))
 exact qF (.cons 0 rfl (.cons 0 rfl (.cons 0 rfl (.cons 0 rfl (.cons 0 rfl .nil))))) (q8 0 rfl qE) (qO (by kernel_rfl) (zm (qc (qs (qge [D1] ((a253, c254), (a250, c251)) (.inl rfl) rfl (.cons 0 rfl .nil) (resL (rs := [.cell 4 117, .cell 5 37]) rfl (.cell (i := 2) rfl tf117 rfl rfl (fun _ => rfl) rfl (.cell (i := 1) rfl tf37 rfl rfl (fun _ => rfl) rfl ResOk.nil)) rfl) (fun h => by subst h; rfl) (fun h => by subst h; exact .nil) (fun h => by subst h; exact (.cons 1 rfl (.cons 0 rfl .nil)))))) (by intro c h; cases h)))
 intro t; exact t.elim
theorem qdd (F : Nat) (x1 : Int) (r : Int) (hm : jQ F x1 = some r) :
    Pure Tryz.prog 99 [.int .i64 x1] [] Unit (fun _ => .int .u64 r) (fun _ => []) (fun _ => []) := by
 refine qS Tryz.func99 rfl Tryz.ntmps99 rfl hm (fun w => qH (l' := [(0, .int .i64 x1)]) rfl (qg (qa (qb rfl rfl rfl (qd (qc (qg (qa (qe rfl rfl rfl (zQ rfl Tryz.underlying2 Tryz.underlying50 rfl rfl (qd4 rfl rfl rfl rfl rfl (qe rfl rfl rfl ?_))))))))))))
 exact qbZ rfl rfl rfl rfl rfl (zQ rfl Tryz.underlying2 Tryz.underlying50 rfl rfl (qjH rfl rfl rfl rfl (qb rfl rfl rfl (jT (fun x2 e2 => qC (d := 2) (v := .int .u64 x2) rfl (by rw [e2] <;> rfl) (qd (qc (qs (qq () (res1 rfl rfl))))))))))
theorem qdu (F : Nat) (g1 : Nat) (x2 : Int) (x3 : List Int) (a4 : Option Addr) (c5 : Nat) (x6 : Bool) (x7 : Int) (x8 : Int) (x9 : List (Int × Int)) (a10 : Option Addr) (c11 : Nat) (r : (Int × List Int × Bool)) (hm : vJ F x2 x3 x6 x7 x8 x9 = some r) :
    PureM Tryz.prog 74 [.pointer (some ⟨g1, 0, none⟩), .int .i64 x7, .int .i64 x8, .slice a10 x9.length c11] [⟨g1, 90, [.int .i64 x2, .slice a4 x3.length c5, .bool x6]⟩] [Ro (eI .u8) 5 1 (.slice a4 x3.length c5) x3] [Sl eS141 2 (.slice a10 x9.length c11) x9] (Option Addr × Nat) (fun _ => .tuple #[]) (fun g => [⟨g1, 90, [.int .i64 r.1, .slice g.1 r.2.1.length g.2, .bool r.2.2]⟩]) (fun g => [Ro (eI .u8) 5 1 (.slice g.1 r.2.1.length g.2) r.2.1]) := by
 refine kP Tryz.func74 rfl Tryz.ntmps74 rfl hm (fun w => qH (l' := [(0, .pointer (some ⟨g1, 0, none⟩)), (1, .int .i64 x7), (2, .int .i64 x8), (3, .slice a10 x9.length c11)]) rfl (qg (qa (qe rfl rfl rfl (qe rfl rfl rfl (qX rfl Tryz.underlying117 rfl rfl (qY ent70 rfl rfl rfl (fun x12 e12 => kr F g1 x2 x3 a4 c5 x6 (x9.length : Int) x12 e12) (.cons 0 rfl .nil) (.cons 0 rfl .nil) .nil (fun x12 e12 => ?_))))))))
 rintro ⟨a13, c14⟩
 refine qd (qc (qg (qa (qe rfl rfl rfl (qb rfl rfl rfl (qd (qc (qg (qa (qe rfl rfl rfl (qX rfl Tryz.underlying117 rfl rfl (qe rfl rfl rfl ?_))))))))))))
 refine qd (qc (qB (q7 (fun (((x73, x74, x75, x78, x79), (a76, c77)) : ((Int × Int × Int × List Int × Bool) × (Option Addr × Nat))) => [(0, .pointer (some ⟨g1, 0, none⟩)), (2, .int .i64 x8), (8, .int .i64 x73), (16, .slice a10 x9.length c11), (17, .int .i64 (x9.length : Int)), (18, .int .i64 x74)]) (fun (((x73, x74, x75, x78, x79), (a76, c77)) : ((Int × Int × Int × List Int × Bool) × (Option Addr × Nat))) => [⟨g1, 90, [.int .i64 x75, .slice a76 x78.length c77, .bool x79]⟩]) (fun (((x73, x74, x75, x78, x79), (a76, c77)) : ((Int × Int × Int × List Int × Bool) × (Option Addr × Nat))) => [Ro (eI .u8) 5 1 (.slice a76 x78.length c77) x78]) (fun (((x73, x74, x75, x78, x79), (a76, c77)) : ((Int × Int × Int × List Int × Bool) × (Option Addr × Nat))) => [Sl eS141 2 (.slice a10 x9.length c11) x9]) (fun k (s : ((Int × Int × Int × List Int × Bool) × (Option Addr × Nat))) => zN F x8 x9 k s.1) ((x7, 0, x12.1, x12.2.1, x12.2.2), (a13, c14)) F ?_ (hB := (.cons 0 rfl .nil)) (hR := (.cons 0 rfl .nil)) (hF := (qo 0 rfl qA)))))
 intro k138
 rintro ⟨⟨x73, x74, x75, x78, x79⟩, ⟨a76, c77⟩⟩
 try dsimp only
 refine zB (m' := yO F x8 x9 (zN F x8 x9 k138) x73 x74 x75 x78 x79) rfl (qg (qa (qZ rfl rfl rfl rfl (qd (qc (qg (qz rfl (fun h196 => ?_) (fun h196 => ?_))))))))
 refine qr (qc (qg (qB (qg (qa (qe rfl rfl rfl (zZ (j := 0) qa2 (by decide) rfl Tryz.underlying117 tf141 rfl rfl rfl rfl (fun x168 e168 b169 o170 => zU (j := 0) rfl rfl tf141 rfl rfl (by simp) rfl rfl (qR rfl tf141 rfl (fun g171 => qb rfl rfl rfl (qu (i := 0) rfl rfl rfl tf141 rfl rfl rfl rfl rfl (qd ?_))))))))))))
 refine qc (qK (fun (((x180, x183, x184), (a181, c182)) : ((Int × List Int × Bool) × (Option Addr × Nat))) => [(0, .pointer (some ⟨g1, 0, none⟩)), (2, .int .i64 x8), (10, .pointer (some ⟨g171, 0, none⟩)), (16, .slice a10 x9.length c11), (17, .int .i64 (x9.length : Int)), (18, .int .i64 x74)]) (fun (((x180, x183, x184), (a181, c182)) : ((Int × List Int × Bool) × (Option Addr × Nat))) => [⟨g1, 90, [.int .i64 x180, .slice a181 x183.length c182, .bool x184]⟩, ⟨g171, 141, [.int .i64 x168.1, .int .i64 x168.2]⟩]) (fun (((x180, x183, x184), (a181, c182)) : ((Int × List Int × Bool) × (Option Addr × Nat))) => [Ro (eI .u8) 5 1 (.slice a181 x183.length c182) x183]) (fun (((x180, x183, x184), (a181, c182)) : ((Int × List Int × Bool) × (Option Addr × Nat))) => [Sl eS141 2 (.slice a10 x9.length c11) x9]) (fun (((x180, x183, x184), _) : ((Int × List Int × Bool) × (Option Addr × Nat))) => k8 F (zN F x8 x9 k138) x8 x74 x168 x180 x183 x184) ?_ ?_)
 refine qg (qa (qe rfl rfl rfl (ku rfl rfl rfl rfl (qd (qc (qz rfl (fun h195 => ?_) (fun h195 => ?_)))))))
 refine qa (qe rfl rfl rfl (qi rfl rfl qbk rfl (ql (i := 0) rfl rfl tf3 rfl rfl (fun _ => rfl) rfl rfl (qe rfl rfl rfl (zJ rfl rfl rfl rfl (qx ent99 rfl rfl rfl (fun x188 e188 => qdd F (isub .i64 x168.1 x73) x188 e188) .nil (fun x188 e188 => ?_)))))))
 intro _
 refine zQ rfl Tryz.underlying50 Tryz.underlying3 rfl rfl (qY ent70 rfl rfl rfl (fun x189 e189 => kr F g1 x75 x78 a76 c77 x79 (iconv .i64 x188) x189 e189) (.cons 1 rfl .nil) (.cons 0 rfl .nil) .nil (fun x189 e189 => ?_))
 rintro ⟨a190, c191⟩
 exact qd (qm ((x189.1, x189.2.1, x189.2.2), (a190, c191)) (hB := (.cons 0 rfl (.cons 0 rfl .nil))) (hR := (.cons 0 rfl .nil)) (hF := (qo 1 rfl qA)))
 refine qa (qe rfl rfl rfl (qi rfl rfl qbk rfl (ql (i := 0) rfl rfl tf3 rfl rfl (fun _ => rfl) rfl rfl (qe rfl rfl rfl (zJ rfl rfl rfl rfl (zJ rfl rfl rfl rfl (qY ent70 rfl rfl rfl (fun x192 e192 => kr F g1 x75 x78 a76 c77 x79 (isub .i64 (isub .i64 x168.1 x73) 2) x192 e192) (.cons 1 rfl .nil) (.cons 0 rfl .nil) .nil (fun x192 e192 => ?_))))))))
 rintro ⟨a193, c194⟩
 exact qd (qm ((x192.1, x192.2.1, x192.2.2), (a193, c194)) (hB := (.cons 0 rfl (.cons 0 rfl .nil))) (hR := (.cons 0 rfl .nil)) (hF := (qo 1 rfl qA)))
 rintro ⟨⟨x180, x183, x184⟩, ⟨a181, c182⟩⟩
 try dsimp only
 refine qg (qa (qe rfl rfl rfl (qi rfl rfl qbl rfl (ql (i := 1) rfl rfl tf3 rfl rfl (fun _ => rfl) rfl rfl (qe rfl rfl rfl (zJ rfl rfl rfl rfl (qY ent70 rfl rfl rfl (fun x185 e185 => kr F g1 x180 x183 a181 c182 x184 (isub .i64 x168.2 x8) x185 e185) (.cons 0 rfl .nil) (.cons 0 rfl .nil) .nil (fun x185 e185 => ?_))))))))
 rintro ⟨a186, c187⟩
 refine qd (qc (qa (qi rfl rfl qbk rfl (ql (i := 1) rfl rfl tf3 rfl rfl (fun _ => rfl) rfl rfl (qi rfl rfl qbl rfl (ql (i := 1) rfl rfl tf3 rfl rfl (fun _ => rfl) rfl rfl (qL rfl rfl rfl rfl (zJ rfl rfl rfl rfl (qb rfl rfl rfl (qd (qU (qc ?_))))))))))))
 exact qa (qL rfl rfl rfl rfl (qe rfl rfl rfl (qd (qW ((isub .i64 (iadd .i64 x168.1 x168.2) 1, iadd .i64 x74 1, x185.1, x185.2.1, x185.2.2), (a186, c187)) (hB := (.cons 0 rfl .nil)) (hR := (.cons 0 rfl .nil)) (hF := (qo 0 rfl qA))))))
 exact zj (qD (qD (zk (zr (a76, c77) (res0 rfl) (hB := fun h => by subst h; exact (.cons 0 rfl .nil)) (hR := fun h => by subst h; exact (.cons 0 rfl .nil))))))
theorem qfC (F : Nat) (x1 : Int) (x2 : Int) (r : (Int × Int × Int)) (hm : qaQ F x1 x2 = some r) :
    Pure Tryz.prog 118 [.int .u64 x1, .int .i64 x2] [] Unit (fun _ => .tuple #[.int .i64 r.1, .int .u64 r.2.1, .int .u64 r.2.2]) (fun _ => []) (fun _ => []) := by
 refine qS Tryz.func118 rfl Tryz.ntmps118 rfl hm (fun w => qH (l' := [(0, .int .u64 x1), (1, .int .i64 x2)]) rfl (qg (qa (qb rfl rfl rfl (qb rfl rfl rfl (qb rfl rfl rfl (qd (qc (qg (qa (qe rfl rfl rfl (qL rfl rfl rfl rfl ?_))))))))))))
 refine qx ent133 rfl rfl rfl (fun x3 e3 => qaf F (iadd .u64 x1 1) x3 e3) .nil (fun x3 e3 _ => zJ rfl rfl rfl rfl (qe rfl rfl rfl (qbr (fun h4 => qd3 rfl rfl rfl rfl h4 (qb rfl rfl rfl (qd (qc (qg (qc8 (fun h11 => qc8 (fun h13 => zg mixed [] [] [] .nil qE 14 rfl (qf 0 (.int .i64 (iquo .i64 (isub .i64 x3 1) x2)) rfl rfl rfl (qj rfl) ?_))))))))))))
 refine qf 1 (.int .i64 (iquo .i64 (isub .i64 x3 1) x2)) rfl rfl rfl (qj rfl) (qf 2 (.int .i64 x2) rfl rfl rfl (qj rfl) (qf 3 (.int .i64 (imul .i64 (iquo .i64 (isub .i64 x3 1) x2) x2)) rfl rfl rfl (qj rfl) (qf 4 (.int .u64 (ishl .u64 1 (imul .i64 (iquo .i64 (isub .i64 x3 1) x2) x2))) rfl rfl rfl (qev rfl rfl h11) (qf 5 (.int .i64 (iquo .i64 (isub .i64 x3 1) x2)) rfl rfl rfl (qj rfl) (qf 6 (.int .i64 x2) rfl rfl rfl (qj rfl) (qf 7 (.int .i64 (imul .i64 (iquo .i64 (isub .i64 x3 1) x2) x2)) rfl rfl rfl (qj rfl) (qf 8 (.int .i64 x2) rfl rfl rfl (qj rfl) (qf 9 (.int .i64 (iadd .i64 (imul .i64 (iquo .i64 (isub .i64 x3 1) x2) x2) x2)) rfl rfl rfl (qj rfl) (qf 10 (.int .u64 (ishl .u64 1 (iadd .i64 (imul .i64 (iquo .i64 (isub .i64 x3 1) x2) x2) x2))) rfl rfl rfl (qev rfl rfl h13) (qf 11 (.int .i64 (iquo .i64 (isub .i64 x3 1) x2)) rfl rfl rfl (qj rfl) (qf 12 (.int .u64 (ishl .u64 1 (imul .i64 (iquo .i64 (isub .i64 x3 1) x2) x2))) rfl rfl rfl (qj rfl) (qf 13 (.int .u64 (ishl .u64 1 (iadd .i64 (imul .i64 (iquo .i64 (isub .i64 x3 1) x2) x2) x2))) rfl rfl rfl (qj rfl) ?_))))))))))))
 exact qO (by kernel_rfl) (zm (qc (qs (qq () (res3 rfl rfl rfl rfl)))) (by intro c h; cases h))
theorem qcN (F : Nat) (x1 : Int) (r : (Int × Int)) (hm : jB F x1 = some r) :
    Pure Tryz.prog 135 [.int .u64 x1] [] Unit (fun _ => .tuple #[.int .i64 r.1, .int .u64 r.2]) (fun _ => []) (fun _ => []) := by
 refine qS Tryz.func135 rfl Tryz.ntmps135 rfl hm (fun w => qH (l' := [(0, .int .u64 x1)]) rfl (qg (qa (qb rfl rfl rfl (qb rfl rfl rfl (qd (qc (qg (qa (qe rfl rfl rfl (zJ rfl rfl rfl rfl (qx ent133 rfl rfl rfl (fun x2 e2 => qaf F (isub .u64 x1 1) x2 e2) .nil (fun x2 e2 => ?_)))))))))))))
 intro _
 refine qb rfl rfl rfl (qd (qc (qg (qc8 (fun h6 => zg mixed [] [] [] .nil qE 7 rfl (qf 0 (.int .i64 x2) rfl rfl rfl (qj rfl) (qf 1 (.int .i64 x2) rfl rfl rfl (qj rfl) (qf 2 (.int .u64 (ishl .u64 1 x2)) rfl rfl rfl (qev rfl rfl h6) (qf 3 (.int .u64 x1) rfl rfl rfl (qj rfl) (qf 4 (.int .u64 (isub .u64 (ishl .u64 1 x2) x1)) rfl rfl rfl (qj rfl) (qf 5 (.int .i64 x2) rfl rfl rfl (qj rfl) (qf 6 (.int .u64 (isub .u64 (ishl .u64 1 x2) x1)) rfl rfl rfl (qj rfl) ?_))))))))))))
 exact qO (by kernel_rfl) (zm (qc (qs (qq () (res2 rfl rfl rfl)))) (by intro c h; cases h))
theorem qdH (F : Nat) (x1 : Int) (x2 : List Int) (a3 : Option Addr) (c4 : Nat) (x5 : Int) (x6 : Int) (r : (Int × List Int)) (hm : je F x1 x2 x5 x6 = some r) :
    Pure Tryz.prog 119 [.agg #[.int .i64 x1, .slice a3 x2.length c4], .int .u64 x5, .int .u64 x6] [Sl (eI .u8) 1 (.slice a3 x2.length c4) x2] (Option Addr × Nat) (fun g => .agg #[.int .i64 r.1, .slice g.1 r.2.length g.2]) (fun g => [Ro (eI .u8) 5 1 (.slice g.1 r.2.length g.2) r.2]) (fun _ => []) := by
 refine qS Tryz.func119 rfl Tryz.ntmps119 rfl hm (fun w => qH (l' := [(0, .agg #[.int .i64 x1, .slice a3 x2.length c4]), (1, .int .u64 x5), (2, .int .u64 x6)]) rfl (qg (qa (qV rfl rfl rfl (fun g7 => qR rfl tf29 rfl (fun g8 => qd (qc (qg (qa (qe rfl rfl rfl (qx ent135 rfl rfl rfl (fun x9 e9 => qcN F x6 x9 e9) .nil (fun x9 e9 => ?_))))))))))))
 intro _
 refine qe rfl rfl rfl (qv rfl rfl rfl rfl (qv rfl rfl rfl rfl (qb rfl rfl rfl (qb rfl rfl rfl (qd (qc (qg (qg (qa (qe rfl rfl rfl (qe rfl rfl rfl (qZ rfl rfl rfl rfl ?_))))))))))))
 refine qd (qc (qz rfl (fun h20 => ?_) (fun h20 => ?_)))
 refine qg (qa (ql (i := 1) rfl rfl tf29 rfl rfl (by simp) rfl rfl (qe rfl rfl rfl (qe rfl rfl rfl (zJ rfl rfl rfl rfl (qx ent67 rfl rfl rfl (fun x14 e14 => qcl F x1 x2 a3 c4 x5 (isub .i64 x9.1 1) x14 e14) (.consF 0 rfl .nil) (fun x14 e14 => ?_)))))))
 rintro ⟨a15, c16⟩
 exact qu (i := 0) rfl rfl rfl tf29 rfl rfl rfl rfl rfl (qd (qc (qs (qp (qq (a15, c16) (resL (rs := [.cell 6 29]) rfl (.cell (i := 0) rfl tf29 rfl rfl (by simp) rfl ResOk.nil) rfl) (fun h => by subst h; exact (.cons 0 rfl .nil)))))))
 refine qr (qc (qg (qa (ql (i := 1) rfl rfl tf29 rfl rfl (by simp) rfl rfl (qe rfl rfl rfl (qe rfl rfl rfl (qL rfl rfl rfl rfl (qe rfl rfl rfl (qx ent67 rfl rfl rfl (fun x17 e17 => qcl F x1 x2 a3 c4 (iadd .u64 x5 x9.2) x9.1 x17 e17) (.consF 0 rfl .nil) (fun x17 e17 => ?_))))))))))
 rintro ⟨a18, c19⟩
 exact qu (i := 0) rfl rfl rfl tf29 rfl rfl rfl rfl rfl (qd (qc (qs (qq (a18, c19) (resL (rs := [.cell 6 29]) rfl (.cell (i := 0) rfl tf29 rfl rfl (by simp) rfl ResOk.nil) rfl) (fun h => by subst h; exact (.cons 0 rfl .nil))))))
theorem qfB (F : Nat) (x1 : Int) (x2 : Int) (r : (Int × List Int × Int)) (hm : qaP F x1 x2 = some r) :
    Pure Tryz.prog 100 [.int .u64 x1, .int .i64 x2] [] (Option Addr × Nat) (fun g => .tuple #[.agg #[.int .i64 r.1, .slice g.1 r.2.1.length g.2], .int .i64 r.2.2]) (fun g => [Ro (eI .u8) 5 1 (.slice g.1 r.2.1.length g.2) r.2.1]) (fun _ => []) := by
 refine qS Tryz.func100 rfl Tryz.ntmps100 rfl hm (fun w => qH (l' := [(0, .int .u64 x1), (1, .int .i64 x2)]) rfl (qg (qa (qR rfl tf29 rfl (fun g3 => qb rfl rfl rfl (qd (qc (qg (qg (qa (qe rfl rfl rfl (qZ rfl rfl rfl rfl ?_))))))))))))
 refine qe rfl rfl rfl (zS 3 (decide (x2 < 1)) [(0, .int .u64 x1), (1, .int .i64 x2), (4, .pointer (some ⟨g3, 0, none⟩)), (14, .bool ((decide (x2 < 1)) || (decide (16 < x2))))] (fun h7 => ?_) (fun h7 => ?_) ?_)
 exact qy (os := _) rfl (zA (k := 11) rfl h7 (qn rfl rfl rfl (qn rfl rfl rfl (qG (b := true) rfl rfl rfl rfl (qC (d := 14) (v := .bool ((decide (x2 < 1)) || (decide (16 < x2)))) rfl (by rw [h7]; simp only [Bool.true_or]) (qd (qT (qk rfl (qk rfl (qk rfl (qk rfl zd)))))))))))
 exact qy (os := _) rfl (zz (k := 11) rfl h7 (qe rfl rfl rfl (zG rfl rfl rfl rfl (qG (b := false) rfl rfl rfl rfl (qC (d := 14) (v := .bool ((decide (x2 < 1)) || (decide (16 < x2)))) rfl (by rw [h7]; simp only [Bool.false_or]) (qd (qT (qk rfl (qk rfl (qk rfl (qk rfl zd)))))))))))
 refine qy (os := _) rfl (qe rfl rfl rfl (zS 3 ((decide (x2 < 1)) || (decide (16 < x2))) [(0, .int .u64 x1), (1, .int .i64 x2), (4, .pointer (some ⟨g3, 0, none⟩)), (18, .bool (((decide (x2 < 1)) || (decide (16 < x2))) || (decide (1099511627776 < x1))))] (fun h8 => ?_) (fun h8 => ?_) ?_))
 exact qy (os := _) rfl (zA (k := 15) rfl h8 (qn rfl rfl rfl (qn rfl rfl rfl (qG (b := true) rfl rfl rfl rfl (qC (d := 18) (v := .bool (((decide (x2 < 1)) || (decide (16 < x2))) || (decide (1099511627776 < x1)))) rfl (by rw [h8]; simp only [Bool.true_or]) (qd (qT (qk rfl (qk rfl (qk rfl (qk rfl zd)))))))))))
 exact qy (os := _) rfl (zz (k := 15) rfl h8 (qe rfl rfl rfl (zG rfl rfl rfl rfl (qG (b := false) rfl rfl rfl rfl (qC (d := 18) (v := .bool (((decide (x2 < 1)) || (decide (16 < x2))) || (decide (1099511627776 < x1)))) rfl (by rw [h8]; simp only [Bool.false_or]) (qd (qT (qk rfl (qk rfl (qk rfl (qk rfl zd)))))))))))
 refine qy (os := _) rfl (qd (qc (qz rfl (fun h16 => ?_) (fun h16 => ?_))))
 exact qg (qa (zv (cells := [.int .i64 0, .slice none 0 0]) rfl st29 rfl (by kernel_rfl) rfl (qu (i := 0) rfl rfl rfl tf29 rfl rfl rfl rfl rfl (qb rfl rfl rfl (qd (qc (qs (qp (q3 Int (eI .u8) 5 1 (qq (none, 0) (resL (rs := [.cell 4 29, .tmp 5]) rfl (.cell (i := 0) rfl tf29 rfl rfl (by simp) rfl (.tmp rfl ResOk.nil)) rfl) (fun h => by subst h; exact (.cons 0 rfl .nil))))))))))))
 refine qr (qc (qg (qa (qe rfl rfl rfl (qe rfl rfl rfl (qx ent118 rfl rfl rfl (fun x9 e9 => qfC F x1 x2 x9 e9) .nil (fun x9 e9 => ?_)))))))
 intro _
 refine qe rfl rfl rfl (qv rfl rfl rfl rfl (qv rfl rfl rfl rfl (qv rfl rfl rfl rfl (qb rfl rfl rfl (qb rfl rfl rfl (qb rfl rfl rfl (qd (qc (qg (qa (qe rfl rfl rfl (zQ rfl Tryz.underlying3 Tryz.underlying50 rfl rfl ?_))))))))))))
 refine qx ent113 rfl rfl rfl (fun x10 e10 => qeA F (iconv .u64 x9.1) x10 e10) .nil (fun x10 e10 => ?_)
 rintro ⟨a11, c12⟩
 refine qe rfl rfl rfl (qL rfl rfl rfl rfl (qe rfl rfl rfl (zJ rfl rfl rfl rfl (qe rfl rfl rfl (qe rfl rfl rfl (zJ rfl rfl rfl rfl (qx ent119 rfl rfl rfl (fun x13 e13 => qdH F x10.1 x10.2 a11 c12 (isub .u64 (iadd .u64 x1 1) x9.2.1) (isub .u64 x9.2.2 x9.2.1) x13 e13) (.consR 0 (Ro (eI .u8) 5 1 (.slice a11 x10.2.length c12) x10.2) rfl .nil) (fun x13 e13 => ?_))))))))
 rintro ⟨a14, c15⟩
 exact qu (i := 0) rfl rfl rfl tf29 rfl rfl rfl rfl rfl (qb rfl rfl rfl (qd (qc (qs (qq (a14, c15) (resL (rs := [.cell 4 29, .tmp 5]) rfl (.cell (i := 0) rfl tf29 rfl rfl (by simp) rfl (.tmp rfl ResOk.nil)) rfl) (fun h => by subst h; exact (.cons 0 rfl .nil)))))))
theorem qdm (F : Nat) (x1 : Int) (x2 : List Int) (a3 : Option Addr) (c4 : Nat) (x5 : List Int) (a6 : Option Addr) (c7 : Nat) (x8 : Int) (r : (Int × List Int × Bool)) (hm : j5 F x1 x2 x5 x8 = some r) :
    PureM Tryz.prog 75 [.agg #[.int .i64 x1, .slice a3 x2.length c4], .slice a6 x5.length c7, .int .i64 x8] [] [Ro (eI .u8) 5 1 (.slice a3 x2.length c4) x2] [Sl (eI .u64) 1 (.slice a6 x5.length c7) x5] (Option Addr × Nat) (fun g => .tuple #[.agg #[.int .i64 r.1, .slice g.1 r.2.1.length g.2], .bool r.2.2]) (fun _ => []) (fun g => [Ro (eI .u8) 5 1 (.slice g.1 r.2.1.length g.2) r.2.1]) := by
 refine kP Tryz.func75 rfl Tryz.ntmps75 rfl hm (fun w => qH (l' := [(0, .agg #[.int .i64 x1, .slice a3 x2.length c4]), (1, .slice a6 x5.length c7), (2, .int .i64 x8)]) rfl (qg (qa (qV rfl rfl rfl (fun g9 => qR rfl tf29 rfl (fun g10 => qb rfl rfl rfl (qd (qc (qK (fun (((x107, x110), (a108, c109)) : ((Int × List Int) × (Option Addr × Nat))) => [(3, .pointer (some ⟨g9, 0, none⟩)), (6, .pointer (some ⟨g10, 0, none⟩))]) (fun (((x107, x110), (a108, c109)) : ((Int × List Int) × (Option Addr × Nat))) => [⟨g10, 29, [.int .i64 0, .slice none 0 0]⟩, ⟨g9, 29, [.int .i64 x107, .slice a108 x110.length c109]⟩]) (fun (((x107, x110), (a108, c109)) : ((Int × List Int) × (Option Addr × Nat))) => [Ro (eI .u8) 5 1 (.slice a108 x110.length c109) x110]) (fun (((x107, x110), (a108, c109)) : ((Int × List Int) × (Option Addr × Nat))) => []) (fun (((x107, x110), _) : ((Int × List Int) × (Option Addr × Nat))) => qde F x107 x110) ?_ ?_)))))))))
 refine qg (qa (qe rfl rfl rfl (qX rfl Tryz.underlying123 rfl rfl (qe rfl rfl rfl (qd (qc (qB (q7 (fun (((x141, x142, x145), (a143, c144)) : ((Int × Int × List Int) × (Option Addr × Nat))) => [(2, .int .i64 x8), (3, .pointer (some ⟨g9, 0, none⟩)), (6, .pointer (some ⟨g10, 0, none⟩)), (12, .slice a6 x5.length c7), (13, .int .i64 (x5.length : Int)), (14, .int .i64 x141)]) (fun (((x141, x142, x145), (a143, c144)) : ((Int × Int × List Int) × (Option Addr × Nat))) => [⟨g10, 29, [.int .i64 0, .slice none 0 0]⟩, ⟨g9, 29, [.int .i64 x142, .slice a143 x145.length c144]⟩]) (fun (((x141, x142, x145), (a143, c144)) : ((Int × Int × List Int) × (Option Addr × Nat))) => [Ro (eI .u8) 5 1 (.slice a143 x145.length c144) x145]) (fun (((x141, x142, x145), (a143, c144)) : ((Int × Int × List Int) × (Option Addr × Nat))) => [Sl (eI .u64) 1 (.slice a6 x5.length c7) x5]) (fun k (s : ((Int × Int × List Int) × (Option Addr × Nat))) => vY F x5 x8 k s.1) ((0, x1, x2), (a3, c4)) F ?_ (hB := (.cons 0 rfl (.cons 0 rfl .nil))) (hR := (.cons 0 rfl .nil)) (hF := (qo 0 rfl qA))))))))))
 intro k176
 rintro ⟨⟨x141, x142, x145⟩, ⟨a143, c144⟩⟩
 try dsimp only
 refine zB (m' := qaN F x5 x8 (vY F x5 x8 k176) x141 x142 x145) rfl (qg (qa (qZ rfl rfl rfl rfl (qd (qc (qg (qz rfl (fun h206 => ?_) (fun h206 => ?_))))))))
 refine qr (qc (qg (qB (qg (qa (zZ (j := 0) (zb .u64) (by decide) rfl Tryz.underlying123 tf50 rfl rfl rfl rfl (fun x192 e192 b193 o194 => zU (j := 0) rfl rfl tf50 rfl rfl (fun _ => rfl) rfl rfl (qb rfl rfl rfl (qd (qc (qg (qa ?_))))))))))))
 refine qe rfl rfl rfl (qe rfl rfl rfl (qx ent100 rfl rfl rfl (fun x195 e195 => qfB F x192 x8 x195 e195) .nil (fun x195 e195 => ?_)))
 rintro ⟨a196, c197⟩
 refine qe rfl rfl rfl (qv rfl rfl rfl rfl (qv rfl rfl rfl rfl (qR rfl tf29 rfl (fun g198 => qu (i := 0) rfl rfl rfl tf29 rfl rfl rfl rfl rfl (qb rfl rfl rfl (qd (qc (qg (qg (qa (qe rfl rfl rfl (kQ rfl rfl rfl rfl ?_))))))))))))
 refine qe rfl rfl rfl (zS 7 ((x195.2.2 : Int) != 0) [(2, .int .i64 x8), (3, .pointer (some ⟨g9, 0, none⟩)), (6, .pointer (some ⟨g10, 0, none⟩)), (12, .slice a6 x5.length c7), (13, .int .i64 (x5.length : Int)), (14, .int .i64 x141), (10, .pointer (some ⟨g198, 0, none⟩)), (33, .bool (((x195.2.2 : Int) != 0) || (decide (8192 < (iadd .i64 x142 x195.1)))))] (fun h201 => ?_) (fun h201 => ?_) ?_)
 exact qy (os := _) rfl (zA (k := 26) rfl h201 (qn rfl rfl rfl (qn rfl rfl rfl (qn rfl rfl rfl (qn rfl rfl rfl (qn rfl rfl rfl (qn rfl rfl rfl (qG (b := true) rfl rfl rfl rfl (qC (d := 33) (v := .bool (((x195.2.2 : Int) != 0) || (decide (8192 < (iadd .i64 x142 x195.1))))) rfl (by rw [h201]; simp only [Bool.true_or]) (qd (qT (qk rfl (qk rfl (qk rfl (qk rfl (qk rfl (qk rfl (qk rfl (qk rfl zd)))))))))))))))))))
 exact qy (os := _) rfl (zz (k := 26) rfl h201 (qi rfl rfl ky rfl (ql (i := 2) rfl rfl tf3 rfl rfl (fun _ => rfl) rfl rfl (qi rfl rfl ky rfl (ql (i := 0) rfl rfl tf3 rfl rfl (fun _ => rfl) rfl rfl (qL rfl rfl rfl rfl (zG rfl rfl rfl rfl (qG (b := false) rfl rfl rfl rfl (qC (d := 33) (v := .bool (((x195.2.2 : Int) != 0) || (decide (8192 < (iadd .i64 x142 x195.1))))) rfl (by rw [h201]; simp only [Bool.false_or]) (qd (qT (qk rfl (qk rfl (qk rfl (qk rfl (qk rfl (qk rfl (qk rfl (qk rfl zd)))))))))))))))))))
 refine qy (os := _) rfl (qd (qc (qz rfl (fun h205 => ?_) (fun h205 => ?_))))
 refine qg (qa (zv (cells := [.int .i64 0, .slice none 0 0]) rfl st29 rfl (by kernel_rfl) rfl (qu (i := 1) rfl rfl rfl tf29 rfl rfl rfl rfl rfl (qb rfl rfl rfl (qd (qc (qs (qp (qM (qp (qp (qM ?_))))))))))))
 exact qp (q3 Int (eI .u8) 5 1 (zr (none, 0) (resL (rs := [.cell 6 29, .tmp 7]) rfl (.cell (i := 1) rfl tf29 rfl rfl (by simp) rfl (.tmp rfl ResOk.nil)) rfl) (hR := fun h => by subst h; exact (.cons 0 rfl .nil))))
 refine qr (qc (qa (ql (i := 2) rfl rfl tf29 rfl rfl (by simp) rfl rfl (ql (i := 0) rfl rfl tf29 rfl rfl (by simp) rfl rfl (qY ent53 rfl rfl rfl (fun x202 e202 => qbM F x142 x145 a143 c144 x195.1 x195.2.1 a196 c197 x202 e202) .nil .nil (.consR 1 (Ro (eI .u8) 5 1 (.slice a143 x145.length c144) x145) rfl (.consR 0 (Ro (eI .u8) 5 1 (.slice a196 x195.2.1.length c197) x195.2.1) rfl .nil)) (fun x202 e202 => ?_))))))
 rintro ⟨a203, c204⟩
 exact qu (i := 2) rfl rfl rfl tf29 rfl rfl rfl rfl rfl (qd (qU (qc (qa (qL rfl rfl rfl rfl (qe rfl rfl rfl (qd (qW ((iadd .i64 x141 1, x202.1, x202.2), (a203, c204)) (hB := (.cons 1 rfl (.cons 1 rfl .nil))) (hR := (.cons 0 rfl .nil)) (hF := (qo 1 rfl qA))))))))))
 exact zj (qD (qD (zk (qm ((x142, x145), (a143, c144)) (hB := (.cons 0 rfl (.cons 0 rfl .nil))) (hR := (.cons 0 rfl .nil))))))
 rintro ⟨⟨x107, x110⟩, ⟨a108, c109⟩⟩
 try dsimp only
 exact qg (qa (ql (i := 1) rfl rfl tf29 rfl rfl (by simp) rfl rfl (qu (i := 0) rfl rfl rfl tf29 rfl rfl rfl rfl rfl (qb rfl rfl rfl (qd (qc (qs (zr (a108, c109) (resL (rs := [.cell 6 29, .tmp 7]) rfl (.cell (i := 0) rfl tf29 rfl rfl (by simp) rfl (.tmp rfl ResOk.nil)) rfl) (hR := fun h => by subst h; exact (.cons 0 rfl .nil))))))))))
theorem qdF (F : Nat) (g1 : Nat) (x2 : Int) (x3 : Bool) (x4 : Int) (r : (Int × Int × Bool)) (hm : jc F x2 x3 x4 = some r) :
    PureM Tryz.prog 101 [.pointer (some ⟨g1, 0, none⟩), .int .i64 x4] [⟨g1, 162, [.int .i64 x2, .bool x3]⟩] [] [] Unit (fun _ => .int .u64 r.1) (fun _ => [⟨g1, 162, [.int .i64 r.2.1, .bool r.2.2]⟩]) (fun _ => []) := by
 refine kP Tryz.func101 rfl Tryz.ntmps101 rfl hm (fun w => qH (l' := [(0, .pointer (some ⟨g1, 0, none⟩)), (1, .int .i64 x4)]) rfl (qg (qa (qb rfl rfl rfl (qd (qc (qK (fun ((x8, _) : (Int × Unit)) => [(0, .pointer (some ⟨g1, 0, none⟩)), (1, .int .i64 x4), (4, .int .u64 x8)]) (fun ((x8, _) : (Int × Unit)) => [⟨g1, 162, [.int .i64 x2, .bool x3]⟩]) (fun ((x8, _) : (Int × Unit)) => []) (fun ((x8, _) : (Int × Unit)) => []) (fun ((x8, _) : (Int × Unit)) => jA F x4 x8) ?_ ?_)))))))
 refine qg (qa (qe rfl rfl rfl (qN rfl rfl rfl (qi rfl rfl qeN rfl (ql (i := 0) rfl rfl tf4 rfl rfl (fun _ => rfl) rfl rfl (qd (qc (qz rfl (fun h11 => ?_) (fun h11 => ?_)))))))))
 refine qa (qe rfl rfl rfl (qe rfl rfl rfl (qN rfl rfl rfl (qi rfl rfl qbm rfl (ql (i := 0) rfl rfl tf3 rfl rfl (fun _ => rfl) rfl rfl (zJ rfl rfl rfl rfl (zJ rfl rfl rfl rfl (zQ rfl Tryz.underlying3 Tryz.underlying50 rfl rfl (qb rfl rfl rfl (jT (fun x9 e9 => qC (d := 4) (v := .int .u64 x9) rfl (by rw [e9] <;> rfl) (qd ?_))))))))))))
 exact qm (x9, ()) (hB := (.cons 0 rfl .nil))
 refine qa (qe rfl rfl rfl (qe rfl rfl rfl (qN rfl rfl rfl (qi rfl rfl qbm rfl (ql (i := 0) rfl rfl tf3 rfl rfl (fun _ => rfl) rfl rfl (zJ rfl rfl rfl rfl (qx ent99 rfl rfl rfl (fun x10 e10 => qdd F (isub .i64 x4 x2) x10 e10) .nil (fun x10 e10 => ?_))))))))
 intro _
 exact qb rfl rfl rfl (qd (qm (x10, ()) (hB := (.cons 0 rfl .nil))))
 rintro ⟨x8, _⟩
 try dsimp only
 refine qg (qa (qe rfl rfl rfl (qe rfl rfl rfl (qe rfl rfl rfl (qN rfl rfl rfl (qi rfl rfl qbm rfl (qu (i := 0) rfl rfl rfl tf3 rfl rfl rfl rfl rfl (qN rfl rfl rfl (qi rfl rfl qeN rfl (qu (i := 0) rfl rfl rfl tf4 rfl rfl rfl rfl rfl (qd (qc ?_))))))))))))
 exact qg (qa (qe rfl rfl rfl (qb rfl rfl rfl (qd (qc (qs (zr () (res1 rfl rfl) (hB := fun h => by subst h; exact (.cons 0 rfl .nil)))))))))
theorem qeU (F : Nat) (x1 : List Int) (a2 : Option Addr) (c3 : Nat) (x4 : Int) (r : List Int) (hm : qbz F x1 x4 = some r) :
    Pure Tryz.prog 76 [.slice a2 x1.length c3, .int .i64 x4] [Sl (eI .i64) 1 (.slice a2 x1.length c3) x1] (Option Addr × Nat) (fun g => .slice g.1 r.length g.2) (fun g => [Ro (eI .u64) 50 1 (.slice g.1 r.length g.2) r]) (fun _ => []) := by
 refine qS Tryz.func76 rfl Tryz.ntmps76 rfl hm (fun w => qH (l' := [(0, .slice a2 x1.length c3), (1, .int .i64 x4)]) rfl (qg (qa (qb rfl rfl rfl (qd (qc (qg (qa (qe rfl rfl rfl (zv (cells := [.int .i64 x4, .bool false]) rfl st162 rfl (by kernel_rfl) rfl (qV rfl rfl rfl (fun g5 => qb rfl rfl rfl ?_))))))))))))
 refine qd (qc (qg (qa (qb rfl rfl rfl (qd (qc (qK (fun ((x75, (a73, c74)) : (List Int × (Option Addr × Nat))) => [(6, .slice a73 x75.length c74)]) (fun ((x75, (a73, c74)) : (List Int × (Option Addr × Nat))) => []) (fun ((x75, (a73, c74)) : (List Int × (Option Addr × Nat))) => [Ro (eI .u64) 50 1 (.slice a73 x75.length c74) x75]) (fun ((x75, (a73, c74)) : (List Int × (Option Addr × Nat))) => []) (fun ((x75, _) : (List Int × (Option Addr × Nat))) => qb5 F x75) ?_ ?_)))))))
 refine qg (qa (qe rfl rfl rfl (qX rfl Tryz.underlying37 rfl rfl (qe rfl rfl rfl (qd (qc (qB (vM Int (eI .u64) 50 1 (q7 (fun (((x98, x99, x100, x101), (a96, c97)) : ((List Int × Int × Int × Bool) × (Option Addr × Nat))) => [(5, .pointer (some ⟨g5, 0, none⟩)), (6, .slice a96 x98.length c97), (12, .slice a2 x1.length c3), (13, .int .i64 (x1.length : Int)), (14, .int .i64 x99)]) (fun (((x98, x99, x100, x101), (a96, c97)) : ((List Int × Int × Int × Bool) × (Option Addr × Nat))) => [⟨g5, 162, [.int .i64 x100, .bool x101]⟩]) (fun (((x98, x99, x100, x101), (a96, c97)) : ((List Int × Int × Int × Bool) × (Option Addr × Nat))) => [Ro (eI .u64) 50 1 (.slice a96 x98.length c97) x98]) (fun (((x98, x99, x100, x101), (a96, c97)) : ((List Int × Int × Int × Bool) × (Option Addr × Nat))) => [Sl (eI .i64) 1 (.slice a2 x1.length c3) x1]) (fun k (s : ((List Int × Int × Int × Bool) × (Option Addr × Nat))) => vZ F x1 k s.1) ((([] : List Int), 0, x4, false), (none, 0)) F ?_ (hB := (.cons 0 rfl .nil)) (hR := (.cons 0 rfl .nil)) (hF := (qo 0 rfl qA)))))))))))
 intro k122
 rintro ⟨⟨x98, x99, x100, x101⟩, ⟨a96, c97⟩⟩
 try dsimp only
 refine zB (m' := qaO F x1 (vZ F x1 k122) x98 x99 x100 x101) rfl (qg (qa (qZ rfl rfl rfl rfl (qd (qc (qg (qz rfl (fun h142 => ?_) (fun h142 => ?_))))))))
 refine qr (qc (qg (qB (qg (qa (zZ (j := 0) (zb .i64) (by decide) rfl Tryz.underlying37 tf3 rfl rfl rfl rfl (fun x133 e133 b134 o135 => zU (j := 0) rfl rfl tf3 rfl rfl (fun _ => rfl) rfl rfl (qb rfl rfl rfl (qd (qc (qa (qe rfl rfl rfl ?_))))))))))))
 refine qe rfl rfl rfl (qe rfl rfl rfl (qY ent101 rfl rfl rfl (fun x136 e136 => qdF F g5 x100 x101 x133 x136 e136) (.cons 0 rfl .nil) .nil .nil (fun x136 e136 => ?_)))
 intro _
 exact zW (vs := [.int .u64 x136.1]) (ys := ([x136.1] : List Int)) (zb .u64) (by decide) rfl Tryz.underlying123 tf50 rfl rfl rfl rfl rfl (by decide) (fun a137 c138 => yp 1 (zb .u64) rfl Tryz.underlying123 tf50 rfl rfl rfl rfl rfl (.inl ⟨0, _, rfl⟩) rfl rfl (fun x139 e139 a140 c141 => qb rfl rfl rfl (qd (qU (qc (qa (qL rfl rfl rfl rfl (qe rfl rfl rfl (qd (qW ((x139, iadd .i64 x99 1, x136.2.1, x136.2.2), (a140, c141)) (hB := (.cons 0 rfl .nil)) (hR := (.cons 0 rfl .nil)) (hF := (qo 1 rfl qA))))))))))))
 exact zj (qD (qD (zk (qm (x98, (a96, c97)) (hR := (.cons 0 rfl .nil))))))
 rintro ⟨x75, ⟨a73, c74⟩⟩
 try dsimp only
 exact qg (qa (qe rfl rfl rfl (qb rfl rfl rfl (qd (qc (qs (qq (a73, c74) (res1 rfl rfl) (fun h => by subst h; exact (.cons 0 rfl .nil)))))))))
set_option maxHeartbeats 4000000 in
theorem qbu (F : Nat) (g1 : Nat) (x2 : Int) (x3 : List Int) (a4 : Option Addr) (c5 : Nat) (x6 : Bool) (x7 : Int) (x8 : List Int) (a9 : Option Addr) (c10 : Nat) (x11 : List Int) (a12 : Option Addr) (c13 : Nat) (x14 : Int) (x15 : Int) (x16 : Int) (r : (Int × List Int × Bool)) (hm : yI F x2 x3 x6 x7 x8 x11 x14 x15 x16 = some r) :
    PureM Tryz.prog 49 [.pointer (some ⟨g1, 0, none⟩), .int .i64 x7, .slice a9 x8.length c10, .slice a12 x11.length c13, .agg #[.int .i64 x14, .int .i64 x15, .int .i64 x16]] [⟨g1, 90, [.int .i64 x2, .slice a4 x3.length c5, .bool x6]⟩] [Ro (eI .u8) 5 1 (.slice a4 x3.length c5) x3] [Sl (eI .i64) 1 (.slice a9 x8.length c10) x8, Sl (eI .i64) 1 (.slice a12 x11.length c13) x11] (Option Addr × Nat) (fun _ => .tuple #[]) (fun g => [⟨g1, 90, [.int .i64 r.1, .slice g.1 r.2.1.length g.2, .bool r.2.2]⟩]) (fun g => [Ro (eI .u8) 5 1 (.slice g.1 r.2.1.length g.2) r.2.1]) := by
 refine kP Tryz.func49 rfl Tryz.ntmps49 rfl hm (fun w => qH (l' := [(0, .pointer (some ⟨g1, 0, none⟩)), (1, .int .i64 x7), (2, .slice a9 x8.length c10), (3, .slice a12 x11.length c13), (4, .agg #[.int .i64 x14, .int .i64 x15, .int .i64 x16])]) rfl (qg (qa (qV rfl rfl rfl (fun g17 => qd (qc (qg (qa (qe rfl rfl rfl (qe rfl rfl rfl (qX rfl Tryz.underlying37 rfl rfl (qY ent70 rfl rfl rfl (fun x18 e18 => kr F g1 x2 x3 a4 c5 x6 (x8.length : Int) x18 e18) (.cons 1 rfl .nil) (.cons 0 rfl .nil) .nil (fun x18 e18 => ?_)))))))))))))
 rintro ⟨a19, c20⟩
 refine qd (qc (qg (qg (qa (qe rfl rfl rfl (qX rfl Tryz.underlying37 rfl rfl (ku rfl rfl rfl rfl (qd (qc (qz rfl (fun h122 => ?_) (fun h122 => ?_)))))))))))
 exact qs (qp (zr (a19, c20) (res0 rfl) (hB := fun h => by subst h; exact (.cons 0 rfl .nil)) (hR := fun h => by subst h; exact (.cons 0 rfl .nil))))
 refine qr (qc (qg (qa (qe rfl rfl rfl (qb rfl rfl rfl (qd (qc (qK (fun (((x33, x34, x37, x38), (a31, c32, a35, c36)) : ((List Int × Int × List Int × Bool) × (Option Addr × Nat × Option Addr × Nat))) => [(0, .pointer (some ⟨g1, 0, none⟩)), (1, .int .i64 x7), (9, .pointer (some ⟨g17, 0, none⟩)), (10, .slice a31 x33.length c32)]) (fun (((x33, x34, x37, x38), (a31, c32, a35, c36)) : ((List Int × Int × List Int × Bool) × (Option Addr × Nat × Option Addr × Nat))) => [⟨g1, 90, [.int .i64 x34, .slice a35 x37.length c36, .bool x38]⟩, ⟨g17, 26, [.int .i64 x14, .int .i64 x15, .int .i64 x16]⟩]) (fun (((x33, x34, x37, x38), (a31, c32, a35, c36)) : ((List Int × Int × List Int × Bool) × (Option Addr × Nat × Option Addr × Nat))) => [Ro (eI .u8) 5 1 (.slice a35 x37.length c36) x37]) (fun (((x33, x34, x37, x38), (a31, c32, a35, c36)) : ((List Int × Int × List Int × Bool) × (Option Addr × Nat × Option Addr × Nat))) => [Sl (eI .i64) 1 (.slice a31 x33.length c32) x33]) (fun (((x33, x34, x37, x38), _) : ((List Int × Int × List Int × Bool) × (Option Addr × Nat × Option Addr × Nat))) => kZ F x7 x15 x16 x33 x34 x37 x38) ?_ ?_))))))))
 refine qg (qa (qi rfl rfl qaC rfl (ql (i := 1) rfl rfl tf3 rfl rfl (fun _ => rfl) rfl rfl (zG rfl rfl rfl rfl (qd (qc (qz rfl (fun h121 => ?_) (fun h121 => ?_))))))))
 refine qg (qa (qb rfl rfl rfl (qd (qc (qg (qa (qe rfl rfl rfl (qe rfl rfl rfl (qx ent71 rfl rfl rfl (fun x113 e113 => qhj F x11 a12 c13 x8 a9 c10 x113 e113) (.consF 1 rfl (.consF 0 rfl .nil)) (fun x113 e113 => ?_))))))))))
 rintro ⟨⟨a114, c115⟩, ⟨a116, c117⟩⟩
 refine qe rfl rfl rfl (qv rfl rfl rfl rfl (qv rfl rfl rfl rfl (qb rfl rfl rfl (qb rfl rfl rfl (qd (qc (qa (qe rfl rfl rfl (qe rfl rfl rfl (qY ent72 rfl rfl rfl (fun x118 e118 => qcP F g1 x18.1 x18.2.1 a19 c20 x18.2.2 x113.1 a114 c115 x118 e118) (.cons 0 rfl .nil) (.cons 2 rfl .nil) (.consR 0 (Ro (eI .i64) 3 1 (.slice a114 x113.1.length c115) x113.1) rfl .nil) (fun x118 e118 => ?_)))))))))))
 rintro ⟨a119, c120⟩
 exact qd (qdD 2 rfl (qm ((x113.2, x118.1, x118.2.1, x118.2.2), (a116, c117, a119, c120)) (hB := (.cons 0 rfl (.cons 0 rfl .nil))) (hR := (.cons 0 rfl .nil)) (hF := (qo 0 rfl qA))))
 exact qr (qm ((x8, x18.1, x18.2.1, x18.2.2), (a9, c10, a19, c20)) (hB := (.cons 0 rfl (.cons 0 rfl .nil))) (hR := (.cons 0 rfl .nil)) (hF := (qo 0 rfl qA)))
 rintro ⟨⟨x33, x34, x37, x38⟩, ⟨a31, c32, a35, c36⟩⟩
 try dsimp only
 refine qg (qg (qa (qe rfl rfl rfl (qX rfl Tryz.underlying37 rfl rfl (ku rfl rfl rfl rfl (qd (qc (qz rfl (fun h112 => ?_) (fun h112 => ?_)))))))))
 exact qs (qp (zr (a35, c36) (res0 rfl) (hB := fun h => by subst h; exact (.cons 0 rfl .nil)) (hR := fun h => by subst h; exact (.cons 0 rfl .nil))))
 refine qr (qc (qK (fun (((x51, x52, x55, x56), (a49, c50, a53, c54)) : ((List Int × Int × List Int × Bool) × (Option Addr × Nat × Option Addr × Nat))) => [(0, .pointer (some ⟨g1, 0, none⟩)), (1, .int .i64 x7), (9, .pointer (some ⟨g17, 0, none⟩)), (10, .slice a49 x51.length c50)]) (fun (((x51, x52, x55, x56), (a49, c50, a53, c54)) : ((List Int × Int × List Int × Bool) × (Option Addr × Nat × Option Addr × Nat))) => [⟨g1, 90, [.int .i64 x52, .slice a53 x55.length c54, .bool x56]⟩, ⟨g17, 26, [.int .i64 x14, .int .i64 x15, .int .i64 x16]⟩]) (fun (((x51, x52, x55, x56), (a49, c50, a53, c54)) : ((List Int × Int × List Int × Bool) × (Option Addr × Nat × Option Addr × Nat))) => [Ro (eI .u8) 5 1 (.slice a53 x55.length c54) x55]) (fun (((x51, x52, x55, x56), (a49, c50, a53, c54)) : ((List Int × Int × List Int × Bool) × (Option Addr × Nat × Option Addr × Nat))) => [Sl (eI .i64) 1 (.slice a49 x51.length c50) x51]) (fun (((x51, x52, x55, x56), _) : ((List Int × Int × List Int × Bool) × (Option Addr × Nat × Option Addr × Nat))) => k6 F x7 x16 x51 x52 x55 x56) ?_ ?_))
 refine qg (qa (qi rfl rfl qcR rfl (ql (i := 1) rfl rfl tf3 rfl rfl (fun _ => rfl) rfl rfl (zG rfl rfl rfl rfl (qd (qc (qz rfl (fun h111 => ?_) (fun h111 => ?_))))))))
 refine qg (qa (qb rfl rfl rfl (qd (qc (qg (qa (qe rfl rfl rfl (qi rfl rfl qcR rfl (ql (i := 1) rfl rfl tf3 rfl rfl (fun _ => rfl) rfl rfl (qY ent73 rfl rfl rfl (fun x103 e103 => qib F x33 a31 c32 x15 x103 e103) .nil .nil (.consF 0 rfl .nil) (fun x103 e103 => ?_)))))))))))
 rintro ⟨⟨a104, c105⟩, ⟨a106, c107⟩⟩
 refine qe rfl rfl rfl (qv rfl rfl rfl rfl (qv rfl rfl rfl rfl (qb rfl rfl rfl (qb rfl rfl rfl (qd (qc (qa (qe rfl rfl rfl (qe rfl rfl rfl (qi rfl rfl qcR rfl (ql (i := 1) rfl rfl tf3 rfl rfl (fun _ => rfl) rfl rfl (qe rfl rfl rfl ?_))))))))))))
 refine qY ent74 rfl rfl rfl (fun x108 e108 => qdu F g1 x34 x37 a35 c36 x38 x7 x15 x103.1 a104 c105 x108 e108) (.cons 0 rfl .nil) (.cons 2 rfl .nil) (.consR 0 (Ro eS141 141 2 (.slice a104 x103.1.length c105) x103.1) rfl .nil) (fun x108 e108 => ?_)
 rintro ⟨a109, c110⟩
 exact qd (qdD 2 rfl (qm ((x103.2, x108.1, x108.2.1, x108.2.2), (a106, c107, a109, c110)) (hB := (.cons 0 rfl (.cons 0 rfl .nil))) (hR := (.cons 0 rfl .nil)) (hF := (qo 0 rfl qA))))
 exact qr (qm ((x33, x34, x37, x38), (a31, c32, a35, c36)) (hB := (.cons 0 rfl (.cons 0 rfl .nil))) (hR := (.cons 0 rfl .nil)) (hF := (qo 0 rfl qA)))
 rintro ⟨⟨x51, x52, x55, x56⟩, ⟨a49, c50, a53, c54⟩⟩
 try dsimp only
 refine qK (fun (((x76, x77, x80), (g75, a78, c79)) : ((Bool × Int × List Int) × (Nat × Option Addr × Nat))) => [(0, .pointer (some ⟨g1, 0, none⟩)), (13, .pointer (some ⟨g75, 0, none⟩)), (14, .bool x76)]) (fun (((x76, x77, x80), (g75, a78, c79)) : ((Bool × Int × List Int) × (Nat × Option Addr × Nat))) => [⟨g1, 90, [.int .i64 x52, .slice a53 x55.length c54, .bool x56]⟩, ⟨g75, 29, [.int .i64 x77, .slice a78 x80.length c79]⟩]) (fun (((x76, x77, x80), (g75, a78, c79)) : ((Bool × Int × List Int) × (Nat × Option Addr × Nat))) => [Ro (eI .u8) 5 1 (.slice a53 x55.length c54) x55, Ro (eI .u8) 5 1 (.slice a78 x80.length c79) x80]) (fun (((x76, x77, x80), (g75, a78, c79)) : ((Bool × Int × List Int) × (Nat × Option Addr × Nat))) => []) (fun (((x76, x77, x80), _) : ((Bool × Int × List Int) × (Nat × Option Addr × Nat))) => k7 F x52 x55 x56 x76 x77 x80) ?_ ?_
 refine zg mixed [] [⟨g1, 90, [.int .i64 x52, .slice a53 x55.length c54, .bool x56]⟩, ⟨g17, 26, [.int .i64 x14, .int .i64 x15, .int .i64 x16]⟩] [Sl (eI .i64) 1 (.slice a49 x51.length c50) x51] (.cons 0 rfl (.cons 0 rfl .nil)) (q8 0 rfl qE) 13 rfl (qf 0 (.agg #[.int .i64 0, .slice none 0 0]) rfl rfl rfl (qc1 (cells := [.int .i64 0, .slice none 0 0]) st29 rfl (by kernel_rfl)) (qf 1 (.slice a49 x51.length c50) rfl rfl rfl (qj rfl) (qf 2 (.int .i64 x7) rfl rfl rfl (qj rfl) (qf 4 (.pointer (some ⟨g17, 2, none⟩)) rfl rfl rfl (qt rfl qgC) (qP 5 (.int .i64 x16) rfl rfl rfl (qQ (i := 1) rfl tf3 rfl rfl (fun _ => rfl) rfl) (qbq 3 10 rfl rfl (by kernel_rfl) rfl rfl ?_ ?_))))))
 refine qx ent76 rfl rfl rfl (fun x85 e85 => qeU F x51 a49 c50 x7 x85 e85) (.consF 0 rfl .nil) (fun x85 e85 => ?_)
 rintro ⟨a86, c87⟩
 refine qd (qF (.cons 0 rfl (.cons 0 rfl .nil)) (q8 0 rfl qE) (qbq 6 10 rfl rfl (by kernel_rfl) rfl rfl ?_ ?_))
 refine kv Int (eI .u8) 5 1 (qY ent75 rfl rfl rfl (fun x88 e88 => qdm F 0 ([] : List Int) none 0 x85 a86 c87 x16 x88 e88) .nil (.cons 0 rfl .nil) (.consR 0 (Ro (eI .u64) 50 1 (.slice a86 x85.length c87) x85) rfl .nil) (fun x88 e88 => ?_))
 rintro ⟨a89, c90⟩
 refine qd (qF (.cons 0 rfl (.cons 0 rfl .nil)) (q8 0 rfl qE) (qf 7 (.tuple #[.agg #[.int .i64 x88.1, .slice a89 x88.2.1.length c90], .bool x88.2.2]) rfl rfl rfl (qj rfl) (qf 8 (.agg #[.int .i64 x88.1, .slice a89 x88.2.1.length c90]) rfl rfl rfl (qj rfl) (qf 9 (.bool x88.2.2) rfl rfl rfl (qj rfl) (qI 10 rfl (by kernel_rfl) rfl (qR rfl tf29 rfl (fun g91 => qd (qF (.cons 1 rfl (.cons 1 rfl .nil)) (q8 0 rfl qE) (qI 11 rfl (by kernel_rfl) rfl (qu (i := 0) rfl rfl rfl tf29 rfl rfl rfl rfl rfl (qd (qF (.cons 1 rfl (.cons 1 rfl .nil)) (q8 0 rfl qE) ?_))))))))))))
 exact qf 12 (.bool x88.2.2) rfl rfl rfl (qj rfl) (qO (by kernel_rfl) (zm (qm ((x88.2.2, x88.1, x88.2.1), (g91, a89, c90)) (hB := (.cons 1 rfl (.cons 0 rfl .nil))) (hR := (.cons 2 rfl (.cons 0 rfl .nil)))) (by intro c h; cases h)))
 refine qbs (m' := ((j5 F 0 ([] : List Int) x85 x16).bind fun x93 => k7 F x52 x55 x56 x93.2.2 x93.1 x93.2.1)) (rfl) (qR rfl tf29 rfl (fun g92 => qd (qF (.cons 1 rfl (.cons 1 rfl .nil)) (q8 0 rfl qE) (qI 6 rfl (by kernel_rfl) rfl (kv Int (eI .u8) 5 1 (qY ent75 rfl rfl rfl (fun x93 e93 => qdm F 0 ([] : List Int) none 0 x85 a86 c87 x16 x93 e93) .nil (.cons 0 rfl .nil) (.consR 0 (Ro (eI .u64) 50 1 (.slice a86 x85.length c87) x85) rfl .nil) (fun x93 e93 => ?_)))))))
 rintro ⟨a94, c95⟩
 exact qd (qF (.cons 1 rfl (.cons 1 rfl .nil)) (q8 0 rfl qE) (qf 7 (.tuple #[.agg #[.int .i64 x93.1, .slice a94 x93.2.1.length c95], .bool x93.2.2]) rfl rfl rfl (qj rfl) (qf 8 (.agg #[.int .i64 x93.1, .slice a94 x93.2.1.length c95]) rfl rfl rfl (qj rfl) (qf 9 (.bool x93.2.2) rfl rfl rfl (qj rfl) (qI 11 rfl (by kernel_rfl) rfl (qu (i := 0) rfl rfl rfl tf29 rfl rfl rfl rfl rfl (qd (qF (.cons 1 rfl (.cons 1 rfl .nil)) (q8 0 rfl qE) (qf 12 (.bool x93.2.2) rfl rfl rfl (qj rfl) (qO (by kernel_rfl) (zm (qm ((x93.2.2, x93.1, x93.2.1), (g92, a94, c95)) (hB := (.cons 1 rfl (.cons 0 rfl .nil))) (hR := (.cons 2 rfl (.cons 0 rfl .nil)))) (by intro c h; cases h))))))))))))
 refine qbs (m' := ((qbz F x51 x7).bind fun x97 => ((j5 F 0 ([] : List Int) x97 x16).bind fun x100 => k7 F x52 x55 x56 x100.2.2 x100.1 x100.2.1))) (rfl) (qR rfl tf29 rfl (fun g96 => qd (qF (.cons 1 rfl (.cons 1 rfl .nil)) (q8 0 rfl qE) (qI 3 rfl (by kernel_rfl) rfl (qx ent76 rfl rfl rfl (fun x97 e97 => qeU F x51 a49 c50 x7 x97 e97) (.consF 0 rfl .nil) (fun x97 e97 => ?_))))))
 rintro ⟨a98, c99⟩
 refine qd (qF (.cons 1 rfl (.cons 1 rfl .nil)) (q8 0 rfl qE) (qI 6 rfl (by kernel_rfl) rfl (kv Int (eI .u8) 5 1 (qY ent75 rfl rfl rfl (fun x100 e100 => qdm F 0 ([] : List Int) none 0 x97 a98 c99 x16 x100 e100) .nil (.cons 0 rfl .nil) (.consR 0 (Ro (eI .u64) 50 1 (.slice a98 x97.length c99) x97) rfl .nil) (fun x100 e100 => ?_)))))
 rintro ⟨a101, c102⟩
 exact qd (qF (.cons 1 rfl (.cons 1 rfl .nil)) (q8 0 rfl qE) (qf 7 (.tuple #[.agg #[.int .i64 x100.1, .slice a101 x100.2.1.length c102], .bool x100.2.2]) rfl rfl rfl (qj rfl) (qf 8 (.agg #[.int .i64 x100.1, .slice a101 x100.2.1.length c102]) rfl rfl rfl (qj rfl) (qf 9 (.bool x100.2.2) rfl rfl rfl (qj rfl) (qI 11 rfl (by kernel_rfl) rfl (qu (i := 0) rfl rfl rfl tf29 rfl rfl rfl rfl rfl (qd (qF (.cons 1 rfl (.cons 1 rfl .nil)) (q8 0 rfl qE) (qf 12 (.bool x100.2.2) rfl rfl rfl (qj rfl) (qO (by kernel_rfl) (zm (qm ((x100.2.2, x100.1, x100.2.1), (g96, a101, c102)) (hB := (.cons 1 rfl (.cons 0 rfl .nil))) (hR := (.cons 2 rfl (.cons 0 rfl .nil)))) (by intro c h; cases h))))))))))))
 rintro ⟨⟨x76, x77, x80⟩, ⟨g75, a78, c79⟩⟩
 try dsimp only
 refine qg (qa (qe rfl rfl rfl (qe rfl rfl rfl (qN rfl rfl rfl (qi rfl rfl qb6 rfl (ql (i := 0) rfl rfl tf4 rfl rfl (fun _ => rfl) rfl rfl (qe rfl rfl rfl (zS 3 x56 [(0, .pointer (some ⟨g1, 0, none⟩)), (13, .pointer (some ⟨g75, 0, none⟩)), (64, .pointer (some ⟨g1, 0, none⟩)), (72, .bool (x56 || (!x76)))] (fun h81 => ?_) (fun h81 => ?_) ?_))))))))
 exact qy (os := _) rfl (zA (k := 69) rfl h81 (qn rfl rfl rfl (qn rfl rfl rfl (qG (b := true) rfl rfl rfl rfl (qC (d := 72) (v := .bool (x56 || (!x76))) rfl (by rw [h81]; simp only [Bool.true_or]) (qd (qT (qk rfl (qk rfl (qk rfl (qk rfl zd)))))))))))
 exact qy (os := _) rfl (zz (k := 69) rfl h81 (qe rfl rfl rfl (kw rfl rfl rfl (qG (b := false) rfl rfl rfl rfl (qC (d := 72) (v := .bool (x56 || (!x76))) rfl (by rw [h81]; simp only [Bool.false_or]) (qd (qT (qk rfl (qk rfl (qk rfl (qk rfl zd)))))))))))
 refine qy (os := _) rfl (qN rfl rfl rfl (qi rfl rfl qb6 rfl (qu (i := 0) rfl rfl rfl tf4 rfl rfl rfl rfl rfl (qd (qc (qa (qe rfl rfl rfl (ql (i := 1) rfl rfl tf29 rfl rfl (by simp) rfl rfl (qY ent77 rfl rfl rfl (fun x82 e82 => qbP F g1 x52 x55 a53 c54 (x56 || (!x76)) x77 x80 a78 c79 x82 e82) (.cons 0 rfl .nil) (.cons 0 rfl .nil) (.consR 0 (Ro (eI .u8) 5 1 (.slice a78 x80.length c79) x80) rfl .nil) (fun x82 e82 => ?_))))))))))
 rintro ⟨a83, c84⟩
 exact qd (zr (a83, c84) (res0 rfl) (hB := fun h => by subst h; exact (.cons 0 rfl .nil)) (hR := fun h => by subst h; exact (.cons 0 rfl .nil)))
theorem qgr (F : Nat) (x1 : Int) (x2 : List Int) (a3 : Option Addr) (c4 : Nat) (x5 : List Int) (a6 : Option Addr) (c7 : Nat) (x8 : Int) (x9 : Int) (x10 : Int) (r : (Int × List Int × Int)) (hm : qbi F x1 x2 x5 x8 x9 x10 = some r) :
    Pure Tryz.prog 24 [.int .i64 x1, .slice a3 x2.length c4, .slice a6 x5.length c7, .agg #[.int .i64 x8, .int .i64 x9, .int .i64 x10]] [Sl (eI .i64) 1 (.slice a3 x2.length c4) x2, Sl (eI .i64) 1 (.slice a6 x5.length c7) x5] (Option Addr × Nat) (fun g => .tuple #[.agg #[.int .i64 r.1, .slice g.1 r.2.1.length g.2], .int .i64 r.2.2]) (fun g => [Ro (eI .u8) 5 1 (.slice g.1 r.2.1.length g.2) r.2.1]) (fun _ => []) := by
 refine qS Tryz.func24 rfl Tryz.ntmps24 rfl hm (fun w => qH (l' := [(0, .int .i64 x1), (1, .slice a3 x2.length c4), (2, .slice a6 x5.length c7), (3, .agg #[.int .i64 x8, .int .i64 x9, .int .i64 x10])]) rfl (qg (qa (qV rfl rfl rfl (fun g11 => qR rfl tf29 rfl (fun g12 => qb rfl rfl rfl (qd (qc (qg (qa (ql (i := 1) rfl rfl tf26 rfl rfl (by simp) rfl rfl (qx ent43 rfl rfl rfl (fun x13 e13 => qcn F x8 x9 x10 x13 e13) .nil (fun x13 e13 => ?_)))))))))))))
 intro _
 refine qb rfl rfl rfl (qd (qc (qK (fun ((x19, _) : (Int × Unit)) => [(0, .int .i64 x1), (1, .slice a3 x2.length c4), (2, .slice a6 x5.length c7), (7, .pointer (some ⟨g11, 0, none⟩)), (8, .pointer (some ⟨g12, 0, none⟩)), (10, .int .i64 x19)]) (fun ((x19, _) : (Int × Unit)) => [⟨g12, 29, [.int .i64 0, .slice none 0 0]⟩, ⟨g11, 26, [.int .i64 x8, .int .i64 x9, .int .i64 x10]⟩]) (fun ((x19, _) : (Int × Unit)) => []) (fun ((x19, _) : (Int × Unit)) => [Sl (eI .i64) 1 (.slice a3 x2.length c4) x2, Sl (eI .i64) 1 (.slice a6 x5.length c7) x5]) (fun ((x19, _) : (Int × Unit)) => yT F x1 x2 x5 x8 x9 x10 x19) ?_ ?_)))
 refine qg (qa (qe rfl rfl rfl (ku rfl rfl rfl rfl (qe rfl rfl rfl (vt 7 (fun ((x40, _) : (Bool × Unit)) => [(0, .int .i64 x1), (1, .slice a3 x2.length c4), (2, .slice a6 x5.length c7), (7, .pointer (some ⟨g11, 0, none⟩)), (8, .pointer (some ⟨g12, 0, none⟩)), (10, .int .i64 x13), (23, .bool x40)]) (fun ((x40, _) : (Bool × Unit)) => [⟨g12, 29, [.int .i64 0, .slice none 0 0]⟩, ⟨g11, 26, [.int .i64 x8, .int .i64 x9, .int .i64 x10]⟩]) (fun ((x40, _) : (Bool × Unit)) => []) (fun ((x40, _) : (Bool × Unit)) => [Sl (eI .i64) 1 (.slice a3 x2.length c4) x2, Sl (eI .i64) 1 (.slice a6 x5.length c7) x5]) (fun ((x40, _) : (Bool × Unit)) => vU F x1 x2 x5 x8 x9 x10 x13 x40) ?_ ?_)))))
 refine qy (os := _) rfl (qba (fun h38 => ?_) (fun h38 => ?_))
 refine zA (k := 16) rfl h38 (qe rfl rfl rfl (qZ rfl rfl rfl rfl (qe rfl rfl rfl (zS 3 (decide (x1 < 0)) [(0, .int .i64 x1), (1, .slice a3 x2.length c4), (2, .slice a6 x5.length c7), (7, .pointer (some ⟨g11, 0, none⟩)), (8, .pointer (some ⟨g12, 0, none⟩)), (10, .int .i64 x13), (16, .bool true), (22, .bool ((decide (x1 < 0)) || (decide (1048576 < x1))))] (fun h42 => ?_) (fun h42 => ?_) ?_))))
 exact qy (os := _) rfl (zA (k := 19) rfl h42 (qn rfl rfl rfl (qn rfl rfl rfl (qG (b := true) rfl rfl rfl rfl (qC (d := 22) (v := .bool ((decide (x1 < 0)) || (decide (1048576 < x1)))) rfl (by rw [h42]; simp only [Bool.true_or]) (qd (qT (qk rfl (qk rfl (qk rfl (qk rfl (qk rfl (qk rfl (qk rfl (qk rfl zd)))))))))))))))
 exact qy (os := _) rfl (zz (k := 19) rfl h42 (qe rfl rfl rfl (zG rfl rfl rfl rfl (qG (b := false) rfl rfl rfl rfl (qC (d := 22) (v := .bool ((decide (x1 < 0)) || (decide (1048576 < x1)))) rfl (by rw [h42]; simp only [Bool.false_or]) (qd (qT (qk rfl (qk rfl (qk rfl (qk rfl (qk rfl (qk rfl (qk rfl (qk rfl zd)))))))))))))))
 exact qy (os := _) rfl (qG (b := true) rfl rfl rfl rfl (qd (qm (((decide (x1 < 0)) || (decide (1048576 < x1))), ()) (hB := (.cons 0 rfl (.cons 0 rfl .nil))) (hF := (qo 0 rfl (qo 1 rfl qA))))))
 exact zz (k := 16) rfl h38 (qn rfl rfl rfl (qn rfl rfl rfl (qn rfl rfl rfl (qn rfl rfl rfl (qn rfl rfl rfl (qn rfl rfl rfl (qG (b := false) rfl rfl rfl rfl (qd (qm (false, ()) (hB := (.cons 0 rfl (.cons 0 rfl .nil))) (hF := (qo 0 rfl (qo 1 rfl qA))))))))))))
 rintro ⟨x40, _⟩
 try dsimp only
 refine qy (os := _) rfl (qd (qc (qz rfl (fun h41 => ?_) (fun h41 => ?_))))
 exact qa (qb rfl rfl rfl (qd (qm (3, ()) (hB := (.cons 0 rfl (.cons 0 rfl .nil))) (hF := (qo 0 rfl (qo 1 rfl qA))))))
 exact qr (qm (x13, ()) (hB := (.cons 0 rfl (.cons 0 rfl .nil))) (hF := (qo 0 rfl (qo 1 rfl qA))))
 rintro ⟨x19, _⟩
 try dsimp only
 refine qK (fun ((x22, _) : (Int × Unit)) => [(0, .int .i64 x1), (1, .slice a3 x2.length c4), (2, .slice a6 x5.length c7), (7, .pointer (some ⟨g11, 0, none⟩)), (8, .pointer (some ⟨g12, 0, none⟩)), (10, .int .i64 x22)]) (fun ((x22, _) : (Int × Unit)) => [⟨g12, 29, [.int .i64 0, .slice none 0 0]⟩, ⟨g11, 26, [.int .i64 x8, .int .i64 x9, .int .i64 x10]⟩]) (fun ((x22, _) : (Int × Unit)) => []) (fun ((x22, _) : (Int × Unit)) => [Sl (eI .i64) 1 (.slice a3 x2.length c4) x2, Sl (eI .i64) 1 (.slice a6 x5.length c7) x5]) (fun ((x22, _) : (Int × Unit)) => yU F x1 x2 x5 x8 x9 x10 x22) ?_ ?_
 refine qg (qa (qe rfl rfl rfl (ku rfl rfl rfl rfl (qd (qc (qz rfl (fun h37 => ?_) (fun h37 => ?_)))))))
 refine qa (qe rfl rfl rfl (qx ent47 rfl rfl rfl (fun x36 e36 => qae F x2 a3 c4 x36 e36) (.consF 0 rfl .nil) (fun x36 e36 => ?_)))
 intro _
 exact qb rfl rfl rfl (qd (qm (x36, ()) (hB := (.cons 0 rfl (.cons 0 rfl .nil))) (hF := (qo 0 rfl (qo 1 rfl qA)))))
 exact qr (qm (x19, ()) (hB := (.cons 0 rfl (.cons 0 rfl .nil))) (hF := (qo 0 rfl (qo 1 rfl qA))))
 rintro ⟨x22, _⟩
 try dsimp only
 refine qK (fun ((x25, _) : (Int × Unit)) => [(0, .int .i64 x1), (1, .slice a3 x2.length c4), (2, .slice a6 x5.length c7), (7, .pointer (some ⟨g11, 0, none⟩)), (8, .pointer (some ⟨g12, 0, none⟩)), (10, .int .i64 x25)]) (fun ((x25, _) : (Int × Unit)) => [⟨g12, 29, [.int .i64 0, .slice none 0 0]⟩, ⟨g11, 26, [.int .i64 x8, .int .i64 x9, .int .i64 x10]⟩]) (fun ((x25, _) : (Int × Unit)) => []) (fun ((x25, _) : (Int × Unit)) => [Sl (eI .i64) 1 (.slice a3 x2.length c4) x2, Sl (eI .i64) 1 (.slice a6 x5.length c7) x5]) (fun ((x25, _) : (Int × Unit)) => vT F x1 x2 x5 x8 x9 x10 x25) ?_ ?_
 refine qg (qa (qe rfl rfl rfl (ku rfl rfl rfl rfl (qd (qc (qz rfl (fun h35 => ?_) (fun h35 => ?_)))))))
 refine qa (qe rfl rfl rfl (qe rfl rfl rfl (ql (i := 1) rfl rfl tf26 rfl rfl (by simp) rfl rfl (qx ent48 rfl rfl rfl (fun x34 e34 => qgs F x1 x5 a6 c7 x8 x9 x10 x34 e34) (.consF 1 rfl .nil) (fun x34 e34 => ?_)))))
 intro _
 exact qb rfl rfl rfl (qd (qm (x34, ()) (hB := (.cons 0 rfl (.cons 0 rfl .nil))) (hF := (qo 0 rfl (qo 1 rfl qA)))))
 exact qr (qm (x22, ()) (hB := (.cons 0 rfl (.cons 0 rfl .nil))) (hF := (qo 0 rfl (qo 1 rfl qA))))
 rintro ⟨x25, _⟩
 try dsimp only
 refine qg (qg (qa (qe rfl rfl rfl (kQ rfl rfl rfl rfl (qd (qc (qz rfl (fun h33 => ?_) (fun h33 => ?_))))))))
 exact qg (qa (zv (cells := [.int .i64 0, .slice none 0 0]) rfl st29 rfl (by kernel_rfl) rfl (qe rfl rfl rfl (qu (i := 0) rfl rfl rfl tf29 rfl rfl rfl rfl rfl (qb rfl rfl rfl (qd (qc (qs (qp (q3 Int (eI .u8) 5 1 (qq (none, 0) (resL (rs := [.cell 8 29, .tmp 9]) rfl (.cell (i := 0) rfl tf29 rfl rfl (by simp) rfl (.tmp rfl ResOk.nil)) rfl) (fun h => by subst h; exact (.cons 0 rfl .nil)))))))))))))
 refine qr (qc (qg (qa (zv (cells := [.int .i64 0, .slice none 0 0, .bool false]) rfl st90 rfl (by kernel_rfl) rfl (qV rfl rfl rfl (fun g27 => qb rfl rfl rfl (qd (qc (qg (qa (qe rfl rfl rfl (qe rfl rfl rfl ?_))))))))))))
 refine qe rfl rfl rfl (qe rfl rfl rfl (ql (i := 2) rfl rfl tf26 rfl rfl (by simp) rfl rfl (kv Int (eI .u8) 5 1 (qY ent49 rfl rfl rfl (fun x28 e28 => qbu F g27 0 ([] : List Int) none 0 false x1 x2 a3 c4 x5 a6 c7 x8 x9 x10 x28 e28) (.cons 0 rfl .nil) (.cons 0 rfl .nil) (.consF 0 rfl (.consF 1 rfl .nil)) (fun x28 e28 => ?_)))))
 rintro ⟨a29, c30⟩
 refine qd (qc (qg (qg (qa (qe rfl rfl rfl (qN rfl rfl rfl (qi rfl rfl qb6 rfl (ql (i := 0) rfl rfl tf4 rfl rfl (fun _ => rfl) rfl rfl (qd (qc (qz rfl (fun h32 => ?_) (fun h32 => ?_))))))))))))
 exact qg (qa (zv (cells := [.int .i64 0, .slice none 0 0]) rfl st29 rfl (by kernel_rfl) rfl (qu (i := 1) rfl rfl rfl tf29 rfl rfl rfl rfl rfl (qb rfl rfl rfl (qd (qc (qs (qp (q3 Int (eI .u8) 5 1 (qq (none, 0) (resL (rs := [.cell 8 29, .tmp 9]) rfl (.cell (i := 1) rfl tf29 rfl rfl (by simp) rfl (.tmp rfl ResOk.nil)) rfl) (fun h => by subst h; exact (.cons 0 rfl .nil))))))))))))
 refine qr (qc (qg (qa (qe rfl rfl rfl (qN rfl rfl rfl (qi rfl rfl qdy rfl (ql (i := 0) rfl rfl tf29 rfl rfl (by simp) rfl rfl (qu (i := 1) rfl rfl rfl tf29 rfl rfl rfl rfl rfl (qb rfl rfl rfl (qd (qc (qs ?_))))))))))))
 exact qq (a29, c30) (resL (rs := [.cell 8 29, .tmp 9]) rfl (.cell (i := 1) rfl tf29 rfl rfl (by simp) rfl (.tmp rfl ResOk.nil)) rfl) (fun h => by subst h; exact (.cons 0 rfl .nil))
theorem qhi (F : Nat) (x1 : List (List Int)) (a2 : Option Addr) (c3 : (Nat × List (Option Addr × Nat))) (x4 : List Int) (a5 : Option Addr) (c6 : Nat) (x7 : Int) (x8 : Int) (x9 : Int) (x10 : Int) (r : (Int × Int × List Int × Bool)) (hm : qbU F x1 x4 x7 x8 x9 x10 = some r) :
    Pure Tryz.prog 103 [.slice a2 x1.length c3.1, .slice a5 x4.length c6, .int .i64 x7, .agg #[.int .i64 x8, .int .i64 x9, .int .i64 x10]] [SlN eN37 iN37 1 (.slice a2 x1.length c3.1) x1 c3.2, Sl (eI .i64) 1 (.slice a5 x4.length c6) x4] (Option Addr × Nat) (fun g => .tuple #[.agg #[.int .i64 r.1, .int .i64 r.2.1, .slice g.1 r.2.2.1.length g.2], .bool r.2.2.2]) (fun g => [Ro (eI .u8) 5 1 (.slice g.1 r.2.2.1.length g.2) r.2.2.1]) (fun _ => []) := by
 refine qS Tryz.func103 rfl Tryz.ntmps103 rfl hm (fun w => qH (l' := [(0, .slice a2 x1.length c3.1), (1, .slice a5 x4.length c6), (2, .int .i64 x7), (3, .agg #[.int .i64 x8, .int .i64 x9, .int .i64 x10])]) rfl (qg (qa (qV rfl rfl rfl (fun g11 => qR rfl tf131 rfl (fun g12 => qb rfl rfl rfl (qd (qc (qg (qa (qe rfl rfl rfl (qX rfl Tryz.underlying22 rfl rfl ?_))))))))))))
 refine qb rfl rfl rfl (qd (qc (qg (qa (zv (cells := [.int .i64 0, .slice none 0 0]) rfl st29 rfl (by kernel_rfl) rfl (qR rfl tf29 rfl (fun g13 => qu (i := 0) rfl rfl rfl tf29 rfl rfl rfl rfl rfl (qd (qc (qK (fun (((x18, x21), (a19, c20)) : ((Int × List Int) × (Option Addr × Nat))) => [(0, .slice a2 x1.length c3.1), (1, .slice a5 x4.length c6), (2, .int .i64 x7), (7, .pointer (some ⟨g11, 0, none⟩)), (8, .pointer (some ⟨g12, 0, none⟩)), (10, .int .i64 (x1.length : Int)), (11, .pointer (some ⟨g13, 0, none⟩))]) (fun (((x18, x21), (a19, c20)) : ((Int × List Int) × (Option Addr × Nat))) => [⟨g13, 29, [.int .i64 x18, .slice a19 x21.length c20]⟩, ⟨g12, 131, [.int .i64 0, .int .i64 0, .slice none 0 0]⟩, ⟨g11, 26, [.int .i64 x8, .int .i64 x9, .int .i64 x10]⟩]) (fun (((x18, x21), (a19, c20)) : ((Int × List Int) × (Option Addr × Nat))) => [Ro (eI .u8) 5 1 (.slice a19 x21.length c20) x21]) (fun (((x18, x21), (a19, c20)) : ((Int × List Int) × (Option Addr × Nat))) => [SlN eN37 iN37 1 (.slice a2 x1.length c3.1) x1 c3.2, Sl (eI .i64) 1 (.slice a5 x4.length c6) x4]) (fun (((x18, x21), _) : ((Int × List Int) × (Option Addr × Nat))) => jC F x1 x4 x7 x9 x10 x18 x21) ?_ ?_))))))))))
 refine qg (qa (qi rfl rfl qaC rfl (ql (i := 2) rfl rfl tf3 rfl rfl (fun _ => rfl) rfl rfl (zG rfl rfl rfl rfl (qd (qc (qz rfl (fun h49 => ?_) (fun h49 => ?_))))))))
 refine qa (qe rfl rfl rfl (zQ rfl Tryz.underlying3 Tryz.underlying50 rfl rfl (qx ent95 rfl rfl rfl (fun x46 e46 => qcd F (iconv .u64 x7) x46 e46) .nil (fun x46 e46 => ?_))))
 rintro ⟨a47, c48⟩
 exact qu (i := 0) rfl rfl rfl tf29 rfl rfl rfl rfl rfl (qd (qm ((x46.1, x46.2), (a47, c48)) (hB := (.cons 0 rfl (.cons 0 rfl (.cons 0 rfl .nil)))) (hR := (.cons 0 rfl .nil)) (hF := (qo 0 rfl (qo 1 rfl qA)))))
 exact qr (q3 Int (eI .u8) 5 1 (qm ((0, ([] : List Int)), (none, 0)) (hB := (.cons 0 rfl (.cons 0 rfl (.cons 0 rfl .nil)))) (hR := (.cons 0 rfl .nil)) (hF := (qo 0 rfl (qo 1 rfl qA)))))
 rintro ⟨⟨x18, x21⟩, ⟨a19, c20⟩⟩
 try dsimp only
 refine qg (qa (qb rfl rfl rfl (qd (qc (qK (fun ((x29, (a27, c28)) : (List Int × (Option Addr × Nat))) => [(1, .slice a5 x4.length c6), (2, .int .i64 x7), (7, .pointer (some ⟨g11, 0, none⟩)), (8, .pointer (some ⟨g12, 0, none⟩)), (10, .int .i64 (x1.length : Int)), (11, .pointer (some ⟨g13, 0, none⟩)), (12, .slice a27 x29.length c28)]) (fun ((x29, (a27, c28)) : (List Int × (Option Addr × Nat))) => [⟨g13, 29, [.int .i64 x18, .slice a19 x21.length c20]⟩, ⟨g12, 131, [.int .i64 0, .int .i64 0, .slice none 0 0]⟩, ⟨g11, 26, [.int .i64 x8, .int .i64 x9, .int .i64 x10]⟩]) (fun ((x29, (a27, c28)) : (List Int × (Option Addr × Nat))) => [Ro (eI .u8) 5 1 (.slice a19 x21.length c20) x21]) (fun ((x29, (a27, c28)) : (List Int × (Option Addr × Nat))) => [Sl (eI .i64) 1 (.slice a5 x4.length c6) x4, Sl (eI .i64) 1 (.slice a27 x29.length c28) x29]) (fun ((x29, _) : (List Int × (Option Addr × Nat))) => jD F x1 x4 x7 x9 x10 x18 x21 x29) ?_ ?_)))))
 refine qg (qa (qe rfl rfl rfl (zG rfl rfl rfl rfl (qd (qc (qz rfl (fun h45 => ?_) (fun h45 => ?_)))))))
 exact qa (qe rfl rfl rfl (qe rfl rfl rfl (qe rfl rfl rfl (zJ rfl rfl rfl rfl (qbK (j := 0) yP (by decide) rfl Tryz.underlying22 tf37 rfl rfl rfl rfl (fun x41 e41 g44 b42 o43 => zU (j := 0) rfl rfl tf37 rfl rfl (fun _ => rfl) rfl rfl (qb rfl rfl rfl (qd (qm (x41, (g44.1, g44.2)) (hB := (.cons 0 rfl (.cons 0 rfl (.cons 0 rfl .nil)))) (hR := (.cons 0 rfl .nil)) (hF := (qo 3 rfl (qo 1 rfl qA))))))))))))
 exact qr (q3 Int (eI .i64) 3 1 (qdD 0 rfl (qm (([] : List Int), (none, 0)) (hB := (.cons 0 rfl (.cons 0 rfl (.cons 0 rfl .nil)))) (hR := (.cons 0 rfl .nil)) (hF := (qo 2 rfl (qo 0 rfl qA))))))
 rintro ⟨x29, ⟨a27, c28⟩⟩
 try dsimp only
 refine qg (qa (qe rfl rfl rfl (qi rfl rfl qaC rfl (qu (i := 2) rfl rfl rfl tf3 rfl rfl rfl rfl rfl (qd (qc (qg (qa (qe rfl rfl rfl (qe rfl rfl rfl (qe rfl rfl rfl (ql (i := 2) rfl rfl tf26 rfl rfl (by simp) rfl rfl ?_))))))))))))
 refine qx ent24 rfl rfl rfl (fun x30 e30 => qgr F (x1.length : Int) x4 a5 c6 x29 a27 c28 x7 x9 x10 x30 e30) (.consF 0 rfl (.consF 1 rfl .nil)) (fun x30 e30 => ?_)
 rintro ⟨a31, c32⟩
 refine qe rfl rfl rfl (qv rfl rfl rfl rfl (qv rfl rfl rfl rfl (qR rfl tf29 rfl (fun g33 => qu (i := 0) rfl rfl rfl tf29 rfl rfl rfl rfl rfl (qb rfl rfl rfl (qd (qc (qg (qg (qa (qe rfl rfl rfl (kQ rfl rfl rfl rfl ?_))))))))))))
 refine qe rfl rfl rfl (zS 7 ((x30.2.2 : Int) != 0) [(2, .int .i64 x7), (8, .pointer (some ⟨g12, 0, none⟩)), (11, .pointer (some ⟨g13, 0, none⟩)), (13, .pointer (some ⟨g33, 0, none⟩)), (51, .bool (((x30.2.2 : Int) != 0) || (decide (8192 < (iadd .i64 x18 x30.1)))))] (fun h36 => ?_) (fun h36 => ?_) ?_)
 exact qy (os := _) rfl (zA (k := 44) rfl h36 (qn rfl rfl rfl (qn rfl rfl rfl (qn rfl rfl rfl (qn rfl rfl rfl (qn rfl rfl rfl (qn rfl rfl rfl (qG (b := true) rfl rfl rfl rfl (qC (d := 51) (v := .bool (((x30.2.2 : Int) != 0) || (decide (8192 < (iadd .i64 x18 x30.1))))) rfl (by rw [h36]; simp only [Bool.true_or]) (qd (qT (qk rfl (qk rfl (qk rfl (qk rfl (qk rfl zd))))))))))))))))
 exact qy (os := _) rfl (zz (k := 44) rfl h36 (qi rfl rfl ky rfl (ql (i := 1) rfl rfl tf3 rfl rfl (fun _ => rfl) rfl rfl (qi rfl rfl ky rfl (ql (i := 0) rfl rfl tf3 rfl rfl (fun _ => rfl) rfl rfl (qL rfl rfl rfl rfl (zG rfl rfl rfl rfl (qG (b := false) rfl rfl rfl rfl (qC (d := 51) (v := .bool (((x30.2.2 : Int) != 0) || (decide (8192 < (iadd .i64 x18 x30.1))))) rfl (by rw [h36]; simp only [Bool.false_or]) (qd (qT (qk rfl (qk rfl (qk rfl (qk rfl (qk rfl zd))))))))))))))))
 refine qy (os := _) rfl (qd (qc (qz rfl (fun h40 => ?_) (fun h40 => ?_))))
 exact qg (qa (zv (cells := [.int .i64 0, .int .i64 0, .slice none 0 0]) rfl st131 rfl (by kernel_rfl) rfl (qu (i := 2) rfl rfl rfl tf131 rfl rfl rfl rfl rfl (qb rfl rfl rfl (qd (qc (qs (qp (q3 Int (eI .u8) 5 1 (qq (none, 0) (resL (rs := [.cell 8 131, .tmp 9]) rfl (.cell (i := 2) rfl tf131 rfl rfl (by simp) rfl (.tmp rfl ResOk.nil)) rfl) (fun h => by subst h; exact (.cons 0 rfl .nil))))))))))))
 refine qr (qc (qg (qa (qe rfl rfl rfl (ql (i := 1) rfl rfl tf29 rfl rfl (by simp) rfl rfl (ql (i := 0) rfl rfl tf29 rfl rfl (by simp) rfl rfl (qY ent53 rfl rfl rfl (fun x37 e37 => qbM F x18 x21 a19 c20 x30.1 x30.2.1 a31 c32 x37 e37) .nil .nil (.consR 1 (Ro (eI .u8) 5 1 (.slice a19 x21.length c20) x21) rfl (.consR 0 (Ro (eI .u8) 5 1 (.slice a31 x30.2.1.length c32) x30.2.1) rfl .nil)) (fun x37 e37 => ?_))))))))
 rintro ⟨a38, c39⟩
 exact zv (cells := [.int .i64 x7, .int .i64 x37.1, .slice a38 x37.2.length c39]) rfl st131 rfl (by kernel_rfl) rfl (qu (i := 2) rfl rfl rfl tf131 rfl rfl rfl rfl rfl (qb rfl rfl rfl (qd (qc (qs (qq (a38, c39) (resL (rs := [.cell 8 131, .tmp 9]) rfl (.cell (i := 2) rfl tf131 rfl rfl (by simp) rfl (.tmp rfl ResOk.nil)) rfl) (fun h => by subst h; exact (.cons 0 rfl .nil))))))))
theorem qey (F : Nat) (x1 : List (List Int)) (a2 : Option Addr) (c3 : (Nat × List (Option Addr × Nat))) (x4 : List Int) (a5 : Option Addr) (c6 : Nat) (x7 : Int) (x8 : Int) (x9 : Int) (r : (Int × Int × List Int × Bool)) (hm : qbT F x1 x4 x7 x8 x9 = some r) :
    Pure Tryz.prog 81 [.slice a2 x1.length c3.1, .slice a5 x4.length c6, .agg #[.int .i64 x7, .int .i64 x8, .int .i64 x9]] [SlN eN37 iN37 1 (.slice a2 x1.length c3.1) x1 c3.2, Sl (eI .i64) 1 (.slice a5 x4.length c6) x4] (Option Addr × Nat) (fun g => .tuple #[.agg #[.int .i64 r.1, .int .i64 r.2.1, .slice g.1 r.2.2.1.length g.2], .bool r.2.2.2]) (fun g => [Ro (eI .u8) 5 1 (.slice g.1 r.2.2.1.length g.2) r.2.2.1]) (fun _ => []) := by
  refine qS Tryz.func81 rfl Tryz.ntmps81 rfl hm (fun w => ?_)
  refine qH (l' := [(0, .slice a2 x1.length c3.1), (1, .slice a5 x4.length c6), (2, .agg #[.int .i64 x7, .int .i64 x8, .int .i64 x9])]) rfl ?_
  refine qg ?_
  refine qa ?_
  refine qV rfl rfl rfl (fun g10 => ?_)
  refine qR rfl tf131 rfl (fun g11 => ?_)
  refine qb rfl rfl rfl ?_
  refine qd ?_
  refine qc ?_
  refine qK (fun (((x96, x97, x98, x101), (a99, c100)) : ((Bool × Int × Int × List Int) × (Option Addr × Nat))) => [(6, .pointer (some ⟨g11, 0, none⟩)), (7, .bool x96)]) (fun (((x96, x97, x98, x101), (a99, c100)) : ((Bool × Int × Int × List Int) × (Option Addr × Nat))) => [⟨g11, 131, [.int .i64 x97, .int .i64 x98, .slice a99 x101.length c100]⟩]) (fun (((x96, x97, x98, x101), (a99, c100)) : ((Bool × Int × Int × List Int) × (Option Addr × Nat))) => [Ro (eI .u8) 5 1 (.slice a99 x101.length c100) x101]) (fun (((x96, x97, x98, x101), (a99, c100)) : ((Bool × Int × Int × List Int) × (Option Addr × Nat))) => []) (fun (((x96, x97, x98, x101), _) : ((Bool × Int × Int × List Int) × (Option Addr × Nat))) => qbA F x96 x97 x98 x101) ?_ ?_
  · refine qg ?_
    refine qa ?_
    refine qi rfl rfl qaC rfl ?_
    refine ql (i := 1) rfl rfl tf3 rfl rfl (fun _ => rfl) rfl rfl ?_
    refine qe rfl rfl rfl ?_
    refine qX rfl Tryz.underlying22 rfl rfl ?_
    refine qcE rfl rfl rfl rfl ?_
    refine qL rfl rfl rfl rfl ?_
    refine qe rfl rfl rfl ?_
    refine qd ?_
    refine qc ?_
    refine qB ?_
    refine vM Int (eI .u8) 5 1 ?_
    refine q7 (fun (((x125, x126, x127, x128, x131), (a129, c130)) : ((Bool × Int × Int × Int × List Int) × (Option Addr × Nat))) => [(0, .slice a2 x1.length c3.1), (1, .slice a5 x4.length c6), (5, .pointer (some ⟨g10, 0, none⟩)), (6, .pointer (some ⟨g11, 0, none⟩)), (7, .bool x125), (16, .int .i64 (iadd .i64 (imin x7 (x1.length : Int)) 1)), (17, .int .i64 x126)]) (fun (((x125, x126, x127, x128, x131), (a129, c130)) : ((Bool × Int × Int × Int × List Int) × (Option Addr × Nat))) => [⟨g11, 131, [.int .i64 x127, .int .i64 x128, .slice a129 x131.length c130]⟩, ⟨g10, 26, [.int .i64 x7, .int .i64 x8, .int .i64 x9]⟩]) (fun (((x125, x126, x127, x128, x131), (a129, c130)) : ((Bool × Int × Int × Int × List Int) × (Option Addr × Nat))) => [Ro (eI .u8) 5 1 (.slice a129 x131.length c130) x131]) (fun (((x125, x126, x127, x128, x131), (a129, c130)) : ((Bool × Int × Int × Int × List Int) × (Option Addr × Nat))) => [SlN eN37 iN37 1 (.slice a2 x1.length c3.1) x1 c3.2, Sl (eI .i64) 1 (.slice a5 x4.length c6) x4]) (fun k (s : ((Bool × Int × Int × Int × List Int) × (Option Addr × Nat))) => kq F x1 x4 x7 x8 x9 k s.1) ((false, 0, 0, 0, ([] : List Int)), (none, 0)) F ?_ (hB := (.cons 0 rfl (.cons 0 rfl .nil))) (hR := (.cons 0 rfl .nil)) (hF := (qo 0 rfl (qo 1 rfl qA)))
    intro k158
    rintro ⟨⟨x125, x126, x127, x128, x131⟩, ⟨a129, c130⟩⟩
    try dsimp only
    refine zB (m' := jX F x1 x4 x7 x8 x9 (kq F x1 x4 x7 x8 x9 k158) x125 x126 x127 x128 x131) rfl ?_
    refine qg ?_
    refine qa ?_
    refine qZ rfl rfl rfl rfl ?_
    refine qd ?_
    refine qc ?_
    refine qg ?_
    refine qz rfl (fun h184 => ?_) (fun h184 => ?_)
    · refine qr ?_
      refine qc ?_
      refine qK (fun (((x169, x170, x171, x174), (a172, c173)) : ((Bool × Int × Int × List Int) × (Option Addr × Nat))) => [(0, .slice a2 x1.length c3.1), (1, .slice a5 x4.length c6), (5, .pointer (some ⟨g10, 0, none⟩)), (6, .pointer (some ⟨g11, 0, none⟩)), (7, .bool x169), (16, .int .i64 (iadd .i64 (imin x7 (x1.length : Int)) 1)), (17, .int .i64 x126)]) (fun (((x169, x170, x171, x174), (a172, c173)) : ((Bool × Int × Int × List Int) × (Option Addr × Nat))) => [⟨g11, 131, [.int .i64 x170, .int .i64 x171, .slice a172 x174.length c173]⟩, ⟨g10, 26, [.int .i64 x7, .int .i64 x8, .int .i64 x9]⟩]) (fun (((x169, x170, x171, x174), (a172, c173)) : ((Bool × Int × Int × List Int) × (Option Addr × Nat))) => [Ro (eI .u8) 5 1 (.slice a172 x174.length c173) x174]) (fun (((x169, x170, x171, x174), (a172, c173)) : ((Bool × Int × Int × List Int) × (Option Addr × Nat))) => [SlN eN37 iN37 1 (.slice a2 x1.length c3.1) x1 c3.2, Sl (eI .i64) 1 (.slice a5 x4.length c6) x4]) (fun (((x169, x170, x171, x174), _) : ((Bool × Int × Int × List Int) × (Option Addr × Nat))) => yq F (kq F x1 x4 x7 x8 x9 k158) x126 x169 x170 x171 x174) ?_ ?_
      · refine qB ?_
        refine qg ?_
        refine qa ?_
        refine qe rfl rfl rfl ?_
        refine qb rfl rfl rfl ?_
        refine qd ?_
        refine qc ?_
        refine qg ?_
        refine qa ?_
        refine qe rfl rfl rfl ?_
        refine qe rfl rfl rfl ?_
        refine qe rfl rfl rfl ?_
        refine ql (i := 1) rfl rfl tf26 rfl rfl (by simp) rfl rfl ?_
        refine qx ent103 rfl rfl rfl (fun x175 e175 => qhi F x1 a2 c3 x4 a5 c6 x126 x7 x8 x9 x175 e175) (.consF 0 rfl (.consF 1 rfl .nil)) (fun x175 e175 => ?_)
        rintro ⟨a176, c177⟩
        refine qe rfl rfl rfl ?_
        refine qv rfl rfl rfl rfl ?_
        refine qv rfl rfl rfl rfl ?_
        refine qR rfl tf131 rfl (fun g178 => ?_)
        refine qu (i := 0) rfl rfl rfl tf131 rfl rfl rfl rfl rfl ?_
        refine qb rfl rfl rfl ?_
        refine qd ?_
        refine qc ?_
        refine qg ?_
        refine qa ?_
        refine qe rfl rfl rfl ?_
        refine qe rfl rfl rfl ?_
        refine vt 12 (fun ((x181, _) : (Bool × Unit)) => [(0, .slice a2 x1.length c3.1), (1, .slice a5 x4.length c6), (5, .pointer (some ⟨g10, 0, none⟩)), (6, .pointer (some ⟨g11, 0, none⟩)), (7, .bool x125), (9, .pointer (some ⟨g178, 0, none⟩)), (16, .int .i64 (iadd .i64 (imin x7 (x1.length : Int)) 1)), (17, .int .i64 x126), (41, .bool x181)]) (fun ((x181, _) : (Bool × Unit)) => [⟨g178, 131, [.int .i64 x175.1, .int .i64 x175.2.1, .slice a176 x175.2.2.1.length c177]⟩, ⟨g11, 131, [.int .i64 x127, .int .i64 x128, .slice a129 x131.length c130]⟩, ⟨g10, 26, [.int .i64 x7, .int .i64 x8, .int .i64 x9]⟩]) (fun ((x181, _) : (Bool × Unit)) => [Ro (eI .u8) 5 1 (.slice a176 x175.2.2.1.length c177) x175.2.2.1, Ro (eI .u8) 5 1 (.slice a129 x131.length c130) x131]) (fun ((x181, _) : (Bool × Unit)) => [SlN eN37 iN37 1 (.slice a2 x1.length c3.1) x1 c3.2, Sl (eI .i64) 1 (.slice a5 x4.length c6) x4]) (fun ((x181, _) : (Bool × Unit)) => jY F (kq F x1 x4 x7 x8 x9 k158) x125 x126 x127 x128 x131 x175 x181) ?_ ?_
        · refine qy (os := _) rfl ?_
          refine qba (fun h179 => ?_) (fun h179 => ?_)
          · refine zA (k := 29) rfl h179 ?_
            refine qe rfl rfl rfl ?_
            refine kw rfl rfl rfl ?_
            refine qe rfl rfl rfl ?_
            refine zS 8 (!x125) [(0, .slice a2 x1.length c3.1), (1, .slice a5 x4.length c6), (5, .pointer (some ⟨g10, 0, none⟩)), (6, .pointer (some ⟨g11, 0, none⟩)), (7, .bool x125), (16, .int .i64 (iadd .i64 (imin x7 (x1.length : Int)) 1)), (17, .int .i64 x126), (9, .pointer (some ⟨g178, 0, none⟩)), (29, .bool true), (30, .bool x125), (31, .bool (!x125)), (32, .bool (!x125)), (40, .bool ((!x125) || (decide (x175.2.1 < x128))))] (fun h183 => ?_) (fun h183 => ?_) ?_
            · refine qy (os := _) rfl ?_
              refine zA (k := 32) rfl h183 ?_
              refine qn rfl rfl rfl ?_
              refine qn rfl rfl rfl ?_
              refine qn rfl rfl rfl ?_
              refine qn rfl rfl rfl ?_
              refine qn rfl rfl rfl ?_
              refine qn rfl rfl rfl ?_
              refine qn rfl rfl rfl ?_
              refine qG (b := true) rfl rfl rfl rfl ?_
              refine qC (d := 40) (v := .bool ((!x125) || (decide (x175.2.1 < x128)))) rfl (by rw [h183]; simp only [Bool.true_or]) ?_
              refine qC (d := 32) (v := .bool (!x125)) rfl (by rw [h183] <;> rfl) ?_
              refine qd ?_
              exact qT (qk rfl (qk rfl (qk rfl (qk rfl (qk rfl (qk rfl (qk rfl (qk rfl (qk rfl (qk rfl (qk rfl (qk rfl (qk rfl zd)))))))))))))
            · refine qy (os := _) rfl ?_
              refine zz (k := 32) rfl h183 ?_
              refine qi rfl rfl qeL rfl ?_
              refine qi rfl rfl ky rfl ?_
              refine ql (i := 0) rfl rfl tf3 rfl rfl (fun _ => rfl) rfl rfl ?_
              refine qi rfl rfl qeL rfl ?_
              refine qi rfl rfl ky rfl ?_
              refine ql (i := 1) rfl rfl tf3 rfl rfl (fun _ => rfl) rfl rfl ?_
              refine qZ rfl rfl rfl rfl ?_
              refine qG (b := false) rfl rfl rfl rfl ?_
              refine qC (d := 40) (v := .bool ((!x125) || (decide (x175.2.1 < x128)))) rfl (by rw [h183]; simp only [Bool.false_or]) ?_
              refine qC (d := 32) (v := .bool (!x125)) rfl (by rw [h183] <;> rfl) ?_
              refine qd ?_
              exact qT (qk rfl (qk rfl (qk rfl (qk rfl (qk rfl (qk rfl (qk rfl (qk rfl (qk rfl (qk rfl (qk rfl (qk rfl (qk rfl zd)))))))))))))
            refine qy (os := _) rfl ?_
            refine qG (b := true) rfl rfl rfl rfl ?_
            refine qd ?_
            exact qm (((!x125) || (decide (x175.2.1 < x128))), ()) (hB := (.cons 0 rfl (.cons 0 rfl (.cons 0 rfl .nil)))) (hR := (.cons 0 rfl (.cons 0 rfl .nil))) (hF := (qo 0 rfl (qo 1 rfl qA)))
          · refine zz (k := 29) rfl h179 ?_
            refine qn rfl rfl rfl ?_
            refine qn rfl rfl rfl ?_
            refine qn rfl rfl rfl ?_
            refine qn rfl rfl rfl ?_
            refine qn rfl rfl rfl ?_
            refine qn rfl rfl rfl ?_
            refine qn rfl rfl rfl ?_
            refine qn rfl rfl rfl ?_
            refine qn rfl rfl rfl ?_
            refine qn rfl rfl rfl ?_
            refine qn rfl rfl rfl ?_
            refine qG (b := false) rfl rfl rfl rfl ?_
            refine qd ?_
            exact qm (false, ()) (hB := (.cons 0 rfl (.cons 0 rfl (.cons 0 rfl .nil)))) (hR := (.cons 0 rfl (.cons 0 rfl .nil))) (hF := (qo 0 rfl (qo 1 rfl qA)))
        · rintro ⟨x181, _⟩
          try dsimp only
          refine qy (os := _) rfl ?_
          refine qd ?_
          refine qc ?_
          refine qz rfl (fun h182 => ?_) (fun h182 => ?_)
          · refine qa ?_
            refine ql (i := 0) rfl rfl tf131 rfl rfl (by simp) rfl rfl ?_
            refine qu (i := 1) rfl rfl rfl tf131 rfl rfl rfl rfl rfl ?_
            refine qb rfl rfl rfl ?_
            refine qd ?_
            refine qU ?_
            exact qm ((true, x175.1, x175.2.1, x175.2.2.1), (a176, c177)) (hB := (.cons 1 rfl (.cons 1 rfl .nil))) (hR := (.cons 0 rfl .nil)) (hF := (qo 0 rfl (qo 1 rfl qA)))
          · refine qr ?_
            refine qU ?_
            exact qm ((x125, x127, x128, x131), (a129, c130)) (hB := (.cons 1 rfl (.cons 1 rfl .nil))) (hR := (.cons 1 rfl .nil)) (hF := (qo 0 rfl (qo 1 rfl qA)))
      · rintro ⟨⟨x169, x170, x171, x174⟩, ⟨a172, c173⟩⟩
        try dsimp only
        refine qa ?_
        refine qL rfl rfl rfl rfl ?_
        refine qe rfl rfl rfl ?_
        refine qd ?_
        exact qW ((x169, iadd .i64 x126 1, x170, x171, x174), (a172, c173)) (hB := (.cons 0 rfl (.cons 0 rfl .nil))) (hR := (.cons 0 rfl .nil)) (hF := (qo 0 rfl (qo 1 rfl qA)))
    · refine zj ?_
      refine qD ?_
      refine qD ?_
      refine zk ?_
      exact qm ((x125, x127, x128, x131), (a129, c130)) (hB := (.cons 0 rfl .nil)) (hR := (.cons 0 rfl .nil))
  · rintro ⟨⟨x96, x97, x98, x101⟩, ⟨a99, c100⟩⟩
    try dsimp only
    refine qg ?_
    refine qa ?_
    refine ql (i := 0) rfl rfl tf131 rfl rfl (by simp) rfl rfl ?_
    refine qe rfl rfl rfl ?_
    refine qu (i := 0) rfl rfl rfl tf131 rfl rfl rfl rfl rfl ?_
    refine qb rfl rfl rfl ?_
    refine qd ?_
    refine qc ?_
    refine qs ?_
    exact qq (a99, c100) (resL (rs := [.cell 6 131, .tmp 7]) rfl (.cell (i := 0) rfl tf131 rfl rfl (by simp) rfl (.tmp rfl ResOk.nil)) rfl) (fun h => by subst h; exact (.cons 0 rfl .nil))
end Go.Proofs.YtpnfijegoepiaaaGreat
