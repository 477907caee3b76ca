/- Each Go function of this seat computes what its model says. -/
import Derived.Test.YtpnfijegoepiaaaGreatRows
import Derived.Test.YtpnfijegoepiaaaGreatModels
import Derived.Test.YtpnfijegoepiaaaGreatShelf
namespace Go.Proofs.YtpnfijegoepiaaaGreat
open Go SX
def eN37 (p : List Int × (Option Addr × Nat)) : List Value := [.slice p.2.1 p.1.length p.2.2]
def iN37 (p : List Int × (Option Addr × Nat)) : List (World → Prop) := [Sl (eI .i64) 1 (.slice p.2.1 p.1.length p.2.2) p.1]
theorem yY : EncOk eN37 1 := ⟨fun _ => rfl, fun _ => rfl⟩
def rN37 (p : List Int × (Option Addr × Nat)) : List RowF := [FoR (eI .i64) 3 1 (.slice p.2.1 p.1.length p.2.2) p.1]
theorem qdc : ∀ p, iN37 p = (rN37 p).map RowF.cells := fun _ => rfl
theorem qoD : ∀ f ∈ rN37 (([] : List Int), ((none, 0) : Option Addr × Nat)), f.v = .slice none 0 0 ∧ f.n = 0 ∧ f.cs = [] := by simp [rN37, FoR]
def eS141 (p : (Int × Int)) : List Value := [.int .i64 p.1, .int .i64 p.2]
theorem qbD : EncOk eS141 2 := ⟨fun _ => rfl, fun _ => rfl⟩
theorem tf3 : TyF Tryz.prog 3 false (.int .i64 0) 1 8 := .of (by kernel_rfl) (by kernel_rfl)
theorem tf4 : TyF Tryz.prog 4 false (.bool false) 1 1 := .of (by kernel_rfl) (by kernel_rfl)
theorem tf5 : TyF Tryz.prog 5 false (.int .u8 0) 1 1 := .of (by kernel_rfl) (by kernel_rfl)
theorem tf22 : TyF Tryz.prog 22 false (.slice none 0 0) 1 24 := .of (by kernel_rfl) (by kernel_rfl)
theorem tf24 : TyF Tryz.prog 24 true (.agg #[.slice none 0 0]) 1 24 := .of (by kernel_rfl) (by kernel_rfl)
theorem tf26 : TyF Tryz.prog 26 true (.agg #[.int .i64 0, .int .i64 0, .int .i64 0]) 3 24 := .of (by kernel_rfl) (by kernel_rfl)
theorem tf27 : TyF Tryz.prog 27 false (.slice none 0 0) 1 24 := .of (by kernel_rfl) (by kernel_rfl)
theorem tf29 : TyF Tryz.prog 29 true (.agg #[.int .i64 0, .slice none 0 0]) 2 32 := .of (by kernel_rfl) (by kernel_rfl)
theorem tf31 : TyF Tryz.prog 31 true (.agg #[.int .i64 0, .int .i64 0, .int .i64 0, .int .i64 0, .int .i64 0, .slice none 0 0]) 6 64 := .of (by kernel_rfl) (by kernel_rfl)
theorem tf37 : TyF Tryz.prog 37 false (.slice none 0 0) 1 24 := .of (by kernel_rfl) (by kernel_rfl)
theorem tf50 : TyF Tryz.prog 50 false (.int .u64 0) 1 8 := .of (by kernel_rfl) (by kernel_rfl)
theorem tf92 : TyF Tryz.prog 92 false (.pointer none) 1 8 := .of (by kernel_rfl) (by kernel_rfl)
theorem tf117 : TyF Tryz.prog 117 false (.slice none 0 0) 1 24 := .of (by kernel_rfl) (by kernel_rfl)
theorem tf131 : TyF Tryz.prog 131 true (.agg #[.int .i64 0, .int .i64 0, .slice none 0 0]) 3 40 := .of (by kernel_rfl) (by kernel_rfl)
theorem tf141 : TyF Tryz.prog 141 true (.agg #[.int .i64 0, .int .i64 0]) 2 16 := .of (by kernel_rfl) (by kernel_rfl)
theorem tf168 : TyF Tryz.prog 168 true (.agg #[]) 0 0 := .of (by kernel_rfl) (by kernel_rfl)
theorem qc0 : FdF Tryz.prog 24 0 0 := .of (by kernel_rfl)
theorem qa7 : FdF Tryz.prog 26 0 0 := .of (by kernel_rfl)
theorem qdt : FdF Tryz.prog 26 1 1 := .of (by kernel_rfl)
theorem qhz : FdF Tryz.prog 26 2 2 := .of (by kernel_rfl)
theorem zX : FdF Tryz.prog 29 0 0 := .of (by kernel_rfl)
theorem qbK : FdF Tryz.prog 29 1 1 := .of (by kernel_rfl)
theorem qe1 : FdF Tryz.prog 31 0 0 := .of (by kernel_rfl)
theorem qc1 : FdF Tryz.prog 31 1 1 := .of (by kernel_rfl)
theorem qbL : FdF Tryz.prog 31 2 4 := .of (by kernel_rfl)
theorem qe2 : FdF Tryz.prog 66 0 0 := .of (by kernel_rfl)
theorem qfY : FdF Tryz.prog 66 1 6 := .of (by kernel_rfl)
theorem qfZ : FdF Tryz.prog 66 2 7 := .of (by kernel_rfl)
theorem qeg : FdF Tryz.prog 90 0 0 := .of (by kernel_rfl)
theorem qcE : FdF Tryz.prog 90 1 2 := .of (by kernel_rfl)
theorem qb9 : FdF Tryz.prog 94 0 0 := .of (by kernel_rfl)
theorem qmQ : FdF Tryz.prog 131 0 0 := .of (by kernel_rfl)
theorem qfC : FdF Tryz.prog 131 1 1 := .of (by kernel_rfl)
theorem qhx : FdF Tryz.prog 137 0 0 := .of (by kernel_rfl)
theorem qcZ : FdF Tryz.prog 137 1 2 := .of (by kernel_rfl)
theorem qbQ : FdF Tryz.prog 141 0 0 := .of (by kernel_rfl)
theorem qbR : FdF Tryz.prog 141 1 1 := .of (by kernel_rfl)
theorem qhy : FdF Tryz.prog 153 0 0 := .of (by kernel_rfl)
theorem qjT : FdF Tryz.prog 153 1 1 := .of (by kernel_rfl)
theorem qfD : FdF Tryz.prog 153 2 2 := .of (by kernel_rfl)
theorem qbS : FdF Tryz.prog 162 0 0 := .of (by kernel_rfl)
theorem qfE : FdF Tryz.prog 162 1 1 := .of (by kernel_rfl)
theorem st24 : StF Tryz.prog 24 [(0, 1)] (.agg #[.slice none 0 0]) := .of (by kernel_rfl) (by kernel_rfl)
theorem st26 : StF Tryz.prog 26 [(0, 1), (1, 1), (2, 1)] (.agg #[.int .i64 0, .int .i64 0, .int .i64 0]) := .of (by kernel_rfl) (by kernel_rfl)
theorem st29 : StF Tryz.prog 29 [(0, 1), (1, 1)] (.agg #[.int .i64 0, .slice none 0 0]) := .of (by kernel_rfl) (by kernel_rfl)
theorem st31 : StF Tryz.prog 31 [(0, 1), (1, 3), (4, 2)] (.agg #[.int .i64 0, .int .i64 0, .int .i64 0, .int .i64 0, .int .i64 0, .slice none 0 0]) := .of (by kernel_rfl) (by kernel_rfl)
theorem st66 : StF Tryz.prog 66 [(0, 6), (6, 1), (7, 1)] (.agg #[.int .i64 0, .int .i64 0, .int .i64 0, .int .i64 0, .int .i64 0, .slice none 0 0, .slice none 0 0, .slice none 0 0]) := .of (by kernel_rfl) (by kernel_rfl)
theorem st90 : StF Tryz.prog 90 [(0, 2), (2, 1)] (.agg #[.int .i64 0, .slice none 0 0, .bool false]) := .of (by kernel_rfl) (by kernel_rfl)
theorem st94 : StF Tryz.prog 94 [(0, 2)] (.agg #[.int .i64 0, .slice none 0 0]) := .of (by kernel_rfl) (by kernel_rfl)
theorem st131 : StF Tryz.prog 131 [(0, 1), (1, 2)] (.agg #[.int .i64 0, .int .i64 0, .slice none 0 0]) := .of (by kernel_rfl) (by kernel_rfl)
theorem st137 : StF Tryz.prog 137 [(0, 2), (2, 1)] (.agg #[.int .i64 0, .slice none 0 0, .int .i64 0]) := .of (by kernel_rfl) (by kernel_rfl)
theorem st141 : StF Tryz.prog 141 [(0, 1), (1, 1)] (.agg #[.int .i64 0, .int .i64 0]) := .of (by kernel_rfl) (by kernel_rfl)
theorem st153 : StF Tryz.prog 153 [(0, 1), (1, 1), (2, 1)] (.agg #[.slice none 0 0, .bool false, .int .i64 0]) := .of (by kernel_rfl) (by kernel_rfl)
theorem st162 : StF Tryz.prog 162 [(0, 1), (1, 1)] (.agg #[.int .i64 0, .bool false]) := .of (by kernel_rfl) (by kernel_rfl)
theorem st168 : StF Tryz.prog 168 [] (.agg #[]) := .of (by kernel_rfl) (by kernel_rfl)
theorem se26 : StE3 Tryz.prog 26 .i64 .i64 .i64 := ⟨_, _, _, Tryz.underlying26, by kernel_rfl, by kernel_rfl, by decide, by decide, by decide, rfl, rfl, rfl, Tryz.underlying3, Tryz.underlying3, Tryz.underlying3⟩
theorem mixed : Tryz.prog.follows .mixedOrders = true := by kernel_rfl
theorem ent9 : Enters Tryz.prog 9 := qB Tryz.func9 rfl rfl
theorem ent10 : Enters Tryz.prog 10 := qB Tryz.func10 rfl rfl
theorem ent11 : Enters Tryz.prog 11 := qB Tryz.func11 rfl rfl
theorem ent15 : Enters Tryz.prog 15 := qB Tryz.func15 rfl rfl
theorem ent17 : Enters Tryz.prog 17 := qB Tryz.func17 rfl rfl
theorem ent18 : Enters Tryz.prog 18 := qB Tryz.func18 rfl rfl
theorem ent21 : Enters Tryz.prog 21 := qB Tryz.func21 rfl rfl
theorem ent22 : Enters Tryz.prog 22 := qB Tryz.func22 rfl rfl
theorem ent24 : Enters Tryz.prog 24 := qB Tryz.func24 rfl rfl
theorem ent25 : Enters Tryz.prog 25 := qB Tryz.func25 rfl rfl
theorem ent26 : Enters Tryz.prog 26 := qB Tryz.func26 rfl rfl
theorem ent27 : Enters Tryz.prog 27 := qB Tryz.func27 rfl rfl
theorem ent28 : Enters Tryz.prog 28 := qB Tryz.func28 rfl rfl
theorem ent29 : Enters Tryz.prog 29 := qB Tryz.func29 rfl rfl
theorem ent30 : Enters Tryz.prog 30 := qB Tryz.func30 rfl rfl
theorem ent31 : Enters Tryz.prog 31 := qB Tryz.func31 rfl rfl
theorem ent38 : Enters Tryz.prog 38 := qB Tryz.func38 rfl rfl
theorem ent39 : Enters Tryz.prog 39 := qB Tryz.func39 rfl rfl
theorem ent42 : Enters Tryz.prog 42 := qB Tryz.func42 rfl rfl
theorem ent43 : Enters Tryz.prog 43 := qB Tryz.func43 rfl rfl
theorem ent44 : Enters Tryz.prog 44 := qB Tryz.func44 rfl rfl
theorem ent45 : Enters Tryz.prog 45 := qB Tryz.func45 rfl rfl
theorem ent46 : Enters Tryz.prog 46 := qB Tryz.func46 rfl rfl
theorem ent47 : Enters Tryz.prog 47 := qB Tryz.func47 rfl rfl
theorem ent48 : Enters Tryz.prog 48 := qB Tryz.func48 rfl rfl
theorem ent49 : Enters Tryz.prog 49 := qB Tryz.func49 rfl rfl
theorem ent50 : Enters Tryz.prog 50 := qB Tryz.func50 rfl rfl
theorem ent51 : Enters Tryz.prog 51 := qB Tryz.func51 rfl rfl
theorem ent52 : Enters Tryz.prog 52 := qB Tryz.func52 rfl rfl
theorem ent53 : Enters Tryz.prog 53 := qB Tryz.func53 rfl rfl
theorem ent54 : Enters Tryz.prog 54 := qB Tryz.func54 rfl rfl
theorem ent55 : Enters Tryz.prog 55 := qB Tryz.func55 rfl rfl
theorem ent56 : Enters Tryz.prog 56 := qB Tryz.func56 rfl rfl
theorem ent57 : Enters Tryz.prog 57 := qB Tryz.func57 rfl rfl
theorem ent66 : Enters Tryz.prog 66 := qB Tryz.func66 rfl rfl
theorem ent67 : Enters Tryz.prog 67 := qB Tryz.func67 rfl rfl
theorem ent68 : Enters Tryz.prog 68 := qB Tryz.func68 rfl rfl
theorem ent69 : Enters Tryz.prog 69 := qB Tryz.func69 rfl rfl
theorem ent70 : Enters Tryz.prog 70 := qB Tryz.func70 rfl rfl
theorem ent71 : Enters Tryz.prog 71 := qB Tryz.func71 rfl rfl
theorem ent72 : Enters Tryz.prog 72 := qB Tryz.func72 rfl rfl
theorem ent73 : Enters Tryz.prog 73 := qB Tryz.func73 rfl rfl
theorem ent74 : Enters Tryz.prog 74 := qB Tryz.func74 rfl rfl
theorem ent75 : Enters Tryz.prog 75 := qB Tryz.func75 rfl rfl
theorem ent76 : Enters Tryz.prog 76 := qB Tryz.func76 rfl rfl
theorem ent77 : Enters Tryz.prog 77 := qB Tryz.func77 rfl rfl
theorem ent78 : Enters Tryz.prog 78 := qB Tryz.func78 rfl rfl
theorem ent79 : Enters Tryz.prog 79 := qB Tryz.func79 rfl rfl
theorem ent80 : Enters Tryz.prog 80 := qB Tryz.func80 rfl rfl
theorem ent81 : Enters Tryz.prog 81 := qB Tryz.func81 rfl rfl
theorem ent82 : Enters Tryz.prog 82 := qB Tryz.func82 rfl rfl
theorem ent83 : Enters Tryz.prog 83 := qB Tryz.func83 rfl rfl
theorem ent94 : Enters Tryz.prog 94 := qB Tryz.func94 rfl rfl
theorem ent95 : Enters Tryz.prog 95 := qB Tryz.func95 rfl rfl
theorem ent96 : Enters Tryz.prog 96 := qB Tryz.func96 rfl rfl
theorem ent97 : Enters Tryz.prog 97 := qB Tryz.func97 rfl rfl
theorem ent98 : Enters Tryz.prog 98 := qB Tryz.func98 rfl rfl
theorem ent99 : Enters Tryz.prog 99 := qB Tryz.func99 rfl rfl
theorem ent100 : Enters Tryz.prog 100 := qB Tryz.func100 rfl rfl
theorem ent101 : Enters Tryz.prog 101 := qB Tryz.func101 rfl rfl
theorem ent102 : Enters Tryz.prog 102 := qB Tryz.func102 rfl rfl
theorem ent103 : Enters Tryz.prog 103 := qB Tryz.func103 rfl rfl
theorem ent104 : Enters Tryz.prog 104 := qB Tryz.func104 rfl rfl
theorem ent105 : Enters Tryz.prog 105 := qB Tryz.func105 rfl rfl
theorem ent106 : Enters Tryz.prog 106 := qB Tryz.func106 rfl rfl
theorem ent107 : Enters Tryz.prog 107 := qB Tryz.func107 rfl rfl
theorem ent108 : Enters Tryz.prog 108 := qB Tryz.func108 rfl rfl
theorem ent112 : Enters Tryz.prog 112 := qB Tryz.func112 rfl rfl
theorem ent113 : Enters Tryz.prog 113 := qB Tryz.func113 rfl rfl
theorem ent114 : Enters Tryz.prog 114 := qB Tryz.func114 rfl rfl
theorem ent115 : Enters Tryz.prog 115 := qB Tryz.func115 rfl rfl
theorem ent116 : Enters Tryz.prog 116 := qB Tryz.func116 rfl rfl
theorem ent117 : Enters Tryz.prog 117 := qB Tryz.func117 rfl rfl
theorem ent118 : Enters Tryz.prog 118 := qB Tryz.func118 rfl rfl
theorem ent119 : Enters Tryz.prog 119 := qB Tryz.func119 rfl rfl
theorem ent120 : Enters Tryz.prog 120 := qB Tryz.func120 rfl rfl
theorem ent121 : Enters Tryz.prog 121 := qB Tryz.func121 rfl rfl
theorem ent122 : Enters Tryz.prog 122 := qB Tryz.func122 rfl rfl
theorem ent123 : Enters Tryz.prog 123 := qB Tryz.func123 rfl rfl
theorem ent124 : Enters Tryz.prog 124 := qB Tryz.func124 rfl rfl
theorem ent125 : Enters Tryz.prog 125 := qB Tryz.func125 rfl rfl
theorem ent126 : Enters Tryz.prog 126 := qB Tryz.func126 rfl rfl
theorem ent127 : Enters Tryz.prog 127 := qB Tryz.func127 rfl rfl
theorem ent128 : Enters Tryz.prog 128 := qB Tryz.func128 rfl rfl
theorem ent133 : Enters Tryz.prog 133 := qB Tryz.func133 rfl rfl
theorem ent134 : Enters Tryz.prog 134 := qB Tryz.func134 rfl rfl
theorem ent135 : Enters Tryz.prog 135 := qB Tryz.func135 rfl rfl
theorem ent136 : Enters Tryz.prog 136 := qB Tryz.func136 rfl rfl
theorem ent137 : Enters Tryz.prog 137 := qB Tryz.func137 rfl rfl
theorem ent138 : Enters Tryz.prog 138 := qB Tryz.func138 rfl rfl
theorem ent139 : Enters Tryz.prog 139 := qB Tryz.func139 rfl rfl
theorem ent140 : Enters Tryz.prog 140 := qB Tryz.func140 rfl rfl
theorem ent141 : Enters Tryz.prog 141 := qB Tryz.func141 rfl rfl
theorem ent142 : Enters Tryz.prog 142 := qB Tryz.func142 rfl rfl
theorem ent143 : Enters Tryz.prog 143 := qB Tryz.func143 rfl rfl
theorem ent144 : Enters Tryz.prog 144 := qB Tryz.func144 rfl rfl
theorem ent148 : Enters Tryz.prog 148 := qB Tryz.func148 rfl rfl
theorem ent149 : Enters Tryz.prog 149 := qB Tryz.func149 rfl rfl
theorem ent150 : Enters Tryz.prog 150 := qB Tryz.func150 rfl rfl
theorem qm4 (v : Value) (w : World) : (Instr.makeInterface 168 v).run Tryz.prog w = .ok (.iface 168 v) w := by simp [Instr.makeInterface, run_underlying Tryz.underlying168]
abbrev lostCh : List PanicEntry := [{ v := .iface 168 (.agg #[]), recovered := false }]
theorem qmZ (p q : Addr) : qgU Tryz.prog 106 #[.pointer (some p), .pointer (some q)] := by
  intro w
  refine callsD_of_wpS Tryz.func106 rfl fun c₀ cs hu => ?_
  apply wpS_seq
  apply wpS_region
  simp [wpOpsS, go_sem, recoverD, hu, Tryz.ntmps106, Exit.thenS]
  refine wpS_of_wp ?_
  go_wp2
  cases c₀
  simp_all [bodyPostS, results, Tryz.results106]
theorem qkH (w : World) : (Instr.typeAssert (.iface 168 (.agg #[])) 20 168 true).run Tryz.prog w = .ok (.tuple #[.agg #[], .bool true]) w := by
  simp [Instr.typeAssert, run_underlying Tryz.underlying168]
theorem eqn106 (x y : Operand) (w : World) : (do eqGuard .eql 20 x y (.iface 168 (.agg #[])) .nilIface; binOp .eql 20 (.iface 168 (.agg #[])) .nilIface : Sem Value).run Tryz.prog w = .ok (.bool false) w := by
  simp [go_sem]
set_option maxRecDepth 100000 in
theorem qeF (g1 g2 : Nat) (v1 v2 : Value) : qgV Tryz.prog 106 #[.pointer (some ⟨g1, 0, none⟩), .pointer (some ⟨g2, 0, none⟩)] 168 (.agg #[]) [⟨g1, 37, [v1]⟩, ⟨g2, 4, [v2]⟩] [⟨g1, 37, [.slice none 0 0]⟩, ⟨g2, 4, [.bool false]⟩] := by
  intro w hp
  refine callsD_of_wpS Tryz.func106 rfl fun c₀ cs hu => ?_
  apply wpS_seq
  apply wpS_region
  simp [wpOpsS, go_sem, recoverD, hu, Tryz.ntmps106, Exit.thenS]
  refine wpS_of_wp (qdu.1 ?_)
  refine (show SXC Tryz.prog none 11 [] (muts [⟨g1, 37, [v1]⟩, ⟨g2, 4, [v2]⟩] []) w _ _ [(0, .pointer (some ⟨g1, 0, none⟩)), (1, .pointer (some ⟨g2, 0, none⟩)), (5, .iface 168 (.agg #[]))] [⟨g1, 37, [v1]⟩, ⟨g2, 4, [v2]⟩] [] [] (some ()) () from ?_) rfl _ _ ⟨rfl, by simp, fun i v hv => ?_⟩ hp
  · refine qD ?_
    refine qf ?_
    refine qa ?_
    refine qiT rfl rfl rfl (eqn106 _ _) rfl ?_
    refine qc ?_
    refine qe ?_
    refine qaY (b := false) rfl (fun h => by cases h) (fun _ => ?_)
    refine qf ?_
    refine qa ?_
    refine qhU rfl rfl qkH rfl ?_
    refine qr rfl rfl rfl rfl ?_
    refine qr rfl rfl rfl rfl ?_
    refine qc ?_
    refine qe ?_
    refine qaY (b := true) rfl (fun _ => ?_) (fun h => by cases h)
    refine qf ?_
    refine qa ?_
    refine qM rfl tf168 rfl (fun g => ?_)
    refine qu (i := 0) rfl rfl rfl tf168 rfl rfl rfl rfl rfl ?_
    refine qc ?_
    refine qe ?_
    refine qa ?_
    refine qu (i := 1) rfl rfl rfl tf37 rfl rfl rfl rfl rfl ?_
    refine qu (i := 2) rfl rfl rfl tf4 rfl rfl rfl rfl rfl ?_
    refine qc ?_
    refine qU ?_
    intro _ a w' hf hp'
    exact ⟨hf.defers, _, rfl, _, results_none rfl _ _ _, rfl, rfl, hp'.pick (.cons 1 rfl (.cons 1 rfl .nil)) .nil (by simp)⟩
  · simp only [vG] at hv
    split at hv
    · rename_i h; subst h; simpa using hv
    · split at hv
      · rename_i h; subst h; simpa using hv
      · split at hv
        · rename_i h; subst h; simpa using hv
        · cases hv
theorem qaF (F : Nat) (x1 : Int) (x2 : Int) (x3 : Int) (r : Int) (hm : vp F x1 x2 x3 = some r) :
    Pure Tryz.prog 43 [.agg #[.int .i64 x1, .int .i64 x2, .int .i64 x3]] [] Unit (fun _ => .int .i64 r) (fun _ => []) (fun _ => []) := by
 refine qT Tryz.func43 rfl Tryz.ntmps43 rfl hm (fun w => qG (l' := [(0, .agg #[.int .i64 x1, .int .i64 x2, .int .i64 x3])]) rfl (qf (qa (qW rfl rfl rfl (fun g4 => qb rfl rfl rfl (qc (qe (qf (qf (qa (qj rfl rfl qa7 rfl (qk (i := 0) rfl rfl tf3 rfl rfl (fun _ => rfl) rfl rfl ?_))))))))))))
 refine qZ rfl rfl rfl rfl (qd rfl rfl rfl (q8 4 (decide (x1 < 0)) [(1, .pointer (some ⟨g4, 0, none⟩)), (10, .bool ((decide (x1 < 0)) || (decide (7 < x1))))] (fun h12 => ?_) (fun h12 => ?_) ?_))
 exact qp (os := _) rfl (qR (k := 6) rfl h12 (qi rfl rfl rfl (qi rfl rfl rfl (qi rfl rfl rfl (qw (b := true) rfl rfl rfl rfl (qx (d := 10) (v := .bool ((decide (x1 < 0)) || (decide (7 < x1)))) rfl (by rw [h12]; simp only [Bool.true_or]) (qc (qE (qh rfl (qh rfl qO))))))))))
 exact qp (os := _) rfl (qQ (k := 6) rfl h12 (qj rfl rfl qa7 rfl (qk (i := 0) rfl rfl tf3 rfl rfl (fun _ => rfl) rfl rfl (zr rfl rfl rfl rfl (qw (b := false) rfl rfl rfl rfl (qx (d := 10) (v := .bool ((decide (x1 < 0)) || (decide (7 < x1)))) rfl (by rw [h12]; simp only [Bool.false_or]) (qc (qE (qh rfl (qh rfl qO))))))))))
 refine qp (os := _) rfl (qd rfl rfl rfl (q8 4 ((decide (x1 < 0)) || (decide (7 < x1))) [(1, .pointer (some ⟨g4, 0, none⟩)), (15, .bool (((decide (x1 < 0)) || (decide (7 < x1))) || (decide (x2 < 0))))] (fun h13 => ?_) (fun h13 => ?_) ?_))
 exact qp (os := _) rfl (qR (k := 11) rfl h13 (qi rfl rfl rfl (qi rfl rfl rfl (qi rfl rfl rfl (qw (b := true) rfl rfl rfl rfl (qx (d := 15) (v := .bool (((decide (x1 < 0)) || (decide (7 < x1))) || (decide (x2 < 0)))) rfl (by rw [h13]; simp only [Bool.true_or]) (qc (qE (qh rfl (qh rfl qO))))))))))
 exact qp (os := _) rfl (qQ (k := 11) rfl h13 (qj rfl rfl qdt rfl (qk (i := 0) rfl rfl tf3 rfl rfl (fun _ => rfl) rfl rfl (qZ rfl rfl rfl rfl (qw (b := false) rfl rfl rfl rfl (qx (d := 15) (v := .bool (((decide (x1 < 0)) || (decide (7 < x1))) || (decide (x2 < 0)))) rfl (by rw [h13]; simp only [Bool.false_or]) (qc (qE (qh rfl (qh rfl qO))))))))))
 refine qp (os := _) rfl (qd rfl rfl rfl (q8 4 (((decide (x1 < 0)) || (decide (7 < x1))) || (decide (x2 < 0))) [(1, .pointer (some ⟨g4, 0, none⟩)), (20, .bool ((((decide (x1 < 0)) || (decide (7 < x1))) || (decide (x2 < 0))) || ((x2 : Int) == 1)))] (fun h14 => ?_) (fun h14 => ?_) ?_))
 exact qp (os := _) rfl (qR (k := 16) rfl h14 (qi rfl rfl rfl (qi rfl rfl rfl (qi rfl rfl rfl (qw (b := true) rfl rfl rfl rfl (qx (d := 20) (v := .bool ((((decide (x1 < 0)) || (decide (7 < x1))) || (decide (x2 < 0))) || ((x2 : Int) == 1))) rfl (by rw [h14]; simp only [Bool.true_or]) (qc (qE (qh rfl (qh rfl qO))))))))))
 exact qp (os := _) rfl (qQ (k := 16) rfl h14 (qj rfl rfl qdt rfl (qk (i := 0) rfl rfl tf3 rfl rfl (fun _ => rfl) rfl rfl (zj rfl rfl rfl rfl (qw (b := false) rfl rfl rfl rfl (qx (d := 20) (v := .bool ((((decide (x1 < 0)) || (decide (7 < x1))) || (decide (x2 < 0))) || ((x2 : Int) == 1))) rfl (by rw [h14]; simp only [Bool.false_or]) (qc (qE (qh rfl (qh rfl qO))))))))))
 refine qp (os := _) rfl (qd rfl rfl rfl (q8 4 ((((decide (x1 < 0)) || (decide (7 < x1))) || (decide (x2 < 0))) || ((x2 : Int) == 1)) [(1, .pointer (some ⟨g4, 0, none⟩)), (25, .bool (((((decide (x1 < 0)) || (decide (7 < x1))) || (decide (x2 < 0))) || ((x2 : Int) == 1)) || (decide (300 < x2))))] (fun h15 => ?_) (fun h15 => ?_) ?_))
 exact qp (os := _) rfl (qR (k := 21) rfl h15 (qi rfl rfl rfl (qi rfl rfl rfl (qi rfl rfl rfl (qw (b := true) rfl rfl rfl rfl (qx (d := 25) (v := .bool (((((decide (x1 < 0)) || (decide (7 < x1))) || (decide (x2 < 0))) || ((x2 : Int) == 1)) || (decide (300 < x2)))) rfl (by rw [h15]; simp only [Bool.true_or]) (qc (qE (qh rfl (qh rfl qO))))))))))
 exact qp (os := _) rfl (qQ (k := 21) rfl h15 (qj rfl rfl qdt rfl (qk (i := 0) rfl rfl tf3 rfl rfl (fun _ => rfl) rfl rfl (zr rfl rfl rfl rfl (qw (b := false) rfl rfl rfl rfl (qx (d := 25) (v := .bool (((((decide (x1 < 0)) || (decide (7 < x1))) || (decide (x2 < 0))) || ((x2 : Int) == 1)) || (decide (300 < x2)))) rfl (by rw [h15]; simp only [Bool.false_or]) (qc (qE (qh rfl (qh rfl qO))))))))))
 refine qp (os := _) rfl (qd rfl rfl rfl (q8 4 (((((decide (x1 < 0)) || (decide (7 < x1))) || (decide (x2 < 0))) || ((x2 : Int) == 1)) || (decide (300 < x2))) [(1, .pointer (some ⟨g4, 0, none⟩)), (30, .bool ((((((decide (x1 < 0)) || (decide (7 < x1))) || (decide (x2 < 0))) || ((x2 : Int) == 1)) || (decide (300 < x2))) || (decide (x3 < 1))))] (fun h16 => ?_) (fun h16 => ?_) ?_))
 exact qp (os := _) rfl (qR (k := 26) rfl h16 (qi rfl rfl rfl (qi rfl rfl rfl (qi rfl rfl rfl (qw (b := true) rfl rfl rfl rfl (qx (d := 30) (v := .bool ((((((decide (x1 < 0)) || (decide (7 < x1))) || (decide (x2 < 0))) || ((x2 : Int) == 1)) || (decide (300 < x2))) || (decide (x3 < 1)))) rfl (by rw [h16]; simp only [Bool.true_or]) (qc (qE (qh rfl (qh rfl qO))))))))))
 exact qp (os := _) rfl (qQ (k := 26) rfl h16 (qj rfl rfl qhz rfl (qk (i := 0) rfl rfl tf3 rfl rfl (fun _ => rfl) rfl rfl (qZ rfl rfl rfl rfl (qw (b := false) rfl rfl rfl rfl (qx (d := 30) (v := .bool ((((((decide (x1 < 0)) || (decide (7 < x1))) || (decide (x2 < 0))) || ((x2 : Int) == 1)) || (decide (300 < x2))) || (decide (x3 < 1)))) rfl (by rw [h16]; simp only [Bool.false_or]) (qc (qE (qh rfl (qh rfl qO))))))))))
 refine qp (os := _) rfl (qd rfl rfl rfl (q8 4 ((((((decide (x1 < 0)) || (decide (7 < x1))) || (decide (x2 < 0))) || ((x2 : Int) == 1)) || (decide (300 < x2))) || (decide (x3 < 1))) [(35, .bool (((((((decide (x1 < 0)) || (decide (7 < x1))) || (decide (x2 < 0))) || ((x2 : Int) == 1)) || (decide (300 < x2))) || (decide (x3 < 1))) || (decide (16 < x3))))] (fun h17 => ?_) (fun h17 => ?_) ?_))
 exact qp (os := _) rfl (qR (k := 31) rfl h17 (qi rfl rfl rfl (qi rfl rfl rfl (qi rfl rfl rfl (qw (b := true) rfl rfl rfl rfl (qx (d := 35) (v := .bool (((((((decide (x1 < 0)) || (decide (7 < x1))) || (decide (x2 < 0))) || ((x2 : Int) == 1)) || (decide (300 < x2))) || (decide (x3 < 1))) || (decide (16 < x3)))) rfl (by rw [h17]; simp only [Bool.true_or]) (qc (qE (qh rfl qO)))))))))
 exact qp (os := _) rfl (qQ (k := 31) rfl h17 (qj rfl rfl qhz rfl (qk (i := 0) rfl rfl tf3 rfl rfl (fun _ => rfl) rfl rfl (zr rfl rfl rfl rfl (qw (b := false) rfl rfl rfl rfl (qx (d := 35) (v := .bool (((((((decide (x1 < 0)) || (decide (7 < x1))) || (decide (x2 < 0))) || ((x2 : Int) == 1)) || (decide (300 < x2))) || (decide (x3 < 1))) || (decide (16 < x3)))) rfl (by rw [h17]; simp only [Bool.false_or]) (qc (qE (qh rfl qO)))))))))
 refine qp (os := _) rfl (qc (qe (qC rfl (fun h18 => ?_) (fun h18 => ?_))))
 exact qf (qa (qb rfl rfl rfl (qc (qe (qv (qq (qs () (res1 rfl rfl))))))))
 exact qt (qe (qf (qa (qb rfl rfl rfl (qc (qe (qv (qs () (res1 rfl rfl)))))))))
set_option maxHeartbeats 4000000 in
theorem qgI (F : Nat) (x1 : List (List Int)) (a2 : Option Addr) (c3 : (Nat × List (Option Addr × Nat))) (r : Int) (hm : qbp F x1 = some r) :
    Pure Tryz.prog 54 [.agg #[.slice a2 x1.length c3.1]] [SlN eN37 iN37 1 (.slice a2 x1.length c3.1) x1 c3.2] Unit (fun _ => .int .i64 r) (fun _ => []) (fun _ => []) := by
 refine qT Tryz.func54 rfl Tryz.ntmps54 rfl hm (fun w => qG (l' := [(0, .agg #[.slice a2 x1.length c3.1])]) rfl (qf (qa (qW rfl rfl rfl (fun g4 => qb rfl rfl rfl (qc (qe (qf (qa (qj rfl rfl qc0 rfl (qk (i := 0) rfl rfl tf22 rfl rfl (fun _ => rfl) rfl rfl (q3 rfl Tryz.underlying22 rfl rfl ?_))))))))))))
 refine qb rfl rfl rfl (qc (qe (qf (qf (qa (qd rfl rfl rfl (zr rfl rfl rfl rfl (qc (qe (qC rfl (fun h1593 => ?_) (fun h1593 => ?_)))))))))))
 exact qf (qa (qb rfl rfl rfl (qc (qe (qv (qq (qs () (res1 rfl rfl))))))))
 refine qt (qe (qf (qa (qb rfl rfl rfl (qc (qe (qH (fun ((x798, _) : (Int × Unit)) => [(4, .int .i64 x798)]) (fun ((x798, _) : (Int × Unit)) => []) (fun ((x798, _) : (Int × Unit)) => []) (fun ((x798, _) : (Int × Unit)) => []) (fun ((x798, _) : (Int × Unit)) => qaL F x798) ?_ ?_)))))))
 refine qf (qa (qj rfl rfl qc0 rfl (qk (i := 0) rfl rfl tf22 rfl rfl (fun _ => rfl) rfl rfl (q3 rfl Tryz.underlying22 rfl rfl (qd rfl rfl rfl (qc (qe (qD (zi (fun (((x1064, x1065), _) : ((Int × Int) × Unit)) => [(3, .int .i64 (x1.length : Int)), (4, .int .i64 x1064), (16, .slice a2 x1.length c3.1), (17, .int .i64 (x1.length : Int)), (18, .int .i64 x1065)]) (fun (((x1064, x1065), _) : ((Int × Int) × Unit)) => []) (fun (((x1064, x1065), _) : ((Int × Int) × Unit)) => []) (fun (((x1064, x1065), _) : ((Int × Int) × Unit)) => [SlN eN37 iN37 1 (.slice a2 x1.length c3.1) x1 c3.2]) (fun k (s : ((Int × Int) × Unit)) => zE F x1 k s.1) ((0, 0), ()) F ?_ (hF := (qo 0 rfl qA)))))))))))
 intro k1329
 rintro ⟨⟨x1064, x1065⟩, _⟩
 try dsimp only
 refine zF (m' := jw F x1 (zE F x1 k1329) x1064 x1065) rfl (qf (qa (qZ rfl rfl rfl rfl (qc (qe (qf (qC rfl (fun h1592 => ?_) (fun h1592 => ?_))))))))
 refine qt (qe (qH (fun ((x1461, _) : (Int × Unit)) => [(3, .int .i64 (x1.length : Int)), (4, .int .i64 x1461), (16, .slice a2 x1.length c3.1), (17, .int .i64 (x1.length : Int)), (18, .int .i64 x1065)]) (fun ((x1461, _) : (Int × Unit)) => []) (fun ((x1461, _) : (Int × Unit)) => []) (fun ((x1461, _) : (Int × Unit)) => [SlN eN37 iN37 1 (.slice a2 x1.length c3.1) x1 c3.2]) (fun ((x1461, _) : (Int × Unit)) => qaM F (zE F x1 k1329) x1065 x1461) ?_ ?_))
 refine qD (qf (qa (qce (j := 0) yY (by decide) rfl Tryz.underlying22 tf37 rfl rfl rfl rfl (fun x1462 e1462 g1465 b1463 o1464 => kb (j := 0) rfl rfl tf37 rfl rfl (fun _ => rfl) rfl rfl (qb rfl rfl rfl (qc (qe (qf (qa (qb rfl rfl rfl (qc (qe ?_))))))))))))
 refine qH (fun ((_, _) : (Unit × Unit)) => [(3, .int .i64 (x1.length : Int)), (4, .int .i64 x1064), (6, .slice g1465.1 x1462.length g1465.2), (16, .slice a2 x1.length c3.1), (17, .int .i64 (x1.length : Int)), (18, .int .i64 x1065)]) (fun ((_, _) : (Unit × Unit)) => []) (fun ((_, _) : (Unit × Unit)) => []) (fun ((_, _) : (Unit × Unit)) => [Sl (eI .i64) 1 (.slice g1465.1 x1462.length g1465.2) x1462, SlN eN37 iN37 1 (.slice a2 x1.length c3.1) x1 c3.2]) (fun ((_, _) : (Unit × Unit)) => jy F (zE F x1 k1329) x1064 x1065 x1462) ?_ ?_
 refine qf (qa (qd rfl rfl rfl (q3 rfl Tryz.underlying37 rfl rfl (qd rfl rfl rfl (qc (qe (qD (zi (fun (((x1549, x1550), _) : ((Int × Int) × Unit)) => [(3, .int .i64 (x1.length : Int)), (4, .int .i64 x1064), (6, .slice g1465.1 x1462.length g1465.2), (7, .int .i64 x1549), (16, .slice a2 x1.length c3.1), (17, .int .i64 (x1.length : Int)), (18, .int .i64 x1065), (22, .slice g1465.1 x1462.length g1465.2), (23, .int .i64 (x1462.length : Int)), (24, .int .i64 x1550)]) (fun (((x1549, x1550), _) : ((Int × Int) × Unit)) => []) (fun (((x1549, x1550), _) : ((Int × Int) × Unit)) => []) (fun (((x1549, x1550), _) : ((Int × Int) × Unit)) => [Sl (eI .i64) 1 (.slice g1465.1 x1462.length g1465.2) x1462, SlN eN37 iN37 1 (.slice a2 x1.length c3.1) x1 c3.2]) (fun k (s : ((Int × Int) × Unit)) => yn F (zE F x1 k1329) x1 x1064 x1065 x1462 k s.1) ((-1, 0), ()) F ?_ (hF := (qo 1 rfl (qo 2 rfl qA)))))))))))
 intro k1571
 rintro ⟨⟨x1549, x1550⟩, _⟩
 try dsimp only
 refine zF (m' := jx F (zE F x1 k1329) x1 x1064 x1065 x1462 (yn F (zE F x1 k1329) x1 x1064 x1065 x1462 k1571) x1549 x1550) rfl (qf (qa (qZ rfl rfl rfl rfl (qc (qe (qf (qC rfl (fun h1591 => ?_) (fun h1591 => ?_))))))))
 refine qt (qe (qf (qD (qf (qa (kh (j := 0) (zd .i64) (by decide) rfl Tryz.underlying37 tf3 rfl rfl rfl rfl (fun x1582 e1582 b1583 o1584 => kb (j := 0) rfl rfl tf3 rfl rfl (fun _ => rfl) rfl rfl (qb rfl rfl rfl (qc (qe (qf (qD ?_))))))))))))
 refine qf (qa (qd rfl rfl rfl (qZ rfl rfl rfl rfl (qd rfl rfl rfl (q8 4 (decide (x1582 < 0)) [(3, .int .i64 (x1.length : Int)), (4, .int .i64 x1064), (6, .slice g1465.1 x1462.length g1465.2), (7, .int .i64 x1549), (16, .slice a2 x1.length c3.1), (17, .int .i64 (x1.length : Int)), (18, .int .i64 x1065), (22, .slice g1465.1 x1462.length g1465.2), (23, .int .i64 (x1462.length : Int)), (24, .int .i64 x1550), (9, .int .i64 x1582), (35, .bool ((decide (x1582 < 0)) || (decide ((x1.length : Int) ≤ x1582))))] (fun h1588 => ?_) (fun h1588 => ?_) ?_)))))
 exact qp (os := _) rfl (qR (k := 31) rfl h1588 (qi rfl rfl rfl (qi rfl rfl rfl (qi rfl rfl rfl (qw (b := true) rfl rfl rfl rfl (qx (d := 35) (v := .bool ((decide (x1582 < 0)) || (decide ((x1.length : Int) ≤ x1582)))) rfl (by rw [h1588]; simp only [Bool.true_or]) (qc (qE (qh rfl (qh rfl (qh rfl (qh rfl (qh rfl (qh rfl (qh rfl (qh rfl (qh rfl (qh rfl (qh rfl (qh rfl qO))))))))))))))))))))
 exact qp (os := _) rfl (qQ (k := 31) rfl h1588 (qd rfl rfl rfl (qd rfl rfl rfl (qbv rfl rfl rfl rfl (qw (b := false) rfl rfl rfl rfl (qx (d := 35) (v := .bool ((decide (x1582 < 0)) || (decide ((x1.length : Int) ≤ x1582)))) rfl (by rw [h1588]; simp only [Bool.false_or]) (qc (qE (qh rfl (qh rfl (qh rfl (qh rfl (qh rfl (qh rfl (qh rfl (qh rfl (qh rfl (qh rfl (qh rfl (qh rfl qO))))))))))))))))))))
 refine qp (os := _) rfl (qb rfl rfl rfl (qc (qe (qC rfl (fun h1590 => ?_) (fun h1590 => ?_)))))
 refine qf (qa (qb rfl rfl rfl (qc (qe (qv (qP (qq (qP (qq (qq (qP (qq ?_))))))))))))
 exact qP (qq (qq (qP (qq (qs () (res1 rfl rfl))))))
 refine qf (qa (qd rfl rfl rfl (qd rfl rfl rfl (qde rfl rfl rfl rfl (qb rfl rfl rfl (qc (qe (qC rfl (fun h1589 => ?_) (fun h1589 => ?_)))))))))
 refine qf (qa (qb rfl rfl rfl (qc (qe (qv (qP (qq (qP (qq (qq (qP (qq ?_))))))))))))
 exact qP (qq (qq (qP (qq (qs () (res1 rfl rfl))))))
 refine qt (qU (qe (qa (qd rfl rfl rfl (qb rfl rfl rfl (qc (qU (qe (qa (qN rfl rfl rfl rfl (qd rfl rfl rfl (qc ?_))))))))))))
 exact q4 ((x1582, iadd .i64 x1550 1), ()) (hF := (qo 1 rfl (qo 2 rfl qA)))
 exact zn (qF (qF (zo (qn ((), ()) (hF := (qo 0 rfl (qo 1 rfl qA)))))))
 rintro ⟨_, _⟩
 try dsimp only
 exact qa (qd rfl rfl rfl (qd rfl rfl rfl (q3 rfl Tryz.underlying37 rfl rfl (qN rfl rfl rfl rfl (qb rfl rfl rfl (qc (qU (qn (iadd .i64 x1064 (x1462.length : Int), ()) (hF := (qo 1 rfl qA))))))))))
 rintro ⟨x1461, _⟩
 try dsimp only
 exact qa (qN rfl rfl rfl rfl (qd rfl rfl rfl (qc (q4 ((x1461, iadd .i64 x1065 1), ()) (hF := (qo 0 rfl qA))))))
 exact zn (qF (qF (zo (qn (x1064, ())))))
 rintro ⟨x798, _⟩
 try dsimp only
 refine qf (qf (qa (qd rfl rfl rfl (zr rfl rfl rfl rfl (qc (qe (qC rfl (fun h800 => ?_) (fun h800 => ?_))))))))
 exact qf (qa (qb rfl rfl rfl (qc (qe (qv (qq (qs () (res1 rfl rfl))))))))
 exact qt (qe (qf (qa (qb rfl rfl rfl (qc (qe (qv (qs () (res1 rfl rfl)))))))))
theorem qdR (F : Nat) (x1 : Int) (x2 : List Int) (a3 : Option Addr) (c4 : Nat) (x5 : Int) (x6 : Int) (r : Unit) (hm : qbj F x1 x2 x5 x6 = some r) :
    PureM Tryz.prog 50 [.agg #[.int .i64 x1, .slice a3 x2.length c4], .int .i64 x5, .int .i64 x6] [] [] [Sl (eI .u8) 1 (.slice a3 x2.length c4) x2] (Nat × Nat × Nat) (fun g => .func (.func 78) #[] #[.pointer (some ⟨g.1, 0, none⟩), .pointer (some ⟨g.2.1, 0, none⟩), .pointer (some ⟨g.2.2, 0, none⟩)]) (fun g => [⟨g.1, 3, [.int .i64 x5]⟩, ⟨g.2.1, 3, [.int .i64 x6]⟩, ⟨g.2.2, 29, [.int .i64 x1, .slice a3 x2.length c4]⟩]) (fun _ => []) := by
 refine kU Tryz.func50 rfl Tryz.ntmps50 rfl hm (fun w => qG (l' := [(0, .agg #[.int .i64 x1, .slice a3 x2.length c4]), (1, .int .i64 x5), (2, .int .i64 x6)]) rfl (qf (qa (qW rfl rfl rfl (fun g7 => qW rfl rfl rfl (fun g8 => qW rfl rfl rfl (fun g9 => qb rfl rfl rfl (qc (qe (qf (qa (qdf rfl rfl rfl ?_))))))))))))
 exact qb rfl rfl rfl (qc (qe (qv (zz (g8, g9, g7) (res1 rfl rfl) (hB := fun h => by subst h; exact (.cons 1 rfl (.cons 0 rfl (.cons 0 rfl .nil))))))))
theorem qaB (F : Nat) (g1 : Nat) (x2 : Int) (x3 : List Int) (a4 : Option Addr) (c5 : Nat) (x6 : Int) (r : (Int × List Int)) (hm : ym F x2 x3 x6 = some r) :
    PureM Tryz.prog 51 [.pointer (some ⟨g1, 0, none⟩), .int .u64 x6] [⟨g1, 94, [.int .i64 x2, .slice a4 x3.length c5]⟩] [Ro (eI .u8) 5 1 (.slice a4 x3.length c5) x3] [] (Option Addr × Nat) (fun _ => .tuple #[]) (fun g => [⟨g1, 94, [.int .i64 r.1, .slice g.1 r.2.length g.2]⟩]) (fun g => [Ro (eI .u8) 5 1 (.slice g.1 r.2.length g.2) r.2]) := by
  refine kU Tryz.func51 rfl Tryz.ntmps51 rfl hm (fun w => ?_)
  refine qG (l' := [(0, .pointer (some ⟨g1, 0, none⟩)), (1, .int .u64 x6)]) rfl ?_
  refine qH (fun ((x15, (a13, c14)) : (List Int × (Option Addr × Nat))) => [(0, .pointer (some ⟨g1, 0, none⟩)), (1, .int .u64 x6)]) (fun ((x15, (a13, c14)) : (List Int × (Option Addr × Nat))) => [⟨g1, 94, [.int .i64 x2, .slice a13 x15.length c14]⟩]) (fun ((x15, (a13, c14)) : (List Int × (Option Addr × Nat))) => [Ro (eI .u8) 5 1 (.slice a13 x15.length c14) x15]) (fun ((x15, (a13, c14)) : (List Int × (Option Addr × Nat))) => []) (fun ((x15, _) : (List Int × (Option Addr × Nat))) => yg F x2 x6 x15) ?_ ?_
  · refine qf ?_
    refine qa ?_
    refine qd rfl rfl rfl ?_
    refine qS rfl rfl rfl ?_
    refine qj rfl rfl qb9 rfl ?_
    refine qj rfl rfl zX rfl ?_
    refine qk (i := 0) rfl rfl tf3 rfl rfl (fun _ => rfl) rfl rfl ?_
    refine qky rfl rfl rfl rfl rfl ?_
    refine zj rfl rfl rfl rfl ?_
    refine qc ?_
    refine qe ?_
    refine qC rfl (fun h49 => ?_) (fun h49 => ?_)
    · refine qa ?_
      refine qd rfl rfl rfl ?_
      refine qd rfl rfl rfl ?_
      refine qS rfl rfl rfl ?_
      refine qj rfl rfl qb9 rfl ?_
      refine qj rfl rfl qbK rfl ?_
      refine qk (i := 0) rfl rfl tf27 rfl rfl (fun _ => rfl) rfl rfl ?_
      refine zB (vs := [.int .u8 0]) (ys := ([0] : List Int)) (zd .u8) (by decide) rfl Tryz.underlying27 tf5 rfl rfl rfl rfl rfl (by decide) (fun a44 c45 => ?_)
      refine yw 1 (zd .u8) rfl Tryz.underlying27 tf5 rfl rfl rfl rfl rfl (.inl ⟨0, _, rfl⟩) rfl rfl (fun x46 e46 a47 c48 => ?_)
      refine qS rfl rfl rfl ?_
      refine qj rfl rfl qb9 rfl ?_
      refine qj rfl rfl qbK rfl ?_
      refine qu (i := 0) rfl rfl rfl tf27 rfl rfl rfl rfl rfl ?_
      refine qc ?_
      exact qn (x46, (a47, c48)) (hB := (.cons 0 rfl .nil)) (hR := (.cons 0 rfl .nil))
    · refine qt ?_
      exact qn (x3, (a4, c5)) (hB := (.cons 0 rfl .nil)) (hR := (.cons 0 rfl .nil))
  · rintro ⟨x15, ⟨a13, c14⟩⟩
    try dsimp only
    refine qf ?_
    refine qiO (j := 0) rfl (fun x30 e30 g31 h32 => ?_)
    replace h32 : a13 = some ⟨g31, 0, none⟩ := h32
    have h33 := qjf (k := x15.length) (c := c14) h32
    refine qdK (fun h34 => ?_)
    refine qiO (j := 0) rfl (fun x36 e36 g37 h38 => ?_)
    replace h38 : a13 = some ⟨g37, 0, none⟩ := h38
    have h39 := qjf (k := x15.length) (c := c14) h38
    refine zm mixed [25] [⟨g1, 94, [.int .i64 x2, .slice a13 x15.length c14]⟩] [zH g31 ((iquo .i64 x2 8).toNat * 1) ((eI .u8) x30), zH g37 ((iquo .i64 x2 8).toNat * 1) ((eI .u8) x36)] (.cons 0 rfl .nil) (qoy 0 rfl (qlc (zd .u8) e30 h32) (qoy 0 rfl (qlc (zd .u8) e36 h38) qI)) 26 rfl ?_
    refine qg 0 (.pointer (some ⟨g1, 0, none⟩)) rfl rfl rfl (qm rfl) ?_
    refine qg 1 (.pointer (some ⟨g1, 0, none⟩)) rfl rfl rfl (qm rfl) ?_
    refine qg 2 (.pointer (some ⟨g1, 0, none⟩)) rfl rfl rfl (qz rfl qb9) ?_
    refine qg 3 (.pointer (some ⟨g1, 1, none⟩)) rfl rfl rfl (qz rfl qbK) ?_
    refine qX 4 (.slice a13 x15.length c14) rfl rfl rfl (qY (i := 0) rfl tf27 rfl rfl (fun _ => rfl) rfl) ?_
    refine qg 5 (.pointer (some ⟨g1, 0, none⟩)) rfl rfl rfl (qm rfl) ?_
    refine qg 6 (.pointer (some ⟨g1, 0, none⟩)) rfl rfl rfl (qm rfl) ?_
    refine qg 7 (.pointer (some ⟨g1, 0, none⟩)) rfl rfl rfl (qz rfl qb9) ?_
    refine qg 8 (.pointer (some ⟨g1, 0, none⟩)) rfl rfl rfl (qz rfl zX) ?_
    refine qX 9 (.int .i64 x2) rfl rfl rfl (qY (i := 0) rfl tf3 rfl rfl (fun _ => rfl) rfl) ?_
    refine qg 10 (.int .i64 (iquo .i64 x2 8)) rfl rfl rfl (qon rfl rfl rfl) ?_
    refine qJ (d := 26) (v := .slice (some ⟨g31, 0, none⟩) x15.length c14) rfl (by rw [h32] <;> rfl) ?_
    refine qg 11 (.pointer (some ⟨g31, (iquo .i64 x2 8).toNat * 1, none⟩)) rfl rfl rfl (qkD Tryz.underlying27 tf5 rfl rfl (ke e30).1 (qaU e30)) ?_
    refine qJ (d := 26) (v := .slice a13 x15.length c14) rfl (by rw [h32] <;> rfl) ?_
    refine km 12 (.int .u8 x30) [[25]] rfl rfl rfl (vK (j := 0) rfl tf5 rfl rfl (fun _ => rfl) rfl) ?_
    refine qg 13 (.int .u64 x6) rfl rfl rfl (qm rfl) ?_
    refine qg 14 (.int .u64 (ishl .u64 x6 7)) rfl rfl rfl (qfj rfl rfl rfl) ?_
    refine qg 15 (.int .u8 (iconv .u8 (ishl .u64 x6 7))) rfl rfl rfl (qnx Tryz.underlying50 Tryz.underlying5 rfl) ?_
    refine qg 16 (.pointer (some ⟨g1, 0, none⟩)) rfl rfl rfl (qm rfl) ?_
    refine qg 17 (.pointer (some ⟨g1, 0, none⟩)) rfl rfl rfl (qm rfl) ?_
    refine qg 18 (.pointer (some ⟨g1, 0, none⟩)) rfl rfl rfl (qz rfl qb9) ?_
    refine qg 19 (.pointer (some ⟨g1, 0, none⟩)) rfl rfl rfl (qz rfl zX) ?_
    refine qX 20 (.int .i64 x2) rfl rfl rfl (qY (i := 0) rfl tf3 rfl rfl (fun _ => rfl) rfl) ?_
    refine qg 21 (.int .i64 (irem x2 8)) rfl rfl rfl (qh4 rfl rfl rfl) ?_
    refine qg 22 (.int .u8 (ishr .u8 (iconv .u8 (ishl .u64 x6 7)) (irem x2 8))) rfl rfl rfl (qoo rfl rfl h34) ?_
    refine qg 23 (.int .u8 (ior .u8 x30 (ishr .u8 (iconv .u8 (ishl .u64 x6 7)) (irem x2 8)))) rfl rfl rfl (qm rfl) ?_
    refine qJ (d := 26) (v := .slice (some ⟨g37, 0, none⟩) x15.length c14) rfl (by rw [h38] <;> rfl) ?_
    refine qg 24 (.pointer (some ⟨g37, (iquo .i64 x2 8).toNat * 1, none⟩)) rfl rfl rfl (qkD Tryz.underlying27 tf5 rfl rfl (ke e36).1 (qaU e36)) ?_
    refine qJ (d := 26) (v := .slice a13 x15.length c14) rfl (by rw [h38] <;> rfl) ?_
    refine qL 25 rfl (by kernel_rfl) rfl ?_
    refine qel (j := 0) (y' := ior .u8 x30 (ishr .u8 (iconv .u8 (ishl .u64 x6 7)) (irem x2 8))) (zd .u8) rfl rfl rfl tf5 rfl (qjf h38) (ke e36).2.1 rfl (fun x41 e41 h42 => ?_)
    have h43 : x41.length = x15.length := by rw [← e41, List.length_set]
    refine qx (d := 26) (v := .slice a13 x41.length c14) rfl h42 ?_
    refine qhV (i := 0) (cs' := [.int .i64 x2, .slice a13 x41.length c14]) rfl (by rw [h42] <;> rfl) ?_
    refine qc ?_
    refine vJ 25 rfl (by kernel_rfl) (.cons 0 (by rw [h43]; rfl) .nil) ?_
    refine qV (by kernel_rfl) ?_
    refine zw ?_ (by intro c h; cases h)
    refine qe ?_
    refine qa ?_
    refine qd rfl rfl rfl ?_
    refine qS rfl rfl rfl ?_
    refine qj rfl rfl qb9 rfl ?_
    refine qj rfl rfl zX rfl ?_
    refine qk (i := 0) rfl rfl tf3 rfl rfl (fun _ => rfl) rfl rfl ?_
    refine qN rfl rfl rfl rfl ?_
    refine qS rfl rfl rfl ?_
    refine qj rfl rfl qb9 rfl ?_
    refine qj rfl rfl zX rfl ?_
    refine qu (i := 0) rfl rfl rfl tf3 rfl rfl rfl rfl rfl ?_
    refine qc ?_
    exact zz (a13, c14) (res0 rfl) (hB := fun h => by subst h; exact (.cons 0 rfl .nil)) (hR := fun h => by subst h; exact (.cons 0 rfl .nil))
theorem qcu (F : Nat) (x1 : List Int) (a2 : Option Addr) (c3 : Nat) (r : List Int) (hm : ye F x1 = some r) :
    Pure Tryz.prog 102 [.slice a2 x1.length c3] [Sl (eI .u8) 1 (.slice a2 x1.length c3) x1] (Option Addr × Nat) (fun g => .slice g.1 r.length g.2) (fun g => [Ro (eI .u8) 5 1 (.slice g.1 r.length g.2) r]) (fun _ => []) := by
 refine qT Tryz.func102 rfl Tryz.ntmps102 rfl hm (fun w => qG (l' := [(0, .slice a2 x1.length c3)]) rfl (qf (qa (qb rfl rfl rfl (qc (qe (qf (qf (qa (qd rfl rfl rfl (qhg rfl Tryz.underlying27 rfl rfl rfl (qc ?_))))))))))))
 refine qe (qaY rfl (fun h11 => ?_) (fun h11 => ?_))
 refine qiP 0 (zd .u8) (by decide) rfl h11 (fun h12 => ?_)
 subst h12
 exact zF (m' := some ([] : List Int)) rfl (qf (qa (qb rfl rfl rfl (qc (qe (qv (qq (q5 Int (eI .u8) 5 1 (qs (none, 0) (res1 rfl rfl) (fun h => by subst h; exact (.cons 0 rfl .nil)))))))))))
 exact qt (qe (qf (qa (zB (vs := []) (ys := ([] : List Int)) (zd .u8) (by decide) rfl Tryz.underlying27 tf5 rfl rfl rfl rfl rfl (by decide) (fun a6 c7 => qd rfl rfl rfl (yw 0 (zd .u8) rfl Tryz.underlying27 tf5 rfl rfl rfl rfl rfl (.inr ⟨0, rfl⟩) rfl rfl (fun x8 e8 a9 c10 => qb rfl rfl rfl (qc (qe (qv (qs (a9, c10) (res1 rfl rfl) (fun h => by subst h; exact (.cons 0 rfl .nil)))))))))))))
theorem qfN (F : Nat) (x1 : Int) (x2 : List Int) (a3 : Option Addr) (c4 : Nat) (r : (Int × List Int)) (hm : qb1 F x1 x2 = some r) :
    PureM Tryz.prog 80 [.agg #[.int .i64 x1, .slice a3 x2.length c4]] [] [] [Sl (eI .u8) 1 (.slice a3 x2.length c4) x2] ((Option Addr × Nat) × Nat) (fun g => .pointer (some ⟨g.2, 0, none⟩)) (fun g => [⟨g.2, 94, [.int .i64 r.1, .slice g.1.1 r.2.length g.1.2]⟩]) (fun g => [Ro (eI .u8) 5 1 (.slice g.1.1 r.2.length g.1.2) r.2]) := by
 refine kU Tryz.func80 rfl Tryz.ntmps80 rfl hm (fun w => qG (l' := [(0, .agg #[.int .i64 x1, .slice a3 x2.length c4])]) rfl (qf (qa (qW rfl rfl rfl (fun g5 => qb rfl rfl rfl (qc (qe (qf (zm mixed [] [⟨g5, 29, [.int .i64 x1, .slice a3 x2.length c4]⟩] [Sl (eI .u8) 1 (.slice a3 x2.length c4) x2] (.cons 0 rfl .nil) (q7 0 rfl qI) 9 rfl (qg 0 (.pointer (some ⟨g5, 0, none⟩)) rfl rfl rfl (qz rfl zX) (qX 1 (.int .i64 x1) rfl rfl rfl (qY (i := 0) rfl tf3 rfl rfl (fun _ => rfl) rfl) (qg 2 (.pointer (some ⟨g5, 1, none⟩)) rfl rfl rfl (qz rfl qbK) ?_))))))))))))
 refine qX 3 (.slice a3 x2.length c4) rfl rfl rfl (qY (i := 0) rfl tf27 rfl rfl (fun _ => rfl) rfl) (qL 4 rfl (by kernel_rfl) rfl (qy ent102 rfl rfl rfl (fun x10 e10 => qcu F x2 a3 c4 x10 e10) (.consF 0 rfl .nil) (fun x10 e10 => ?_)))
 rintro ⟨a11, c12⟩
 refine qc (qK (.cons 0 rfl .nil) (q7 0 rfl qI) (qg 5 (.agg #[.int .i64 x1, .slice a11 x10.length c12]) rfl rfl rfl (qgy (cells := [.int .i64 x1, .slice a11 x10.length c12]) st29 rfl (by kernel_rfl)) (qg 6 (.agg #[.int .i64 x1, .slice a11 x10.length c12]) rfl rfl rfl (qgy (cells := [.int .i64 x1, .slice a11 x10.length c12]) st94 rfl (by kernel_rfl)) (qL 7 rfl (by kernel_rfl) rfl (qW rfl rfl rfl (fun g13 => qc (qK (.cons 1 rfl .nil) (q7 0 rfl qI) (qg 8 (.pointer (some ⟨g13, 0, none⟩)) rfl rfl rfl (qm rfl) (qV (by kernel_rfl) (zw (qe (qv ?_)) (by intro c h; cases h)))))))))))
 exact zz ((a11, c12), g13) (res1 rfl rfl) (hB := fun h => by subst h; exact (.cons 0 rfl .nil)) (hR := fun h => by subst h; exact (.cons 0 rfl .nil))
theorem qcK (F : Nat) (x1 : Int) (x2 : List Int) (a3 : Option Addr) (c4 : Nat) (x5 : Int) (r : Int) (hm : j4 F x1 x2 x5 = some r) :
    Pure Tryz.prog 79 [.agg #[.int .i64 x1, .slice a3 x2.length c4], .int .i64 x5] [Sl (eI .u8) 1 (.slice a3 x2.length c4) x2] Unit (fun _ => .int .u64 r) (fun _ => []) (fun _ => []) := by
 refine qT Tryz.func79 rfl Tryz.ntmps79 rfl hm (fun w => qG (l' := [(0, .agg #[.int .i64 x1, .slice a3 x2.length c4]), (1, .int .i64 x5)]) rfl (qf (qa (qW rfl rfl rfl (fun g6 => qb rfl rfl rfl (qc (qe (qf (qa (qj rfl rfl qbK rfl (qk (i := 0) rfl rfl tf27 rfl rfl (fun _ => rfl) rfl rfl (qd rfl rfl rfl ?_))))))))))))
 refine qeQ rfl rfl rfl rfl rfl (kh (j := 0) (zd .u8) (by decide) rfl Tryz.underlying27 tf5 rfl rfl rfl rfl (fun x7 e7 b8 o9 => kb (j := 0) rfl rfl tf5 rfl rfl (fun _ => rfl) rfl rfl (qd rfl rfl rfl (qky rfl rfl rfl rfl rfl (zO rfl rfl rfl rfl (qbu (fun h10 => qbW rfl rfl rfl rfl h10 (zV rfl Tryz.underlying5 Tryz.underlying50 rfl rfl (qfJ rfl rfl rfl rfl (qb rfl rfl rfl (qaj (fun x11 e11 => qx (d := 4) (v := .int .u64 x11) rfl (by rw [e11] <;> rfl) ?_))))))))))))
 exact qc (qe (qv (qs () (res1 rfl rfl))))
theorem qdg (F : Nat) {σ τ : Type} {J : Rounds σ τ} {yy : σ → Int → Option (σ ⊕ τ)} {L : Nat} (hY : YieldC Tryz.prog L (fun (p : Int) => [.int .u64 p]) J yy) (s0 : σ) (gs0 : J.γ) (g1 : Nat) (x2 : Int) (g3 : Nat) (x4 : Int) (g5 : Nat) (x6 : Int) (x7 : List Int) (a8 : Option Addr) (c9 : Nat) (r : σ ⊕ τ) (hm : qak F yy x2 x4 x6 x7 s0 = some r) :
    PureM Tryz.prog 78 ([.func (.yield L) #[] #[], .pointer (some ⟨g1, 0, none⟩), .pointer (some ⟨g3, 0, none⟩), .pointer (some ⟨g5, 0, none⟩)]) ([⟨g1, 3, [.int .i64 x2]⟩, ⟨g3, 3, [.int .i64 x4]⟩, ⟨g5, 29, [.int .i64 x6, .slice a8 x7.length c9]⟩] ++ J.IB s0 gs0) (J.IR s0 gs0) [J.F, Sl (eI .u8) 1 (.slice a8 x7.length c9) x7] (J.G r) (fun _ => .tuple #[]) (fun g => [⟨g1, 3, [.int .i64 x2]⟩, ⟨g3, 3, [.int .i64 x4]⟩, ⟨g5, 29, [.int .i64 x6, .slice a8 x7.length c9]⟩] ++ J.bs r g) (fun g => J.rs r g) := by
 refine kU Tryz.func78 rfl Tryz.ntmps78 rfl hm (fun w => qG (l' := [(0, .func (.yield L) #[] #[]), (1, .pointer (some ⟨g1, 0, none⟩)), (2, .pointer (some ⟨g3, 0, none⟩)), (3, .pointer (some ⟨g5, 0, none⟩))]) rfl (qf (qa (qk (i := 0) rfl rfl tf3 rfl rfl (fun _ => rfl) rfl rfl (qb rfl rfl rfl (qc (qe (qD (zi (fun (((x22, x23), g24) : ((Int × σ) × J.γ)) => [(0, .func (.yield L) #[] #[]), (2, .pointer (some ⟨g3, 0, none⟩)), (3, .pointer (some ⟨g5, 0, none⟩)), (5, .int .i64 x22)]) (fun (((x22, x23), g24) : ((Int × σ) × J.γ)) => [⟨g1, 3, [.int .i64 x2]⟩, ⟨g3, 3, [.int .i64 x4]⟩, ⟨g5, 29, [.int .i64 x6, .slice a8 x7.length c9]⟩] ++ J.IB x23 g24) (fun (((x22, x23), g24) : ((Int × σ) × J.γ)) => [] ++ J.IR x23 g24) (fun (((x22, x23), g24) : ((Int × σ) × J.γ)) => [Sl (eI .u8) 1 (.slice a8 x7.length c9) x7, J.F]) (fun k (s : ((Int × σ) × J.γ)) => kw F yy x4 x6 x7 k s.1) ((x2, s0), gs0) F ?_ (hB := (.cons 0 rfl (.cons 0 rfl (.cons 0 rfl (zD 0 rfl))))) (hR := (zD 0 rfl)) (hF := (qo 1 rfl (qo 0 rfl qA))))))))))))
 intro k37
 rintro ⟨⟨x22, x23⟩, g24⟩
 try dsimp only
 refine zF (m' := vS F yy x4 x6 x7 (kw F yy x4 x6 x7 k37) x22 x23) rfl (qf (qf (qa (qd rfl rfl rfl (qk (i := 1) rfl rfl tf3 rfl rfl (fun _ => rfl) rfl rfl (qZ rfl rfl rfl rfl (qc (qe (qC rfl (fun h49 => ?_) (fun h49 => ?_))))))))))
 refine qt (qe (qf (qD (qf (qa (qd rfl rfl rfl (qk (i := 2) rfl rfl tf29 rfl rfl (by simp) rfl rfl (qd rfl rfl rfl (qy ent79 rfl rfl rfl (fun x44 e44 => qcK F x6 x7 a8 c9 x22 x44 e44) (.consF 0 rfl .nil) (fun x44 e44 => ?_))))))))))
 intro _
 refine qhi hY x23 x44 g24 (B1 := [⟨g1, 3, [.int .i64 x2]⟩, ⟨g3, 3, [.int .i64 x4]⟩, ⟨g5, 29, [.int .i64 x6, .slice a8 x7.length c9]⟩]) (R1 := []) (j := 1) rfl rfl rfl rfl rfl rfl rfl (fun x45 _ g47 => ?_) (fun x46 _ g47 => ?_)
 exact kn rfl rfl rfl (qc (qe (qaY (b := false) rfl (fun h => by cases h) (fun _ => qt (qU (qe (qa (qd rfl rfl rfl (qN rfl rfl rfl rfl (qb rfl rfl rfl (qc (q4 ((iadd .i64 x22 1, x45), g47) (hB := (.cons 0 rfl (.cons 0 rfl (.cons 0 rfl (zD 0 rfl))))) (hR := (zD 0 rfl)) (hF := (qo 0 rfl (qo 1 rfl qA)))))))))))))))
 exact kn rfl rfl rfl (qc (qe (qaY (b := true) rfl (fun _ => qv (qP (qq (qq (qP (qdN (B0 := [⟨g1, 3, [.int .i64 x2]⟩, ⟨g3, 3, [.int .i64 x4]⟩, ⟨g5, 29, [.int .i64 x6, .slice a8 x7.length c9]⟩]) (x := .inr x46) g47 (.inl rfl) (res0 rfl) (.cons 0 rfl (.cons 0 rfl (.cons 0 rfl (zD 0 rfl)))) (zD 0 rfl))))))) (fun h => by cases h))))
 exact zn (qF (qF (zo (qdN (B0 := [⟨g1, 3, [.int .i64 x2]⟩, ⟨g3, 3, [.int .i64 x4]⟩, ⟨g5, 29, [.int .i64 x6, .slice a8 x7.length c9]⟩]) (x := .inl x23) g24 (.inr rfl) (res0 rfl) (.cons 0 rfl (.cons 0 rfl (.cons 0 rfl (zD 0 rfl)))) (zD 0 rfl)))))
theorem qbw (F : Nat) (x1 : Int) (x2 : List Int) (a3 : Option Addr) (c4 : Nat) (x5 : Int) (x6 : List Int) (a7 : Option Addr) (c8 : Nat) (r : (Int × List Int)) (hm : vi F x1 x2 x5 x6 = some r) :
    PureM Tryz.prog 53 [.agg #[.int .i64 x1, .slice a3 x2.length c4], .agg #[.int .i64 x5, .slice a7 x6.length c8]] [] [] [Sl (eI .u8) 1 (.slice a3 x2.length c4) x2, Sl (eI .u8) 1 (.slice a7 x6.length c8) x6] (Option Addr × Nat) (fun g => .agg #[.int .i64 r.1, .slice g.1 r.2.length g.2]) (fun _ => []) (fun g => [Ro (eI .u8) 5 1 (.slice g.1 r.2.length g.2) r.2]) := by
 refine qgi Tryz.func53 rfl Tryz.ntmps53 rfl hm (fun w => qG (l' := [(0, .agg #[.int .i64 x1, .slice a3 x2.length c4]), (1, .agg #[.int .i64 x5, .slice a7 x6.length c8])]) rfl (qf (qa (qW rfl rfl rfl (fun g9 => qW rfl rfl rfl (fun g10 => qM rfl tf29 rfl (fun g11 => qc (qe (qf (qa (qk (i := 2) rfl rfl tf29 rfl rfl (by simp) rfl rfl (q2 ent80 rfl rfl rfl (fun x12 e12 => qfN F x1 x2 a3 c4 x12 e12) .nil .nil (.consF 0 rfl .nil) (fun x12 e12 => ?_)))))))))))))
 rintro ⟨⟨a13, c14⟩, g15⟩
 refine qM rfl tf92 rfl (fun g16 => qu (i := 0) rfl rfl rfl tf92 rfl rfl rfl rfl rfl (qc (qe (qf (qf (qa (qk (i := 3) rfl rfl tf29 rfl rfl (by simp) rfl rfl (qj rfl rfl zX rfl (qk (i := 3) rfl rfl tf3 rfl rfl (fun _ => rfl) rfl rfl (q2 ent50 rfl rfl rfl (fun x37 e37 => qdR F x5 x6 a7 c8 0 x5 x37 e37) .nil .nil (.consF 1 rfl .nil) (fun x37 e37 => ?_)))))))))))
 rintro ⟨g38, g39, g40⟩
 refine qc (qe (qD (qff (encs := (fun (p : Int) => [.int .u64 p])) (y := (fun ((x45, x48) : (Int × List Int)) (x53 : Int) => jO F x45 x48 x53)) (lb := [.pointer (some ⟨g38, 0, none⟩), .pointer (some ⟨g39, 0, none⟩), .pointer (some ⟨g40, 0, none⟩)]) (fun ((x45, x48) : (Int × List Int)) ((a46, c47) : (Option Addr × Nat)) => [⟨g16, 92, [.pointer (some ⟨g15, 0, none⟩)]⟩, ⟨g15, 94, [.int .i64 x45, .slice a46 x48.length c47]⟩, ⟨g11, 29, [.int .i64 0, .slice none 0 0]⟩, ⟨g10, 29, [.int .i64 x5, .slice a7 x6.length c8]⟩, ⟨g9, 29, [.int .i64 x1, .slice a3 x2.length c4]⟩]) (fun ((x45, x48) : (Int × List Int)) ((a46, c47) : (Option Addr × Nat)) => [Ro (eI .u8) 5 1 (.slice a46 x48.length c47) x48]) (fun (_ : Empty) (_ : Unit) => []) (fun (_ : Empty) (_ : Unit) => []) (fun _ => .skip) (x12.1, x12.2) (a13, c14) rfl ent78 (fun _ => rfl) rfl (.cons 0 rfl (.cons 0 rfl (.cons 0 rfl .nil))) (.cons 0 rfl (.cons 0 rfl (.cons 0 rfl (.cons 0 rfl (.cons 0 rfl .nil))))) (.cons 0 rfl .nil) (.consF 1 rfl .nil) (fun z hz _ _ _ hY => qdg F hY (x12.1, x12.2) (a13, c14) g38 0 g39 x5 g40 x5 x6 a7 c8 z hz) ?_ ?_ ?_)))
 rintro rc1 L1 D1 ⟨x45, x48⟩ ⟨a46, c47⟩ x53 z w M _
 try dsimp only
 refine qgu [(0, .agg #[.int .i64 x1, .slice a3 x2.length c4]), (1, .agg #[.int .i64 x5, .slice a7 x6.length c8]), (2, .pointer (some ⟨g9, 0, none⟩)), (3, .pointer (some ⟨g10, 0, none⟩)), (4, .pointer (some ⟨g11, 0, none⟩)), (5, .pointer (some ⟨g16, 0, none⟩)), (7, .agg #[.int .i64 x1, .slice a3 x2.length c4]), (8, .pointer (some ⟨g15, 0, none⟩)), (9, .agg #[.int .i64 x5, .slice a7 x6.length c8]), (10, .pointer (some ⟨g10, 0, none⟩)), (11, .int .i64 x5), (12, .func (.func 78) #[] #[.pointer (some ⟨g38, 0, none⟩), .pointer (some ⟨g39, 0, none⟩), .pointer (some ⟨g40, 0, none⟩)]), (13, .int .u64 x53)] (qh rfl (qh rfl (qh rfl (qh rfl (qh rfl (qh rfl (qh rfl (qh rfl (qh rfl (qh rfl (qh rfl (qh rfl (qh rfl qO))))))))))))) (qa (qb rfl rfl rfl (qc (qfg (i := 5) rfl (qD (qa (qk (i := 0) rfl rfl tf92 rfl rfl (fun _ => rfl) rfl rfl (qd rfl rfl rfl (q2 ent51 rfl rfl rfl (fun x54 e54 => qaB F g15 x45 x48 a46 c47 x53 x54 e54) (.cons 1 rfl .nil) (.cons 0 rfl .nil) .nil (fun x54 e54 => ?_))))))))))
 rintro ⟨a55, c56⟩
 exact qc (qU (qdP (rc := rc1) rfl (.cons 5 rfl .nil) rfl (a55, c56) (.cons 2 rfl (.cons 1 rfl (.cons 1 rfl (.cons 1 rfl (.cons 1 rfl (.cons 0 rfl (.cons 0 rfl .nil))))))) (.cons 0 rfl .nil)))
 rintro ⟨x45, x48⟩ _ ⟨a46, c47⟩ D1
 try dsimp only
 exact qU (qe (qf (qa (qk (i := 4) rfl rfl tf92 rfl rfl (fun _ => rfl) rfl rfl (qS rfl rfl rfl (qj rfl rfl qb9 rfl (qk (i := 5) rfl rfl tf29 rfl rfl (by simp) rfl rfl (qu (i := 6) rfl rfl rfl tf29 rfl rfl rfl rfl rfl (qc (qe (qv (qdO [D1] (a46, c47) (.inl rfl) rfl (.cons 0 rfl .nil) (resL (rs := [.cell 4 29]) rfl (.cell (i := 5) rfl tf29 rfl rfl (by simp) rfl ResOk.nil) rfl) (fun h => by subst h; rfl) (fun h => by subst h; exact .nil) (fun h => by subst h; exact (.cons 0 rfl .nil))))))))))))))
 intro t; exact t.elim
theorem qfl (F : Nat) (x1 : Int) (r : Bool) (hm : qby F x1 = some r) :
    Pure Tryz.prog 69 [.int .i64 x1] [] Unit (fun _ => .bool r) (fun _ => []) (fun _ => []) := by
 refine qT Tryz.func69 rfl Tryz.ntmps69 rfl hm (fun w => qG (l' := [(0, .int .i64 x1)]) rfl (qf (qa (qb rfl rfl rfl (qc (qe (qf (qa (qd rfl rfl rfl (qbv rfl rfl rfl rfl (qd rfl rfl rfl (q8 3 (decide (0 ≤ x1)) [(8, .bool ((decide (0 ≤ x1)) && (decide (x1 ≤ 1048576))))] (fun h2 => ?_) (fun h2 => ?_) ?_))))))))))))
 exact qp (os := _) rfl (qR (k := 5) rfl h2 (qd rfl rfl rfl (qde rfl rfl rfl rfl (qw (b := true) rfl rfl rfl rfl (qx (d := 8) (v := .bool ((decide (0 ≤ x1)) && (decide (x1 ≤ 1048576)))) rfl (by rw [h2]; simp only [Bool.true_and]) (qc (qE (qh rfl qO))))))))
 exact qp (os := _) rfl (qQ (k := 5) rfl h2 (qi rfl rfl rfl (qi rfl rfl rfl (qw (b := false) rfl rfl rfl rfl (qx (d := 8) (v := .bool ((decide (0 ≤ x1)) && (decide (x1 ≤ 1048576)))) rfl (by rw [h2]; simp only [Bool.false_and]) (qc (qE (qh rfl qO))))))))
 exact qp (os := _) rfl (qb rfl rfl rfl (qc (qe (qv (qs () (res1 rfl rfl))))))
theorem qaC (F : Nat) (x1 : List Int) (a2 : Option Addr) (c3 : Nat) (r : Int) (hm : vm F x1 = some r) :
    Pure Tryz.prog 47 [.slice a2 x1.length c3] [Sl (eI .i64) 1 (.slice a2 x1.length c3) x1] Unit (fun _ => .int .i64 r) (fun _ => []) (fun _ => []) := by
 refine qT Tryz.func47 rfl Tryz.ntmps47 rfl hm (fun w => qG (l' := [(0, .slice a2 x1.length c3)]) rfl (qf (qa (qb rfl rfl rfl (qc (qe (qf (qf (qa (qd rfl rfl rfl (q3 rfl Tryz.underlying37 rfl rfl (zr rfl rfl rfl rfl ?_))))))))))))
 refine qc (qe (qC rfl (fun h131 => ?_) (fun h131 => ?_)))
 exact qf (qa (qb rfl rfl rfl (qc (qe (qv (qq (qs () (res1 rfl rfl))))))))
 refine qt (qe (qf (qa (qb rfl rfl rfl (qc (qe (qH (fun ((_, _) : (Unit × Unit)) => []) (fun ((_, _) : (Unit × Unit)) => []) (fun ((_, _) : (Unit × Unit)) => []) (fun ((_, _) : (Unit × Unit)) => []) (fun ((_, _) : (Unit × Unit)) => qdk F) ?_ ?_)))))))
 refine qf (qa (qd rfl rfl rfl (q3 rfl Tryz.underlying37 rfl rfl (qd rfl rfl rfl (qc (qe (qD (zi (fun (((x88, x89), _) : ((Int × Int) × Unit)) => [(3, .int .i64 x88), (9, .slice a2 x1.length c3), (10, .int .i64 (x1.length : Int)), (11, .int .i64 x89)]) (fun (((x88, x89), _) : ((Int × Int) × Unit)) => []) (fun (((x88, x89), _) : ((Int × Int) × Unit)) => []) (fun (((x88, x89), _) : ((Int × Int) × Unit)) => [Sl (eI .i64) 1 (.slice a2 x1.length c3) x1]) (fun k (s : ((Int × Int) × Unit)) => yZ F x1 k s.1) ((-1, 0), ()) F ?_ (hF := (qo 0 rfl qA))))))))))
 intro k110
 rintro ⟨⟨x88, x89⟩, _⟩
 try dsimp only
 refine zF (m' := qam F x1 (yZ F x1 k110) x88 x89) rfl (qf (qa (qZ rfl rfl rfl rfl (qc (qe (qf (qC rfl (fun h130 => ?_) (fun h130 => ?_))))))))
 refine qt (qe (qf (qD (qf (qa (kh (j := 0) (zd .i64) (by decide) rfl Tryz.underlying37 tf3 rfl rfl rfl rfl (fun x121 e121 b122 o123 => kb (j := 0) rfl rfl tf3 rfl rfl (fun _ => rfl) rfl rfl (qb rfl rfl rfl (qc (qe (qf (qD ?_))))))))))))
 refine qf (qa (qd rfl rfl rfl (qy ent69 rfl rfl rfl (fun x127 e127 => qfl F x121 x127 e127) .nil (fun x127 e127 => ?_))))
 intro _
 refine kn rfl rfl rfl (qb rfl rfl rfl (qc (qe (qC rfl (fun h129 => ?_) (fun h129 => ?_)))))
 refine qf (qa (qb rfl rfl rfl (qc (qe (qv (qP (qq (qP (qq (qq (qP (qq ?_))))))))))))
 exact qs () (res1 rfl rfl)
 refine qf (qa (qd rfl rfl rfl (qd rfl rfl rfl (qde rfl rfl rfl rfl (qb rfl rfl rfl (qc (qe (qC rfl (fun h128 => ?_) (fun h128 => ?_)))))))))
 refine qf (qa (qb rfl rfl rfl (qc (qe (qv (qP (qq (qP (qq (qq (qP (qq ?_))))))))))))
 exact qs () (res1 rfl rfl)
 refine qt (qU (qe (qa (qd rfl rfl rfl (qb rfl rfl rfl (qc (qU (qe (qa (qN rfl rfl rfl rfl (qd rfl rfl rfl (qc ?_))))))))))))
 exact q4 ((x121, iadd .i64 x89 1), ()) (hF := (qo 1 rfl qA))
 exact zn (qF (qF (zo (qn ((), ())))))
 rintro ⟨_, _⟩
 try dsimp only
 exact qf (qa (qb rfl rfl rfl (qc (qe (qv (qs () (res1 rfl rfl)))))))
theorem qes (F : Nat) (x1 : Int) (x2 : List Int) (a3 : Option Addr) (c4 : Nat) (x5 : Int) (x6 : Int) (x7 : Int) (r : Int) (hm : qaQ F x1 x2 x5 x6 x7 = some r) :
    Pure Tryz.prog 48 [.int .i64 x1, .slice a3 x2.length c4, .agg #[.int .i64 x5, .int .i64 x6, .int .i64 x7]] [Sl (eI .i64) 1 (.slice a3 x2.length c4) x2] Unit (fun _ => .int .i64 r) (fun _ => []) (fun _ => []) := by
 refine qT Tryz.func48 rfl Tryz.ntmps48 rfl hm (fun w => qG (l' := [(0, .int .i64 x1), (1, .slice a3 x2.length c4), (2, .agg #[.int .i64 x5, .int .i64 x6, .int .i64 x7])]) rfl (qf (qa (qW rfl rfl rfl (fun g8 => qb rfl rfl rfl (qc (qe (qf (qf (qa (qd rfl rfl rfl (qZ rfl rfl rfl rfl ?_))))))))))))
 refine qd rfl rfl rfl (q8 3 (decide (x1 < 0)) [(1, .slice a3 x2.length c4), (5, .pointer (some ⟨g8, 0, none⟩)), (12, .bool ((decide (x1 < 0)) || (decide (1048576 < x1))))] (fun h11 => ?_) (fun h11 => ?_) ?_)
 exact qp (os := _) rfl (qR (k := 9) rfl h11 (qi rfl rfl rfl (qi rfl rfl rfl (qw (b := true) rfl rfl rfl rfl (qx (d := 12) (v := .bool ((decide (x1 < 0)) || (decide (1048576 < x1)))) rfl (by rw [h11]; simp only [Bool.true_or]) (qc (qE (qh rfl (qh rfl (qh rfl qO))))))))))
 exact qp (os := _) rfl (qQ (k := 9) rfl h11 (qd rfl rfl rfl (zr rfl rfl rfl rfl (qw (b := false) rfl rfl rfl rfl (qx (d := 12) (v := .bool ((decide (x1 < 0)) || (decide (1048576 < x1)))) rfl (by rw [h11]; simp only [Bool.false_or]) (qc (qE (qh rfl (qh rfl (qh rfl qO))))))))))
 refine qp (os := _) rfl (qc (qe (qC rfl (fun h16 => ?_) (fun h16 => ?_))))
 exact qf (qa (qb rfl rfl rfl (qc (qe (qv (qq (qs () (res1 rfl rfl))))))))
 refine qt (qe (qf (qf (qa (qj rfl rfl qa7 rfl (qk (i := 0) rfl rfl tf3 rfl rfl (fun _ => rfl) rfl rfl (zr rfl rfl rfl rfl (qc (qe (qC rfl (fun h15 => ?_) (fun h15 => ?_)))))))))))
 refine qf (qa (qd rfl rfl rfl (qy ent47 rfl rfl rfl (fun x14 e14 => qaC F x2 a3 c4 x14 e14) (.consF 0 rfl .nil) (fun x14 e14 => ?_))))
 intro _
 exact qb rfl rfl rfl (qc (qe (qv (qq (qs () (res1 rfl rfl))))))
 exact qt (qe (qf (qa (qb rfl rfl rfl (qc (qe (qv (qs () (res1 rfl rfl)))))))))
theorem qci (F : Nat) (g1 : Nat) (x2 : Int) (x3 : List Int) (a4 : Option Addr) (c5 : Nat) (x6 : Bool) (x7 : Int) (x8 : List Int) (a9 : Option Addr) (c10 : Nat) (r : (Int × List Int × Bool)) (hm : yr F x2 x3 x6 x7 x8 = some r) :
    PureM Tryz.prog 77 [.pointer (some ⟨g1, 0, none⟩), .agg #[.int .i64 x7, .slice a9 x8.length c10]] [⟨g1, 90, [.int .i64 x2, .slice a4 x3.length c5, .bool x6]⟩] [Ro (eI .u8) 5 1 (.slice a4 x3.length c5) x3] [Sl (eI .u8) 1 (.slice a9 x8.length c10) x8] (Option Addr × Nat) (fun _ => .tuple #[]) (fun g => [⟨g1, 90, [.int .i64 r.1, .slice g.1 r.2.1.length g.2, .bool r.2.2]⟩]) (fun g => [Ro (eI .u8) 5 1 (.slice g.1 r.2.1.length g.2) r.2.1]) := by
 refine kU Tryz.func77 rfl Tryz.ntmps77 rfl hm (fun w => qG (l' := [(0, .pointer (some ⟨g1, 0, none⟩)), (1, .agg #[.int .i64 x7, .slice a9 x8.length c10])]) rfl (qf (qa (qW rfl rfl rfl (fun g11 => qc (qe (qH (fun ((x13, _) : (Bool × Unit)) => [(0, .pointer (some ⟨g1, 0, none⟩)), (3, .pointer (some ⟨g11, 0, none⟩))]) (fun ((x13, _) : (Bool × Unit)) => [⟨g11, 29, [.int .i64 x7, .slice a9 x8.length c10]⟩, ⟨g1, 90, [.int .i64 x2, .slice a4 x3.length c5, .bool x13]⟩]) (fun ((x13, _) : (Bool × Unit)) => [Ro (eI .u8) 5 1 (.slice a4 x3.length c5) x3]) (fun ((x13, _) : (Bool × Unit)) => [Sl (eI .u8) 1 (.slice a9 x8.length c10) x8]) (fun ((x13, _) : (Bool × Unit)) => yk F x2 x3 x7 x8 x13) ?_ ?_)))))))
 refine qaz (fun h18 => ?_) (fun h18 => ?_)
 refine zm mixed [18] [⟨g11, 29, [.int .i64 x7, .slice a9 x8.length c10]⟩] [Sl (eI .u8) 1 (.slice a9 x8.length c10) x8, (BlkD.is ⟨g1, 90, [.int .i64 x2, .slice a4 x3.length c5, .bool x6]⟩)] (.cons 0 rfl .nil) (q7 0 rfl (qca 1 rfl qI)) 19 rfl (qg 0 (.pointer (some ⟨g1, 0, none⟩)) rfl rfl rfl (qm rfl) (qg 1 (.pointer (some ⟨g1, 0, none⟩)) rfl rfl rfl (qm rfl) (qg 2 (.pointer (some ⟨g1, 0, none⟩)) rfl rfl rfl (qm rfl) (qg 3 (.pointer (some ⟨g1, 2, none⟩)) rfl rfl rfl (qz rfl qcE) (km 4 (.bool x6) [[18]] rfl rfl rfl (jZ (j := 1) rfl tf4 rfl rfl (fun _ => rfl) rfl) (qg 5 (.bool x6) rfl rfl rfl (qm rfl) (qJ (d := 9) (v := .bool true) rfl (by rw [h18] <;> rfl) (ql 6 rfl rfl rfl (ql 7 rfl rfl rfl (ql 8 rfl rfl rfl (ql 9 rfl rfl rfl (ql 10 rfl rfl rfl ?_))))))))))))
 refine ql 11 rfl rfl rfl (ql 12 rfl rfl rfl (ql 13 rfl rfl rfl (ql 14 rfl rfl rfl (qg 15 (.bool true) rfl rfl rfl (qm rfl) (qg 16 (.pointer (some ⟨g1, 0, none⟩)) rfl rfl rfl (qm rfl) (qg 17 (.pointer (some ⟨g1, 2, none⟩)) rfl rfl rfl (qz rfl qcE) (qL 18 rfl (by kernel_rfl) rfl (qu (i := 1) rfl rfl rfl tf4 rfl rfl rfl rfl rfl (qc (vJ 18 rfl (by kernel_rfl) (.cons 0 rfl .nil) (qV (by kernel_rfl) (zw ?_ (by intro c h; cases h)))))))))))))
 exact qn (true, ()) (hB := (.cons 0 rfl (.cons 0 rfl .nil))) (hR := (.cons 0 rfl .nil)) (hF := (qo 0 rfl qA))
 refine zm mixed [18] [⟨g11, 29, [.int .i64 x7, .slice a9 x8.length c10]⟩] [Sl (eI .u8) 1 (.slice a9 x8.length c10) x8, (BlkD.is ⟨g1, 90, [.int .i64 x2, .slice a4 x3.length c5, .bool x6]⟩)] (.cons 0 rfl .nil) (q7 0 rfl (qca 1 rfl qI)) 19 rfl (qg 0 (.pointer (some ⟨g1, 0, none⟩)) rfl rfl rfl (qm rfl) (qg 1 (.pointer (some ⟨g1, 0, none⟩)) rfl rfl rfl (qm rfl) (qg 2 (.pointer (some ⟨g1, 0, none⟩)) rfl rfl rfl (qm rfl) (qg 3 (.pointer (some ⟨g1, 2, none⟩)) rfl rfl rfl (qz rfl qcE) (km 4 (.bool x6) [[18]] rfl rfl rfl (jZ (j := 1) rfl tf4 rfl rfl (fun _ => rfl) rfl) (qg 5 (.bool x6) rfl rfl rfl (qm rfl) (qJ (d := 9) (v := .bool false) rfl (by rw [h18] <;> rfl) (qg 6 (.pointer (some ⟨g1, 0, none⟩)) rfl rfl rfl (qm rfl) (qg 7 (.pointer (some ⟨g1, 0, none⟩)) rfl rfl rfl (qm rfl) (qg 8 (.pointer (some ⟨g1, 0, none⟩)) rfl rfl rfl (qz rfl qeg) (qg 9 (.pointer (some ⟨g1, 0, none⟩)) rfl rfl rfl (qz rfl zX) (km 10 (.int .i64 x2) [[18]] rfl rfl rfl (jZ (j := 1) rfl tf3 rfl rfl (fun _ => rfl) rfl) ?_))))))))))))
 refine qg 11 (.pointer (some ⟨g11, 0, none⟩)) rfl rfl rfl (qz rfl zX) (qX 12 (.int .i64 x7) rfl rfl rfl (qY (i := 0) rfl tf3 rfl rfl (fun _ => rfl) rfl) (qg 13 (.int .i64 (iadd .i64 x2 x7)) rfl rfl rfl (qm rfl) (qg 14 (.bool (decide (8192 < (iadd .i64 x2 x7)))) rfl rfl rfl (qm rfl) (qg 15 (.bool (decide (8192 < (iadd .i64 x2 x7)))) rfl rfl rfl (qm rfl) (qg 16 (.pointer (some ⟨g1, 0, none⟩)) rfl rfl rfl (qm rfl) (qg 17 (.pointer (some ⟨g1, 2, none⟩)) rfl rfl rfl (qz rfl qcE) (qL 18 rfl (by kernel_rfl) rfl (qu (i := 1) rfl rfl rfl tf4 rfl rfl rfl rfl rfl (qc (vJ 18 rfl (by kernel_rfl) (.cons 0 rfl .nil) (qV (by kernel_rfl) (zw ?_ (by intro c h; cases h)))))))))))))
 exact qn ((decide (8192 < (iadd .i64 x2 x7))), ()) (hB := (.cons 0 rfl (.cons 0 rfl .nil))) (hR := (.cons 0 rfl .nil)) (hF := (qo 0 rfl qA))
 rintro ⟨x13, _⟩
 try dsimp only
 refine qf (qa (qd rfl rfl rfl (qS rfl rfl rfl (qj rfl rfl qcE rfl (qk (i := 1) rfl rfl tf4 rfl rfl (fun _ => rfl) rfl rfl (kn rfl rfl rfl (qc (qe (qC rfl (fun h17 => ?_) (fun h17 => ?_))))))))))
 refine zm mixed [9] [⟨g11, 29, [.int .i64 x7, .slice a9 x8.length c10]⟩] [Sl (eI .u8) 1 (.slice a9 x8.length c10) x8, (BlkD.is ⟨g1, 90, [.int .i64 x2, .slice a4 x3.length c5, .bool x13]⟩)] (.cons 0 rfl .nil) (q7 0 rfl (qca 1 rfl qI)) 10 rfl (qg 0 (.pointer (some ⟨g1, 0, none⟩)) rfl rfl rfl (qm rfl) (qg 1 (.pointer (some ⟨g1, 0, none⟩)) rfl rfl rfl (qm rfl) (qg 2 (.pointer (some ⟨g1, 0, none⟩)) rfl rfl rfl (qm rfl) (qg 3 (.pointer (some ⟨g1, 0, none⟩)) rfl rfl rfl (qz rfl qeg) (km 4 (.agg #[.int .i64 x2, .slice a4 x3.length c5]) [[9]] rfl rfl rfl (jZ (j := 1) rfl tf29 rfl rfl (by simp) rfl) (qX 5 (.agg #[.int .i64 x7, .slice a9 x8.length c10]) rfl rfl rfl (qY (i := 0) rfl tf29 rfl rfl (by simp) rfl) (qL 6 rfl (by kernel_rfl) rfl (q2 ent53 rfl rfl rfl (fun x14 e14 => qbw F x2 x3 a4 c5 x7 x8 a9 c10 x14 e14) .nil .nil (.consR 0 (Ro (eI .u8) 5 1 (.slice a4 x3.length c5) x3) rfl (.consF 0 rfl .nil)) (fun x14 e14 => ?_)))))))))
 rintro ⟨a15, c16⟩
 exact qc (qK (.cons 0 rfl .nil) (q7 0 rfl (qca 1 rfl qI)) (qg 7 (.pointer (some ⟨g1, 0, none⟩)) rfl rfl rfl (qm rfl) (qg 8 (.pointer (some ⟨g1, 0, none⟩)) rfl rfl rfl (qz rfl qeg) (qL 9 rfl (by kernel_rfl) rfl (qu (i := 1) rfl rfl rfl tf29 rfl rfl rfl rfl rfl (qc (vJ 9 rfl (by kernel_rfl) (.cons 0 rfl .nil) (qV (by kernel_rfl) (zw (zz (a15, c16) (res0 rfl) (hB := fun h => by subst h; exact (.cons 1 rfl .nil)) (hR := fun h => by subst h; exact (.cons 0 rfl .nil))) (by intro c h; cases h))))))))))
 exact qt (zz (a4, c5) (res0 rfl) (hB := fun h => by subst h; exact (.cons 1 rfl .nil)) (hR := fun h => by subst h; exact (.cons 0 rfl .nil)))
theorem qdn (F : Nat) (g1 : Nat) (x2 : Int) (x3 : List Int) (a4 : Option Addr) (c5 : Nat) (x6 : Int) (x7 : Int) (r : (Int × List Int)) (hm : vk F x2 x3 x6 x7 = some r) :
    PureM Tryz.prog 94 [.pointer (some ⟨g1, 0, none⟩), .int .u64 x6, .int .i64 x7] [⟨g1, 94, [.int .i64 x2, .slice a4 x3.length c5]⟩] [Ro (eI .u8) 5 1 (.slice a4 x3.length c5) x3] [] (Option Addr × Nat) (fun _ => .tuple #[]) (fun g => [⟨g1, 94, [.int .i64 r.1, .slice g.1 r.2.length g.2]⟩]) (fun g => [Ro (eI .u8) 5 1 (.slice g.1 r.2.length g.2) r.2]) := by
 refine kU Tryz.func94 rfl Tryz.ntmps94 rfl hm (fun w => qG (l' := [(0, .pointer (some ⟨g1, 0, none⟩)), (1, .int .u64 x6), (2, .int .i64 x7)]) rfl (qf (qa (qd rfl rfl rfl (zO rfl rfl rfl rfl (qb rfl rfl rfl (qc (qe (qD (zi (fun (((x18, x19, x22), (a20, c21)) : ((Int × Int × List Int) × (Option Addr × Nat))) => [(0, .pointer (some ⟨g1, 0, none⟩)), (1, .int .u64 x6), (6, .int .i64 x18)]) (fun (((x18, x19, x22), (a20, c21)) : ((Int × Int × List Int) × (Option Addr × Nat))) => [⟨g1, 94, [.int .i64 x19, .slice a20 x22.length c21]⟩]) (fun (((x18, x19, x22), (a20, c21)) : ((Int × Int × List Int) × (Option Addr × Nat))) => [Ro (eI .u8) 5 1 (.slice a20 x22.length c21) x22]) (fun (((x18, x19, x22), (a20, c21)) : ((Int × Int × List Int) × (Option Addr × Nat))) => []) (fun k (s : ((Int × Int × List Int) × (Option Addr × Nat))) => kq F x6 k s.1) ((isub .i64 x7 1, x2, x3), (a4, c5)) F ?_ (hB := (.cons 0 rfl .nil)) (hR := (.cons 0 rfl .nil))))))))))))
 intro k33
 rintro ⟨⟨x18, x19, x22⟩, ⟨a20, c21⟩⟩
 try dsimp only
 refine zF (m' := kp F x6 (kq F x6 k33) x18 x19 x22) rfl (qf (qf (qa (qd rfl rfl rfl (qbv rfl rfl rfl rfl (qc (qe (qC rfl (fun h43 => ?_) (fun h43 => ?_)))))))))
 refine qt (qe (qf (qD (qa (qd rfl rfl rfl (qd rfl rfl rfl (qd rfl rfl rfl (qbu (fun h39 => qbW rfl rfl rfl rfl h39 (qfJ rfl rfl rfl rfl (q2 ent51 rfl rfl rfl (fun x40 e40 => qaB F g1 x19 x22 a20 c21 (iand .u64 (ishr .u64 x6 x18) 1) x40 e40) (.cons 0 rfl .nil) (.cons 0 rfl .nil) .nil (fun x40 e40 => ?_))))))))))))
 rintro ⟨a41, c42⟩
 exact qc (qU (qe (qa (qd rfl rfl rfl (zO rfl rfl rfl rfl (qb rfl rfl rfl (qc (q4 ((isub .i64 x18 1, x40.1, x40.2), (a41, c42)) (hB := (.cons 0 rfl .nil)) (hR := (.cons 0 rfl .nil))))))))))
 exact zn (qF (qF (zo (zz (a20, c21) (res0 rfl) (hB := fun h => by subst h; exact (.cons 0 rfl .nil)) (hR := fun h => by subst h; exact (.cons 0 rfl .nil))))))
theorem qbX (F : Nat) (x1 : Int) (x2 : List Int) (a3 : Option Addr) (c4 : Nat) (x5 : Int) (x6 : Int) (r : (Int × List Int)) (hm : vR F x1 x2 x5 x6 = some r) :
    Pure Tryz.prog 67 [.agg #[.int .i64 x1, .slice a3 x2.length c4], .int .u64 x5, .int .i64 x6] [Sl (eI .u8) 1 (.slice a3 x2.length c4) x2] (Option Addr × Nat) (fun g => .agg #[.int .i64 r.1, .slice g.1 r.2.length g.2]) (fun g => [Ro (eI .u8) 5 1 (.slice g.1 r.2.length g.2) r.2]) (fun _ => []) := by
 refine qT Tryz.func67 rfl Tryz.ntmps67 rfl hm (fun w => qG (l' := [(0, .agg #[.int .i64 x1, .slice a3 x2.length c4]), (1, .int .u64 x5), (2, .int .i64 x6)]) rfl (qf (qa (qW rfl rfl rfl (fun g7 => qM rfl tf29 rfl (fun g8 => qc (qe (qf (qa (qk (i := 1) rfl rfl tf29 rfl rfl (by simp) rfl rfl (q2 ent80 rfl rfl rfl (fun x9 e9 => qfN F x1 x2 a3 c4 x9 e9) .nil .nil (.consF 0 rfl .nil) (fun x9 e9 => ?_))))))))))))
 rintro ⟨⟨a10, c11⟩, g12⟩
 refine qb rfl rfl rfl (qc (qe (qf (qa (qd rfl rfl rfl (qd rfl rfl rfl (qd rfl rfl rfl (q2 ent94 rfl rfl rfl (fun x13 e13 => qdn F g12 x9.1 x9.2 a10 c11 x5 x6 x13 e13) (.cons 0 rfl .nil) (.cons 0 rfl .nil) .nil (fun x13 e13 => ?_)))))))))
 rintro ⟨a14, c15⟩
 exact qc (qe (qf (qa (qd rfl rfl rfl (qS rfl rfl rfl (qj rfl rfl qb9 rfl (qk (i := 0) rfl rfl tf29 rfl rfl (by simp) rfl rfl (qu (i := 1) rfl rfl rfl tf29 rfl rfl rfl rfl rfl (qc (qe (qv (qs (a14, c15) (resL (rs := [.cell 6 29]) rfl (.cell (i := 1) rfl tf29 rfl rfl (by simp) rfl ResOk.nil) rfl) (fun h => by subst h; exact (.cons 0 rfl .nil))))))))))))))
theorem qaD (F : Nat) (x1 : Int) (r : Int) (hm : yo F x1 = some r) :
    Pure Tryz.prog 133 [.int .u64 x1] [] Unit (fun _ => .int .i64 r) (fun _ => []) (fun _ => []) := by
 refine qT Tryz.func133 rfl Tryz.ntmps133 rfl hm (fun w => qG (l' := [(0, .int .u64 x1)]) rfl (qf (qa (qb rfl rfl rfl (qc (qe (qH (fun (((x3, x4), _) : ((Int × Int) × Unit)) => [(0, .int .u64 x3), (2, .int .i64 x4)]) (fun (((x3, x4), _) : ((Int × Int) × Unit)) => []) (fun (((x3, x4), _) : ((Int × Int) × Unit)) => []) (fun (((x3, x4), _) : ((Int × Int) × Unit)) => []) (fun (((x3, x4), _) : ((Int × Int) × Unit)) => yh F x3 x4) ?_ ?_)))))))
 refine qf (qa (qd rfl rfl rfl (qbv rfl rfl rfl rfl (qc (qe (qC rfl (fun h14 => ?_) (fun h14 => ?_)))))))
 exact qf (qa (qd rfl rfl rfl (qbW rfl rfl rfl rfl rfl (qb rfl rfl rfl (qc (qe (qa (qb rfl rfl rfl (qc (qn ((ishr .u64 x1 32, 32), ())))))))))))
 exact qt (qn ((x1, 0), ()))
 rintro ⟨⟨x3, x4⟩, _⟩
 try dsimp only
 refine qH (fun (((x6, x7), _) : ((Int × Int) × Unit)) => [(0, .int .u64 x6), (2, .int .i64 x7)]) (fun (((x6, x7), _) : ((Int × Int) × Unit)) => []) (fun (((x6, x7), _) : ((Int × Int) × Unit)) => []) (fun (((x6, x7), _) : ((Int × Int) × Unit)) => []) (fun (((x6, x7), _) : ((Int × Int) × Unit)) => yi F x6 x7) ?_ ?_
 refine qf (qa (qd rfl rfl rfl (qbv rfl rfl rfl rfl (qc (qe (qC rfl (fun h13 => ?_) (fun h13 => ?_)))))))
 exact qf (qa (qd rfl rfl rfl (qbW rfl rfl rfl rfl rfl (qb rfl rfl rfl (qc (qe (qa (qd rfl rfl rfl (qN rfl rfl rfl rfl (qb rfl rfl rfl (qc (qn ((ishr .u64 x3 16, iadd .i64 x4 16), ())))))))))))))
 exact qt (qn ((x3, x4), ()))
 rintro ⟨⟨x6, x7⟩, _⟩
 try dsimp only
 refine qH (fun (((x9, x10), _) : ((Int × Int) × Unit)) => [(0, .int .u64 x9), (2, .int .i64 x10)]) (fun (((x9, x10), _) : ((Int × Int) × Unit)) => []) (fun (((x9, x10), _) : ((Int × Int) × Unit)) => []) (fun (((x9, x10), _) : ((Int × Int) × Unit)) => []) (fun (((x9, x10), _) : ((Int × Int) × Unit)) => yj F x9 x10) ?_ ?_
 refine qf (qa (qd rfl rfl rfl (qbv rfl rfl rfl rfl (qc (qe (qC rfl (fun h12 => ?_) (fun h12 => ?_)))))))
 exact qf (qa (qd rfl rfl rfl (qbW rfl rfl rfl rfl rfl (qb rfl rfl rfl (qc (qe (qa (qd rfl rfl rfl (qN rfl rfl rfl rfl (qb rfl rfl rfl (qc (qn ((ishr .u64 x6 8, iadd .i64 x7 8), ())))))))))))))
 exact qt (qn ((x6, x7), ()))
 rintro ⟨⟨x9, x10⟩, _⟩
 try dsimp only
 exact qf (qa (qd rfl rfl rfl (qd rfl rfl rfl (zV rfl Tryz.underlying50 Tryz.underlying5 rfl rfl (qju (xs := ([0, 1, 2, 2, 3, 3, 3, 3, 4, 4, 4, 4, 4, 4, 4, 4, 5, 5, 5, 5, 5, 5, 5, 5, 5, 5, 5, 5, 5, 5, 5, 5, 6, 6, 6, 6, 6, 6, 6, 6, 6, 6, 6, 6, 6, 6, 6, 6, 6, 6, 6, 6, 6, 6, 6, 6, 6, 6, 6, 6, 6, 6, 6, 6, 7, 7, 7, 7, 7, 7, 7, 7, 7, 7, 7, 7, 7, 7, 7, 7, 7, 7, 7, 7, 7, 7, 7, 7, 7, 7, 7, 7, 7, 7, 7, 7, 7, 7, 7, 7, 7, 7, 7, 7, 7, 7, 7, 7, 7, 7, 7, 7, 7, 7, 7, 7, 7, 7, 7, 7, 7, 7, 7, 7, 7, 7, 7, 7, 8, 8, 8, 8, 8, 8, 8, 8, 8, 8, 8, 8, 8, 8, 8, 8, 8, 8, 8, 8, 8, 8, 8, 8, 8, 8, 8, 8, 8, 8, 8, 8, 8, 8, 8, 8, 8, 8, 8, 8, 8, 8, 8, 8, 8, 8, 8, 8, 8, 8, 8, 8, 8, 8, 8, 8, 8, 8, 8, 8, 8, 8, 8, 8, 8, 8, 8, 8, 8, 8, 8, 8, 8, 8, 8, 8, 8, 8, 8, 8, 8, 8, 8, 8, 8, 8, 8, 8, 8, 8, 8, 8, 8, 8, 8, 8, 8, 8, 8, 8, 8, 8, 8, 8, 8, 8, 8, 8, 8, 8, 8, 8, 8, 8, 8, 8, 8, 8, 8, 8, 8, 8, 8, 8, 8, 8, 8, 8] : List Int)) rfl Tryz.underlying9 rfl rfl (by kernel_rfl) rfl (fun x11 e11 => zV rfl Tryz.underlying5 Tryz.underlying3 rfl rfl (qN rfl rfl rfl rfl (qb rfl rfl rfl (qc (qe (qv (qs () (res1 rfl rfl)))))))))))))
theorem qhn (F : Nat) (x1 : Int) (r : Int) (hm : qbM F x1 = some r) :
    Pure Tryz.prog 112 [.int .u64 x1] [] Unit (fun _ => .int .i64 r) (fun _ => []) (fun _ => []) := by
 refine qT Tryz.func112 rfl Tryz.ntmps112 rfl hm (fun w => qG (l' := [(0, .int .u64 x1)]) rfl (qf (qa (qb rfl rfl rfl (qc (qe (qf (qa (qd rfl rfl rfl (qN rfl rfl rfl rfl (qy ent133 rfl rfl rfl (fun x2 e2 => qaD F (iadd .u64 x1 1) x2 e2) .nil (fun x2 e2 => ?_))))))))))))
 intro _
 exact zO rfl rfl rfl rfl (qb rfl rfl rfl (qc (qe (qv (qs () (res1 rfl rfl))))))
theorem qfq (F : Nat) (x1 : Int) (r : (Int × List Int)) (hm : qbC F x1 = some r) :
    Pure Tryz.prog 113 [.int .u64 x1] [] (Option Addr × Nat) (fun g => .agg #[.int .i64 r.1, .slice g.1 r.2.length g.2]) (fun g => [Ro (eI .u8) 5 1 (.slice g.1 r.2.length g.2) r.2]) (fun _ => []) := by
 refine qT Tryz.func113 rfl Tryz.ntmps113 rfl hm (fun w => qG (l' := [(0, .int .u64 x1)]) rfl (qf (qa (qM rfl tf29 rfl (fun g2 => qc (qe (qf (qa (qd rfl rfl rfl (zV rfl Tryz.underlying50 Tryz.underlying3 rfl rfl (qd rfl rfl rfl (qN rfl rfl rfl rfl ?_))))))))))))
 refine qeQ rfl rfl rfl rfl rfl (qmx (zd .u8) rfl Tryz.underlying27 tf5 rfl rfl rfl rfl rfl rfl rfl (fun x3 e3 a4 c5 => q6 (cells := [.int .i64 (iconv .i64 x1), .slice a4 x3.length c5]) rfl st29 rfl (by kernel_rfl) rfl (qy ent67 rfl rfl rfl (fun x6 e6 => qbX F (iconv .i64 x1) x3 a4 c5 1 1 x6 e6) (.consR 0 (Ro (eI .u8) 5 1 (.slice a4 x3.length c5) x3) rfl .nil) (fun x6 e6 => ?_))))
 rintro ⟨a7, c8⟩
 exact qu (i := 0) rfl rfl rfl tf29 rfl rfl rfl rfl rfl (qc (qe (qv (qs (a7, c8) (resL (rs := [.cell 2 29]) rfl (.cell (i := 0) rfl tf29 rfl rfl (by simp) rfl ResOk.nil) rfl) (fun h => by subst h; exact (.cons 0 rfl .nil))))))
theorem qh6 (F : Nat) (x1 : Int) (x2 : Int) (r : Int) (hm : qcj F x1 x2 = some r) :
    Pure Tryz.prog 114 [.int .u64 x1, .int .i64 x2] [] Unit (fun _ => .int .u64 r) (fun _ => []) (fun _ => []) := by
 refine qT Tryz.func114 rfl Tryz.ntmps114 rfl hm (fun w => qG (l' := [(0, .int .u64 x1), (1, .int .i64 x2)]) rfl (qf (qa (qb rfl rfl rfl (qc (qe (qf (qa (qd rfl rfl rfl (qd rfl rfl rfl (qbu (fun h3 => qeR rfl rfl rfl rfl h3 ?_))))))))))))
 exact zO rfl rfl rfl rfl (qfJ rfl rfl rfl rfl (qb rfl rfl rfl (qaj (fun x4 e4 => qx (d := 4) (v := .int .u64 x4) rfl (by rw [e4] <;> rfl) (qc (qe (qv (qs () (res1 rfl rfl)))))))))
theorem qcL (F : Nat) (x1 : Int) (r : (Int × List Int)) (hm : vC F x1 = some r) :
    Pure Tryz.prog 95 [.int .u64 x1] [] (Option Addr × Nat) (fun g => .agg #[.int .i64 r.1, .slice g.1 r.2.length g.2]) (fun g => [Ro (eI .u8) 5 1 (.slice g.1 r.2.length g.2) r.2]) (fun _ => []) := by
 refine qT Tryz.func95 rfl Tryz.ntmps95 rfl hm (fun w => qG (l' := [(0, .int .u64 x1)]) rfl (qf (qa (qM rfl tf29 rfl (fun g2 => qc (qe (qf (qa (qd rfl rfl rfl (qy ent112 rfl rfl rfl (fun x3 e3 => qhn F x1 x3 e3) .nil (fun x3 e3 => ?_)))))))))))
 intro _
 refine qb rfl rfl rfl (qc (qe (qf (qa (qd rfl rfl rfl (zV rfl Tryz.underlying3 Tryz.underlying50 rfl rfl (qy ent113 rfl rfl rfl (fun x4 e4 => qfq F (iconv .u64 x3) x4 e4) .nil (fun x4 e4 => ?_))))))))
 rintro ⟨a5, c6⟩
 refine qd rfl rfl rfl (qN rfl rfl rfl rfl (qd rfl rfl rfl (qy ent114 rfl rfl rfl (fun x7 e7 => qh6 F (iadd .u64 x1 1) x3 x7 e7) .nil (fun x7 e7 => ?_))))
 intro _
 refine qd rfl rfl rfl (qy ent67 rfl rfl rfl (fun x8 e8 => qbX F x4.1 x4.2 a5 c6 x7 x3 x8 e8) (.consR 0 (Ro (eI .u8) 5 1 (.slice a5 x4.2.length c6) x4.2) rfl .nil) (fun x8 e8 => ?_))
 rintro ⟨a9, c10⟩
 exact qu (i := 0) rfl rfl rfl tf29 rfl rfl rfl rfl rfl (qc (qe (qv (qs (a9, c10) (resL (rs := [.cell 2 29]) rfl (.cell (i := 0) rfl tf29 rfl rfl (by simp) rfl ResOk.nil) rfl) (fun h => by subst h; exact (.cons 0 rfl .nil))))))
theorem kA (F : Nat) (g1 : Nat) (x2 : Int) (x3 : List Int) (a4 : Option Addr) (c5 : Nat) (x6 : Bool) (x7 : Int) (r : (Int × List Int × Bool)) (hm : zA F x2 x3 x6 x7 = some r) :
    PureM Tryz.prog 70 [.pointer (some ⟨g1, 0, none⟩), .int .i64 x7] [⟨g1, 90, [.int .i64 x2, .slice a4 x3.length c5, .bool x6]⟩] [Ro (eI .u8) 5 1 (.slice a4 x3.length c5) x3] [] (Option Addr × Nat) (fun _ => .tuple #[]) (fun g => [⟨g1, 90, [.int .i64 r.1, .slice g.1 r.2.1.length g.2, .bool r.2.2]⟩]) (fun g => [Ro (eI .u8) 5 1 (.slice g.1 r.2.1.length g.2) r.2.1]) := by
 refine kU Tryz.func70 rfl Tryz.ntmps70 rfl hm (fun w => qG (l' := [(0, .pointer (some ⟨g1, 0, none⟩)), (1, .int .i64 x7)]) rfl (qa (qd rfl rfl rfl (qd rfl rfl rfl (zV rfl Tryz.underlying3 Tryz.underlying50 rfl rfl (qy ent95 rfl rfl rfl (fun x8 e8 => qcL F (iconv .u64 x7) x8 e8) .nil (fun x8 e8 => ?_)))))))
 rintro ⟨a9, c10⟩
 refine q2 ent77 rfl rfl rfl (fun x11 e11 => qci F g1 x2 x3 a4 c5 x6 x8.1 x8.2 a9 c10 x11 e11) (.cons 0 rfl .nil) (.cons 1 rfl .nil) (.consR 0 (Ro (eI .u8) 5 1 (.slice a9 x8.2.length c10) x8.2) rfl .nil) (fun x11 e11 => ?_)
 rintro ⟨a12, c13⟩
 exact qc (zz (a12, c13) (res0 rfl) (hB := fun h => by subst h; exact (.cons 0 rfl .nil)) (hR := fun h => by subst h; exact (.cons 0 rfl .nil)))
theorem qdh (F : Nat) (x1 : Int) (r : Bool) (hm : qal F x1 = some r) :
    Pure Tryz.prog 134 [.int .i64 x1] [] Unit (fun _ => .bool r) (fun _ => []) (fun _ => []) := by
 refine qT Tryz.func134 rfl Tryz.ntmps134 rfl hm (fun w => qG (l' := [(0, .int .i64 x1)]) rfl (qf (qa (qb rfl rfl rfl (qc (qe (qf (qa (qd rfl rfl rfl (qd rfl rfl rfl (zN rfl rfl rfl rfl (qb rfl rfl rfl ?_))))))))))))
 exact qc (qe (qv (qs () (res1 rfl rfl))))
theorem qfO (F : Nat) (x1 : Int) (x2 : Int) (r : Bool) (hm : qaI F x1 x2 = some r) :
    Pure Tryz.prog 115 [.int .i64 x1, .int .i64 x2] [] Unit (fun _ => .bool r) (fun _ => []) (fun _ => []) := by
 refine qT Tryz.func115 rfl Tryz.ntmps115 rfl hm (fun w => qG (l' := [(0, .int .i64 x1), (1, .int .i64 x2)]) rfl (qf (qa (qb rfl rfl rfl (qc (qe (qf (qa (qd rfl rfl rfl (qy ent134 rfl rfl rfl (fun x3 e3 => qdh F x1 x3 e3) .nil (fun x3 e3 => ?_)))))))))))
 intro _
 refine qd rfl rfl rfl (zZ 4 (fun ((x6, _) : (Bool × Unit)) => [(0, .int .i64 x1), (1, .int .i64 x2), (11, .bool x6)]) (fun ((x6, _) : (Bool × Unit)) => []) (fun ((x6, _) : (Bool × Unit)) => []) (fun ((x6, _) : (Bool × Unit)) => []) (fun ((x6, _) : (Bool × Unit)) => js F x1 x2 x6) ?_ ?_)
 refine qp (os := _) rfl (yA (fun h4 => ?_) (fun h4 => ?_))
 refine qR (k := 7) rfl h4 (qd rfl rfl rfl (qy ent134 rfl rfl rfl (fun x8 e8 => qdh F x2 x8 e8) .nil (fun x8 e8 => ?_)))
 intro _
 exact kn rfl rfl rfl (qw (b := true) rfl rfl rfl rfl (qc (qn ((!x8), ()))))
 exact qQ (k := 7) rfl h4 (qi rfl rfl rfl (qi rfl rfl rfl (qi rfl rfl rfl (qw (b := false) rfl rfl rfl rfl (qc (qn (false, ())))))))
 rintro ⟨x6, _⟩
 try dsimp only
 refine qp (os := _) rfl (qd rfl rfl rfl (q8 4 x6 [(16, .bool (x6 || (decide (x1 < x2))))] (fun h7 => ?_) (fun h7 => ?_) ?_))
 exact qp (os := _) rfl (qR (k := 12) rfl h7 (qi rfl rfl rfl (qi rfl rfl rfl (qi rfl rfl rfl (qw (b := true) rfl rfl rfl rfl (qx (d := 16) (v := .bool (x6 || (decide (x1 < x2)))) rfl (by rw [h7]; simp only [Bool.true_or]) (qc (qE (qh rfl qO)))))))))
 exact qp (os := _) rfl (qQ (k := 12) rfl h7 (qd rfl rfl rfl (qd rfl rfl rfl (qZ rfl rfl rfl rfl (qw (b := false) rfl rfl rfl rfl (qx (d := 16) (v := .bool (x6 || (decide (x1 < x2)))) rfl (by rw [h7]; simp only [Bool.false_or]) (qc (qE (qh rfl qO)))))))))
 exact qp (os := _) rfl (qb rfl rfl rfl (qc (qe (qv (qs () (res1 rfl rfl))))))
theorem qbY (F : Nat) (x1 : Int) (r : Bool) (hm : vX F x1 = some r) :
    Pure Tryz.prog 116 [.int .i64 x1] [] Unit (fun _ => .bool r) (fun _ => []) (fun _ => []) := by
 refine qT Tryz.func116 rfl Tryz.ntmps116 rfl hm (fun w => qG (l' := [(0, .int .i64 x1)]) rfl (qf (qa (qb rfl rfl rfl (qc (qe (qf (qa (qd rfl rfl rfl (qd rfl rfl rfl (zN rfl rfl rfl rfl (qb rfl rfl rfl ?_))))))))))))
 exact qc (qe (qv (qs () (res1 rfl rfl))))
theorem vL (F : Nat) (x1 : List Int) (a2 : Option Addr) (c3 : Nat) (x4 : Int) (r : (Int × Bool)) (hm : zY F x1 x4 = some r) :
    Pure Tryz.prog 96 [.slice a2 x1.length c3, .int .i64 x4] [Sl (eI .i64) 1 (.slice a2 x1.length c3) x1] Unit (fun _ => .tuple #[.int .i64 r.1, .bool r.2]) (fun _ => []) (fun _ => []) := by
 refine qT Tryz.func96 rfl Tryz.ntmps96 rfl hm (fun w => qG (l' := [(0, .slice a2 x1.length c3), (1, .int .i64 x4)]) rfl (qf (qa (qb rfl rfl rfl (qb rfl rfl rfl (qc (qe (qf (qa (qd rfl rfl rfl (q3 rfl Tryz.underlying37 rfl rfl (qb rfl rfl rfl ?_))))))))))))
 refine qc (qe (qf (qa (qd rfl rfl rfl (qb rfl rfl rfl (qb rfl rfl rfl (qc (qe (qH (fun ((x32, _) : (Int × Unit)) => [(0, .slice a2 x1.length c3), (1, .int .i64 x4), (6, .int .i64 (x1.length : Int)), (7, .int .i64 x32)]) (fun ((x32, _) : (Int × Unit)) => []) (fun ((x32, _) : (Int × Unit)) => []) (fun ((x32, _) : (Int × Unit)) => [Sl (eI .i64) 1 (.slice a2 x1.length c3) x1]) (fun ((x32, _) : (Int × Unit)) => kP F x1 x4 x32) ?_ ?_)))))))))
 refine qD (zi (fun (((x85, x86), _) : ((Int × Int) × Unit)) => [(0, .slice a2 x1.length c3), (1, .int .i64 x4), (6, .int .i64 (x1.length : Int)), (7, .int .i64 x85), (8, .int .i64 x86)]) (fun (((x85, x86), _) : ((Int × Int) × Unit)) => []) (fun (((x85, x86), _) : ((Int × Int) × Unit)) => []) (fun (((x85, x86), _) : ((Int × Int) × Unit)) => [Sl (eI .i64) 1 (.slice a2 x1.length c3) x1]) (fun k (s : ((Int × Int) × Unit)) => zv F x1 x4 k s.1) ((0, (x1.length : Int)), ()) F ?_ (hF := (qo 0 rfl qA)))
 intro k95
 rintro ⟨⟨x85, x86⟩, _⟩
 try dsimp only
 refine zF (m' := kd F x1 x4 (zv F x1 x4 k95) x85 x86) rfl (qf (qf (qa (qd rfl rfl rfl (qd rfl rfl rfl (qZ rfl rfl rfl rfl (qc (qe (qC rfl (fun h103 => ?_) (fun h103 => ?_))))))))))
 refine qt (qe (qD (qf (qa (qd rfl rfl rfl (qd rfl rfl rfl (qN rfl rfl rfl rfl (zV rfl Tryz.underlying3 Tryz.underlying128 rfl rfl (qbW rfl rfl rfl rfl rfl (zV rfl Tryz.underlying128 Tryz.underlying3 rfl rfl (qb rfl rfl rfl (qaj (fun x97 e97 => ?_)))))))))))))
 refine qx (d := 9) (v := .int .i64 x97) rfl (by rw [e97] <;> rfl) (qc (qe (qf (qa (qd rfl rfl rfl (qd rfl rfl rfl (kh (j := 0) (zd .i64) (by decide) rfl Tryz.underlying37 tf3 rfl rfl rfl rfl (fun x98 e98 b99 o100 => kb (j := 0) rfl rfl tf3 rfl rfl (fun _ => rfl) rfl rfl (qd rfl rfl rfl (qy ent115 rfl rfl rfl (fun x101 e101 => qfO F x98 x4 x101 e101) .nil (fun x101 e101 => ?_)))))))))))
 intro _
 refine qc (qe (qC rfl (fun h102 => ?_) (fun h102 => ?_)))
 exact qa (qd rfl rfl rfl (qN rfl rfl rfl rfl (qb rfl rfl rfl (qc (qU (q4 ((iadd .i64 x97 1, x86), ()) (hF := (qo 1 rfl qA))))))))
 exact qa (qd rfl rfl rfl (qb rfl rfl rfl (qc (qU (q4 ((x85, x97), ()) (hF := (qo 1 rfl qA)))))))
 exact zn (qF (qF (zo (qn (x85, ()) (hF := (qo 0 rfl qA))))))
 rintro ⟨x32, _⟩
 try dsimp only
 refine qf (qa (qd rfl rfl rfl (qd rfl rfl rfl (qd rfl rfl rfl (qZ rfl rfl rfl rfl (qd rfl rfl rfl (zZ 18 (fun ((x55, _) : (Bool × Unit)) => [(31, .int .i64 x32), (53, .bool x55)]) (fun ((x55, _) : (Bool × Unit)) => []) (fun ((x55, _) : (Bool × Unit)) => []) (fun ((x55, _) : (Bool × Unit)) => []) (fun ((x55, _) : (Bool × Unit)) => kQ F x32 x55) ?_ ?_)))))))
 refine qp (os := _) rfl (yA (fun h33 => ?_) (fun h33 => ?_))
 refine qR (k := 35) rfl h33 (qd rfl rfl rfl (qd rfl rfl rfl (kh (j := 0) (zd .i64) (by decide) rfl Tryz.underlying37 tf3 rfl rfl rfl rfl (fun x56 e56 b57 o58 => kb (j := 0) rfl rfl tf3 rfl rfl (fun _ => rfl) rfl rfl (qd rfl rfl rfl (zj rfl rfl rfl rfl (qd rfl rfl rfl (zZ 10 (fun ((x68, _) : (Bool × Unit)) => [(31, .int .i64 x32), (35, .bool true), (52, .bool x68)]) (fun ((x68, _) : (Bool × Unit)) => []) (fun ((x68, _) : (Bool × Unit)) => []) (fun ((x68, _) : (Bool × Unit)) => []) (fun ((x68, _) : (Bool × Unit)) => kR F x32 x68) ?_ ?_))))))))
 refine qp (os := _) rfl (yA (fun h59 => ?_) (fun h59 => ?_))
 exact qR (k := 42) rfl h59 (qi rfl rfl rfl (qi rfl rfl rfl (qi rfl rfl rfl (qi rfl rfl rfl (qi rfl rfl rfl (qi rfl rfl rfl (qi rfl rfl rfl (qi rfl rfl rfl (qi rfl rfl rfl (qw (b := true) rfl rfl rfl rfl (qc (qn (true, ())))))))))))))
 refine qQ (k := 42) rfl h59 (qd rfl rfl rfl (qd rfl rfl rfl (kh (j := 1) (zd .i64) (by decide) rfl Tryz.underlying37 tf3 rfl rfl rfl rfl (fun x69 e69 b70 o71 => kb (j := 0) rfl rfl tf3 rfl rfl (fun _ => rfl) rfl rfl (qy ent116 rfl rfl rfl (fun x72 e72 => qbY F x69 x72 e72) .nil (fun x72 e72 => ?_))))))
 intro _
 refine qd rfl rfl rfl (zZ 3 (fun ((x75, _) : (Bool × Unit)) => [(31, .int .i64 x32), (35, .bool true), (42, .bool false), (51, .bool x75)]) (fun ((x75, _) : (Bool × Unit)) => []) (fun ((x75, _) : (Bool × Unit)) => []) (fun ((x75, _) : (Bool × Unit)) => []) (fun ((x75, _) : (Bool × Unit)) => kS F x32 x75) ?_ ?_)
 refine qp (os := _) rfl (yA (fun h73 => ?_) (fun h73 => ?_))
 refine qR (k := 48) rfl h73 (qd rfl rfl rfl (qy ent116 rfl rfl rfl (fun x76 e76 => qbY F x4 x76 e76) .nil (fun x76 e76 => ?_)))
 intro _
 exact qw (b := true) rfl rfl rfl rfl (qc (qn (x76, ())))
 exact qQ (k := 48) rfl h73 (qi rfl rfl rfl (qi rfl rfl rfl (qw (b := false) rfl rfl rfl rfl (qc (qn (false, ()))))))
 rintro ⟨x75, _⟩
 try dsimp only
 exact qp (os := _) rfl (qw (b := false) rfl rfl rfl rfl (qc (qn (x75, ()))))
 rintro ⟨x68, _⟩
 try dsimp only
 exact qp (os := _) rfl (qw (b := true) rfl rfl rfl rfl (qc (qn (x68, ()))))
 refine qQ (k := 35) rfl h33 (qi rfl rfl rfl (qi rfl rfl rfl (qi rfl rfl rfl (qi rfl rfl rfl (qi rfl rfl rfl (qi rfl rfl rfl (qi rfl rfl rfl (qi rfl rfl rfl (qi rfl rfl rfl (qi rfl rfl rfl (qi rfl rfl rfl (qi rfl rfl rfl ?_))))))))))))
 exact qi rfl rfl rfl (qi rfl rfl rfl (qi rfl rfl rfl (qi rfl rfl rfl (qi rfl rfl rfl (qw (b := false) rfl rfl rfl rfl (qc (qn (false, ()))))))))
 rintro ⟨x55, _⟩
 try dsimp only
 exact qp (os := _) rfl (qb rfl rfl rfl (qb rfl rfl rfl (qc (qe (qv (qs () (res2 rfl rfl rfl)))))))
theorem qd6 (F : Nat) (g1 : Nat) (x2 : List Int) (a3 : Option Addr) (c4 : Nat) (x5 : Bool) (x6 : Int) (x7 : Bool) (r : (List Int × Bool × Int)) (hm : vW F x2 x5 x6 x7 = some r) :
    PureM Tryz.prog 97 [.pointer (some ⟨g1, 0, none⟩), .bool x7] [⟨g1, 153, [.slice a3 x2.length c4, .bool x5, .int .i64 x6]⟩] [Ro (eI .i64) 3 1 (.slice a3 x2.length c4) x2] [] (Option Addr × Nat) (fun _ => .tuple #[]) (fun g => [⟨g1, 153, [.slice g.1 r.1.length g.2, .bool r.2.1, .int .i64 r.2.2]⟩]) (fun g => [Ro (eI .i64) 3 1 (.slice g.1 r.1.length g.2) r.1]) := by
 refine kU Tryz.func97 rfl Tryz.ntmps97 rfl hm (fun w => qG (l' := [(0, .pointer (some ⟨g1, 0, none⟩)), (1, .bool x7)]) rfl (qH (fun (((x21, x22, x23), (a19, c20)) : ((List Int × Bool × Int) × (Option Addr × Nat))) => [(0, .pointer (some ⟨g1, 0, none⟩))]) (fun (((x21, x22, x23), (a19, c20)) : ((List Int × Bool × Int) × (Option Addr × Nat))) => [⟨g1, 153, [.slice a19 x21.length c20, .bool x22, .int .i64 x23]⟩]) (fun (((x21, x22, x23), (a19, c20)) : ((List Int × Bool × Int) × (Option Addr × Nat))) => [Ro (eI .i64) 3 1 (.slice a19 x21.length c20) x21]) (fun (((x21, x22, x23), (a19, c20)) : ((List Int × Bool × Int) × (Option Addr × Nat))) => []) (fun (((x21, x22, x23), _) : ((List Int × Bool × Int) × (Option Addr × Nat))) => yT F x21 x22 x23) ?_ ?_))
 refine qf (qa (qd rfl rfl rfl (qd rfl rfl rfl (qS rfl rfl rfl (qj rfl rfl qjT rfl (qk (i := 0) rfl rfl tf4 rfl rfl (fun _ => rfl) rfl rfl (qnt rfl Tryz.underlying4 rfl rfl rfl (qc (qe (qC rfl (fun h34 => ?_) (fun h34 => ?_)))))))))))
 refine qf (zm mixed [13] [] [(BlkD.is ⟨g1, 153, [.slice a3 x2.length c4, .bool x5, .int .i64 x6]⟩)] .nil (qca 0 rfl qI) 14 rfl (qg 0 (.pointer (some ⟨g1, 0, none⟩)) rfl rfl rfl (qm rfl) (qg 1 (.pointer (some ⟨g1, 0, none⟩)) rfl rfl rfl (qm rfl) (qg 2 (.pointer (some ⟨g1, 0, none⟩)) rfl rfl rfl (qm rfl) (qg 3 (.pointer (some ⟨g1, 0, none⟩)) rfl rfl rfl (qz rfl qhy) (km 4 (.slice a3 x2.length c4) [[13]] rfl rfl rfl (jZ (j := 0) rfl tf37 rfl rfl (fun _ => rfl) rfl) (qg 5 (.pointer (some ⟨g1, 0, none⟩)) rfl rfl rfl (qm rfl) (qg 6 (.pointer (some ⟨g1, 0, none⟩)) rfl rfl rfl (qm rfl) (qg 7 (.pointer (some ⟨g1, 2, none⟩)) rfl rfl rfl (qz rfl qfD) (km 8 (.int .i64 x6) [[13]] rfl rfl rfl (jZ (j := 0) rfl tf3 rfl rfl (fun _ => rfl) rfl) (qL 9 rfl (by kernel_rfl) rfl (zB (vs := [.int .i64 x6]) (ys := ([x6] : List Int)) (zd .i64) (by decide) rfl Tryz.underlying37 tf3 rfl rfl rfl rfl rfl (by decide) (fun a29 c30 => ?_)))))))))))))
 refine qc (qK .nil (qca 0 rfl qI) (qL 10 rfl (by kernel_rfl) rfl (yw 1 (zd .i64) rfl Tryz.underlying37 tf3 rfl rfl rfl rfl rfl (.inl ⟨0, _, rfl⟩) rfl rfl (fun x31 e31 a32 c33 => qc (qK .nil (qca 0 rfl qI) (qg 11 (.pointer (some ⟨g1, 0, none⟩)) rfl rfl rfl (qm rfl) (qg 12 (.pointer (some ⟨g1, 0, none⟩)) rfl rfl rfl (qz rfl qhy) (qL 13 rfl (by kernel_rfl) rfl (qu (i := 0) rfl rfl rfl tf37 rfl rfl rfl rfl rfl (qc (vJ 13 rfl (by kernel_rfl) .nil (qV (by kernel_rfl) ?_))))))))))))
 refine zw (qe (qa (qd rfl rfl rfl (qd rfl rfl rfl (qd rfl rfl rfl (qS rfl rfl rfl (qj rfl rfl qjT rfl (qu (i := 0) rfl rfl rfl tf4 rfl rfl rfl rfl rfl (qS rfl rfl rfl (qj rfl rfl qfD rfl (qu (i := 0) rfl rfl rfl tf3 rfl rfl rfl rfl rfl (qc ?_)))))))))))) (by intro c h; cases h)
 exact qn ((x31, x7, 0), (a32, c33)) (hB := (.cons 0 rfl .nil)) (hR := (.cons 0 rfl .nil))
 exact qt (qn ((x2, x5, x6), (a3, c4)) (hB := (.cons 0 rfl .nil)) (hR := (.cons 0 rfl .nil)))
 rintro ⟨⟨x21, x22, x23⟩, ⟨a19, c20⟩⟩
 try dsimp only
 exact qa (qd rfl rfl rfl (qS rfl rfl rfl (qj rfl rfl qfD rfl (qk (i := 0) rfl rfl tf3 rfl rfl (fun _ => rfl) rfl rfl (qN rfl rfl rfl rfl (qS rfl rfl rfl (qj rfl rfl qfD rfl (qu (i := 0) rfl rfl rfl tf3 rfl rfl rfl rfl rfl (qc (zz (a19, c20) (res0 rfl) (hB := fun h => by subst h; exact (.cons 0 rfl .nil)) (hR := fun h => by subst h; exact (.cons 0 rfl .nil))))))))))))
theorem qh9 (F : Nat) (x1 : List Int) (a2 : Option Addr) (c3 : Nat) (x4 : List Int) (a5 : Option Addr) (c6 : Nat) (r : (List Int × List Int)) (hm : qcn F x1 x4 = some r) :
    Pure Tryz.prog 71 [.slice a2 x1.length c3, .slice a5 x4.length c6] [Sl (eI .i64) 1 (.slice a2 x1.length c3) x1, Sl (eI .i64) 1 (.slice a5 x4.length c6) x4] ((Option Addr × Nat) × (Option Addr × Nat)) (fun g => .tuple #[.slice g.1.1 r.1.length g.1.2, .slice g.2.1 r.2.length g.2.2]) (fun g => [Ro (eI .i64) 3 1 (.slice g.1.1 r.1.length g.1.2) r.1, Ro (eI .i64) 3 1 (.slice g.2.1 r.2.length g.2.2) r.2]) (fun _ => []) := by
 refine qT Tryz.func71 rfl Tryz.ntmps71 rfl hm (fun w => qG (l' := [(0, .slice a2 x1.length c3), (1, .slice a5 x4.length c6)]) rfl (qf (qa (qb rfl rfl rfl (qb rfl rfl rfl (qc (qe (qf (qa (q6 (cells := [.slice none 0 0, .bool true, .int .i64 0]) rfl st153 rfl (by kernel_rfl) rfl (qW rfl rfl rfl (fun g7 => qb rfl rfl rfl ?_))))))))))))
 refine qc (qe (qH (fun (((x66, x67, x68), (a64, c65)) : ((List Int × Bool × Int) × (Option Addr × Nat))) => [(0, .slice a2 x1.length c3), (1, .slice a5 x4.length c6), (5, .slice none 0 0), (6, .pointer (some ⟨g7, 0, none⟩))]) (fun (((x66, x67, x68), (a64, c65)) : ((List Int × Bool × Int) × (Option Addr × Nat))) => [⟨g7, 153, [.slice a64 x66.length c65, .bool x67, .int .i64 x68]⟩]) (fun (((x66, x67, x68), (a64, c65)) : ((List Int × Bool × Int) × (Option Addr × Nat))) => [Ro (eI .i64) 3 1 (.slice a64 x66.length c65) x66]) (fun (((x66, x67, x68), (a64, c65)) : ((List Int × Bool × Int) × (Option Addr × Nat))) => [Sl (eI .i64) 1 (.slice a2 x1.length c3) x1, Sl (eI .i64) 1 (.slice a5 x4.length c6) x4]) (fun (((x66, x67, x68), _) : ((List Int × Bool × Int) × (Option Addr × Nat))) => qb5 F x1 x4 x66 x67 x68) ?_ ?_))
 refine qf (qa (qd rfl rfl rfl (q3 rfl Tryz.underlying37 rfl rfl (qd rfl rfl rfl (qc (qe (qD (yR Int (eI .i64) 3 1 (zi (fun (((x249, x252, x253, x254), (a250, c251)) : ((Int × List Int × Bool × Int) × (Option Addr × Nat))) => [(0, .slice a2 x1.length c3), (1, .slice a5 x4.length c6), (5, .slice none 0 0), (6, .pointer (some ⟨g7, 0, none⟩)), (17, .slice a2 x1.length c3), (18, .int .i64 (x1.length : Int)), (19, .int .i64 x249)]) (fun (((x249, x252, x253, x254), (a250, c251)) : ((Int × List Int × Bool × Int) × (Option Addr × Nat))) => [⟨g7, 153, [.slice a250 x252.length c251, .bool x253, .int .i64 x254]⟩]) (fun (((x249, x252, x253, x254), (a250, c251)) : ((Int × List Int × Bool × Int) × (Option Addr × Nat))) => [Ro (eI .i64) 3 1 (.slice a250 x252.length c251) x252]) (fun (((x249, x252, x253, x254), (a250, c251)) : ((Int × List Int × Bool × Int) × (Option Addr × Nat))) => [Sl (eI .i64) 1 (.slice a2 x1.length c3) x1, Sl (eI .i64) 1 (.slice a5 x4.length c6) x4]) (fun k (s : ((Int × List Int × Bool × Int) × (Option Addr × Nat))) => y8 F x1 x4 k s.1) ((0, ([] : List Int), true, 0), (none, 0)) F ?_ (hB := (.cons 0 rfl .nil)) (hR := (.cons 0 rfl .nil)) (hF := (qo 0 rfl (qo 1 rfl qA))))))))))))
 intro k271
 rintro ⟨⟨x249, x252, x253, x254⟩, ⟨a250, c251⟩⟩
 try dsimp only
 refine zF (m' := qar F x1 x4 (y8 F x1 x4 k271) x249 x252 x253 x254) rfl (qf (qa (qZ rfl rfl rfl rfl (qc (qe (qf (qC rfl (fun h287 => ?_) (fun h287 => ?_))))))))
 refine qt (qe (qf (qD (qf (qa (kh (j := 0) (zd .i64) (by decide) rfl Tryz.underlying37 tf3 rfl rfl rfl rfl (fun x280 e280 b281 o282 => kb (j := 0) rfl rfl tf3 rfl rfl (fun _ => rfl) rfl rfl (qb rfl rfl rfl (qc (qe (qf (qa ?_))))))))))))
 refine qd rfl rfl rfl (qd rfl rfl rfl (qy ent96 rfl rfl rfl (fun x283 e283 => vL F x4 a5 c6 x280 x283 e283) (.consF 2 rfl .nil) (fun x283 e283 => ?_)))
 intro _
 refine qd rfl rfl rfl (qr rfl rfl rfl rfl (qr rfl rfl rfl rfl (qb rfl rfl rfl (qb rfl rfl rfl (qc (qe (qa (qd rfl rfl rfl (qd rfl rfl rfl (q2 ent97 rfl rfl rfl (fun x284 e284 => qd6 F g7 x252 a250 c251 x253 x254 x283.2 x284 e284) (.cons 0 rfl .nil) (.cons 0 rfl .nil) .nil (fun x284 e284 => ?_)))))))))))
 rintro ⟨a285, c286⟩
 exact qc (qU (qe (qa (qN rfl rfl rfl rfl (qd rfl rfl rfl (qc (q4 ((iadd .i64 x249 1, x284.1, x284.2.1, x284.2.2), (a285, c286)) (hB := (.cons 0 rfl .nil)) (hR := (.cons 0 rfl .nil)) (hF := (qo 1 rfl (qo 2 rfl qA))))))))))
 exact zn (qF (qF (zo (qn ((x252, x253, x254), (a250, c251)) (hB := (.cons 0 rfl .nil)) (hR := (.cons 0 rfl .nil)) (hF := (qo 0 rfl (qo 1 rfl qA)))))))
 rintro ⟨⟨x66, x67, x68⟩, ⟨a64, c65⟩⟩
 try dsimp only
 refine qH (fun ((x151, (a149, c150)) : (List Int × (Option Addr × Nat))) => [(5, .slice a149 x151.length c150), (6, .pointer (some ⟨g7, 0, none⟩))]) (fun ((x151, (a149, c150)) : (List Int × (Option Addr × Nat))) => [⟨g7, 153, [.slice a64 x66.length c65, .bool x67, .int .i64 x68]⟩]) (fun ((x151, (a149, c150)) : (List Int × (Option Addr × Nat))) => [Ro (eI .i64) 3 1 (.slice a149 x151.length c150) x151, Ro (eI .i64) 3 1 (.slice a64 x66.length c65) x66]) (fun ((x151, (a149, c150)) : (List Int × (Option Addr × Nat))) => []) (fun ((x151, _) : (List Int × (Option Addr × Nat))) => qb6 F x66 x151) ?_ ?_
 refine qf (qa (qd rfl rfl rfl (q3 rfl Tryz.underlying37 rfl rfl (qd rfl rfl rfl (qc (qe (qD (yR Int (eI .i64) 3 1 (zi (fun (((x179, x180), (a177, c178)) : ((List Int × Int) × (Option Addr × Nat))) => [(0, .slice a2 x1.length c3), (5, .slice a177 x179.length c178), (6, .pointer (some ⟨g7, 0, none⟩)), (33, .slice a5 x4.length c6), (34, .int .i64 (x4.length : Int)), (35, .int .i64 x180)]) (fun (((x179, x180), (a177, c178)) : ((List Int × Int) × (Option Addr × Nat))) => [⟨g7, 153, [.slice a64 x66.length c65, .bool x67, .int .i64 x68]⟩]) (fun (((x179, x180), (a177, c178)) : ((List Int × Int) × (Option Addr × Nat))) => [Ro (eI .i64) 3 1 (.slice a177 x179.length c178) x179, Ro (eI .i64) 3 1 (.slice a64 x66.length c65) x66]) (fun (((x179, x180), (a177, c178)) : ((List Int × Int) × (Option Addr × Nat))) => [Sl (eI .i64) 1 (.slice a2 x1.length c3) x1, Sl (eI .i64) 1 (.slice a5 x4.length c6) x4]) (fun k (s : ((List Int × Int) × (Option Addr × Nat))) => yz F x1 x4 x66 k s.1) ((([] : List Int), 0), (none, 0)) F ?_ (hB := (.cons 0 rfl .nil)) (hR := (.cons 0 rfl (.cons 0 rfl .nil))) (hF := (qo 0 rfl (qo 1 rfl qA))))))))))))
 intro k206
 rintro ⟨⟨x179, x180⟩, ⟨a177, c178⟩⟩
 try dsimp only
 refine zF (m' := qaq F x1 x4 x66 (yz F x1 x4 x66 k206) x179 x180) rfl (qf (qa (qZ rfl rfl rfl rfl (qc (qe (qf (qC rfl (fun h231 => ?_) (fun h231 => ?_))))))))
 refine qt (qe (qH (fun ((x220, (a218, c219)) : (List Int × (Option Addr × Nat))) => [(0, .slice a2 x1.length c3), (5, .slice a218 x220.length c219), (6, .pointer (some ⟨g7, 0, none⟩)), (33, .slice a5 x4.length c6), (34, .int .i64 (x4.length : Int)), (35, .int .i64 x180)]) (fun ((x220, (a218, c219)) : (List Int × (Option Addr × Nat))) => [⟨g7, 153, [.slice a64 x66.length c65, .bool x67, .int .i64 x68]⟩]) (fun ((x220, (a218, c219)) : (List Int × (Option Addr × Nat))) => [Ro (eI .i64) 3 1 (.slice a218 x220.length c219) x220, Ro (eI .i64) 3 1 (.slice a64 x66.length c65) x66]) (fun ((x220, (a218, c219)) : (List Int × (Option Addr × Nat))) => [Sl (eI .i64) 1 (.slice a2 x1.length c3) x1, Sl (eI .i64) 1 (.slice a5 x4.length c6) x4]) (fun ((x220, _) : (List Int × (Option Addr × Nat))) => qas F (yz F x1 x4 x66 k206) x180 x220) ?_ ?_))
 refine qD (qf (qa (kh (j := 1) (zd .i64) (by decide) rfl Tryz.underlying37 tf3 rfl rfl rfl rfl (fun x221 e221 b222 o223 => kb (j := 0) rfl rfl tf3 rfl rfl (fun _ => rfl) rfl rfl (qb rfl rfl rfl (qc (qe (qf (qa (qd rfl rfl rfl (qd rfl rfl rfl (qy ent96 rfl rfl rfl (fun x224 e224 => vL F x1 a2 c3 x221 x224 e224) (.consF 1 rfl .nil) (fun x224 e224 => ?_)))))))))))))
 intro _
 refine qd rfl rfl rfl (qr rfl rfl rfl rfl (qr rfl rfl rfl rfl (qb rfl rfl rfl (qb rfl rfl rfl (qc (qe (qf (qa (qd rfl rfl rfl (kn rfl rfl rfl (qc (qe ?_))))))))))))
 refine qC rfl (fun h230 => ?_) (fun h230 => ?_)
 exact qa (qd rfl rfl rfl (qd rfl rfl rfl (zB (vs := [.int .i64 x221]) (ys := ([x221] : List Int)) (zd .i64) (by decide) rfl Tryz.underlying37 tf3 rfl rfl rfl rfl rfl (by decide) (fun a225 c226 => yw 1 (zd .i64) rfl Tryz.underlying37 tf3 rfl rfl rfl rfl rfl (.inl ⟨0, _, rfl⟩) rfl rfl (fun x227 e227 a228 c229 => qb rfl rfl rfl (qc (qU (qn (x227, (a228, c229)) (hB := (.cons 0 rfl .nil)) (hR := (.cons 0 rfl (.cons 1 rfl .nil))) (hF := (qo 1 rfl (qo 2 rfl qA)))))))))))
 exact qt (qU (qn (x179, (a177, c178)) (hB := (.cons 0 rfl .nil)) (hR := (.cons 0 rfl (.cons 0 rfl .nil))) (hF := (qo 1 rfl (qo 2 rfl qA)))))
 rintro ⟨x220, ⟨a218, c219⟩⟩
 try dsimp only
 exact qa (qN rfl rfl rfl rfl (qd rfl rfl rfl (qc (q4 ((x220, iadd .i64 x180 1), (a218, c219)) (hB := (.cons 0 rfl .nil)) (hR := (.cons 0 rfl (.cons 0 rfl .nil))) (hF := (qo 0 rfl (qo 1 rfl qA)))))))
 exact zn (qF (qF (zo (qn (x179, (a177, c178)) (hB := (.cons 0 rfl .nil)) (hR := (.cons 0 rfl (.cons 0 rfl .nil)))))))
 rintro ⟨x151, ⟨a149, c150⟩⟩
 try dsimp only
 exact qf (qa (qd rfl rfl rfl (qS rfl rfl rfl (qj rfl rfl qhy rfl (qk (i := 0) rfl rfl tf37 rfl rfl (fun _ => rfl) rfl rfl (qd rfl rfl rfl (qb rfl rfl rfl (qb rfl rfl rfl (qc (qe (qv (qs ((a64, c65), (a149, c150)) (res2 rfl rfl rfl) (fun h => by subst h; exact (.cons 1 rfl (.cons 0 rfl .nil)))))))))))))))
theorem qdr (F : Nat) (g1 : Nat) (x2 : Int) (x3 : List Int) (a4 : Option Addr) (c5 : Nat) (x6 : Bool) (x7 : List Int) (a8 : Option Addr) (c9 : Nat) (r : (Int × List Int × Bool)) (hm : vt F x2 x3 x6 x7 = some r) :
    PureM Tryz.prog 72 [.pointer (some ⟨g1, 0, none⟩), .slice a8 x7.length c9] [⟨g1, 90, [.int .i64 x2, .slice a4 x3.length c5, .bool x6]⟩] [Ro (eI .u8) 5 1 (.slice a4 x3.length c5) x3] [Sl (eI .i64) 1 (.slice a8 x7.length c9) x7] (Option Addr × Nat) (fun _ => .tuple #[]) (fun g => [⟨g1, 90, [.int .i64 r.1, .slice g.1 r.2.1.length g.2, .bool r.2.2]⟩]) (fun g => [Ro (eI .u8) 5 1 (.slice g.1 r.2.1.length g.2) r.2.1]) := by
 refine kU Tryz.func72 rfl Tryz.ntmps72 rfl hm (fun w => qG (l' := [(0, .pointer (some ⟨g1, 0, none⟩)), (1, .slice a8 x7.length c9)]) rfl (qf (qa (qd rfl rfl rfl (qd rfl rfl rfl (q3 rfl Tryz.underlying37 rfl rfl (q2 ent70 rfl rfl rfl (fun x10 e10 => kA F g1 x2 x3 a4 c5 x6 (x7.length : Int) x10 e10) (.cons 0 rfl .nil) (.cons 0 rfl .nil) .nil (fun x10 e10 => ?_))))))))
 rintro ⟨a11, c12⟩
 refine qc (qe (qf (qa (qd rfl rfl rfl (q3 rfl Tryz.underlying37 rfl rfl (qd rfl rfl rfl (qc (qe (qD (zi (fun (((x27, x28, x31, x32), (a29, c30)) : ((Int × Int × List Int × Bool) × (Option Addr × Nat))) => [(0, .pointer (some ⟨g1, 0, none⟩)), (10, .slice a8 x7.length c9), (11, .int .i64 (x7.length : Int)), (12, .int .i64 x27)]) (fun (((x27, x28, x31, x32), (a29, c30)) : ((Int × Int × List Int × Bool) × (Option Addr × Nat))) => [⟨g1, 90, [.int .i64 x28, .slice a29 x31.length c30, .bool x32]⟩]) (fun (((x27, x28, x31, x32), (a29, c30)) : ((Int × Int × List Int × Bool) × (Option Addr × Nat))) => [Ro (eI .u8) 5 1 (.slice a29 x31.length c30) x31]) (fun (((x27, x28, x31, x32), (a29, c30)) : ((Int × Int × List Int × Bool) × (Option Addr × Nat))) => [Sl (eI .i64) 1 (.slice a8 x7.length c9) x7]) (fun k (s : ((Int × Int × List Int × Bool) × (Option Addr × Nat))) => ku F x7 k s.1) ((0, x10.1, x10.2.1, x10.2.2), (a11, c12)) F ?_ (hB := (.cons 0 rfl .nil)) (hR := (.cons 0 rfl .nil)) (hF := (qo 0 rfl qA))))))))))))
 intro k47
 rintro ⟨⟨x27, x28, x31, x32⟩, ⟨a29, c30⟩⟩
 try dsimp only
 refine zF (m' := yu F x7 (ku F x7 k47) x27 x28 x31 x32) rfl (qf (qa (qZ rfl rfl rfl rfl (qc (qe (qf (qC rfl (fun h61 => ?_) (fun h61 => ?_))))))))
 refine qt (qe (qf (qD (qf (qa (qd rfl rfl rfl (kh (j := 0) (zd .i64) (by decide) rfl Tryz.underlying37 tf3 rfl rfl rfl rfl (fun x55 e55 b56 o57 => kb (j := 0) rfl rfl tf3 rfl rfl (fun _ => rfl) rfl rfl (qb rfl rfl rfl (qb rfl rfl rfl (qc (qe ?_))))))))))))
 refine qa (qd rfl rfl rfl (qd rfl rfl rfl (qd rfl rfl rfl (qdM rfl rfl rfl rfl (zO rfl rfl rfl rfl (q2 ent70 rfl rfl rfl (fun x58 e58 => kA F g1 x28 x31 a29 c30 x32 (isub .i64 x55 (imin x27 1)) x58 e58) (.cons 0 rfl .nil) (.cons 0 rfl .nil) .nil (fun x58 e58 => ?_)))))))
 rintro ⟨a59, c60⟩
 exact qc (qU (qe (qa (qN rfl rfl rfl rfl (qd rfl rfl rfl (qc (q4 ((iadd .i64 x27 1, x58.1, x58.2.1, x58.2.2), (a59, c60)) (hB := (.cons 0 rfl .nil)) (hR := (.cons 0 rfl .nil)) (hF := (qo 1 rfl qA)))))))))
 exact zn (qF (qF (zo (zz (a29, c30) (res0 rfl) (hB := fun h => by subst h; exact (.cons 0 rfl .nil)) (hR := fun h => by subst h; exact (.cons 0 rfl .nil))))))
theorem qia (F : Nat) (x1 : List Int) (a2 : Option Addr) (c3 : Nat) (r : Unit) (hm : qds F x1 = some r) :
    PureM Tryz.prog 98 [.slice a2 x1.length c3] [] [] [Sl (eI .i64) 1 (.slice a2 x1.length c3) x1] Nat (fun g => .func (.func 117) #[] #[.pointer (some ⟨g, 0, none⟩)]) (fun g => [⟨g, 37, [.slice a2 x1.length c3]⟩]) (fun _ => []) := by
 refine kU Tryz.func98 rfl Tryz.ntmps98 rfl hm (fun w => qG (l' := [(0, .slice a2 x1.length c3)]) rfl (qf (qa (qW rfl rfl rfl (fun g4 => qb rfl rfl rfl (qc (qe (qf (qa (qdf rfl rfl rfl (qb rfl rfl rfl (qc ?_))))))))))))
 exact qe (qv (zz g4 (res1 rfl rfl) (hB := fun h => by subst h; exact (.cons 0 rfl .nil))))
theorem qgK (F : Nat) {σ τ : Type} {J : Rounds σ τ} {yy : σ → (Int × Int) → Option (σ ⊕ τ)} {L : Nat} (hY : YieldC Tryz.prog L (fun (p : (Int × Int)) => [.agg #[.int .i64 p.1, .int .i64 p.2]]) J yy) (s0 : σ) (gs0 : J.γ) (g1 : Nat) (x2 : List Int) (a3 : Option Addr) (c4 : Nat) (r : σ ⊕ τ) (hm : qae F yy x2 s0 = some r) :
    PureM Tryz.prog 117 ([.func (.yield L) #[] #[], .pointer (some ⟨g1, 0, none⟩)]) ([⟨g1, 37, [.slice a3 x2.length c4]⟩] ++ J.IB s0 gs0) (J.IR s0 gs0) [J.F, Sl (eI .i64) 1 (.slice a3 x2.length c4) x2] (J.G r) (fun _ => .tuple #[]) (fun g => [⟨g1, 37, [.slice a3 x2.length c4]⟩] ++ J.bs r g) (fun g => J.rs r g) := by
  refine kU Tryz.func117 rfl Tryz.ntmps117 rfl hm (fun w => ?_)
  refine qG (l' := [(0, .func (.yield L) #[] #[]), (1, .pointer (some ⟨g1, 0, none⟩))]) rfl ?_
  refine qf ?_
  refine qa ?_
  refine qb rfl rfl rfl ?_
  refine qc ?_
  refine qe ?_
  refine qD ?_
  refine zi (fun (((x266, x267), g268) : ((Int × σ) × J.γ)) => [(0, .func (.yield L) #[] #[]), (1, .pointer (some ⟨g1, 0, none⟩)), (3, .int .i64 x266)]) (fun (((x266, x267), g268) : ((Int × σ) × J.γ)) => [⟨g1, 37, [.slice a3 x2.length c4]⟩] ++ J.IB x267 g268) (fun (((x266, x267), g268) : ((Int × σ) × J.γ)) => [] ++ J.IR x267 g268) (fun (((x266, x267), g268) : ((Int × σ) × J.γ)) => [Sl (eI .i64) 1 (.slice a3 x2.length c4) x2, J.F]) (fun k (s : ((Int × σ) × J.γ)) => zx F yy x2 k s.1) ((0, s0), gs0) F ?_ (hB := (.cons 0 rfl (zD 0 rfl))) (hR := (zD 0 rfl)) (hF := (qo 1 rfl (qo 0 rfl qA)))
  intro k530
  rintro ⟨⟨x266, x267⟩, g268⟩
  try dsimp only
  refine zF (m' := jC F yy x2 (zx F yy x2 k530) x266 x267) rfl ?_
  refine qf ?_
  refine qf ?_
  refine qa ?_
  refine qd rfl rfl rfl ?_
  refine qk (i := 0) rfl rfl tf37 rfl rfl (fun _ => rfl) rfl rfl ?_
  refine q3 rfl Tryz.underlying37 rfl rfl ?_
  refine qZ rfl rfl rfl rfl ?_
  refine qc ?_
  refine qe ?_
  refine qC rfl (fun h791 => ?_) (fun h791 => ?_)
  · refine qt ?_
    refine qe ?_
    refine qD ?_
    refine qf ?_
    refine qa ?_
    refine qb rfl rfl rfl ?_
    refine qc ?_
    refine qe ?_
    refine qH (fun ((x654, _) : (Int × Unit)) => [(0, .func (.yield L) #[] #[]), (1, .pointer (some ⟨g1, 0, none⟩)), (3, .int .i64 x266), (4, .int .i64 x654)]) (fun ((x654, _) : (Int × Unit)) => [⟨g1, 37, [.slice a3 x2.length c4]⟩] ++ J.IB x267 g268) (fun ((x654, _) : (Int × Unit)) => [] ++ J.IR x267 g268) (fun ((x654, _) : (Int × Unit)) => [Sl (eI .i64) 1 (.slice a3 x2.length c4) x2, J.F]) (fun ((x654, _) : (Int × Unit)) => jE F yy (zx F yy x2 k530) x2 x266 x267 x654) ?_ ?_
    · refine qD ?_
      refine zi (fun ((x709, _) : (Int × Unit)) => [(0, .func (.yield L) #[] #[]), (1, .pointer (some ⟨g1, 0, none⟩)), (3, .int .i64 x266), (4, .int .i64 x709)]) (fun ((x709, _) : (Int × Unit)) => [⟨g1, 37, [.slice a3 x2.length c4]⟩] ++ J.IB x267 g268) (fun ((x709, _) : (Int × Unit)) => [] ++ J.IR x267 g268) (fun ((x709, _) : (Int × Unit)) => [Sl (eI .i64) 1 (.slice a3 x2.length c4) x2, J.F]) (fun k (s : (Int × Unit)) => kN F yy (zx F yy x2 k530) x2 x266 x267 k s.1) (1, ()) F ?_ (hB := (.cons 0 rfl (zD 0 rfl))) (hR := (zD 0 rfl)) (hF := (qo 0 rfl (qo 1 rfl qA)))
      intro k750
      rintro ⟨x709, _⟩
      try dsimp only
      refine zF (m' := jD F yy (zx F yy x2 k530) x2 x266 x267 (kN F yy (zx F yy x2 k530) x2 x266 x267 k750) x709) rfl ?_
      refine qf ?_
      refine qH (fun ((x780, _) : (Bool × Unit)) => [(0, .func (.yield L) #[] #[]), (1, .pointer (some ⟨g1, 0, none⟩)), (3, .int .i64 x266), (4, .int .i64 x709), (29, .bool x780)]) (fun ((x780, _) : (Bool × Unit)) => [⟨g1, 37, [.slice a3 x2.length c4]⟩] ++ J.IB x267 g268) (fun ((x780, _) : (Bool × Unit)) => [] ++ J.IR x267 g268) (fun ((x780, _) : (Bool × Unit)) => [Sl (eI .i64) 1 (.slice a3 x2.length c4) x2, J.F]) (fun ((x780, _) : (Bool × Unit)) => jF F yy (zx F yy x2 k530) (kN F yy (zx F yy x2 k530) x2 x266 x267 k750) x2 x266 x267 x709 x780) ?_ ?_
      · refine qaz (fun h782 => ?_) (fun h782 => ?_)
        · refine qai (j := 0) (zd .i64) (by decide) rfl (fun x783 e783 b784 o785 h786 => ?_)
          replace h786 : a3 = some ⟨b784, o785, none⟩ := h786
          refine qai (j := 1) (zd .i64) (by decide) rfl (fun x787 e787 b788 o789 h790 => ?_)
          replace h790 : a3 = some ⟨b788, o789, none⟩ := h790
          refine zm mixed [] [⟨g1, 37, [.slice a3 x2.length c4]⟩] [zH b788 (o789 + x266.toNat * 1) ((eI .i64) x787), zH b784 (o785 + (iadd .i64 x266 x709).toNat * 1) ((eI .i64) x783), Sl (eI .i64) 1 (.slice a3 x2.length c4) x2, J.F] (.cons 0 rfl .nil) (q7 0 rfl (q7 1 rfl (q7 2 rfl (q7 3 rfl qI)))) 21 rfl ?_
          refine qg 0 (.int .i64 x266) rfl rfl rfl (qm rfl) ?_
          refine qg 1 (.int .i64 x709) rfl rfl rfl (qm rfl) ?_
          refine qg 2 (.int .i64 (iadd .i64 x266 x709)) rfl rfl rfl (qm rfl) ?_
          refine qX 3 (.slice a3 x2.length c4) rfl rfl rfl (qY (i := 0) rfl tf37 rfl rfl (fun _ => rfl) rfl) ?_
          refine qg 4 (.int .i64 (x2.length : Int)) rfl rfl rfl (qfi Tryz.underlying37 rfl) ?_
          refine qg 5 (.bool (decide ((iadd .i64 x266 x709) < (x2.length : Int)))) rfl rfl rfl (qm rfl) ?_
          refine qg 6 (.bool (decide ((iadd .i64 x266 x709) < (x2.length : Int)))) rfl rfl rfl (qm rfl) ?_
          refine qJ (d := 15) (v := .bool true) rfl (by rw [h782] <;> rfl) ?_
          refine qX 7 (.slice a3 x2.length c4) rfl rfl rfl (qY (i := 0) rfl tf37 rfl rfl (fun _ => rfl) rfl) ?_
          refine qg 8 (.int .i64 x266) rfl rfl rfl (qm rfl) ?_
          refine qg 9 (.int .i64 x709) rfl rfl rfl (qm rfl) ?_
          refine qg 10 (.int .i64 (iadd .i64 x266 x709)) rfl rfl rfl (qm rfl) ?_
          refine qJ (d := 16) (v := .slice (some ⟨b784, o785, none⟩) x2.length c4) rfl (by rw [h786] <;> rfl) ?_
          refine qg 11 (.pointer (some ⟨b784, (o785 + (iadd .i64 x266 x709).toNat * 1), none⟩)) rfl rfl rfl (qbc Tryz.underlying37 tf3 rfl rfl (ke e783).1 (qaU e783)) ?_
          refine qJ (d := 16) (v := .slice a3 x2.length c4) rfl (by rw [h786] <;> rfl) ?_
          refine km 12 (.int .i64 x783) [] rfl rfl rfl (vK (j := 1) rfl tf3 rfl rfl (fun _ => rfl) rfl) ?_
          refine qX 13 (.slice a3 x2.length c4) rfl rfl rfl (qY (i := 0) rfl tf37 rfl rfl (fun _ => rfl) rfl) ?_
          refine qg 14 (.int .i64 x266) rfl rfl rfl (qm rfl) ?_
          refine qJ (d := 22) (v := .slice (some ⟨b788, o789, none⟩) x2.length c4) rfl (by rw [h790] <;> rfl) ?_
          refine qg 15 (.pointer (some ⟨b788, (o789 + x266.toNat * 1), none⟩)) rfl rfl rfl (qbc Tryz.underlying37 tf3 rfl rfl (ke e787).1 (qaU e787)) ?_
          refine qJ (d := 22) (v := .slice a3 x2.length c4) rfl (by rw [h790] <;> rfl) ?_
          refine km 16 (.int .i64 x787) [] rfl rfl rfl (vK (j := 0) rfl tf3 rfl rfl (fun _ => rfl) rfl) ?_
          refine qg 17 (.int .i64 x709) rfl rfl rfl (qm rfl) ?_
          refine qg 18 (.int .i64 (iadd .i64 x787 x709)) rfl rfl rfl (qm rfl) ?_
          refine qg 19 (.bool ((x783 : Int) == (iadd .i64 x787 x709))) rfl rfl rfl (qm rfl) ?_
          refine qg 20 (.bool ((x783 : Int) == (iadd .i64 x787 x709))) rfl rfl rfl (qm rfl) ?_
          refine qV (by kernel_rfl) ?_
          refine zw ?_ (by intro c h; cases h)
          exact qn (((x783 : Int) == (iadd .i64 x787 x709)), ()) (hB := (.cons 0 rfl (zD 0 rfl))) (hR := (zD 0 rfl)) (hF := (qo 2 rfl (qo 3 rfl qA)))
        · refine zm mixed [] [⟨g1, 37, [.slice a3 x2.length c4]⟩] [Sl (eI .i64) 1 (.slice a3 x2.length c4) x2, J.F] (.cons 0 rfl .nil) (q7 0 rfl (q7 1 rfl qI)) 21 rfl ?_
          refine qg 0 (.int .i64 x266) rfl rfl rfl (qm rfl) ?_
          refine qg 1 (.int .i64 x709) rfl rfl rfl (qm rfl) ?_
          refine qg 2 (.int .i64 (iadd .i64 x266 x709)) rfl rfl rfl (qm rfl) ?_
          refine qX 3 (.slice a3 x2.length c4) rfl rfl rfl (qY (i := 0) rfl tf37 rfl rfl (fun _ => rfl) rfl) ?_
          refine qg 4 (.int .i64 (x2.length : Int)) rfl rfl rfl (qfi Tryz.underlying37 rfl) ?_
          refine qg 5 (.bool (decide ((iadd .i64 x266 x709) < (x2.length : Int)))) rfl rfl rfl (qm rfl) ?_
          refine qg 6 (.bool (decide ((iadd .i64 x266 x709) < (x2.length : Int)))) rfl rfl rfl (qm rfl) ?_
          refine qJ (d := 15) (v := .bool false) rfl (by rw [h782] <;> rfl) ?_
          refine ql 7 rfl rfl rfl ?_
          refine ql 8 rfl rfl rfl ?_
          refine ql 9 rfl rfl rfl ?_
          refine ql 10 rfl rfl rfl ?_
          refine ql 11 rfl rfl rfl ?_
          refine ql 12 rfl rfl rfl ?_
          refine ql 13 rfl rfl rfl ?_
          refine ql 14 rfl rfl rfl ?_
          refine ql 15 rfl rfl rfl ?_
          refine ql 16 rfl rfl rfl ?_
          refine ql 17 rfl rfl rfl ?_
          refine ql 18 rfl rfl rfl ?_
          refine ql 19 rfl rfl rfl ?_
          refine qg 20 (.bool false) rfl rfl rfl (qm rfl) ?_
          refine qV (by kernel_rfl) ?_
          refine zw ?_ (by intro c h; cases h)
          exact qn (false, ()) (hB := (.cons 0 rfl (zD 0 rfl))) (hR := (zD 0 rfl)) (hF := (qo 0 rfl (qo 1 rfl qA)))
      · rintro ⟨x780, _⟩
        try dsimp only
        refine qC rfl (fun h781 => ?_) (fun h781 => ?_)
        · refine qt ?_
          refine qe ?_
          refine qD ?_
          refine qa ?_
          refine qd rfl rfl rfl ?_
          refine qN rfl rfl rfl rfl ?_
          refine qb rfl rfl rfl ?_
          refine qc ?_
          refine qU ?_
          exact q4 (iadd .i64 x709 1, ()) (hB := (.cons 0 rfl (zD 0 rfl))) (hR := (zD 0 rfl)) (hF := (qo 0 rfl (qo 1 rfl qA)))
        · refine zn ?_
          refine qF ?_
          refine qF ?_
          refine zo ?_
          exact qn (x709, ()) (hB := (.cons 0 rfl (zD 0 rfl))) (hR := (zD 0 rfl)) (hF := (qo 0 rfl (qo 1 rfl qA)))
    · rintro ⟨x654, _⟩
      try dsimp only
      refine qf ?_
      refine qf ?_
      refine qa ?_
      refine qd rfl rfl rfl ?_
      refine qk (i := 0) rfl rfl tf37 rfl rfl (fun _ => rfl) rfl rfl ?_
      refine qd rfl rfl rfl ?_
      refine kh (j := 0) (zd .i64) (by decide) rfl Tryz.underlying37 tf3 rfl rfl rfl rfl (fun x662 e662 b663 o664 => ?_)
      refine kb (j := 0) rfl rfl tf3 rfl rfl (fun _ => rfl) rfl rfl ?_
      refine qd rfl rfl rfl ?_
      refine q6 (cells := [.int .i64 x662, .int .i64 x654]) rfl st141 rfl (by kernel_rfl) rfl ?_
      refine qhi hY x267 (x662, x654) g268 (B1 := [⟨g1, 37, [.slice a3 x2.length c4]⟩]) (R1 := []) (j := 2) rfl rfl rfl rfl rfl rfl rfl (fun x665 _ g667 => ?_) (fun x666 _ g667 => ?_)
      · refine kn rfl rfl rfl ?_
        refine qc ?_
        refine qe ?_
        refine qaY (b := false) rfl (fun h => by cases h) (fun _ => ?_)
        refine qt ?_
        refine qe ?_
        refine qa ?_
        refine qd rfl rfl rfl ?_
        refine qd rfl rfl rfl ?_
        refine qN rfl rfl rfl rfl ?_
        refine qb rfl rfl rfl ?_
        refine qc ?_
        refine qU ?_
        exact q4 ((iadd .i64 x266 x654, x665), g667) (hB := (.cons 0 rfl (zD 0 rfl))) (hR := (zD 0 rfl)) (hF := (qo 1 rfl (qo 2 rfl qA)))
      · refine kn rfl rfl rfl ?_
        refine qc ?_
        refine qe ?_
        refine qaY (b := true) rfl (fun _ => ?_) (fun h => by cases h)
        refine qv ?_
        refine qq ?_
        refine qP ?_
        refine qq ?_
        refine qP ?_
        exact qdN (B0 := [⟨g1, 37, [.slice a3 x2.length c4]⟩]) (x := .inr x666) g667 (.inl rfl) (res0 rfl) (.cons 0 rfl (zD 0 rfl)) (zD 0 rfl)
  · refine zn ?_
    refine qF ?_
    refine qF ?_
    refine zo ?_
    exact qdN (B0 := [⟨g1, 37, [.slice a3 x2.length c4]⟩]) (x := .inl x267) g268 (.inr rfl) (res0 rfl) (.cons 0 rfl (zD 0 rfl)) (zD 0 rfl)
theorem qiZ (F : Nat) (x1 : List Int) (a2 : Option Addr) (c3 : Nat) (x4 : Int) (r : (List (Int × Int) × List Int)) (hm : qcY F x1 x4 = some r) :
    PureM Tryz.prog 73 [.slice a2 x1.length c3, .int .i64 x4] [] [] [Sl (eI .i64) 1 (.slice a2 x1.length c3) x1] ((Option Addr × Nat) × (Option Addr × Nat)) (fun g => .tuple #[.slice g.1.1 r.1.length g.1.2, .slice g.2.1 r.2.length g.2.2]) (fun _ => []) (fun g => [Ro eS141 141 2 (.slice g.1.1 r.1.length g.1.2) r.1, Ro (eI .i64) 3 1 (.slice g.2.1 r.2.length g.2.2) r.2]) := by
 refine qgi Tryz.func73 rfl Tryz.ntmps73 rfl hm (fun w => qG (l' := [(0, .slice a2 x1.length c3), (1, .int .i64 x4)]) rfl (qf (qa (qW rfl rfl rfl (fun g5 => qM rfl tf117 rfl (fun g6 => qM rfl tf37 rfl (fun g7 => qc (qe (qf (qf (qa (qd rfl rfl rfl ?_))))))))))))
 refine q2 ent98 rfl rfl rfl (fun x188 e188 => qia F x1 a2 c3 x188 e188) .nil .nil (.consF 0 rfl .nil) (fun x188 e188 => ?_)
 rintro g189
 refine qc (qe (qD (yR Int (eI .i64) 3 1 (yR (Int × Int) eS141 141 2 (qff (encs := (fun (p : (Int × Int)) => [.agg #[.int .i64 p.1, .int .i64 p.2]])) (y := (fun ((x252, x255) : (List Int × List (Int × Int))) ((x312, x313) : (Int × Int)) => qad F x4 x252 x255 x312 x313)) (lb := [.pointer (some ⟨g189, 0, none⟩)]) (fun ((x252, x255) : (List Int × List (Int × Int))) ((a250, c251, a253, c254) : (Option Addr × Nat × Option Addr × Nat)) => [⟨g7, 37, [.slice a250 x252.length c251]⟩, ⟨g6, 117, [.slice a253 x255.length c254]⟩, ⟨g5, 3, [.int .i64 x4]⟩]) (fun ((x252, x255) : (List Int × List (Int × Int))) ((a250, c251, a253, c254) : (Option Addr × Nat × Option Addr × Nat)) => [Ro (eI .i64) 3 1 (.slice a250 x252.length c251) x252, Ro eS141 141 2 (.slice a253 x255.length c254) x255]) (fun (_ : Empty) (_ : Unit) => []) (fun (_ : Empty) (_ : Unit) => []) (fun _ => .skip) (([] : List Int), ([] : List (Int × Int))) (none, 0, none, 0) rfl ent117 (fun _ => rfl) rfl (.cons 0 rfl .nil) (.cons 0 rfl (.cons 0 rfl (.cons 0 rfl .nil))) (.cons 1 rfl (.cons 0 rfl .nil)) (.consF 0 rfl .nil) (fun z hz _ _ _ hY => qgK F hY (([] : List Int), ([] : List (Int × Int))) (none, 0, none, 0) g189 x1 a2 c3 z hz) ?_ ?_ ?_)))))
 rintro rc1 L1 D1 ⟨x252, x255⟩ ⟨a250, c251, a253, c254⟩ ⟨x312, x313⟩ z w M _
 try dsimp only
 refine qgu [(0, .slice a2 x1.length c3), (1, .int .i64 x4), (3, .pointer (some ⟨g5, 0, none⟩)), (4, .pointer (some ⟨g6, 0, none⟩)), (5, .pointer (some ⟨g7, 0, none⟩)), (8, .slice a2 x1.length c3), (9, .func (.func 117) #[] #[.pointer (some ⟨g189, 0, none⟩)]), (10, .agg #[.int .i64 x312, .int .i64 x313])] (qh rfl (qh rfl (qh rfl (qh rfl (qh rfl (qh rfl (qh rfl (qh rfl qO)))))))) (qa (qM rfl tf141 rfl (fun g314 => qu (i := 0) rfl rfl rfl tf141 rfl rfl rfl rfl rfl (qc (qfg (i := 4) rfl (qD (qf (qf (qa (qj rfl rfl qbR rfl (qk (i := 0) rfl rfl tf3 rfl rfl (fun _ => rfl) rfl rfl (qk (i := 3) rfl rfl tf3 rfl rfl (fun _ => rfl) rfl rfl ?_))))))))))))
 refine qbv rfl rfl rfl rfl (qc (qe (qC rfl (fun h367 => ?_) (fun h367 => ?_))))
 exact qf (qa (qk (i := 2) rfl rfl tf117 rfl rfl (fun _ => rfl) rfl rfl (qk (i := 0) rfl rfl tf141 rfl rfl (by simp) rfl rfl (zB (vs := [.agg #[.int .i64 x312, .int .i64 x313]]) (ys := ([(x312, x313)] : List (Int × Int))) qbD (by decide) rfl Tryz.underlying117 tf141 rfl rfl rfl rfl rfl (by decide) (fun a321 c322 => yw 2 qbD rfl Tryz.underlying117 tf141 rfl rfl rfl rfl rfl (.inl ⟨0, _, rfl⟩) rfl rfl (fun x323 e323 a324 c325 => qu (i := 2) rfl rfl rfl tf117 rfl rfl rfl rfl rfl (qc (qe (zn (qF (zo (qdP (rc := rc1) rfl (.cons 4 rfl .nil) rfl (a250, c251, a324, c325) (.cons 2 rfl (.cons 2 rfl (.cons 2 rfl (.cons 0 rfl (.cons 1 rfl .nil))))) (.cons 2 rfl (.cons 0 rfl .nil))))))))))))))
 refine qt (qe (qf (qa (qj rfl rfl qbR rfl (qk (i := 0) rfl rfl tf3 rfl rfl (fun _ => rfl) rfl rfl (qd rfl rfl rfl (qc (qe (qD (zi (fun (((x338, x341), (a339, c340)) : ((Int × List Int) × (Option Addr × Nat))) => [(3, .pointer (some ⟨g5, 0, none⟩)), (4, .pointer (some ⟨g6, 0, none⟩)), (5, .pointer (some ⟨g7, 0, none⟩)), (6, .pointer (some ⟨g314, 0, none⟩)), (20, .int .i64 x313), (21, .int .i64 x338)]) (fun (((x338, x341), (a339, c340)) : ((Int × List Int) × (Option Addr × Nat))) => [⟨g314, 141, [.int .i64 x312, .int .i64 x313]⟩, ⟨g7, 37, [.slice a339 x341.length c340]⟩, ⟨g6, 117, [.slice a253 x255.length c254]⟩, ⟨g5, 3, [.int .i64 x4]⟩, (blkO L1 (.loop (bsy rc1))), (dblk D1)]) (fun (((x338, x341), (a339, c340)) : ((Int × List Int) × (Option Addr × Nat))) => [Ro (eI .i64) 3 1 (.slice a339 x341.length c340) x341, Ro eS141 141 2 (.slice a253 x255.length c254) x255]) (fun (((x338, x341), (a339, c340)) : ((Int × List Int) × (Option Addr × Nat))) => []) (fun k (s : ((Int × List Int) × (Option Addr × Nat))) => jp F x255 x312 x313 k s.1) ((0, x252), (a250, c251)) F ?_ (hB := (.cons 0 rfl (.cons 0 rfl (.cons 0 rfl (.cons 0 rfl (.cons 0 rfl (.cons 0 rfl .nil))))))) (hR := (.cons 0 rfl (.cons 0 rfl .nil)))))))))))))
 intro k354
 rintro ⟨⟨x338, x341⟩, ⟨a339, c340⟩⟩
 try dsimp only
 refine zF (m' := qbs F x255 x312 x313 (jp F x255 x312 x313 k354) x338 x341) rfl (qf (qa (qZ rfl rfl rfl rfl (qc (qe (qf (qC rfl (fun h366 => ?_) (fun h366 => ?_))))))))
 refine qt (qe (qf (qD (qf (qa (qd rfl rfl rfl (qb rfl rfl rfl (qc (qe (qa (qk (i := 1) rfl rfl tf37 rfl rfl (fun _ => rfl) rfl rfl (qj rfl rfl qbQ rfl ?_))))))))))))
 refine qk (i := 0) rfl rfl tf3 rfl rfl (fun _ => rfl) rfl rfl (qd rfl rfl rfl (qN rfl rfl rfl rfl (zB (vs := [.int .i64 (iadd .i64 x312 x338)]) (ys := ([iadd .i64 x312 x338] : List Int)) (zd .i64) (by decide) rfl Tryz.underlying37 tf3 rfl rfl rfl rfl rfl (by decide) (fun a361 c362 => yw 1 (zd .i64) rfl Tryz.underlying37 tf3 rfl rfl rfl rfl rfl (.inl ⟨0, _, rfl⟩) rfl rfl (fun x363 e363 a364 c365 => qu (i := 1) rfl rfl rfl tf37 rfl rfl rfl rfl rfl (qc (qU (qe (qa (qN rfl rfl rfl rfl (qd rfl rfl rfl (qc ?_))))))))))))
 exact q4 ((iadd .i64 x338 1, x363), (a364, c365)) (hB := (.cons 0 rfl (.cons 0 rfl (.cons 0 rfl (.cons 0 rfl (.cons 0 rfl (.cons 0 rfl .nil))))))) (hR := (.cons 0 rfl (.cons 1 rfl .nil)))
 exact zn (qF (qF (zo (qU (qdP (rc := rc1) rfl (.cons 4 rfl .nil) rfl (a339, c340, a253, c254) (.cons 2 rfl (.cons 2 rfl (.cons 2 rfl (.cons 0 rfl (.cons 1 rfl .nil))))) (.cons 0 rfl (.cons 0 rfl .nil)))))))
 rintro ⟨x252, x255⟩ _ ⟨a250, c251, a253, c254⟩ D1
 try dsimp only
 refine qU (qe (qf (zm mixed [] [(dblk D1), ⟨g189, 37, [.slice a2 x1.length c3]⟩, ⟨g7, 37, [.slice a250 x252.length c251]⟩, ⟨g6, 117, [.slice a253 x255.length c254]⟩, ⟨g5, 3, [.int .i64 x4]⟩] [Sl (eI .i64) 1 (.slice a2 x1.length c3) x1] (.cons 0 rfl (.cons 0 rfl (.cons 0 rfl (.cons 0 rfl (.cons 0 rfl .nil))))) (q7 0 rfl qI) 4 rfl (qX 0 (.slice a253 x255.length c254) rfl rfl rfl (qY (i := 3) rfl tf117 rfl rfl (fun _ => rfl) rfl) (qX 1 (.slice a250 x252.length c251) rfl rfl rfl (qY (i := 2) rfl tf37 rfl rfl (fun _ => rfl) rfl) (qL 2 rfl (by kernel_rfl) rfl (qu (i := 3) rfl rfl rfl tf117 rfl rfl rfl rfl rfl (qc (qK (.cons 0 rfl (.cons 0 rfl (.cons 0 rfl (.cons 0 rfl (.cons 0 rfl .nil))))) (q7 0 rfl qI) (qL 3 rfl (by kernel_rfl) rfl (qu (i := 2) rfl rfl rfl tf37 rfl rfl rfl rfl rfl (qc ?_))))))))))))
 exact qK (.cons 0 rfl (.cons 0 rfl (.cons 0 rfl (.cons 0 rfl (.cons 0 rfl .nil))))) (q7 0 rfl qI) (qV (by kernel_rfl) (zw (qe (qv (qdO [D1] ((a253, c254), (a250, c251)) (.inl rfl) rfl (.cons 0 rfl .nil) (resL (rs := [.cell 4 117, .cell 5 37]) rfl (.cell (i := 2) rfl tf117 rfl rfl (fun _ => rfl) rfl (.cell (i := 1) rfl tf37 rfl rfl (fun _ => rfl) rfl ResOk.nil)) rfl) (fun h => by subst h; rfl) (fun h => by subst h; exact .nil) (fun h => by subst h; exact (.cons 1 rfl (.cons 0 rfl .nil)))))) (by intro c h; cases h)))
 intro t; exact t.elim
theorem qdU (F : Nat) (x1 : Int) (r : Int) (hm : qag F x1 = some r) :
    Pure Tryz.prog 99 [.int .i64 x1] [] Unit (fun _ => .int .u64 r) (fun _ => []) (fun _ => []) := by
 refine qT Tryz.func99 rfl Tryz.ntmps99 rfl hm (fun w => qG (l' := [(0, .int .i64 x1)]) rfl (qf (qa (qb rfl rfl rfl (qc (qe (qf (qa (qd rfl rfl rfl (zV rfl Tryz.underlying2 Tryz.underlying50 rfl rfl (qeR rfl rfl rfl rfl rfl (qd rfl rfl rfl ?_))))))))))))
 exact qbW rfl rfl rfl rfl rfl (zV rfl Tryz.underlying2 Tryz.underlying50 rfl rfl (qkz rfl rfl rfl rfl (qb rfl rfl rfl (qaj (fun x2 e2 => qx (d := 2) (v := .int .u64 x2) rfl (by rw [e2] <;> rfl) (qc (qe (qv (qs () (res1 rfl rfl))))))))))
theorem qea (F : Nat) (g1 : Nat) (x2 : Int) (x3 : List Int) (a4 : Option Addr) (c5 : Nat) (x6 : Bool) (x7 : Int) (x8 : Int) (x9 : List (Int × Int)) (a10 : Option Addr) (c11 : Nat) (r : (Int × List Int × Bool)) (hm : vZ F x2 x3 x6 x7 x8 x9 = some r) :
    PureM Tryz.prog 74 [.pointer (some ⟨g1, 0, none⟩), .int .i64 x7, .int .i64 x8, .slice a10 x9.length c11] [⟨g1, 90, [.int .i64 x2, .slice a4 x3.length c5, .bool x6]⟩] [Ro (eI .u8) 5 1 (.slice a4 x3.length c5) x3] [Sl eS141 2 (.slice a10 x9.length c11) x9] (Option Addr × Nat) (fun _ => .tuple #[]) (fun g => [⟨g1, 90, [.int .i64 r.1, .slice g.1 r.2.1.length g.2, .bool r.2.2]⟩]) (fun g => [Ro (eI .u8) 5 1 (.slice g.1 r.2.1.length g.2) r.2.1]) := by
 refine kU Tryz.func74 rfl Tryz.ntmps74 rfl hm (fun w => qG (l' := [(0, .pointer (some ⟨g1, 0, none⟩)), (1, .int .i64 x7), (2, .int .i64 x8), (3, .slice a10 x9.length c11)]) rfl (qf (qa (qd rfl rfl rfl (qd rfl rfl rfl (q3 rfl Tryz.underlying117 rfl rfl (q2 ent70 rfl rfl rfl (fun x12 e12 => kA F g1 x2 x3 a4 c5 x6 (x9.length : Int) x12 e12) (.cons 0 rfl .nil) (.cons 0 rfl .nil) .nil (fun x12 e12 => ?_))))))))
 rintro ⟨a13, c14⟩
 refine qc (qe (qf (qa (qd rfl rfl rfl (qb rfl rfl rfl (qc (qe (qf (qa (qd rfl rfl rfl (q3 rfl Tryz.underlying117 rfl rfl (qd rfl rfl rfl ?_))))))))))))
 refine qc (qe (qD (zi (fun (((x73, x74, x75, x78, x79), (a76, c77)) : ((Int × Int × Int × List Int × Bool) × (Option Addr × Nat))) => [(0, .pointer (some ⟨g1, 0, none⟩)), (2, .int .i64 x8), (8, .int .i64 x73), (16, .slice a10 x9.length c11), (17, .int .i64 (x9.length : Int)), (18, .int .i64 x74)]) (fun (((x73, x74, x75, x78, x79), (a76, c77)) : ((Int × Int × Int × List Int × Bool) × (Option Addr × Nat))) => [⟨g1, 90, [.int .i64 x75, .slice a76 x78.length c77, .bool x79]⟩]) (fun (((x73, x74, x75, x78, x79), (a76, c77)) : ((Int × Int × Int × List Int × Bool) × (Option Addr × Nat))) => [Ro (eI .u8) 5 1 (.slice a76 x78.length c77) x78]) (fun (((x73, x74, x75, x78, x79), (a76, c77)) : ((Int × Int × Int × List Int × Bool) × (Option Addr × Nat))) => [Sl eS141 2 (.slice a10 x9.length c11) x9]) (fun k (s : ((Int × Int × Int × List Int × Bool) × (Option Addr × Nat))) => zS F x8 x9 k s.1) ((x7, 0, x12.1, x12.2.1, x12.2.2), (a13, c14)) F ?_ (hB := (.cons 0 rfl .nil)) (hR := (.cons 0 rfl .nil)) (hF := (qo 0 rfl qA)))))
 intro k138
 rintro ⟨⟨x73, x74, x75, x78, x79⟩, ⟨a76, c77⟩⟩
 try dsimp only
 refine zF (m' := yX F x8 x9 (zS F x8 x9 k138) x73 x74 x75 x78 x79) rfl (qf (qa (qZ rfl rfl rfl rfl (qc (qe (qf (qC rfl (fun h196 => ?_) (fun h196 => ?_))))))))
 refine qt (qe (qf (qD (qf (qa (qd rfl rfl rfl (kh (j := 0) qbD (by decide) rfl Tryz.underlying117 tf141 rfl rfl rfl rfl (fun x168 e168 b169 o170 => kb (j := 0) rfl rfl tf141 rfl rfl (by simp) rfl rfl (qM rfl tf141 rfl (fun g171 => qb rfl rfl rfl (qu (i := 0) rfl rfl rfl tf141 rfl rfl rfl rfl rfl (qc ?_))))))))))))
 refine qe (qH (fun (((x180, x183, x184), (a181, c182)) : ((Int × List Int × Bool) × (Option Addr × Nat))) => [(0, .pointer (some ⟨g1, 0, none⟩)), (2, .int .i64 x8), (10, .pointer (some ⟨g171, 0, none⟩)), (16, .slice a10 x9.length c11), (17, .int .i64 (x9.length : Int)), (18, .int .i64 x74)]) (fun (((x180, x183, x184), (a181, c182)) : ((Int × List Int × Bool) × (Option Addr × Nat))) => [⟨g1, 90, [.int .i64 x180, .slice a181 x183.length c182, .bool x184]⟩, ⟨g171, 141, [.int .i64 x168.1, .int .i64 x168.2]⟩]) (fun (((x180, x183, x184), (a181, c182)) : ((Int × List Int × Bool) × (Option Addr × Nat))) => [Ro (eI .u8) 5 1 (.slice a181 x183.length c182) x183]) (fun (((x180, x183, x184), (a181, c182)) : ((Int × List Int × Bool) × (Option Addr × Nat))) => [Sl eS141 2 (.slice a10 x9.length c11) x9]) (fun (((x180, x183, x184), _) : ((Int × List Int × Bool) × (Option Addr × Nat))) => yd F (zS F x8 x9 k138) x8 x74 x168 x180 x183 x184) ?_ ?_)
 refine qf (qa (qd rfl rfl rfl (zj rfl rfl rfl rfl (qc (qe (qC rfl (fun h195 => ?_) (fun h195 => ?_)))))))
 refine qa (qd rfl rfl rfl (qj rfl rfl qbQ rfl (qk (i := 0) rfl rfl tf3 rfl rfl (fun _ => rfl) rfl rfl (qd rfl rfl rfl (zO rfl rfl rfl rfl (qy ent99 rfl rfl rfl (fun x188 e188 => qdU F (isub .i64 x168.1 x73) x188 e188) .nil (fun x188 e188 => ?_)))))))
 intro _
 refine zV rfl Tryz.underlying50 Tryz.underlying3 rfl rfl (q2 ent70 rfl rfl rfl (fun x189 e189 => kA F g1 x75 x78 a76 c77 x79 (iconv .i64 x188) x189 e189) (.cons 1 rfl .nil) (.cons 0 rfl .nil) .nil (fun x189 e189 => ?_))
 rintro ⟨a190, c191⟩
 exact qc (qn ((x189.1, x189.2.1, x189.2.2), (a190, c191)) (hB := (.cons 0 rfl (.cons 0 rfl .nil))) (hR := (.cons 0 rfl .nil)) (hF := (qo 1 rfl qA)))
 refine qa (qd rfl rfl rfl (qj rfl rfl qbQ rfl (qk (i := 0) rfl rfl tf3 rfl rfl (fun _ => rfl) rfl rfl (qd rfl rfl rfl (zO rfl rfl rfl rfl (zO rfl rfl rfl rfl (q2 ent70 rfl rfl rfl (fun x192 e192 => kA F g1 x75 x78 a76 c77 x79 (isub .i64 (isub .i64 x168.1 x73) 2) x192 e192) (.cons 1 rfl .nil) (.cons 0 rfl .nil) .nil (fun x192 e192 => ?_))))))))
 rintro ⟨a193, c194⟩
 exact qc (qn ((x192.1, x192.2.1, x192.2.2), (a193, c194)) (hB := (.cons 0 rfl (.cons 0 rfl .nil))) (hR := (.cons 0 rfl .nil)) (hF := (qo 1 rfl qA)))
 rintro ⟨⟨x180, x183, x184⟩, ⟨a181, c182⟩⟩
 try dsimp only
 refine qf (qa (qd rfl rfl rfl (qj rfl rfl qbR rfl (qk (i := 1) rfl rfl tf3 rfl rfl (fun _ => rfl) rfl rfl (qd rfl rfl rfl (zO rfl rfl rfl rfl (q2 ent70 rfl rfl rfl (fun x185 e185 => kA F g1 x180 x183 a181 c182 x184 (isub .i64 x168.2 x8) x185 e185) (.cons 0 rfl .nil) (.cons 0 rfl .nil) .nil (fun x185 e185 => ?_))))))))
 rintro ⟨a186, c187⟩
 refine qc (qe (qa (qj rfl rfl qbQ rfl (qk (i := 1) rfl rfl tf3 rfl rfl (fun _ => rfl) rfl rfl (qj rfl rfl qbR rfl (qk (i := 1) rfl rfl tf3 rfl rfl (fun _ => rfl) rfl rfl (qN rfl rfl rfl rfl (zO rfl rfl rfl rfl (qb rfl rfl rfl (qc (qU (qe ?_))))))))))))
 exact qa (qN rfl rfl rfl rfl (qd rfl rfl rfl (qc (q4 ((isub .i64 (iadd .i64 x168.1 x168.2) 1, iadd .i64 x74 1, x185.1, x185.2.1, x185.2.2), (a186, c187)) (hB := (.cons 0 rfl .nil)) (hR := (.cons 0 rfl .nil)) (hF := (qo 0 rfl qA))))))
 exact zn (qF (qF (zo (zz (a76, c77) (res0 rfl) (hB := fun h => by subst h; exact (.cons 0 rfl .nil)) (hR := fun h => by subst h; exact (.cons 0 rfl .nil))))))
theorem qgH (F : Nat) (x1 : Int) (x2 : Int) (r : (Int × Int × Int)) (hm : qbo F x1 x2 = some r) :
    Pure Tryz.prog 118 [.int .u64 x1, .int .i64 x2] [] Unit (fun _ => .tuple #[.int .i64 r.1, .int .u64 r.2.1, .int .u64 r.2.2]) (fun _ => []) (fun _ => []) := by
 refine qT Tryz.func118 rfl Tryz.ntmps118 rfl hm (fun w => qG (l' := [(0, .int .u64 x1), (1, .int .i64 x2)]) rfl (qf (qa (qb rfl rfl rfl (qb rfl rfl rfl (qb rfl rfl rfl (qc (qe (qf (qa (qd rfl rfl rfl (qN rfl rfl rfl rfl ?_))))))))))))
 refine qy ent133 rfl rfl rfl (fun x3 e3 => qaD F (iadd .u64 x1 1) x3 e3) .nil (fun x3 e3 _ => zO rfl rfl rfl rfl (qd rfl rfl rfl (qbu (fun h4 => qeQ rfl rfl rfl rfl h4 (qb rfl rfl rfl (qc (qe (qf (qdK (fun h11 => qdK (fun h13 => zm mixed [] [] [] .nil qI 14 rfl (qg 0 (.int .i64 (iquo .i64 (isub .i64 x3 1) x2)) rfl rfl rfl (qm rfl) ?_))))))))))))
 refine qg 1 (.int .i64 (iquo .i64 (isub .i64 x3 1) x2)) rfl rfl rfl (qm rfl) (qg 2 (.int .i64 x2) rfl rfl rfl (qm rfl) (qg 3 (.int .i64 (imul .i64 (iquo .i64 (isub .i64 x3 1) x2) x2)) rfl rfl rfl (qm rfl) (qg 4 (.int .u64 (ishl .u64 1 (imul .i64 (iquo .i64 (isub .i64 x3 1) x2) x2))) rfl rfl rfl (qfj rfl rfl h11) (qg 5 (.int .i64 (iquo .i64 (isub .i64 x3 1) x2)) rfl rfl rfl (qm rfl) (qg 6 (.int .i64 x2) rfl rfl rfl (qm rfl) (qg 7 (.int .i64 (imul .i64 (iquo .i64 (isub .i64 x3 1) x2) x2)) rfl rfl rfl (qm rfl) (qg 8 (.int .i64 x2) rfl rfl rfl (qm rfl) (qg 9 (.int .i64 (iadd .i64 (imul .i64 (iquo .i64 (isub .i64 x3 1) x2) x2) x2)) rfl rfl rfl (qm rfl) (qg 10 (.int .u64 (ishl .u64 1 (iadd .i64 (imul .i64 (iquo .i64 (isub .i64 x3 1) x2) x2) x2))) rfl rfl rfl (qfj rfl rfl h13) (qg 11 (.int .i64 (iquo .i64 (isub .i64 x3 1) x2)) rfl rfl rfl (qm rfl) (qg 12 (.int .u64 (ishl .u64 1 (imul .i64 (iquo .i64 (isub .i64 x3 1) x2) x2))) rfl rfl rfl (qm rfl) (qg 13 (.int .u64 (ishl .u64 1 (iadd .i64 (imul .i64 (iquo .i64 (isub .i64 x3 1) x2) x2) x2))) rfl rfl rfl (qm rfl) ?_))))))))))))
 exact qV (by kernel_rfl) (zw (qe (qv (qs () (res3 rfl rfl rfl rfl)))) (by intro c h; cases h))
theorem qdo (F : Nat) (x1 : Int) (r : (Int × Int)) (hm : jR F x1 = some r) :
    Pure Tryz.prog 135 [.int .u64 x1] [] Unit (fun _ => .tuple #[.int .i64 r.1, .int .u64 r.2]) (fun _ => []) (fun _ => []) := by
 refine qT Tryz.func135 rfl Tryz.ntmps135 rfl hm (fun w => qG (l' := [(0, .int .u64 x1)]) rfl (qf (qa (qb rfl rfl rfl (qb rfl rfl rfl (qc (qe (qf (qa (qd rfl rfl rfl (zO rfl rfl rfl rfl (qy ent133 rfl rfl rfl (fun x2 e2 => qaD F (isub .u64 x1 1) x2 e2) .nil (fun x2 e2 => ?_)))))))))))))
 intro _
 refine qb rfl rfl rfl (qc (qe (qf (qdK (fun h6 => zm mixed [] [] [] .nil qI 7 rfl (qg 0 (.int .i64 x2) rfl rfl rfl (qm rfl) (qg 1 (.int .i64 x2) rfl rfl rfl (qm rfl) (qg 2 (.int .u64 (ishl .u64 1 x2)) rfl rfl rfl (qfj rfl rfl h6) (qg 3 (.int .u64 x1) rfl rfl rfl (qm rfl) (qg 4 (.int .u64 (isub .u64 (ishl .u64 1 x2) x1)) rfl rfl rfl (qm rfl) (qg 5 (.int .i64 x2) rfl rfl rfl (qm rfl) (qg 6 (.int .u64 (isub .u64 (ishl .u64 1 x2) x1)) rfl rfl rfl (qm rfl) ?_))))))))))))
 exact qV (by kernel_rfl) (zw (qe (qv (qs () (res2 rfl rfl rfl)))) (by intro c h; cases h))
theorem qer (F : Nat) (x1 : Int) (x2 : List Int) (a3 : Option Addr) (c4 : Nat) (x5 : Int) (x6 : Int) (r : (Int × List Int)) (hm : jv F x1 x2 x5 x6 = some r) :
    Pure Tryz.prog 119 [.agg #[.int .i64 x1, .slice a3 x2.length c4], .int .u64 x5, .int .u64 x6] [Sl (eI .u8) 1 (.slice a3 x2.length c4) x2] (Option Addr × Nat) (fun g => .agg #[.int .i64 r.1, .slice g.1 r.2.length g.2]) (fun g => [Ro (eI .u8) 5 1 (.slice g.1 r.2.length g.2) r.2]) (fun _ => []) := by
 refine qT Tryz.func119 rfl Tryz.ntmps119 rfl hm (fun w => qG (l' := [(0, .agg #[.int .i64 x1, .slice a3 x2.length c4]), (1, .int .u64 x5), (2, .int .u64 x6)]) rfl (qf (qa (qW rfl rfl rfl (fun g7 => qM rfl tf29 rfl (fun g8 => qc (qe (qf (qa (qd rfl rfl rfl (qy ent135 rfl rfl rfl (fun x9 e9 => qdo F x6 x9 e9) .nil (fun x9 e9 => ?_))))))))))))
 intro _
 refine qd rfl rfl rfl (qr rfl rfl rfl rfl (qr rfl rfl rfl rfl (qb rfl rfl rfl (qb rfl rfl rfl (qc (qe (qf (qf (qa (qd rfl rfl rfl (qd rfl rfl rfl (qZ rfl rfl rfl rfl ?_))))))))))))
 refine qc (qe (qC rfl (fun h20 => ?_) (fun h20 => ?_)))
 refine qf (qa (qk (i := 1) rfl rfl tf29 rfl rfl (by simp) rfl rfl (qd rfl rfl rfl (qd rfl rfl rfl (zO rfl rfl rfl rfl (qy ent67 rfl rfl rfl (fun x14 e14 => qbX F x1 x2 a3 c4 x5 (isub .i64 x9.1 1) x14 e14) (.consF 0 rfl .nil) (fun x14 e14 => ?_)))))))
 rintro ⟨a15, c16⟩
 exact qu (i := 0) rfl rfl rfl tf29 rfl rfl rfl rfl rfl (qc (qe (qv (qq (qs (a15, c16) (resL (rs := [.cell 6 29]) rfl (.cell (i := 0) rfl tf29 rfl rfl (by simp) rfl ResOk.nil) rfl) (fun h => by subst h; exact (.cons 0 rfl .nil)))))))
 refine qt (qe (qf (qa (qk (i := 1) rfl rfl tf29 rfl rfl (by simp) rfl rfl (qd rfl rfl rfl (qd rfl rfl rfl (qN rfl rfl rfl rfl (qd rfl rfl rfl (qy ent67 rfl rfl rfl (fun x17 e17 => qbX F x1 x2 a3 c4 (iadd .u64 x5 x9.2) x9.1 x17 e17) (.consF 0 rfl .nil) (fun x17 e17 => ?_))))))))))
 rintro ⟨a18, c19⟩
 exact qu (i := 0) rfl rfl rfl tf29 rfl rfl rfl rfl rfl (qc (qe (qv (qs (a18, c19) (resL (rs := [.cell 6 29]) rfl (.cell (i := 0) rfl tf29 rfl rfl (by simp) rfl ResOk.nil) rfl) (fun h => by subst h; exact (.cons 0 rfl .nil))))))
theorem qgG (F : Nat) (x1 : Int) (x2 : Int) (r : (Int × List Int × Int)) (hm : qbn F x1 x2 = some r) :
    Pure Tryz.prog 100 [.int .u64 x1, .int .i64 x2] [] (Option Addr × Nat) (fun g => .tuple #[.agg #[.int .i64 r.1, .slice g.1 r.2.1.length g.2], .int .i64 r.2.2]) (fun g => [Ro (eI .u8) 5 1 (.slice g.1 r.2.1.length g.2) r.2.1]) (fun _ => []) := by
 refine qT Tryz.func100 rfl Tryz.ntmps100 rfl hm (fun w => qG (l' := [(0, .int .u64 x1), (1, .int .i64 x2)]) rfl (qf (qa (qM rfl tf29 rfl (fun g3 => qb rfl rfl rfl (qc (qe (qf (qf (qa (qd rfl rfl rfl (qZ rfl rfl rfl rfl ?_))))))))))))
 refine qd rfl rfl rfl (q8 3 (decide (x2 < 1)) [(0, .int .u64 x1), (1, .int .i64 x2), (4, .pointer (some ⟨g3, 0, none⟩)), (14, .bool ((decide (x2 < 1)) || (decide (16 < x2))))] (fun h7 => ?_) (fun h7 => ?_) ?_)
 exact qp (os := _) rfl (qR (k := 11) rfl h7 (qi rfl rfl rfl (qi rfl rfl rfl (qw (b := true) rfl rfl rfl rfl (qx (d := 14) (v := .bool ((decide (x2 < 1)) || (decide (16 < x2)))) rfl (by rw [h7]; simp only [Bool.true_or]) (qc (qE (qh rfl (qh rfl (qh rfl (qh rfl qO)))))))))))
 exact qp (os := _) rfl (qQ (k := 11) rfl h7 (qd rfl rfl rfl (zr rfl rfl rfl rfl (qw (b := false) rfl rfl rfl rfl (qx (d := 14) (v := .bool ((decide (x2 < 1)) || (decide (16 < x2)))) rfl (by rw [h7]; simp only [Bool.false_or]) (qc (qE (qh rfl (qh rfl (qh rfl (qh rfl qO)))))))))))
 refine qp (os := _) rfl (qd rfl rfl rfl (q8 3 ((decide (x2 < 1)) || (decide (16 < x2))) [(0, .int .u64 x1), (1, .int .i64 x2), (4, .pointer (some ⟨g3, 0, none⟩)), (18, .bool (((decide (x2 < 1)) || (decide (16 < x2))) || (decide (1099511627776 < x1))))] (fun h8 => ?_) (fun h8 => ?_) ?_))
 exact qp (os := _) rfl (qR (k := 15) rfl h8 (qi rfl rfl rfl (qi rfl rfl rfl (qw (b := true) rfl rfl rfl rfl (qx (d := 18) (v := .bool (((decide (x2 < 1)) || (decide (16 < x2))) || (decide (1099511627776 < x1)))) rfl (by rw [h8]; simp only [Bool.true_or]) (qc (qE (qh rfl (qh rfl (qh rfl (qh rfl qO)))))))))))
 exact qp (os := _) rfl (qQ (k := 15) rfl h8 (qd rfl rfl rfl (zr rfl rfl rfl rfl (qw (b := false) rfl rfl rfl rfl (qx (d := 18) (v := .bool (((decide (x2 < 1)) || (decide (16 < x2))) || (decide (1099511627776 < x1)))) rfl (by rw [h8]; simp only [Bool.false_or]) (qc (qE (qh rfl (qh rfl (qh rfl (qh rfl qO)))))))))))
 refine qp (os := _) rfl (qc (qe (qC rfl (fun h16 => ?_) (fun h16 => ?_))))
 exact qf (qa (q6 (cells := [.int .i64 0, .slice none 0 0]) rfl st29 rfl (by kernel_rfl) rfl (qu (i := 0) rfl rfl rfl tf29 rfl rfl rfl rfl rfl (qb rfl rfl rfl (qc (qe (qv (qq (q5 Int (eI .u8) 5 1 (qs (none, 0) (resL (rs := [.cell 4 29, .tmp 5]) rfl (.cell (i := 0) rfl tf29 rfl rfl (by simp) rfl (.tmp rfl ResOk.nil)) rfl) (fun h => by subst h; exact (.cons 0 rfl .nil))))))))))))
 refine qt (qe (qf (qa (qd rfl rfl rfl (qd rfl rfl rfl (qy ent118 rfl rfl rfl (fun x9 e9 => qgH F x1 x2 x9 e9) .nil (fun x9 e9 => ?_)))))))
 intro _
 refine qd rfl rfl rfl (qr rfl rfl rfl rfl (qr rfl rfl rfl rfl (qr rfl rfl rfl rfl (qb rfl rfl rfl (qb rfl rfl rfl (qb rfl rfl rfl (qc (qe (qf (qa (qd rfl rfl rfl (zV rfl Tryz.underlying3 Tryz.underlying50 rfl rfl ?_))))))))))))
 refine qy ent113 rfl rfl rfl (fun x10 e10 => qfq F (iconv .u64 x9.1) x10 e10) .nil (fun x10 e10 => ?_)
 rintro ⟨a11, c12⟩
 refine qd rfl rfl rfl (qN rfl rfl rfl rfl (qd rfl rfl rfl (zO rfl rfl rfl rfl (qd rfl rfl rfl (qd rfl rfl rfl (zO rfl rfl rfl rfl (qy ent119 rfl rfl rfl (fun x13 e13 => qer F x10.1 x10.2 a11 c12 (isub .u64 (iadd .u64 x1 1) x9.2.1) (isub .u64 x9.2.2 x9.2.1) x13 e13) (.consR 0 (Ro (eI .u8) 5 1 (.slice a11 x10.2.length c12) x10.2) rfl .nil) (fun x13 e13 => ?_))))))))
 rintro ⟨a14, c15⟩
 exact qu (i := 0) rfl rfl rfl tf29 rfl rfl rfl rfl rfl (qb rfl rfl rfl (qc (qe (qv (qs (a14, c15) (resL (rs := [.cell 4 29, .tmp 5]) rfl (.cell (i := 0) rfl tf29 rfl rfl (by simp) rfl (.tmp rfl ResOk.nil)) rfl) (fun h => by subst h; exact (.cons 0 rfl .nil)))))))
theorem qd2 (F : Nat) (x1 : Int) (x2 : List Int) (a3 : Option Addr) (c4 : Nat) (x5 : List Int) (a6 : Option Addr) (c7 : Nat) (x8 : Int) (r : (Int × List Int × Bool)) (hm : qau F x1 x2 x5 x8 = some r) :
    PureM Tryz.prog 75 [.agg #[.int .i64 x1, .slice a3 x2.length c4], .slice a6 x5.length c7, .int .i64 x8] [] [Ro (eI .u8) 5 1 (.slice a3 x2.length c4) x2] [Sl (eI .u64) 1 (.slice a6 x5.length c7) x5] (Option Addr × Nat) (fun g => .tuple #[.agg #[.int .i64 r.1, .slice g.1 r.2.1.length g.2], .bool r.2.2]) (fun _ => []) (fun g => [Ro (eI .u8) 5 1 (.slice g.1 r.2.1.length g.2) r.2.1]) := by
 refine kU Tryz.func75 rfl Tryz.ntmps75 rfl hm (fun w => qG (l' := [(0, .agg #[.int .i64 x1, .slice a3 x2.length c4]), (1, .slice a6 x5.length c7), (2, .int .i64 x8)]) rfl (qf (qa (qW rfl rfl rfl (fun g9 => qM rfl tf29 rfl (fun g10 => qb rfl rfl rfl (qc (qe (qH (fun (((x107, x110), (a108, c109)) : ((Int × List Int) × (Option Addr × Nat))) => [(3, .pointer (some ⟨g9, 0, none⟩)), (6, .pointer (some ⟨g10, 0, none⟩))]) (fun (((x107, x110), (a108, c109)) : ((Int × List Int) × (Option Addr × Nat))) => [⟨g10, 29, [.int .i64 0, .slice none 0 0]⟩, ⟨g9, 29, [.int .i64 x107, .slice a108 x110.length c109]⟩]) (fun (((x107, x110), (a108, c109)) : ((Int × List Int) × (Option Addr × Nat))) => [Ro (eI .u8) 5 1 (.slice a108 x110.length c109) x110]) (fun (((x107, x110), (a108, c109)) : ((Int × List Int) × (Option Addr × Nat))) => []) (fun (((x107, x110), _) : ((Int × List Int) × (Option Addr × Nat))) => qdW F x107 x110) ?_ ?_)))))))))
 refine qf (qa (qd rfl rfl rfl (q3 rfl Tryz.underlying123 rfl rfl (qd rfl rfl rfl (qc (qe (qD (zi (fun (((x141, x142, x145), (a143, c144)) : ((Int × Int × List Int) × (Option Addr × Nat))) => [(2, .int .i64 x8), (3, .pointer (some ⟨g9, 0, none⟩)), (6, .pointer (some ⟨g10, 0, none⟩)), (12, .slice a6 x5.length c7), (13, .int .i64 (x5.length : Int)), (14, .int .i64 x141)]) (fun (((x141, x142, x145), (a143, c144)) : ((Int × Int × List Int) × (Option Addr × Nat))) => [⟨g10, 29, [.int .i64 0, .slice none 0 0]⟩, ⟨g9, 29, [.int .i64 x142, .slice a143 x145.length c144]⟩]) (fun (((x141, x142, x145), (a143, c144)) : ((Int × Int × List Int) × (Option Addr × Nat))) => [Ro (eI .u8) 5 1 (.slice a143 x145.length c144) x145]) (fun (((x141, x142, x145), (a143, c144)) : ((Int × Int × List Int) × (Option Addr × Nat))) => [Sl (eI .u64) 1 (.slice a6 x5.length c7) x5]) (fun k (s : ((Int × Int × List Int) × (Option Addr × Nat))) => jm F x5 x8 k s.1) ((0, x1, x2), (a3, c4)) F ?_ (hB := (.cons 0 rfl (.cons 0 rfl .nil))) (hR := (.cons 0 rfl .nil)) (hF := (qo 0 rfl qA))))))))))
 intro k176
 rintro ⟨⟨x141, x142, x145⟩, ⟨a143, c144⟩⟩
 try dsimp only
 refine zF (m' := qbl F x5 x8 (jm F x5 x8 k176) x141 x142 x145) rfl (qf (qa (qZ rfl rfl rfl rfl (qc (qe (qf (qC rfl (fun h206 => ?_) (fun h206 => ?_))))))))
 refine qt (qe (qf (qD (qf (qa (kh (j := 0) (zd .u64) (by decide) rfl Tryz.underlying123 tf50 rfl rfl rfl rfl (fun x192 e192 b193 o194 => kb (j := 0) rfl rfl tf50 rfl rfl (fun _ => rfl) rfl rfl (qb rfl rfl rfl (qc (qe (qf (qa ?_))))))))))))
 refine qd rfl rfl rfl (qd rfl rfl rfl (qy ent100 rfl rfl rfl (fun x195 e195 => qgG F x192 x8 x195 e195) .nil (fun x195 e195 => ?_)))
 rintro ⟨a196, c197⟩
 refine qd rfl rfl rfl (qr rfl rfl rfl rfl (qr rfl rfl rfl rfl (qM rfl tf29 rfl (fun g198 => qu (i := 0) rfl rfl rfl tf29 rfl rfl rfl rfl rfl (qb rfl rfl rfl (qc (qe (qf (qf (qa (qd rfl rfl rfl (zN rfl rfl rfl rfl ?_))))))))))))
 refine qd rfl rfl rfl (q8 7 ((x195.2.2 : Int) != 0) [(2, .int .i64 x8), (3, .pointer (some ⟨g9, 0, none⟩)), (6, .pointer (some ⟨g10, 0, none⟩)), (12, .slice a6 x5.length c7), (13, .int .i64 (x5.length : Int)), (14, .int .i64 x141), (10, .pointer (some ⟨g198, 0, none⟩)), (33, .bool (((x195.2.2 : Int) != 0) || (decide (8192 < (iadd .i64 x142 x195.1)))))] (fun h201 => ?_) (fun h201 => ?_) ?_)
 exact qp (os := _) rfl (qR (k := 26) rfl h201 (qi rfl rfl rfl (qi rfl rfl rfl (qi rfl rfl rfl (qi rfl rfl rfl (qi rfl rfl rfl (qi rfl rfl rfl (qw (b := true) rfl rfl rfl rfl (qx (d := 33) (v := .bool (((x195.2.2 : Int) != 0) || (decide (8192 < (iadd .i64 x142 x195.1))))) rfl (by rw [h201]; simp only [Bool.true_or]) (qc (qE (qh rfl (qh rfl (qh rfl (qh rfl (qh rfl (qh rfl (qh rfl (qh rfl qO)))))))))))))))))))
 exact qp (os := _) rfl (qQ (k := 26) rfl h201 (qj rfl rfl zX rfl (qk (i := 2) rfl rfl tf3 rfl rfl (fun _ => rfl) rfl rfl (qj rfl rfl zX rfl (qk (i := 0) rfl rfl tf3 rfl rfl (fun _ => rfl) rfl rfl (qN rfl rfl rfl rfl (zr rfl rfl rfl rfl (qw (b := false) rfl rfl rfl rfl (qx (d := 33) (v := .bool (((x195.2.2 : Int) != 0) || (decide (8192 < (iadd .i64 x142 x195.1))))) rfl (by rw [h201]; simp only [Bool.false_or]) (qc (qE (qh rfl (qh rfl (qh rfl (qh rfl (qh rfl (qh rfl (qh rfl (qh rfl qO)))))))))))))))))))
 refine qp (os := _) rfl (qc (qe (qC rfl (fun h205 => ?_) (fun h205 => ?_))))
 refine qf (qa (q6 (cells := [.int .i64 0, .slice none 0 0]) rfl st29 rfl (by kernel_rfl) rfl (qu (i := 1) rfl rfl rfl tf29 rfl rfl rfl rfl rfl (qb rfl rfl rfl (qc (qe (qv (qq (qP (qq (qq (qP ?_))))))))))))
 exact qq (q5 Int (eI .u8) 5 1 (zz (none, 0) (resL (rs := [.cell 6 29, .tmp 7]) rfl (.cell (i := 1) rfl tf29 rfl rfl (by simp) rfl (.tmp rfl ResOk.nil)) rfl) (hR := fun h => by subst h; exact (.cons 0 rfl .nil))))
 refine qt (qe (qa (qk (i := 2) rfl rfl tf29 rfl rfl (by simp) rfl rfl (qk (i := 0) rfl rfl tf29 rfl rfl (by simp) rfl rfl (q2 ent53 rfl rfl rfl (fun x202 e202 => qbw F x142 x145 a143 c144 x195.1 x195.2.1 a196 c197 x202 e202) .nil .nil (.consR 1 (Ro (eI .u8) 5 1 (.slice a143 x145.length c144) x145) rfl (.consR 0 (Ro (eI .u8) 5 1 (.slice a196 x195.2.1.length c197) x195.2.1) rfl .nil)) (fun x202 e202 => ?_))))))
 rintro ⟨a203, c204⟩
 exact qu (i := 2) rfl rfl rfl tf29 rfl rfl rfl rfl rfl (qc (qU (qe (qa (qN rfl rfl rfl rfl (qd rfl rfl rfl (qc (q4 ((iadd .i64 x141 1, x202.1, x202.2), (a203, c204)) (hB := (.cons 1 rfl (.cons 1 rfl .nil))) (hR := (.cons 0 rfl .nil)) (hF := (qo 1 rfl qA))))))))))
 exact zn (qF (qF (zo (qn ((x142, x145), (a143, c144)) (hB := (.cons 0 rfl (.cons 0 rfl .nil))) (hR := (.cons 0 rfl .nil))))))
 rintro ⟨⟨x107, x110⟩, ⟨a108, c109⟩⟩
 try dsimp only
 exact qf (qa (qk (i := 1) rfl rfl tf29 rfl rfl (by simp) rfl rfl (qu (i := 0) rfl rfl rfl tf29 rfl rfl rfl rfl rfl (qb rfl rfl rfl (qc (qe (qv (zz (a108, c109) (resL (rs := [.cell 6 29, .tmp 7]) rfl (.cell (i := 0) rfl tf29 rfl rfl (by simp) rfl (.tmp rfl ResOk.nil)) rfl) (hR := fun h => by subst h; exact (.cons 0 rfl .nil))))))))))
theorem qep (F : Nat) (g1 : Nat) (x2 : Int) (x3 : Bool) (x4 : Int) (r : (Int × Int × Bool)) (hm : jt F x2 x3 x4 = some r) :
    PureM Tryz.prog 101 [.pointer (some ⟨g1, 0, none⟩), .int .i64 x4] [⟨g1, 162, [.int .i64 x2, .bool x3]⟩] [] [] Unit (fun _ => .int .u64 r.1) (fun _ => [⟨g1, 162, [.int .i64 r.2.1, .bool r.2.2]⟩]) (fun _ => []) := by
 refine kU Tryz.func101 rfl Tryz.ntmps101 rfl hm (fun w => qG (l' := [(0, .pointer (some ⟨g1, 0, none⟩)), (1, .int .i64 x4)]) rfl (qf (qa (qb rfl rfl rfl (qc (qe (qH (fun ((x8, _) : (Int × Unit)) => [(0, .pointer (some ⟨g1, 0, none⟩)), (1, .int .i64 x4), (4, .int .u64 x8)]) (fun ((x8, _) : (Int × Unit)) => [⟨g1, 162, [.int .i64 x2, .bool x3]⟩]) (fun ((x8, _) : (Int × Unit)) => []) (fun ((x8, _) : (Int × Unit)) => []) (fun ((x8, _) : (Int × Unit)) => jQ F x4 x8) ?_ ?_)))))))
 refine qf (qa (qd rfl rfl rfl (qS rfl rfl rfl (qj rfl rfl qfE rfl (qk (i := 0) rfl rfl tf4 rfl rfl (fun _ => rfl) rfl rfl (qc (qe (qC rfl (fun h11 => ?_) (fun h11 => ?_)))))))))
 refine qa (qd rfl rfl rfl (qd rfl rfl rfl (qS rfl rfl rfl (qj rfl rfl qbS rfl (qk (i := 0) rfl rfl tf3 rfl rfl (fun _ => rfl) rfl rfl (zO rfl rfl rfl rfl (zO rfl rfl rfl rfl (zV rfl Tryz.underlying3 Tryz.underlying50 rfl rfl (qb rfl rfl rfl (qaj (fun x9 e9 => qx (d := 4) (v := .int .u64 x9) rfl (by rw [e9] <;> rfl) (qc ?_))))))))))))
 exact qn (x9, ()) (hB := (.cons 0 rfl .nil))
 refine qa (qd rfl rfl rfl (qd rfl rfl rfl (qS rfl rfl rfl (qj rfl rfl qbS rfl (qk (i := 0) rfl rfl tf3 rfl rfl (fun _ => rfl) rfl rfl (zO rfl rfl rfl rfl (qy ent99 rfl rfl rfl (fun x10 e10 => qdU F (isub .i64 x4 x2) x10 e10) .nil (fun x10 e10 => ?_))))))))
 intro _
 exact qb rfl rfl rfl (qc (qn (x10, ()) (hB := (.cons 0 rfl .nil))))
 rintro ⟨x8, _⟩
 try dsimp only
 refine qf (qa (qd rfl rfl rfl (qd rfl rfl rfl (qd rfl rfl rfl (qS rfl rfl rfl (qj rfl rfl qbS rfl (qu (i := 0) rfl rfl rfl tf3 rfl rfl rfl rfl rfl (qS rfl rfl rfl (qj rfl rfl qfE rfl (qu (i := 0) rfl rfl rfl tf4 rfl rfl rfl rfl rfl (qc (qe ?_))))))))))))
 exact qf (qa (qd rfl rfl rfl (qb rfl rfl rfl (qc (qe (qv (zz () (res1 rfl rfl) (hB := fun h => by subst h; exact (.cons 0 rfl .nil)))))))))
theorem qfP (F : Nat) (x1 : List Int) (a2 : Option Addr) (c3 : Nat) (x4 : Int) (r : List Int) (hm : qb3 F x1 x4 = some r) :
    Pure Tryz.prog 76 [.slice a2 x1.length c3, .int .i64 x4] [Sl (eI .i64) 1 (.slice a2 x1.length c3) x1] (Option Addr × Nat) (fun g => .slice g.1 r.length g.2) (fun g => [Ro (eI .u64) 50 1 (.slice g.1 r.length g.2) r]) (fun _ => []) := by
 refine qT Tryz.func76 rfl Tryz.ntmps76 rfl hm (fun w => qG (l' := [(0, .slice a2 x1.length c3), (1, .int .i64 x4)]) rfl (qf (qa (qb rfl rfl rfl (qc (qe (qf (qa (qd rfl rfl rfl (q6 (cells := [.int .i64 x4, .bool false]) rfl st162 rfl (by kernel_rfl) rfl (qW rfl rfl rfl (fun g5 => qb rfl rfl rfl ?_))))))))))))
 refine qc (qe (qf (qa (qb rfl rfl rfl (qc (qe (qH (fun ((x75, (a73, c74)) : (List Int × (Option Addr × Nat))) => [(6, .slice a73 x75.length c74)]) (fun ((x75, (a73, c74)) : (List Int × (Option Addr × Nat))) => []) (fun ((x75, (a73, c74)) : (List Int × (Option Addr × Nat))) => [Ro (eI .u64) 50 1 (.slice a73 x75.length c74) x75]) (fun ((x75, (a73, c74)) : (List Int × (Option Addr × Nat))) => []) (fun ((x75, _) : (List Int × (Option Addr × Nat))) => qcD F x75) ?_ ?_)))))))
 refine qf (qa (qd rfl rfl rfl (q3 rfl Tryz.underlying37 rfl rfl (qd rfl rfl rfl (qc (qe (qD (yR Int (eI .u64) 50 1 (zi (fun (((x98, x99, x100, x101), (a96, c97)) : ((List Int × Int × Int × Bool) × (Option Addr × Nat))) => [(5, .pointer (some ⟨g5, 0, none⟩)), (6, .slice a96 x98.length c97), (12, .slice a2 x1.length c3), (13, .int .i64 (x1.length : Int)), (14, .int .i64 x99)]) (fun (((x98, x99, x100, x101), (a96, c97)) : ((List Int × Int × Int × Bool) × (Option Addr × Nat))) => [⟨g5, 162, [.int .i64 x100, .bool x101]⟩]) (fun (((x98, x99, x100, x101), (a96, c97)) : ((List Int × Int × Int × Bool) × (Option Addr × Nat))) => [Ro (eI .u64) 50 1 (.slice a96 x98.length c97) x98]) (fun (((x98, x99, x100, x101), (a96, c97)) : ((List Int × Int × Int × Bool) × (Option Addr × Nat))) => [Sl (eI .i64) 1 (.slice a2 x1.length c3) x1]) (fun k (s : ((List Int × Int × Int × Bool) × (Option Addr × Nat))) => jo F x1 k s.1) ((([] : List Int), 0, x4, false), (none, 0)) F ?_ (hB := (.cons 0 rfl .nil)) (hR := (.cons 0 rfl .nil)) (hF := (qo 0 rfl qA)))))))))))
 intro k122
 rintro ⟨⟨x98, x99, x100, x101⟩, ⟨a96, c97⟩⟩
 try dsimp only
 refine zF (m' := qbm F x1 (jo F x1 k122) x98 x99 x100 x101) rfl (qf (qa (qZ rfl rfl rfl rfl (qc (qe (qf (qC rfl (fun h142 => ?_) (fun h142 => ?_))))))))
 refine qt (qe (qf (qD (qf (qa (kh (j := 0) (zd .i64) (by decide) rfl Tryz.underlying37 tf3 rfl rfl rfl rfl (fun x133 e133 b134 o135 => kb (j := 0) rfl rfl tf3 rfl rfl (fun _ => rfl) rfl rfl (qb rfl rfl rfl (qc (qe (qa (qd rfl rfl rfl ?_))))))))))))
 refine qd rfl rfl rfl (qd rfl rfl rfl (q2 ent101 rfl rfl rfl (fun x136 e136 => qep F g5 x100 x101 x133 x136 e136) (.cons 0 rfl .nil) .nil .nil (fun x136 e136 => ?_)))
 intro _
 exact zB (vs := [.int .u64 x136.1]) (ys := ([x136.1] : List Int)) (zd .u64) (by decide) rfl Tryz.underlying123 tf50 rfl rfl rfl rfl rfl (by decide) (fun a137 c138 => yw 1 (zd .u64) rfl Tryz.underlying123 tf50 rfl rfl rfl rfl rfl (.inl ⟨0, _, rfl⟩) rfl rfl (fun x139 e139 a140 c141 => qb rfl rfl rfl (qc (qU (qe (qa (qN rfl rfl rfl rfl (qd rfl rfl rfl (qc (q4 ((x139, iadd .i64 x99 1, x136.2.1, x136.2.2), (a140, c141)) (hB := (.cons 0 rfl .nil)) (hR := (.cons 0 rfl .nil)) (hF := (qo 1 rfl qA))))))))))))
 exact zn (qF (qF (zo (qn (x98, (a96, c97)) (hR := (.cons 0 rfl .nil))))))
 rintro ⟨x75, ⟨a73, c74⟩⟩
 try dsimp only
 exact qf (qa (qd rfl rfl rfl (qb rfl rfl rfl (qc (qe (qv (qs (a73, c74) (res1 rfl rfl) (fun h => by subst h; exact (.cons 0 rfl .nil)))))))))
set_option maxHeartbeats 4000000 in
theorem qbZ (F : Nat) (g1 : Nat) (x2 : Int) (x3 : List Int) (a4 : Option Addr) (c5 : Nat) (x6 : Bool) (x7 : Int) (x8 : List Int) (a9 : Option Addr) (c10 : Nat) (x11 : List Int) (a12 : Option Addr) (c13 : Nat) (x14 : Int) (x15 : Int) (x16 : Int) (r : (Int × List Int × Bool)) (hm : yQ F x2 x3 x6 x7 x8 x11 x14 x15 x16 = some r) :
    PureM Tryz.prog 49 [.pointer (some ⟨g1, 0, none⟩), .int .i64 x7, .slice a9 x8.length c10, .slice a12 x11.length c13, .agg #[.int .i64 x14, .int .i64 x15, .int .i64 x16]] [⟨g1, 90, [.int .i64 x2, .slice a4 x3.length c5, .bool x6]⟩] [Ro (eI .u8) 5 1 (.slice a4 x3.length c5) x3] [Sl (eI .i64) 1 (.slice a9 x8.length c10) x8, Sl (eI .i64) 1 (.slice a12 x11.length c13) x11] (Option Addr × Nat) (fun _ => .tuple #[]) (fun g => [⟨g1, 90, [.int .i64 r.1, .slice g.1 r.2.1.length g.2, .bool r.2.2]⟩]) (fun g => [Ro (eI .u8) 5 1 (.slice g.1 r.2.1.length g.2) r.2.1]) := by
 refine kU Tryz.func49 rfl Tryz.ntmps49 rfl hm (fun w => qG (l' := [(0, .pointer (some ⟨g1, 0, none⟩)), (1, .int .i64 x7), (2, .slice a9 x8.length c10), (3, .slice a12 x11.length c13), (4, .agg #[.int .i64 x14, .int .i64 x15, .int .i64 x16])]) rfl (qf (qa (qW rfl rfl rfl (fun g17 => qc (qe (qf (qa (qd rfl rfl rfl (qd rfl rfl rfl (q3 rfl Tryz.underlying37 rfl rfl (q2 ent70 rfl rfl rfl (fun x18 e18 => kA F g1 x2 x3 a4 c5 x6 (x8.length : Int) x18 e18) (.cons 1 rfl .nil) (.cons 0 rfl .nil) .nil (fun x18 e18 => ?_)))))))))))))
 rintro ⟨a19, c20⟩
 refine qc (qe (qf (qf (qa (qd rfl rfl rfl (q3 rfl Tryz.underlying37 rfl rfl (zj rfl rfl rfl rfl (qc (qe (qC rfl (fun h122 => ?_) (fun h122 => ?_)))))))))))
 exact qv (qq (zz (a19, c20) (res0 rfl) (hB := fun h => by subst h; exact (.cons 0 rfl .nil)) (hR := fun h => by subst h; exact (.cons 0 rfl .nil))))
 refine qt (qe (qf (qa (qd rfl rfl rfl (qb rfl rfl rfl (qc (qe (qH (fun (((x33, x34, x37, x38), (a31, c32, a35, c36)) : ((List Int × Int × List Int × Bool) × (Option Addr × Nat × Option Addr × Nat))) => [(0, .pointer (some ⟨g1, 0, none⟩)), (1, .int .i64 x7), (9, .pointer (some ⟨g17, 0, none⟩)), (10, .slice a31 x33.length c32)]) (fun (((x33, x34, x37, x38), (a31, c32, a35, c36)) : ((List Int × Int × List Int × Bool) × (Option Addr × Nat × Option Addr × Nat))) => [⟨g1, 90, [.int .i64 x34, .slice a35 x37.length c36, .bool x38]⟩, ⟨g17, 26, [.int .i64 x14, .int .i64 x15, .int .i64 x16]⟩]) (fun (((x33, x34, x37, x38), (a31, c32, a35, c36)) : ((List Int × Int × List Int × Bool) × (Option Addr × Nat × Option Addr × Nat))) => [Ro (eI .u8) 5 1 (.slice a35 x37.length c36) x37]) (fun (((x33, x34, x37, x38), (a31, c32, a35, c36)) : ((List Int × Int × List Int × Bool) × (Option Addr × Nat × Option Addr × Nat))) => [Sl (eI .i64) 1 (.slice a31 x33.length c32) x33]) (fun (((x33, x34, x37, x38), _) : ((List Int × Int × List Int × Bool) × (Option Addr × Nat × Option Addr × Nat))) => ya F x7 x15 x16 x33 x34 x37 x38) ?_ ?_))))))))
 refine qf (qa (qj rfl rfl qa7 rfl (qk (i := 1) rfl rfl tf3 rfl rfl (fun _ => rfl) rfl rfl (zr rfl rfl rfl rfl (qc (qe (qC rfl (fun h121 => ?_) (fun h121 => ?_))))))))
 refine qf (qa (qb rfl rfl rfl (qc (qe (qf (qa (qd rfl rfl rfl (qd rfl rfl rfl (qy ent71 rfl rfl rfl (fun x113 e113 => qh9 F x11 a12 c13 x8 a9 c10 x113 e113) (.consF 1 rfl (.consF 0 rfl .nil)) (fun x113 e113 => ?_))))))))))
 rintro ⟨⟨a114, c115⟩, ⟨a116, c117⟩⟩
 refine qd rfl rfl rfl (qr rfl rfl rfl rfl (qr rfl rfl rfl rfl (qb rfl rfl rfl (qb rfl rfl rfl (qc (qe (qa (qd rfl rfl rfl (qd rfl rfl rfl (q2 ent72 rfl rfl rfl (fun x118 e118 => qdr F g1 x18.1 x18.2.1 a19 c20 x18.2.2 x113.1 a114 c115 x118 e118) (.cons 0 rfl .nil) (.cons 2 rfl .nil) (.consR 0 (Ro (eI .i64) 3 1 (.slice a114 x113.1.length c115) x113.1) rfl .nil) (fun x118 e118 => ?_)))))))))))
 rintro ⟨a119, c120⟩
 exact qc (qem 2 rfl (qn ((x113.2, x118.1, x118.2.1, x118.2.2), (a116, c117, a119, c120)) (hB := (.cons 0 rfl (.cons 0 rfl .nil))) (hR := (.cons 0 rfl .nil)) (hF := (qo 0 rfl qA))))
 exact qt (qn ((x8, x18.1, x18.2.1, x18.2.2), (a9, c10, a19, c20)) (hB := (.cons 0 rfl (.cons 0 rfl .nil))) (hR := (.cons 0 rfl .nil)) (hF := (qo 0 rfl qA)))
 rintro ⟨⟨x33, x34, x37, x38⟩, ⟨a31, c32, a35, c36⟩⟩
 try dsimp only
 refine qf (qf (qa (qd rfl rfl rfl (q3 rfl Tryz.underlying37 rfl rfl (zj rfl rfl rfl rfl (qc (qe (qC rfl (fun h112 => ?_) (fun h112 => ?_)))))))))
 exact qv (qq (zz (a35, c36) (res0 rfl) (hB := fun h => by subst h; exact (.cons 0 rfl .nil)) (hR := fun h => by subst h; exact (.cons 0 rfl .nil))))
 refine qt (qe (qH (fun (((x51, x52, x55, x56), (a49, c50, a53, c54)) : ((List Int × Int × List Int × Bool) × (Option Addr × Nat × Option Addr × Nat))) => [(0, .pointer (some ⟨g1, 0, none⟩)), (1, .int .i64 x7), (9, .pointer (some ⟨g17, 0, none⟩)), (10, .slice a49 x51.length c50)]) (fun (((x51, x52, x55, x56), (a49, c50, a53, c54)) : ((List Int × Int × List Int × Bool) × (Option Addr × Nat × Option Addr × Nat))) => [⟨g1, 90, [.int .i64 x52, .slice a53 x55.length c54, .bool x56]⟩, ⟨g17, 26, [.int .i64 x14, .int .i64 x15, .int .i64 x16]⟩]) (fun (((x51, x52, x55, x56), (a49, c50, a53, c54)) : ((List Int × Int × List Int × Bool) × (Option Addr × Nat × Option Addr × Nat))) => [Ro (eI .u8) 5 1 (.slice a53 x55.length c54) x55]) (fun (((x51, x52, x55, x56), (a49, c50, a53, c54)) : ((List Int × Int × List Int × Bool) × (Option Addr × Nat × Option Addr × Nat))) => [Sl (eI .i64) 1 (.slice a49 x51.length c50) x51]) (fun (((x51, x52, x55, x56), _) : ((List Int × Int × List Int × Bool) × (Option Addr × Nat × Option Addr × Nat))) => yb F x7 x16 x51 x52 x55 x56) ?_ ?_))
 refine qf (qa (qj rfl rfl qdt rfl (qk (i := 1) rfl rfl tf3 rfl rfl (fun _ => rfl) rfl rfl (zr rfl rfl rfl rfl (qc (qe (qC rfl (fun h111 => ?_) (fun h111 => ?_))))))))
 refine qf (qa (qb rfl rfl rfl (qc (qe (qf (qa (qd rfl rfl rfl (qj rfl rfl qdt rfl (qk (i := 1) rfl rfl tf3 rfl rfl (fun _ => rfl) rfl rfl (q2 ent73 rfl rfl rfl (fun x103 e103 => qiZ F x33 a31 c32 x15 x103 e103) .nil .nil (.consF 0 rfl .nil) (fun x103 e103 => ?_)))))))))))
 rintro ⟨⟨a104, c105⟩, ⟨a106, c107⟩⟩
 refine qd rfl rfl rfl (qr rfl rfl rfl rfl (qr rfl rfl rfl rfl (qb rfl rfl rfl (qb rfl rfl rfl (qc (qe (qa (qd rfl rfl rfl (qd rfl rfl rfl (qj rfl rfl qdt rfl (qk (i := 1) rfl rfl tf3 rfl rfl (fun _ => rfl) rfl rfl (qd rfl rfl rfl ?_))))))))))))
 refine q2 ent74 rfl rfl rfl (fun x108 e108 => qea F g1 x34 x37 a35 c36 x38 x7 x15 x103.1 a104 c105 x108 e108) (.cons 0 rfl .nil) (.cons 2 rfl .nil) (.consR 0 (Ro eS141 141 2 (.slice a104 x103.1.length c105) x103.1) rfl .nil) (fun x108 e108 => ?_)
 rintro ⟨a109, c110⟩
 exact qc (qem 2 rfl (qn ((x103.2, x108.1, x108.2.1, x108.2.2), (a106, c107, a109, c110)) (hB := (.cons 0 rfl (.cons 0 rfl .nil))) (hR := (.cons 0 rfl .nil)) (hF := (qo 0 rfl qA))))
 exact qt (qn ((x33, x34, x37, x38), (a31, c32, a35, c36)) (hB := (.cons 0 rfl (.cons 0 rfl .nil))) (hR := (.cons 0 rfl .nil)) (hF := (qo 0 rfl qA)))
 rintro ⟨⟨x51, x52, x55, x56⟩, ⟨a49, c50, a53, c54⟩⟩
 try dsimp only
 refine qH (fun (((x76, x77, x80), (g75, a78, c79)) : ((Bool × Int × List Int) × (Nat × Option Addr × Nat))) => [(0, .pointer (some ⟨g1, 0, none⟩)), (13, .pointer (some ⟨g75, 0, none⟩)), (14, .bool x76)]) (fun (((x76, x77, x80), (g75, a78, c79)) : ((Bool × Int × List Int) × (Nat × Option Addr × Nat))) => [⟨g1, 90, [.int .i64 x52, .slice a53 x55.length c54, .bool x56]⟩, ⟨g75, 29, [.int .i64 x77, .slice a78 x80.length c79]⟩]) (fun (((x76, x77, x80), (g75, a78, c79)) : ((Bool × Int × List Int) × (Nat × Option Addr × Nat))) => [Ro (eI .u8) 5 1 (.slice a53 x55.length c54) x55, Ro (eI .u8) 5 1 (.slice a78 x80.length c79) x80]) (fun (((x76, x77, x80), (g75, a78, c79)) : ((Bool × Int × List Int) × (Nat × Option Addr × Nat))) => []) (fun (((x76, x77, x80), _) : ((Bool × Int × List Int) × (Nat × Option Addr × Nat))) => yc F x52 x55 x56 x76 x77 x80) ?_ ?_
 refine zm mixed [] [⟨g1, 90, [.int .i64 x52, .slice a53 x55.length c54, .bool x56]⟩, ⟨g17, 26, [.int .i64 x14, .int .i64 x15, .int .i64 x16]⟩] [Sl (eI .i64) 1 (.slice a49 x51.length c50) x51] (.cons 0 rfl (.cons 0 rfl .nil)) (q7 0 rfl qI) 13 rfl (qg 0 (.agg #[.int .i64 0, .slice none 0 0]) rfl rfl rfl (qgy (cells := [.int .i64 0, .slice none 0 0]) st29 rfl (by kernel_rfl)) (qg 1 (.slice a49 x51.length c50) rfl rfl rfl (qm rfl) (qg 2 (.int .i64 x7) rfl rfl rfl (qm rfl) (qg 4 (.pointer (some ⟨g17, 2, none⟩)) rfl rfl rfl (qz rfl qhz) (qX 5 (.int .i64 x16) rfl rfl rfl (qY (i := 1) rfl tf3 rfl rfl (fun _ => rfl) rfl) (qcs 3 10 rfl rfl (by kernel_rfl) rfl rfl ?_ ?_))))))
 refine qy ent76 rfl rfl rfl (fun x85 e85 => qfP F x51 a49 c50 x7 x85 e85) (.consF 0 rfl .nil) (fun x85 e85 => ?_)
 rintro ⟨a86, c87⟩
 refine qc (qK (.cons 0 rfl (.cons 0 rfl .nil)) (q7 0 rfl qI) (qcs 6 10 rfl rfl (by kernel_rfl) rfl rfl ?_ ?_))
 refine zG Int (eI .u8) 5 1 (q2 ent75 rfl rfl rfl (fun x88 e88 => qd2 F 0 ([] : List Int) none 0 x85 a86 c87 x16 x88 e88) .nil (.cons 0 rfl .nil) (.consR 0 (Ro (eI .u64) 50 1 (.slice a86 x85.length c87) x85) rfl .nil) (fun x88 e88 => ?_))
 rintro ⟨a89, c90⟩
 refine qc (qK (.cons 0 rfl (.cons 0 rfl .nil)) (q7 0 rfl qI) (qg 7 (.tuple #[.agg #[.int .i64 x88.1, .slice a89 x88.2.1.length c90], .bool x88.2.2]) rfl rfl rfl (qm rfl) (qg 8 (.agg #[.int .i64 x88.1, .slice a89 x88.2.1.length c90]) rfl rfl rfl (qm rfl) (qg 9 (.bool x88.2.2) rfl rfl rfl (qm rfl) (qL 10 rfl (by kernel_rfl) rfl (qM rfl tf29 rfl (fun g91 => qc (qK (.cons 1 rfl (.cons 1 rfl .nil)) (q7 0 rfl qI) (qL 11 rfl (by kernel_rfl) rfl (qu (i := 0) rfl rfl rfl tf29 rfl rfl rfl rfl rfl (qc (qK (.cons 1 rfl (.cons 1 rfl .nil)) (q7 0 rfl qI) ?_))))))))))))
 exact qg 12 (.bool x88.2.2) rfl rfl rfl (qm rfl) (qV (by kernel_rfl) (zw (qn ((x88.2.2, x88.1, x88.2.1), (g91, a89, c90)) (hB := (.cons 1 rfl (.cons 0 rfl .nil))) (hR := (.cons 2 rfl (.cons 0 rfl .nil)))) (by intro c h; cases h)))
 refine qct (m' := ((qau F 0 ([] : List Int) x85 x16).bind fun x93 => yc F x52 x55 x56 x93.2.2 x93.1 x93.2.1)) (rfl) (qM rfl tf29 rfl (fun g92 => qc (qK (.cons 1 rfl (.cons 1 rfl .nil)) (q7 0 rfl qI) (qL 6 rfl (by kernel_rfl) rfl (zG Int (eI .u8) 5 1 (q2 ent75 rfl rfl rfl (fun x93 e93 => qd2 F 0 ([] : List Int) none 0 x85 a86 c87 x16 x93 e93) .nil (.cons 0 rfl .nil) (.consR 0 (Ro (eI .u64) 50 1 (.slice a86 x85.length c87) x85) rfl .nil) (fun x93 e93 => ?_)))))))
 rintro ⟨a94, c95⟩
 exact qc (qK (.cons 1 rfl (.cons 1 rfl .nil)) (q7 0 rfl qI) (qg 7 (.tuple #[.agg #[.int .i64 x93.1, .slice a94 x93.2.1.length c95], .bool x93.2.2]) rfl rfl rfl (qm rfl) (qg 8 (.agg #[.int .i64 x93.1, .slice a94 x93.2.1.length c95]) rfl rfl rfl (qm rfl) (qg 9 (.bool x93.2.2) rfl rfl rfl (qm rfl) (qL 11 rfl (by kernel_rfl) rfl (qu (i := 0) rfl rfl rfl tf29 rfl rfl rfl rfl rfl (qc (qK (.cons 1 rfl (.cons 1 rfl .nil)) (q7 0 rfl qI) (qg 12 (.bool x93.2.2) rfl rfl rfl (qm rfl) (qV (by kernel_rfl) (zw (qn ((x93.2.2, x93.1, x93.2.1), (g92, a94, c95)) (hB := (.cons 1 rfl (.cons 0 rfl .nil))) (hR := (.cons 2 rfl (.cons 0 rfl .nil)))) (by intro c h; cases h))))))))))))
 refine qct (m' := ((qb3 F x51 x7).bind fun x97 => ((qau F 0 ([] : List Int) x97 x16).bind fun x100 => yc F x52 x55 x56 x100.2.2 x100.1 x100.2.1))) (rfl) (qM rfl tf29 rfl (fun g96 => qc (qK (.cons 1 rfl (.cons 1 rfl .nil)) (q7 0 rfl qI) (qL 3 rfl (by kernel_rfl) rfl (qy ent76 rfl rfl rfl (fun x97 e97 => qfP F x51 a49 c50 x7 x97 e97) (.consF 0 rfl .nil) (fun x97 e97 => ?_))))))
 rintro ⟨a98, c99⟩
 refine qc (qK (.cons 1 rfl (.cons 1 rfl .nil)) (q7 0 rfl qI) (qL 6 rfl (by kernel_rfl) rfl (zG Int (eI .u8) 5 1 (q2 ent75 rfl rfl rfl (fun x100 e100 => qd2 F 0 ([] : List Int) none 0 x97 a98 c99 x16 x100 e100) .nil (.cons 0 rfl .nil) (.consR 0 (Ro (eI .u64) 50 1 (.slice a98 x97.length c99) x97) rfl .nil) (fun x100 e100 => ?_)))))
 rintro ⟨a101, c102⟩
 exact qc (qK (.cons 1 rfl (.cons 1 rfl .nil)) (q7 0 rfl qI) (qg 7 (.tuple #[.agg #[.int .i64 x100.1, .slice a101 x100.2.1.length c102], .bool x100.2.2]) rfl rfl rfl (qm rfl) (qg 8 (.agg #[.int .i64 x100.1, .slice a101 x100.2.1.length c102]) rfl rfl rfl (qm rfl) (qg 9 (.bool x100.2.2) rfl rfl rfl (qm rfl) (qL 11 rfl (by kernel_rfl) rfl (qu (i := 0) rfl rfl rfl tf29 rfl rfl rfl rfl rfl (qc (qK (.cons 1 rfl (.cons 1 rfl .nil)) (q7 0 rfl qI) (qg 12 (.bool x100.2.2) rfl rfl rfl (qm rfl) (qV (by kernel_rfl) (zw (qn ((x100.2.2, x100.1, x100.2.1), (g96, a101, c102)) (hB := (.cons 1 rfl (.cons 0 rfl .nil))) (hR := (.cons 2 rfl (.cons 0 rfl .nil)))) (by intro c h; cases h))))))))))))
 rintro ⟨⟨x76, x77, x80⟩, ⟨g75, a78, c79⟩⟩
 try dsimp only
 refine qf (qa (qd rfl rfl rfl (qd rfl rfl rfl (qS rfl rfl rfl (qj rfl rfl qcE rfl (qk (i := 0) rfl rfl tf4 rfl rfl (fun _ => rfl) rfl rfl (qd rfl rfl rfl (q8 3 x56 [(0, .pointer (some ⟨g1, 0, none⟩)), (13, .pointer (some ⟨g75, 0, none⟩)), (64, .pointer (some ⟨g1, 0, none⟩)), (72, .bool (x56 || (!x76)))] (fun h81 => ?_) (fun h81 => ?_) ?_))))))))
 exact qp (os := _) rfl (qR (k := 69) rfl h81 (qi rfl rfl rfl (qi rfl rfl rfl (qw (b := true) rfl rfl rfl rfl (qx (d := 72) (v := .bool (x56 || (!x76))) rfl (by rw [h81]; simp only [Bool.true_or]) (qc (qE (qh rfl (qh rfl (qh rfl (qh rfl qO)))))))))))
 exact qp (os := _) rfl (qQ (k := 69) rfl h81 (qd rfl rfl rfl (kn rfl rfl rfl (qw (b := false) rfl rfl rfl rfl (qx (d := 72) (v := .bool (x56 || (!x76))) rfl (by rw [h81]; simp only [Bool.false_or]) (qc (qE (qh rfl (qh rfl (qh rfl (qh rfl qO)))))))))))
 refine qp (os := _) rfl (qS rfl rfl rfl (qj rfl rfl qcE rfl (qu (i := 0) rfl rfl rfl tf4 rfl rfl rfl rfl rfl (qc (qe (qa (qd rfl rfl rfl (qk (i := 1) rfl rfl tf29 rfl rfl (by simp) rfl rfl (q2 ent77 rfl rfl rfl (fun x82 e82 => qci F g1 x52 x55 a53 c54 (x56 || (!x76)) x77 x80 a78 c79 x82 e82) (.cons 0 rfl .nil) (.cons 0 rfl .nil) (.consR 0 (Ro (eI .u8) 5 1 (.slice a78 x80.length c79) x80) rfl .nil) (fun x82 e82 => ?_))))))))))
 rintro ⟨a83, c84⟩
 exact qc (zz (a83, c84) (res0 rfl) (hB := fun h => by subst h; exact (.cons 0 rfl .nil)) (hR := fun h => by subst h; exact (.cons 0 rfl .nil)))
theorem qaG (F : Nat) (x1 : Int) (x2 : List Int) (a3 : Option Addr) (c4 : Nat) (x5 : List Int) (a6 : Option Addr) (c7 : Nat) (x8 : Int) (x9 : Int) (x10 : Int) (r : (Int × List Int × Int)) (hm : vq F x1 x2 x5 x8 x9 x10 = some r) :
    Pure Tryz.prog 24 [.int .i64 x1, .slice a3 x2.length c4, .slice a6 x5.length c7, .agg #[.int .i64 x8, .int .i64 x9, .int .i64 x10]] [Sl (eI .i64) 1 (.slice a3 x2.length c4) x2, Sl (eI .i64) 1 (.slice a6 x5.length c7) x5] (Option Addr × Nat) (fun g => .tuple #[.agg #[.int .i64 r.1, .slice g.1 r.2.1.length g.2], .int .i64 r.2.2]) (fun g => [Ro (eI .u8) 5 1 (.slice g.1 r.2.1.length g.2) r.2.1]) (fun _ => []) := by
 refine qT Tryz.func24 rfl Tryz.ntmps24 rfl hm (fun w => qG (l' := [(0, .int .i64 x1), (1, .slice a3 x2.length c4), (2, .slice a6 x5.length c7), (3, .agg #[.int .i64 x8, .int .i64 x9, .int .i64 x10])]) rfl (qf (qa (qW rfl rfl rfl (fun g11 => qM rfl tf29 rfl (fun g12 => qb rfl rfl rfl (qc (qe (qf (qa (qk (i := 1) rfl rfl tf26 rfl rfl (by simp) rfl rfl (qy ent43 rfl rfl rfl (fun x13 e13 => qaF F x8 x9 x10 x13 e13) .nil (fun x13 e13 => ?_)))))))))))))
 intro _
 refine qb rfl rfl rfl (qc (qe (qH (fun ((x19, _) : (Int × Unit)) => [(0, .int .i64 x1), (1, .slice a3 x2.length c4), (2, .slice a6 x5.length c7), (7, .pointer (some ⟨g11, 0, none⟩)), (8, .pointer (some ⟨g12, 0, none⟩)), (10, .int .i64 x19)]) (fun ((x19, _) : (Int × Unit)) => [⟨g12, 29, [.int .i64 0, .slice none 0 0]⟩, ⟨g11, 26, [.int .i64 x8, .int .i64 x9, .int .i64 x10]⟩]) (fun ((x19, _) : (Int × Unit)) => []) (fun ((x19, _) : (Int × Unit)) => [Sl (eI .i64) 1 (.slice a3 x2.length c4) x2, Sl (eI .i64) 1 (.slice a6 x5.length c7) x5]) (fun ((x19, _) : (Int × Unit)) => y9 F x1 x2 x5 x8 x9 x10 x19) ?_ ?_)))
 refine qf (qa (qd rfl rfl rfl (zj rfl rfl rfl rfl (qd rfl rfl rfl (zZ 7 (fun ((x40, _) : (Bool × Unit)) => [(0, .int .i64 x1), (1, .slice a3 x2.length c4), (2, .slice a6 x5.length c7), (7, .pointer (some ⟨g11, 0, none⟩)), (8, .pointer (some ⟨g12, 0, none⟩)), (10, .int .i64 x13), (23, .bool x40)]) (fun ((x40, _) : (Bool × Unit)) => [⟨g12, 29, [.int .i64 0, .slice none 0 0]⟩, ⟨g11, 26, [.int .i64 x8, .int .i64 x9, .int .i64 x10]⟩]) (fun ((x40, _) : (Bool × Unit)) => []) (fun ((x40, _) : (Bool × Unit)) => [Sl (eI .i64) 1 (.slice a3 x2.length c4) x2, Sl (eI .i64) 1 (.slice a6 x5.length c7) x5]) (fun ((x40, _) : (Bool × Unit)) => jh F x1 x2 x5 x8 x9 x10 x13 x40) ?_ ?_)))))
 refine qp (os := _) rfl (yA (fun h38 => ?_) (fun h38 => ?_))
 refine qR (k := 16) rfl h38 (qd rfl rfl rfl (qZ rfl rfl rfl rfl (qd rfl rfl rfl (q8 3 (decide (x1 < 0)) [(0, .int .i64 x1), (1, .slice a3 x2.length c4), (2, .slice a6 x5.length c7), (7, .pointer (some ⟨g11, 0, none⟩)), (8, .pointer (some ⟨g12, 0, none⟩)), (10, .int .i64 x13), (16, .bool true), (22, .bool ((decide (x1 < 0)) || (decide (1048576 < x1))))] (fun h42 => ?_) (fun h42 => ?_) ?_))))
 exact qp (os := _) rfl (qR (k := 19) rfl h42 (qi rfl rfl rfl (qi rfl rfl rfl (qw (b := true) rfl rfl rfl rfl (qx (d := 22) (v := .bool ((decide (x1 < 0)) || (decide (1048576 < x1)))) rfl (by rw [h42]; simp only [Bool.true_or]) (qc (qE (qh rfl (qh rfl (qh rfl (qh rfl (qh rfl (qh rfl (qh rfl (qh rfl qO)))))))))))))))
 exact qp (os := _) rfl (qQ (k := 19) rfl h42 (qd rfl rfl rfl (zr rfl rfl rfl rfl (qw (b := false) rfl rfl rfl rfl (qx (d := 22) (v := .bool ((decide (x1 < 0)) || (decide (1048576 < x1)))) rfl (by rw [h42]; simp only [Bool.false_or]) (qc (qE (qh rfl (qh rfl (qh rfl (qh rfl (qh rfl (qh rfl (qh rfl (qh rfl qO)))))))))))))))
 exact qp (os := _) rfl (qw (b := true) rfl rfl rfl rfl (qc (qn (((decide (x1 < 0)) || (decide (1048576 < x1))), ()) (hB := (.cons 0 rfl (.cons 0 rfl .nil))) (hF := (qo 0 rfl (qo 1 rfl qA))))))
 exact qQ (k := 16) rfl h38 (qi rfl rfl rfl (qi rfl rfl rfl (qi rfl rfl rfl (qi rfl rfl rfl (qi rfl rfl rfl (qi rfl rfl rfl (qw (b := false) rfl rfl rfl rfl (qc (qn (false, ()) (hB := (.cons 0 rfl (.cons 0 rfl .nil))) (hF := (qo 0 rfl (qo 1 rfl qA))))))))))))
 rintro ⟨x40, _⟩
 try dsimp only
 refine qp (os := _) rfl (qc (qe (qC rfl (fun h41 => ?_) (fun h41 => ?_))))
 exact qa (qb rfl rfl rfl (qc (qn (3, ()) (hB := (.cons 0 rfl (.cons 0 rfl .nil))) (hF := (qo 0 rfl (qo 1 rfl qA))))))
 exact qt (qn (x13, ()) (hB := (.cons 0 rfl (.cons 0 rfl .nil))) (hF := (qo 0 rfl (qo 1 rfl qA))))
 rintro ⟨x19, _⟩
 try dsimp only
 refine qH (fun ((x22, _) : (Int × Unit)) => [(0, .int .i64 x1), (1, .slice a3 x2.length c4), (2, .slice a6 x5.length c7), (7, .pointer (some ⟨g11, 0, none⟩)), (8, .pointer (some ⟨g12, 0, none⟩)), (10, .int .i64 x22)]) (fun ((x22, _) : (Int × Unit)) => [⟨g12, 29, [.int .i64 0, .slice none 0 0]⟩, ⟨g11, 26, [.int .i64 x8, .int .i64 x9, .int .i64 x10]⟩]) (fun ((x22, _) : (Int × Unit)) => []) (fun ((x22, _) : (Int × Unit)) => [Sl (eI .i64) 1 (.slice a3 x2.length c4) x2, Sl (eI .i64) 1 (.slice a6 x5.length c7) x5]) (fun ((x22, _) : (Int × Unit)) => va F x1 x2 x5 x8 x9 x10 x22) ?_ ?_
 refine qf (qa (qd rfl rfl rfl (zj rfl rfl rfl rfl (qc (qe (qC rfl (fun h37 => ?_) (fun h37 => ?_)))))))
 refine qa (qd rfl rfl rfl (qy ent47 rfl rfl rfl (fun x36 e36 => qaC F x2 a3 c4 x36 e36) (.consF 0 rfl .nil) (fun x36 e36 => ?_)))
 intro _
 exact qb rfl rfl rfl (qc (qn (x36, ()) (hB := (.cons 0 rfl (.cons 0 rfl .nil))) (hF := (qo 0 rfl (qo 1 rfl qA)))))
 exact qt (qn (x19, ()) (hB := (.cons 0 rfl (.cons 0 rfl .nil))) (hF := (qo 0 rfl (qo 1 rfl qA))))
 rintro ⟨x22, _⟩
 try dsimp only
 refine qH (fun ((x25, _) : (Int × Unit)) => [(0, .int .i64 x1), (1, .slice a3 x2.length c4), (2, .slice a6 x5.length c7), (7, .pointer (some ⟨g11, 0, none⟩)), (8, .pointer (some ⟨g12, 0, none⟩)), (10, .int .i64 x25)]) (fun ((x25, _) : (Int × Unit)) => [⟨g12, 29, [.int .i64 0, .slice none 0 0]⟩, ⟨g11, 26, [.int .i64 x8, .int .i64 x9, .int .i64 x10]⟩]) (fun ((x25, _) : (Int × Unit)) => []) (fun ((x25, _) : (Int × Unit)) => [Sl (eI .i64) 1 (.slice a3 x2.length c4) x2, Sl (eI .i64) 1 (.slice a6 x5.length c7) x5]) (fun ((x25, _) : (Int × Unit)) => jg F x1 x2 x5 x8 x9 x10 x25) ?_ ?_
 refine qf (qa (qd rfl rfl rfl (zj rfl rfl rfl rfl (qc (qe (qC rfl (fun h35 => ?_) (fun h35 => ?_)))))))
 refine qa (qd rfl rfl rfl (qd rfl rfl rfl (qk (i := 1) rfl rfl tf26 rfl rfl (by simp) rfl rfl (qy ent48 rfl rfl rfl (fun x34 e34 => qes F x1 x5 a6 c7 x8 x9 x10 x34 e34) (.consF 1 rfl .nil) (fun x34 e34 => ?_)))))
 intro _
 exact qb rfl rfl rfl (qc (qn (x34, ()) (hB := (.cons 0 rfl (.cons 0 rfl .nil))) (hF := (qo 0 rfl (qo 1 rfl qA)))))
 exact qt (qn (x22, ()) (hB := (.cons 0 rfl (.cons 0 rfl .nil))) (hF := (qo 0 rfl (qo 1 rfl qA))))
 rintro ⟨x25, _⟩
 try dsimp only
 refine qf (qf (qa (qd rfl rfl rfl (zN rfl rfl rfl rfl (qc (qe (qC rfl (fun h33 => ?_) (fun h33 => ?_))))))))
 exact qf (qa (q6 (cells := [.int .i64 0, .slice none 0 0]) rfl st29 rfl (by kernel_rfl) rfl (qd rfl rfl rfl (qu (i := 0) rfl rfl rfl tf29 rfl rfl rfl rfl rfl (qb rfl rfl rfl (qc (qe (qv (qq (q5 Int (eI .u8) 5 1 (qs (none, 0) (resL (rs := [.cell 8 29, .tmp 9]) rfl (.cell (i := 0) rfl tf29 rfl rfl (by simp) rfl (.tmp rfl ResOk.nil)) rfl) (fun h => by subst h; exact (.cons 0 rfl .nil)))))))))))))
 refine qt (qe (qf (qa (q6 (cells := [.int .i64 0, .slice none 0 0, .bool false]) rfl st90 rfl (by kernel_rfl) rfl (qW rfl rfl rfl (fun g27 => qb rfl rfl rfl (qc (qe (qf (qa (qd rfl rfl rfl (qd rfl rfl rfl ?_))))))))))))
 refine qd rfl rfl rfl (qd rfl rfl rfl (qk (i := 2) rfl rfl tf26 rfl rfl (by simp) rfl rfl (zG Int (eI .u8) 5 1 (q2 ent49 rfl rfl rfl (fun x28 e28 => qbZ F g27 0 ([] : List Int) none 0 false x1 x2 a3 c4 x5 a6 c7 x8 x9 x10 x28 e28) (.cons 0 rfl .nil) (.cons 0 rfl .nil) (.consF 0 rfl (.consF 1 rfl .nil)) (fun x28 e28 => ?_)))))
 rintro ⟨a29, c30⟩
 refine qc (qe (qf (qf (qa (qd rfl rfl rfl (qS rfl rfl rfl (qj rfl rfl qcE rfl (qk (i := 0) rfl rfl tf4 rfl rfl (fun _ => rfl) rfl rfl (qc (qe (qC rfl (fun h32 => ?_) (fun h32 => ?_))))))))))))
 exact qf (qa (q6 (cells := [.int .i64 0, .slice none 0 0]) rfl st29 rfl (by kernel_rfl) rfl (qu (i := 1) rfl rfl rfl tf29 rfl rfl rfl rfl rfl (qb rfl rfl rfl (qc (qe (qv (qq (q5 Int (eI .u8) 5 1 (qs (none, 0) (resL (rs := [.cell 8 29, .tmp 9]) rfl (.cell (i := 1) rfl tf29 rfl rfl (by simp) rfl (.tmp rfl ResOk.nil)) rfl) (fun h => by subst h; exact (.cons 0 rfl .nil))))))))))))
 refine qt (qe (qf (qa (qd rfl rfl rfl (qS rfl rfl rfl (qj rfl rfl qeg rfl (qk (i := 0) rfl rfl tf29 rfl rfl (by simp) rfl rfl (qu (i := 1) rfl rfl rfl tf29 rfl rfl rfl rfl rfl (qb rfl rfl rfl (qc (qe (qv ?_))))))))))))
 exact qs (a29, c30) (resL (rs := [.cell 8 29, .tmp 9]) rfl (.cell (i := 1) rfl tf29 rfl rfl (by simp) rfl (.tmp rfl ResOk.nil)) rfl) (fun h => by subst h; exact (.cons 0 rfl .nil))
theorem qh8 (F : Nat) (x1 : List (List Int)) (a2 : Option Addr) (c3 : (Nat × List (Option Addr × Nat))) (x4 : List Int) (a5 : Option Addr) (c6 : Nat) (x7 : Int) (x8 : Int) (x9 : Int) (x10 : Int) (r : (Int × Int × List Int × Bool)) (hm : qcm F x1 x4 x7 x8 x9 x10 = some r) :
    Pure Tryz.prog 103 [.slice a2 x1.length c3.1, .slice a5 x4.length c6, .int .i64 x7, .agg #[.int .i64 x8, .int .i64 x9, .int .i64 x10]] [SlN eN37 iN37 1 (.slice a2 x1.length c3.1) x1 c3.2, Sl (eI .i64) 1 (.slice a5 x4.length c6) x4] (Option Addr × Nat) (fun g => .tuple #[.agg #[.int .i64 r.1, .int .i64 r.2.1, .slice g.1 r.2.2.1.length g.2], .bool r.2.2.2]) (fun g => [Ro (eI .u8) 5 1 (.slice g.1 r.2.2.1.length g.2) r.2.2.1]) (fun _ => []) := by
 refine qT Tryz.func103 rfl Tryz.ntmps103 rfl hm (fun w => qG (l' := [(0, .slice a2 x1.length c3.1), (1, .slice a5 x4.length c6), (2, .int .i64 x7), (3, .agg #[.int .i64 x8, .int .i64 x9, .int .i64 x10])]) rfl (qf (qa (qW rfl rfl rfl (fun g11 => qM rfl tf131 rfl (fun g12 => qb rfl rfl rfl (qc (qe (qf (qa (qd rfl rfl rfl (q3 rfl Tryz.underlying22 rfl rfl ?_))))))))))))
 refine qb rfl rfl rfl (qc (qe (qf (qa (q6 (cells := [.int .i64 0, .slice none 0 0]) rfl st29 rfl (by kernel_rfl) rfl (qM rfl tf29 rfl (fun g13 => qu (i := 0) rfl rfl rfl tf29 rfl rfl rfl rfl rfl (qc (qe (qH (fun (((x18, x21), (a19, c20)) : ((Int × List Int) × (Option Addr × Nat))) => [(0, .slice a2 x1.length c3.1), (1, .slice a5 x4.length c6), (2, .int .i64 x7), (7, .pointer (some ⟨g11, 0, none⟩)), (8, .pointer (some ⟨g12, 0, none⟩)), (10, .int .i64 (x1.length : Int)), (11, .pointer (some ⟨g13, 0, none⟩))]) (fun (((x18, x21), (a19, c20)) : ((Int × List Int) × (Option Addr × Nat))) => [⟨g13, 29, [.int .i64 x18, .slice a19 x21.length c20]⟩, ⟨g12, 131, [.int .i64 0, .int .i64 0, .slice none 0 0]⟩, ⟨g11, 26, [.int .i64 x8, .int .i64 x9, .int .i64 x10]⟩]) (fun (((x18, x21), (a19, c20)) : ((Int × List Int) × (Option Addr × Nat))) => [Ro (eI .u8) 5 1 (.slice a19 x21.length c20) x21]) (fun (((x18, x21), (a19, c20)) : ((Int × List Int) × (Option Addr × Nat))) => [SlN eN37 iN37 1 (.slice a2 x1.length c3.1) x1 c3.2, Sl (eI .i64) 1 (.slice a5 x4.length c6) x4]) (fun (((x18, x21), _) : ((Int × List Int) × (Option Addr × Nat))) => jS F x1 x4 x7 x9 x10 x18 x21) ?_ ?_))))))))))
 refine qf (qa (qj rfl rfl qa7 rfl (qk (i := 2) rfl rfl tf3 rfl rfl (fun _ => rfl) rfl rfl (zr rfl rfl rfl rfl (qc (qe (qC rfl (fun h49 => ?_) (fun h49 => ?_))))))))
 refine qa (qd rfl rfl rfl (zV rfl Tryz.underlying3 Tryz.underlying50 rfl rfl (qy ent95 rfl rfl rfl (fun x46 e46 => qcL F (iconv .u64 x7) x46 e46) .nil (fun x46 e46 => ?_))))
 rintro ⟨a47, c48⟩
 exact qu (i := 0) rfl rfl rfl tf29 rfl rfl rfl rfl rfl (qc (qn ((x46.1, x46.2), (a47, c48)) (hB := (.cons 0 rfl (.cons 0 rfl (.cons 0 rfl .nil)))) (hR := (.cons 0 rfl .nil)) (hF := (qo 0 rfl (qo 1 rfl qA)))))
 exact qt (q5 Int (eI .u8) 5 1 (qn ((0, ([] : List Int)), (none, 0)) (hB := (.cons 0 rfl (.cons 0 rfl (.cons 0 rfl .nil)))) (hR := (.cons 0 rfl .nil)) (hF := (qo 0 rfl (qo 1 rfl qA)))))
 rintro ⟨⟨x18, x21⟩, ⟨a19, c20⟩⟩
 try dsimp only
 refine qf (qa (qb rfl rfl rfl (qc (qe (qH (fun ((x29, (a27, c28)) : (List Int × (Option Addr × Nat))) => [(1, .slice a5 x4.length c6), (2, .int .i64 x7), (7, .pointer (some ⟨g11, 0, none⟩)), (8, .pointer (some ⟨g12, 0, none⟩)), (10, .int .i64 (x1.length : Int)), (11, .pointer (some ⟨g13, 0, none⟩)), (12, .slice a27 x29.length c28)]) (fun ((x29, (a27, c28)) : (List Int × (Option Addr × Nat))) => [⟨g13, 29, [.int .i64 x18, .slice a19 x21.length c20]⟩, ⟨g12, 131, [.int .i64 0, .int .i64 0, .slice none 0 0]⟩, ⟨g11, 26, [.int .i64 x8, .int .i64 x9, .int .i64 x10]⟩]) (fun ((x29, (a27, c28)) : (List Int × (Option Addr × Nat))) => [Ro (eI .u8) 5 1 (.slice a19 x21.length c20) x21]) (fun ((x29, (a27, c28)) : (List Int × (Option Addr × Nat))) => [Sl (eI .i64) 1 (.slice a5 x4.length c6) x4, Sl (eI .i64) 1 (.slice a27 x29.length c28) x29]) (fun ((x29, _) : (List Int × (Option Addr × Nat))) => jT F x1 x4 x7 x9 x10 x18 x21 x29) ?_ ?_)))))
 refine qf (qa (qd rfl rfl rfl (zr rfl rfl rfl rfl (qc (qe (qC rfl (fun h45 => ?_) (fun h45 => ?_)))))))
 exact qa (qd rfl rfl rfl (qd rfl rfl rfl (qd rfl rfl rfl (zO rfl rfl rfl rfl (qce (j := 0) yY (by decide) rfl Tryz.underlying22 tf37 rfl rfl rfl rfl (fun x41 e41 g44 b42 o43 => kb (j := 0) rfl rfl tf37 rfl rfl (fun _ => rfl) rfl rfl (qb rfl rfl rfl (qc (qn (x41, (g44.1, g44.2)) (hB := (.cons 0 rfl (.cons 0 rfl (.cons 0 rfl .nil)))) (hR := (.cons 0 rfl .nil)) (hF := (qo 3 rfl (qo 1 rfl qA))))))))))))
 exact qt (q5 Int (eI .i64) 3 1 (qem 0 rfl (qn (([] : List Int), (none, 0)) (hB := (.cons 0 rfl (.cons 0 rfl (.cons 0 rfl .nil)))) (hR := (.cons 0 rfl .nil)) (hF := (qo 2 rfl (qo 0 rfl qA))))))
 rintro ⟨x29, ⟨a27, c28⟩⟩
 try dsimp only
 refine qf (qa (qd rfl rfl rfl (qj rfl rfl qa7 rfl (qu (i := 2) rfl rfl rfl tf3 rfl rfl rfl rfl rfl (qc (qe (qf (qa (qd rfl rfl rfl (qd rfl rfl rfl (qd rfl rfl rfl (qk (i := 2) rfl rfl tf26 rfl rfl (by simp) rfl rfl ?_))))))))))))
 refine qy ent24 rfl rfl rfl (fun x30 e30 => qaG F (x1.length : Int) x4 a5 c6 x29 a27 c28 x7 x9 x10 x30 e30) (.consF 0 rfl (.consF 1 rfl .nil)) (fun x30 e30 => ?_)
 rintro ⟨a31, c32⟩
 refine qd rfl rfl rfl (qr rfl rfl rfl rfl (qr rfl rfl rfl rfl (qM rfl tf29 rfl (fun g33 => qu (i := 0) rfl rfl rfl tf29 rfl rfl rfl rfl rfl (qb rfl rfl rfl (qc (qe (qf (qf (qa (qd rfl rfl rfl (zN rfl rfl rfl rfl ?_))))))))))))
 refine qd rfl rfl rfl (q8 7 ((x30.2.2 : Int) != 0) [(2, .int .i64 x7), (8, .pointer (some ⟨g12, 0, none⟩)), (11, .pointer (some ⟨g13, 0, none⟩)), (13, .pointer (some ⟨g33, 0, none⟩)), (51, .bool (((x30.2.2 : Int) != 0) || (decide (8192 < (iadd .i64 x18 x30.1)))))] (fun h36 => ?_) (fun h36 => ?_) ?_)
 exact qp (os := _) rfl (qR (k := 44) rfl h36 (qi rfl rfl rfl (qi rfl rfl rfl (qi rfl rfl rfl (qi rfl rfl rfl (qi rfl rfl rfl (qi rfl rfl rfl (qw (b := true) rfl rfl rfl rfl (qx (d := 51) (v := .bool (((x30.2.2 : Int) != 0) || (decide (8192 < (iadd .i64 x18 x30.1))))) rfl (by rw [h36]; simp only [Bool.true_or]) (qc (qE (qh rfl (qh rfl (qh rfl (qh rfl (qh rfl qO))))))))))))))))
 exact qp (os := _) rfl (qQ (k := 44) rfl h36 (qj rfl rfl zX rfl (qk (i := 1) rfl rfl tf3 rfl rfl (fun _ => rfl) rfl rfl (qj rfl rfl zX rfl (qk (i := 0) rfl rfl tf3 rfl rfl (fun _ => rfl) rfl rfl (qN rfl rfl rfl rfl (zr rfl rfl rfl rfl (qw (b := false) rfl rfl rfl rfl (qx (d := 51) (v := .bool (((x30.2.2 : Int) != 0) || (decide (8192 < (iadd .i64 x18 x30.1))))) rfl (by rw [h36]; simp only [Bool.false_or]) (qc (qE (qh rfl (qh rfl (qh rfl (qh rfl (qh rfl qO))))))))))))))))
 refine qp (os := _) rfl (qc (qe (qC rfl (fun h40 => ?_) (fun h40 => ?_))))
 exact qf (qa (q6 (cells := [.int .i64 0, .int .i64 0, .slice none 0 0]) rfl st131 rfl (by kernel_rfl) rfl (qu (i := 2) rfl rfl rfl tf131 rfl rfl rfl rfl rfl (qb rfl rfl rfl (qc (qe (qv (qq (q5 Int (eI .u8) 5 1 (qs (none, 0) (resL (rs := [.cell 8 131, .tmp 9]) rfl (.cell (i := 2) rfl tf131 rfl rfl (by simp) rfl (.tmp rfl ResOk.nil)) rfl) (fun h => by subst h; exact (.cons 0 rfl .nil))))))))))))
 refine qt (qe (qf (qa (qd rfl rfl rfl (qk (i := 1) rfl rfl tf29 rfl rfl (by simp) rfl rfl (qk (i := 0) rfl rfl tf29 rfl rfl (by simp) rfl rfl (q2 ent53 rfl rfl rfl (fun x37 e37 => qbw F x18 x21 a19 c20 x30.1 x30.2.1 a31 c32 x37 e37) .nil .nil (.consR 1 (Ro (eI .u8) 5 1 (.slice a19 x21.length c20) x21) rfl (.consR 0 (Ro (eI .u8) 5 1 (.slice a31 x30.2.1.length c32) x30.2.1) rfl .nil)) (fun x37 e37 => ?_))))))))
 rintro ⟨a38, c39⟩
 exact q6 (cells := [.int .i64 x7, .int .i64 x37.1, .slice a38 x37.2.length c39]) rfl st131 rfl (by kernel_rfl) rfl (qu (i := 2) rfl rfl rfl tf131 rfl rfl rfl rfl rfl (qb rfl rfl rfl (qc (qe (qv (qs (a38, c39) (resL (rs := [.cell 8 131, .tmp 9]) rfl (.cell (i := 2) rfl tf131 rfl rfl (by simp) rfl (.tmp rfl ResOk.nil)) rfl) (fun h => by subst h; exact (.cons 0 rfl .nil))))))))
theorem qfo (F : Nat) (x1 : List (List Int)) (a2 : Option Addr) (c3 : (Nat × List (Option Addr × Nat))) (x4 : List Int) (a5 : Option Addr) (c6 : Nat) (x7 : Int) (x8 : Int) (x9 : Int) (r : (Int × Int × List Int × Bool)) (hm : qcl F x1 x4 x7 x8 x9 = some r) :
    Pure Tryz.prog 81 [.slice a2 x1.length c3.1, .slice a5 x4.length c6, .agg #[.int .i64 x7, .int .i64 x8, .int .i64 x9]] [SlN eN37 iN37 1 (.slice a2 x1.length c3.1) x1 c3.2, Sl (eI .i64) 1 (.slice a5 x4.length c6) x4] (Option Addr × Nat) (fun g => .tuple #[.agg #[.int .i64 r.1, .int .i64 r.2.1, .slice g.1 r.2.2.1.length g.2], .bool r.2.2.2]) (fun g => [Ro (eI .u8) 5 1 (.slice g.1 r.2.2.1.length g.2) r.2.2.1]) (fun _ => []) := by
  refine qT Tryz.func81 rfl Tryz.ntmps81 rfl hm (fun w => ?_)
  refine qG (l' := [(0, .slice a2 x1.length c3.1), (1, .slice a5 x4.length c6), (2, .agg #[.int .i64 x7, .int .i64 x8, .int .i64 x9])]) rfl ?_
  refine qf ?_
  refine qa ?_
  refine qW rfl rfl rfl (fun g10 => ?_)
  refine qM rfl tf131 rfl (fun g11 => ?_)
  refine qb rfl rfl rfl ?_
  refine qc ?_
  refine qe ?_
  refine qH (fun (((x96, x97, x98, x101), (a99, c100)) : ((Bool × Int × Int × List Int) × (Option Addr × Nat))) => [(6, .pointer (some ⟨g11, 0, none⟩)), (7, .bool x96)]) (fun (((x96, x97, x98, x101), (a99, c100)) : ((Bool × Int × Int × List Int) × (Option Addr × Nat))) => [⟨g11, 131, [.int .i64 x97, .int .i64 x98, .slice a99 x101.length c100]⟩]) (fun (((x96, x97, x98, x101), (a99, c100)) : ((Bool × Int × Int × List Int) × (Option Addr × Nat))) => [Ro (eI .u8) 5 1 (.slice a99 x101.length c100) x101]) (fun (((x96, x97, x98, x101), (a99, c100)) : ((Bool × Int × Int × List Int) × (Option Addr × Nat))) => []) (fun (((x96, x97, x98, x101), _) : ((Bool × Int × Int × List Int) × (Option Addr × Nat))) => qb4 F x96 x97 x98 x101) ?_ ?_
  · refine qf ?_
    refine qa ?_
    refine qj rfl rfl qa7 rfl ?_
    refine qk (i := 1) rfl rfl tf3 rfl rfl (fun _ => rfl) rfl rfl ?_
    refine qd rfl rfl rfl ?_
    refine q3 rfl Tryz.underlying22 rfl rfl ?_
    refine qdM rfl rfl rfl rfl ?_
    refine qN rfl rfl rfl rfl ?_
    refine qd rfl rfl rfl ?_
    refine qc ?_
    refine qe ?_
    refine qD ?_
    refine yR Int (eI .u8) 5 1 ?_
    refine zi (fun (((x125, x126, x127, x128, x131), (a129, c130)) : ((Bool × Int × Int × Int × List Int) × (Option Addr × Nat))) => [(0, .slice a2 x1.length c3.1), (1, .slice a5 x4.length c6), (5, .pointer (some ⟨g10, 0, none⟩)), (6, .pointer (some ⟨g11, 0, none⟩)), (7, .bool x125), (16, .int .i64 (iadd .i64 (imin x7 (x1.length : Int)) 1)), (17, .int .i64 x126)]) (fun (((x125, x126, x127, x128, x131), (a129, c130)) : ((Bool × Int × Int × Int × List Int) × (Option Addr × Nat))) => [⟨g11, 131, [.int .i64 x127, .int .i64 x128, .slice a129 x131.length c130]⟩, ⟨g10, 26, [.int .i64 x7, .int .i64 x8, .int .i64 x9]⟩]) (fun (((x125, x126, x127, x128, x131), (a129, c130)) : ((Bool × Int × Int × Int × List Int) × (Option Addr × Nat))) => [Ro (eI .u8) 5 1 (.slice a129 x131.length c130) x131]) (fun (((x125, x126, x127, x128, x131), (a129, c130)) : ((Bool × Int × Int × Int × List Int) × (Option Addr × Nat))) => [SlN eN37 iN37 1 (.slice a2 x1.length c3.1) x1 c3.2, Sl (eI .i64) 1 (.slice a5 x4.length c6) x4]) (fun k (s : ((Bool × Int × Int × Int × List Int) × (Option Addr × Nat))) => kz F x1 x4 x7 x8 x9 k s.1) ((false, 0, 0, 0, ([] : List Int)), (none, 0)) F ?_ (hB := (.cons 0 rfl (.cons 0 rfl .nil))) (hR := (.cons 0 rfl .nil)) (hF := (qo 0 rfl (qo 1 rfl qA)))
    intro k158
    rintro ⟨⟨x125, x126, x127, x128, x131⟩, ⟨a129, c130⟩⟩
    try dsimp only
    refine zF (m' := qan F x1 x4 x7 x8 x9 (kz F x1 x4 x7 x8 x9 k158) x125 x126 x127 x128 x131) rfl ?_
    refine qf ?_
    refine qa ?_
    refine qZ rfl rfl rfl rfl ?_
    refine qc ?_
    refine qe ?_
    refine qf ?_
    refine qC rfl (fun h184 => ?_) (fun h184 => ?_)
    · refine qt ?_
      refine qe ?_
      refine qH (fun (((x169, x170, x171, x174), (a172, c173)) : ((Bool × Int × Int × List Int) × (Option Addr × Nat))) => [(0, .slice a2 x1.length c3.1), (1, .slice a5 x4.length c6), (5, .pointer (some ⟨g10, 0, none⟩)), (6, .pointer (some ⟨g11, 0, none⟩)), (7, .bool x169), (16, .int .i64 (iadd .i64 (imin x7 (x1.length : Int)) 1)), (17, .int .i64 x126)]) (fun (((x169, x170, x171, x174), (a172, c173)) : ((Bool × Int × Int × List Int) × (Option Addr × Nat))) => [⟨g11, 131, [.int .i64 x170, .int .i64 x171, .slice a172 x174.length c173]⟩, ⟨g10, 26, [.int .i64 x7, .int .i64 x8, .int .i64 x9]⟩]) (fun (((x169, x170, x171, x174), (a172, c173)) : ((Bool × Int × Int × List Int) × (Option Addr × Nat))) => [Ro (eI .u8) 5 1 (.slice a172 x174.length c173) x174]) (fun (((x169, x170, x171, x174), (a172, c173)) : ((Bool × Int × Int × List Int) × (Option Addr × Nat))) => [SlN eN37 iN37 1 (.slice a2 x1.length c3.1) x1 c3.2, Sl (eI .i64) 1 (.slice a5 x4.length c6) x4]) (fun (((x169, x170, x171, x174), _) : ((Bool × Int × Int × List Int) × (Option Addr × Nat))) => yx F (kz F x1 x4 x7 x8 x9 k158) x126 x169 x170 x171 x174) ?_ ?_
      · refine qD ?_
        refine qf ?_
        refine qa ?_
        refine qd rfl rfl rfl ?_
        refine qb rfl rfl rfl ?_
        refine qc ?_
        refine qe ?_
        refine qf ?_
        refine qa ?_
        refine qd rfl rfl rfl ?_
        refine qd rfl rfl rfl ?_
        refine qd rfl rfl rfl ?_
        refine qk (i := 1) rfl rfl tf26 rfl rfl (by simp) rfl rfl ?_
        refine qy ent103 rfl rfl rfl (fun x175 e175 => qh8 F x1 a2 c3 x4 a5 c6 x126 x7 x8 x9 x175 e175) (.consF 0 rfl (.consF 1 rfl .nil)) (fun x175 e175 => ?_)
        rintro ⟨a176, c177⟩
        refine qd rfl rfl rfl ?_
        refine qr rfl rfl rfl rfl ?_
        refine qr rfl rfl rfl rfl ?_
        refine qM rfl tf131 rfl (fun g178 => ?_)
        refine qu (i := 0) rfl rfl rfl tf131 rfl rfl rfl rfl rfl ?_
        refine qb rfl rfl rfl ?_
        refine qc ?_
        refine qe ?_
        refine qf ?_
        refine qa ?_
        refine qd rfl rfl rfl ?_
        refine qd rfl rfl rfl ?_
        refine zZ 12 (fun ((x181, _) : (Bool × Unit)) => [(0, .slice a2 x1.length c3.1), (1, .slice a5 x4.length c6), (5, .pointer (some ⟨g10, 0, none⟩)), (6, .pointer (some ⟨g11, 0, none⟩)), (7, .bool x125), (9, .pointer (some ⟨g178, 0, none⟩)), (16, .int .i64 (iadd .i64 (imin x7 (x1.length : Int)) 1)), (17, .int .i64 x126), (41, .bool x181)]) (fun ((x181, _) : (Bool × Unit)) => [⟨g178, 131, [.int .i64 x175.1, .int .i64 x175.2.1, .slice a176 x175.2.2.1.length c177]⟩, ⟨g11, 131, [.int .i64 x127, .int .i64 x128, .slice a129 x131.length c130]⟩, ⟨g10, 26, [.int .i64 x7, .int .i64 x8, .int .i64 x9]⟩]) (fun ((x181, _) : (Bool × Unit)) => [Ro (eI .u8) 5 1 (.slice a176 x175.2.2.1.length c177) x175.2.2.1, Ro (eI .u8) 5 1 (.slice a129 x131.length c130) x131]) (fun ((x181, _) : (Bool × Unit)) => [SlN eN37 iN37 1 (.slice a2 x1.length c3.1) x1 c3.2, Sl (eI .i64) 1 (.slice a5 x4.length c6) x4]) (fun ((x181, _) : (Bool × Unit)) => qao F (kz F x1 x4 x7 x8 x9 k158) x125 x126 x127 x128 x131 x175 x181) ?_ ?_
        · refine qp (os := _) rfl ?_
          refine yA (fun h179 => ?_) (fun h179 => ?_)
          · refine qR (k := 29) rfl h179 ?_
            refine qd rfl rfl rfl ?_
            refine kn rfl rfl rfl ?_
            refine qd rfl rfl rfl ?_
            refine q8 8 (!x125) [(0, .slice a2 x1.length c3.1), (1, .slice a5 x4.length c6), (5, .pointer (some ⟨g10, 0, none⟩)), (6, .pointer (some ⟨g11, 0, none⟩)), (7, .bool x125), (16, .int .i64 (iadd .i64 (imin x7 (x1.length : Int)) 1)), (17, .int .i64 x126), (9, .pointer (some ⟨g178, 0, none⟩)), (29, .bool true), (30, .bool x125), (31, .bool (!x125)), (32, .bool (!x125)), (40, .bool ((!x125) || (decide (x175.2.1 < x128))))] (fun h183 => ?_) (fun h183 => ?_) ?_
            · refine qp (os := _) rfl ?_
              refine qR (k := 32) rfl h183 ?_
              refine qi rfl rfl rfl ?_
              refine qi rfl rfl rfl ?_
              refine qi rfl rfl rfl ?_
              refine qi rfl rfl rfl ?_
              refine qi rfl rfl rfl ?_
              refine qi rfl rfl rfl ?_
              refine qi rfl rfl rfl ?_
              refine qw (b := true) rfl rfl rfl rfl ?_
              refine qx (d := 40) (v := .bool ((!x125) || (decide (x175.2.1 < x128)))) rfl (by rw [h183]; simp only [Bool.true_or]) ?_
              refine qx (d := 32) (v := .bool (!x125)) rfl (by rw [h183] <;> rfl) ?_
              refine qc ?_
              exact qE (qh rfl (qh rfl (qh rfl (qh rfl (qh rfl (qh rfl (qh rfl (qh rfl (qh rfl (qh rfl (qh rfl (qh rfl (qh rfl qO)))))))))))))
            · refine qp (os := _) rfl ?_
              refine qQ (k := 32) rfl h183 ?_
              refine qj rfl rfl qfC rfl ?_
              refine qj rfl rfl zX rfl ?_
              refine qk (i := 0) rfl rfl tf3 rfl rfl (fun _ => rfl) rfl rfl ?_
              refine qj rfl rfl qfC rfl ?_
              refine qj rfl rfl zX rfl ?_
              refine qk (i := 1) rfl rfl tf3 rfl rfl (fun _ => rfl) rfl rfl ?_
              refine qZ rfl rfl rfl rfl ?_
              refine qw (b := false) rfl rfl rfl rfl ?_
              refine qx (d := 40) (v := .bool ((!x125) || (decide (x175.2.1 < x128)))) rfl (by rw [h183]; simp only [Bool.false_or]) ?_
              refine qx (d := 32) (v := .bool (!x125)) rfl (by rw [h183] <;> rfl) ?_
              refine qc ?_
              exact qE (qh rfl (qh rfl (qh rfl (qh rfl (qh rfl (qh rfl (qh rfl (qh rfl (qh rfl (qh rfl (qh rfl (qh rfl (qh rfl qO)))))))))))))
            refine qp (os := _) rfl ?_
            refine qw (b := true) rfl rfl rfl rfl ?_
            refine qc ?_
            exact qn (((!x125) || (decide (x175.2.1 < x128))), ()) (hB := (.cons 0 rfl (.cons 0 rfl (.cons 0 rfl .nil)))) (hR := (.cons 0 rfl (.cons 0 rfl .nil))) (hF := (qo 0 rfl (qo 1 rfl qA)))
          · refine qQ (k := 29) rfl h179 ?_
            refine qi rfl rfl rfl ?_
            refine qi rfl rfl rfl ?_
            refine qi rfl rfl rfl ?_
            refine qi rfl rfl rfl ?_
            refine qi rfl rfl rfl ?_
            refine qi rfl rfl rfl ?_
            refine qi rfl rfl rfl ?_
            refine qi rfl rfl rfl ?_
            refine qi rfl rfl rfl ?_
            refine qi rfl rfl rfl ?_
            refine qi rfl rfl rfl ?_
            refine qw (b := false) rfl rfl rfl rfl ?_
            refine qc ?_
            exact qn (false, ()) (hB := (.cons 0 rfl (.cons 0 rfl (.cons 0 rfl .nil)))) (hR := (.cons 0 rfl (.cons 0 rfl .nil))) (hF := (qo 0 rfl (qo 1 rfl qA)))
        · rintro ⟨x181, _⟩
          try dsimp only
          refine qp (os := _) rfl ?_
          refine qc ?_
          refine qe ?_
          refine qC rfl (fun h182 => ?_) (fun h182 => ?_)
          · refine qa ?_
            refine qk (i := 0) rfl rfl tf131 rfl rfl (by simp) rfl rfl ?_
            refine qu (i := 1) rfl rfl rfl tf131 rfl rfl rfl rfl rfl ?_
            refine qb rfl rfl rfl ?_
            refine qc ?_
            refine qU ?_
            exact qn ((true, x175.1, x175.2.1, x175.2.2.1), (a176, c177)) (hB := (.cons 1 rfl (.cons 1 rfl .nil))) (hR := (.cons 0 rfl .nil)) (hF := (qo 0 rfl (qo 1 rfl qA)))
          · refine qt ?_
            refine qU ?_
            exact qn ((x125, x127, x128, x131), (a129, c130)) (hB := (.cons 1 rfl (.cons 1 rfl .nil))) (hR := (.cons 1 rfl .nil)) (hF := (qo 0 rfl (qo 1 rfl qA)))
      · rintro ⟨⟨x169, x170, x171, x174⟩, ⟨a172, c173⟩⟩
        try dsimp only
        refine qa ?_
        refine qN rfl rfl rfl rfl ?_
        refine qd rfl rfl rfl ?_
        refine qc ?_
        exact q4 ((x169, iadd .i64 x126 1, x170, x171, x174), (a172, c173)) (hB := (.cons 0 rfl (.cons 0 rfl .nil))) (hR := (.cons 0 rfl .nil)) (hF := (qo 0 rfl (qo 1 rfl qA)))
    · refine zn ?_
      refine qF ?_
      refine qF ?_
      refine zo ?_
      exact qn ((x125, x127, x128, x131), (a129, c130)) (hB := (.cons 0 rfl .nil)) (hR := (.cons 0 rfl .nil))
  · rintro ⟨⟨x96, x97, x98, x101⟩, ⟨a99, c100⟩⟩
    try dsimp only
    refine qf ?_
    refine qa ?_
    refine qk (i := 0) rfl rfl tf131 rfl rfl (by simp) rfl rfl ?_
    refine qd rfl rfl rfl ?_
    refine qu (i := 0) rfl rfl rfl tf131 rfl rfl rfl rfl rfl ?_
    refine qb rfl rfl rfl ?_
    refine qc ?_
    refine qe ?_
    refine qv ?_
    exact qs (a99, c100) (resL (rs := [.cell 6 131, .tmp 7]) rfl (.cell (i := 0) rfl tf131 rfl rfl (by simp) rfl (.tmp rfl ResOk.nil)) rfl) (fun h => by subst h; exact (.cons 0 rfl .nil))
end Go.Proofs.YtpnfijegoepiaaaGreat
