/- Each Go function of this seat computes what its model says. -/
import Derived.Test.YtidnfcdnhdbolaaGreatRows
import Derived.Test.YtidnfcdnhdbolaaGreatModels
import Derived.Test.YtidnfcdnhdbolaaGreatShelf
namespace Go.Proofs.YtidnfcdnhdbolaaGreat
open Go SX
def eN22 (p : List Int × (Option Addr × Nat)) : List Value := [.slice p.2.1 p.1.length p.2.2]
def iN22 (p : List Int × (Option Addr × Nat)) : List (World → Prop) := [Sl (eI .i64) 1 (.slice p.2.1 p.1.length p.2.2) p.1]
theorem qhw : EncOk eN22 1 := ⟨fun _ => rfl, fun _ => rfl⟩
def rN22 (p : List Int × (Option Addr × Nat)) : List RowF := [FoR (eI .i64) 3 1 (.slice p.2.1 p.1.length p.2.2) p.1]
theorem qq0 : ∀ p, iN22 p = (rN22 p).map RowF.cells := fun _ => rfl
theorem qqV : ∀ f ∈ rN22 (([] : List Int), ((none, 0) : Option Addr × Nat)), f.v = .slice none 0 0 ∧ f.n = 0 ∧ f.cs = [] := by simp [rN22, FoR]
def eS75 (p : (Int × Int)) : List Value := [.int .i64 p.1, .int .i64 p.2]
theorem yl : EncOk eS75 2 := ⟨fun _ => rfl, fun _ => rfl⟩
theorem tf3 : TyF Tryz.prog 3 false (.int .i64 0) 1 8 := .of (by kernel_rfl) (by kernel_rfl)
theorem tf4 : TyF Tryz.prog 4 false (.bool false) 1 1 := .of (by kernel_rfl) (by kernel_rfl)
theorem tf5 : TyF Tryz.prog 5 false (.int .u8 0) 1 1 := .of (by kernel_rfl) (by kernel_rfl)
theorem tf22 : TyF Tryz.prog 22 false (.slice none 0 0) 1 24 := .of (by kernel_rfl) (by kernel_rfl)
theorem tf24 : TyF Tryz.prog 24 true (.agg #[.int .i64 0, .int .i64 0, .int .i64 0]) 3 24 := .of (by kernel_rfl) (by kernel_rfl)
theorem tf25 : TyF Tryz.prog 25 false (.slice none 0 0) 1 24 := .of (by kernel_rfl) (by kernel_rfl)
theorem tf27 : TyF Tryz.prog 27 true (.agg #[.int .i64 0, .slice none 0 0]) 2 32 := .of (by kernel_rfl) (by kernel_rfl)
theorem tf57 : TyF Tryz.prog 57 false (.slice none 0 0) 1 24 := .of (by kernel_rfl) (by kernel_rfl)
theorem tf72 : TyF Tryz.prog 72 false (.int .u64 0) 1 8 := .of (by kernel_rfl) (by kernel_rfl)
theorem tf75 : TyF Tryz.prog 75 true (.agg #[.int .i64 0, .int .i64 0]) 2 16 := .of (by kernel_rfl) (by kernel_rfl)
theorem tf100 : TyF Tryz.prog 100 true (.agg #[]) 0 0 := .of (by kernel_rfl) (by kernel_rfl)
theorem tf118 : TyF Tryz.prog 118 false (.pointer none) 1 8 := .of (by kernel_rfl) (by kernel_rfl)
theorem qeK : FdF Tryz.prog 24 0 0 := .of (by kernel_rfl)
theorem qbl : FdF Tryz.prog 24 1 1 := .of (by kernel_rfl)
theorem qfW : FdF Tryz.prog 24 2 2 := .of (by kernel_rfl)
theorem kW : FdF Tryz.prog 27 0 0 := .of (by kernel_rfl)
theorem qbT : FdF Tryz.prog 27 1 1 := .of (by kernel_rfl)
theorem qf1 : FdF Tryz.prog 42 0 0 := .of (by kernel_rfl)
theorem qea : FdF Tryz.prog 42 1 2 := .of (by kernel_rfl)
theorem qlS : FdF Tryz.prog 69 0 0 := .of (by kernel_rfl)
theorem qfV : FdF Tryz.prog 69 1 2 := .of (by kernel_rfl)
theorem qdg : FdF Tryz.prog 75 0 0 := .of (by kernel_rfl)
theorem qdG : FdF Tryz.prog 75 1 1 := .of (by kernel_rfl)
theorem qmk : FdF Tryz.prog 87 0 0 := .of (by kernel_rfl)
theorem qou : FdF Tryz.prog 87 1 1 := .of (by kernel_rfl)
theorem qjL : FdF Tryz.prog 87 2 2 := .of (by kernel_rfl)
theorem qeL : FdF Tryz.prog 97 0 0 := .of (by kernel_rfl)
theorem qj7 : FdF Tryz.prog 97 1 1 := .of (by kernel_rfl)
theorem qcI : FdF Tryz.prog 124 0 0 := .of (by kernel_rfl)
theorem st24 : StF Tryz.prog 24 [(0, 1), (1, 1), (2, 1)] (.agg #[.int .i64 0, .int .i64 0, .int .i64 0]) := .of (by kernel_rfl) (by kernel_rfl)
theorem st27 : StF Tryz.prog 27 [(0, 1), (1, 1)] (.agg #[.int .i64 0, .slice none 0 0]) := .of (by kernel_rfl) (by kernel_rfl)
theorem st42 : StF Tryz.prog 42 [(0, 2), (2, 1)] (.agg #[.int .i64 0, .slice none 0 0, .bool false]) := .of (by kernel_rfl) (by kernel_rfl)
theorem st69 : StF Tryz.prog 69 [(0, 2), (2, 1)] (.agg #[.int .i64 0, .slice none 0 0, .int .i64 0]) := .of (by kernel_rfl) (by kernel_rfl)
theorem st75 : StF Tryz.prog 75 [(0, 1), (1, 1)] (.agg #[.int .i64 0, .int .i64 0]) := .of (by kernel_rfl) (by kernel_rfl)
theorem st87 : StF Tryz.prog 87 [(0, 1), (1, 1), (2, 1)] (.agg #[.slice none 0 0, .bool false, .int .i64 0]) := .of (by kernel_rfl) (by kernel_rfl)
theorem st97 : StF Tryz.prog 97 [(0, 1), (1, 1)] (.agg #[.int .i64 0, .bool false]) := .of (by kernel_rfl) (by kernel_rfl)
theorem st100 : StF Tryz.prog 100 [] (.agg #[]) := .of (by kernel_rfl) (by kernel_rfl)
theorem st124 : StF Tryz.prog 124 [(0, 2)] (.agg #[.int .i64 0, .slice none 0 0]) := .of (by kernel_rfl) (by kernel_rfl)
theorem mixed : Tryz.prog.follows .mixedOrders = true := by kernel_rfl
theorem ent4 : Enters Tryz.prog 4 := qz Tryz.func4 rfl rfl
theorem ent5 : Enters Tryz.prog 5 := qz Tryz.func5 rfl rfl
theorem ent6 : Enters Tryz.prog 6 := qz Tryz.func6 rfl rfl
theorem ent7 : Enters Tryz.prog 7 := qz Tryz.func7 rfl rfl
theorem ent8 : Enters Tryz.prog 8 := qz Tryz.func8 rfl rfl
theorem ent9 : Enters Tryz.prog 9 := qz Tryz.func9 rfl rfl
theorem ent10 : Enters Tryz.prog 10 := qz Tryz.func10 rfl rfl
theorem ent11 : Enters Tryz.prog 11 := qz Tryz.func11 rfl rfl
theorem ent12 : Enters Tryz.prog 12 := qz Tryz.func12 rfl rfl
theorem ent13 : Enters Tryz.prog 13 := qz Tryz.func13 rfl rfl
theorem ent14 : Enters Tryz.prog 14 := qz Tryz.func14 rfl rfl
theorem ent15 : Enters Tryz.prog 15 := qz Tryz.func15 rfl rfl
theorem ent16 : Enters Tryz.prog 16 := qz Tryz.func16 rfl rfl
theorem ent17 : Enters Tryz.prog 17 := qz Tryz.func17 rfl rfl
theorem ent18 : Enters Tryz.prog 18 := qz Tryz.func18 rfl rfl
theorem ent19 : Enters Tryz.prog 19 := qz Tryz.func19 rfl rfl
theorem ent20 : Enters Tryz.prog 20 := qz Tryz.func20 rfl rfl
theorem ent21 : Enters Tryz.prog 21 := qz Tryz.func21 rfl rfl
theorem ent22 : Enters Tryz.prog 22 := qz Tryz.func22 rfl rfl
theorem ent23 : Enters Tryz.prog 23 := qz Tryz.func23 rfl rfl
theorem ent24 : Enters Tryz.prog 24 := qz Tryz.func24 rfl rfl
theorem ent25 : Enters Tryz.prog 25 := qz Tryz.func25 rfl rfl
theorem ent26 : Enters Tryz.prog 26 := qz Tryz.func26 rfl rfl
theorem ent27 : Enters Tryz.prog 27 := qz Tryz.func27 rfl rfl
theorem ent28 : Enters Tryz.prog 28 := qz Tryz.func28 rfl rfl
theorem ent29 : Enters Tryz.prog 29 := qz Tryz.func29 rfl rfl
theorem ent30 : Enters Tryz.prog 30 := qz Tryz.func30 rfl rfl
theorem ent31 : Enters Tryz.prog 31 := qz Tryz.func31 rfl rfl
theorem ent32 : Enters Tryz.prog 32 := qz Tryz.func32 rfl rfl
theorem ent33 : Enters Tryz.prog 33 := qz Tryz.func33 rfl rfl
theorem ent34 : Enters Tryz.prog 34 := qz Tryz.func34 rfl rfl
theorem ent35 : Enters Tryz.prog 35 := qz Tryz.func35 rfl rfl
theorem ent36 : Enters Tryz.prog 36 := qz Tryz.func36 rfl rfl
theorem ent37 : Enters Tryz.prog 37 := qz Tryz.func37 rfl rfl
theorem ent38 : Enters Tryz.prog 38 := qz Tryz.func38 rfl rfl
theorem ent39 : Enters Tryz.prog 39 := qz Tryz.func39 rfl rfl
theorem ent40 : Enters Tryz.prog 40 := qz Tryz.func40 rfl rfl
theorem ent41 : Enters Tryz.prog 41 := qz Tryz.func41 rfl rfl
theorem ent42 : Enters Tryz.prog 42 := qz Tryz.func42 rfl rfl
theorem ent43 : Enters Tryz.prog 43 := qz Tryz.func43 rfl rfl
theorem ent44 : Enters Tryz.prog 44 := qz Tryz.func44 rfl rfl
theorem ent45 : Enters Tryz.prog 45 := qz Tryz.func45 rfl rfl
theorem ent46 : Enters Tryz.prog 46 := qz Tryz.func46 rfl rfl
theorem ent47 : Enters Tryz.prog 47 := qz Tryz.func47 rfl rfl
theorem ent48 : Enters Tryz.prog 48 := qz Tryz.func48 rfl rfl
theorem ent49 : Enters Tryz.prog 49 := qz Tryz.func49 rfl rfl
theorem ent50 : Enters Tryz.prog 50 := qz Tryz.func50 rfl rfl
theorem ent51 : Enters Tryz.prog 51 := qz Tryz.func51 rfl rfl
theorem ent52 : Enters Tryz.prog 52 := qz Tryz.func52 rfl rfl
theorem ent53 : Enters Tryz.prog 53 := qz Tryz.func53 rfl rfl
theorem ent54 : Enters Tryz.prog 54 := qz Tryz.func54 rfl rfl
theorem ent55 : Enters Tryz.prog 55 := qz Tryz.func55 rfl rfl
theorem ent56 : Enters Tryz.prog 56 := qz Tryz.func56 rfl rfl
theorem ent57 : Enters Tryz.prog 57 := qz Tryz.func57 rfl rfl
theorem ent58 : Enters Tryz.prog 58 := qz Tryz.func58 rfl rfl
theorem ent59 : Enters Tryz.prog 59 := qz Tryz.func59 rfl rfl
theorem ent60 : Enters Tryz.prog 60 := qz Tryz.func60 rfl rfl
theorem ent61 : Enters Tryz.prog 61 := qz Tryz.func61 rfl rfl
theorem ent62 : Enters Tryz.prog 62 := qz Tryz.func62 rfl rfl
theorem ent63 : Enters Tryz.prog 63 := qz Tryz.func63 rfl rfl
theorem ent64 : Enters Tryz.prog 64 := qz Tryz.func64 rfl rfl
theorem ent65 : Enters Tryz.prog 65 := qz Tryz.func65 rfl rfl
theorem ent66 : Enters Tryz.prog 66 := qz Tryz.func66 rfl rfl
theorem ent67 : Enters Tryz.prog 67 := qz Tryz.func67 rfl rfl
theorem ent68 : Enters Tryz.prog 68 := qz Tryz.func68 rfl rfl
theorem ent69 : Enters Tryz.prog 69 := qz Tryz.func69 rfl rfl
theorem ent70 : Enters Tryz.prog 70 := qz Tryz.func70 rfl rfl
theorem ent71 : Enters Tryz.prog 71 := qz Tryz.func71 rfl rfl
theorem ent72 : Enters Tryz.prog 72 := qz Tryz.func72 rfl rfl
theorem ent73 : Enters Tryz.prog 73 := qz Tryz.func73 rfl rfl
theorem ent74 : Enters Tryz.prog 74 := qz Tryz.func74 rfl rfl
theorem ent75 : Enters Tryz.prog 75 := qz Tryz.func75 rfl rfl
theorem ent76 : Enters Tryz.prog 76 := qz Tryz.func76 rfl rfl
theorem ent77 : Enters Tryz.prog 77 := qz Tryz.func77 rfl rfl
theorem ent78 : Enters Tryz.prog 78 := qz Tryz.func78 rfl rfl
theorem ent79 : Enters Tryz.prog 79 := qz Tryz.func79 rfl rfl
theorem ent80 : Enters Tryz.prog 80 := qz Tryz.func80 rfl rfl
theorem ent81 : Enters Tryz.prog 81 := qz Tryz.func81 rfl rfl
theorem ent82 : Enters Tryz.prog 82 := qz Tryz.func82 rfl rfl
theorem ent83 : Enters Tryz.prog 83 := qz Tryz.func83 rfl rfl
theorem ent84 : Enters Tryz.prog 84 := qz Tryz.func84 rfl rfl
theorem ent85 : Enters Tryz.prog 85 := qz Tryz.func85 rfl rfl
theorem ent86 : Enters Tryz.prog 86 := qz Tryz.func86 rfl rfl
theorem ent87 : Enters Tryz.prog 87 := qz Tryz.func87 rfl rfl
theorem ent88 : Enters Tryz.prog 88 := qz Tryz.func88 rfl rfl
theorem ent89 : Enters Tryz.prog 89 := qz Tryz.func89 rfl rfl
theorem ent90 : Enters Tryz.prog 90 := qz Tryz.func90 rfl rfl
theorem ent91 : Enters Tryz.prog 91 := qz Tryz.func91 rfl rfl
theorem ent92 : Enters Tryz.prog 92 := qz Tryz.func92 rfl rfl
theorem ent93 : Enters Tryz.prog 93 := qz Tryz.func93 rfl rfl
theorem ent94 : Enters Tryz.prog 94 := qz Tryz.func94 rfl rfl
theorem ent95 : Enters Tryz.prog 95 := qz Tryz.func95 rfl rfl
theorem ent96 : Enters Tryz.prog 96 := qz Tryz.func96 rfl rfl
theorem ent97 : Enters Tryz.prog 97 := qz Tryz.func97 rfl rfl
theorem ent98 : Enters Tryz.prog 98 := qz Tryz.func98 rfl rfl
theorem ent99 : Enters Tryz.prog 99 := qz Tryz.func99 rfl rfl
theorem ent100 : Enters Tryz.prog 100 := qz Tryz.func100 rfl rfl
theorem ent101 : Enters Tryz.prog 101 := qz Tryz.func101 rfl rfl
theorem ent102 : Enters Tryz.prog 102 := qz Tryz.func102 rfl rfl
theorem ent103 : Enters Tryz.prog 103 := qz Tryz.func103 rfl rfl
theorem ent104 : Enters Tryz.prog 104 := qz Tryz.func104 rfl rfl
theorem ent105 : Enters Tryz.prog 105 := qz Tryz.func105 rfl rfl
theorem ent106 : Enters Tryz.prog 106 := qz Tryz.func106 rfl rfl
theorem ent107 : Enters Tryz.prog 107 := qz Tryz.func107 rfl rfl
theorem ent108 : Enters Tryz.prog 108 := qz Tryz.func108 rfl rfl
theorem ent111 : Enters Tryz.prog 111 := qz Tryz.func111 rfl rfl
theorem ent112 : Enters Tryz.prog 112 := qz Tryz.func112 rfl rfl
theorem ent113 : Enters Tryz.prog 113 := qz Tryz.func113 rfl rfl
theorem ent114 : Enters Tryz.prog 114 := qz Tryz.func114 rfl rfl
theorem ent115 : Enters Tryz.prog 115 := qz Tryz.func115 rfl rfl
theorem ent116 : Enters Tryz.prog 116 := qz Tryz.func116 rfl rfl
theorem ent117 : Enters Tryz.prog 117 := qz Tryz.func117 rfl rfl
theorem ent127 : Enters Tryz.prog 127 := qz Tryz.func127 rfl rfl
theorem qpD (v : Value) (w : World) : (Instr.makeInterface 100 v).run Tryz.prog w = .ok (.iface 100 v) w := by simp [Instr.makeInterface, run_underlying Tryz.underlying100]
abbrev lostCh : List PanicEntry := [{ v := .iface 100 (.agg #[]), recovered := false }]
theorem idle58 (p q : Addr) : qjb Tryz.prog 58 #[.pointer (some p), .pointer (some q)] := by
  intro w
  refine callsD_of_wpS Tryz.func58 rfl fun c₀ cs hu => ?_
  apply wpS_seq
  apply wpS_region
  simp [wpOpsS, go_sem, recoverD, hu, Tryz.ntmps58, Exit.thenS]
  refine wpS_of_wp ?_
  go_wp2
  cases c₀
  simp_all [bodyPostS, results, Tryz.results58]
theorem qoy (w : World) : (Instr.typeAssert (.iface 100 (.agg #[])) 20 100 true).run Tryz.prog w = .ok (.tuple #[.agg #[], .bool true]) w := by
  simp [Instr.typeAssert, run_underlying Tryz.underlying100]
theorem eqn58 (x y : Operand) (w : World) : (do eqGuard .eql 20 x y (.iface 100 (.agg #[])) .nilIface; binOp .eql 20 (.iface 100 (.agg #[])) .nilIface : Sem Value).run Tryz.prog w = .ok (.bool false) w := by
  simp [go_sem]
set_option maxRecDepth 100000 in
theorem lost58 (g1 g2 : Nat) (v1 v2 : Value) : qji Tryz.prog 58 #[.pointer (some ⟨g1, 0, none⟩), .pointer (some ⟨g2, 0, none⟩)] 100 (.agg #[]) [⟨g1, 22, [v1]⟩, ⟨g2, 4, [v2]⟩] [⟨g1, 22, [.slice none 0 0]⟩, ⟨g2, 4, [.bool false]⟩] := by
  intro w hp
  refine callsD_of_wpS Tryz.func58 rfl fun c₀ cs hu => ?_
  apply wpS_seq
  apply wpS_region
  simp [wpOpsS, go_sem, recoverD, hu, Tryz.ntmps58, Exit.thenS]
  refine wpS_of_wp (qfd.1 ?_)
  refine (show SXC Tryz.prog none 11 [] (muts [⟨g1, 22, [v1]⟩, ⟨g2, 4, [v2]⟩] []) w _ _ [(0, .pointer (some ⟨g1, 0, none⟩)), (1, .pointer (some ⟨g2, 0, none⟩)), (5, .iface 100 (.agg #[]))] [⟨g1, 22, [v1]⟩, ⟨g2, 4, [v2]⟩] [] [] (some ()) () from ?_) rfl _ _ ⟨rfl, by simp, fun i v hv => ?_⟩ hp
  · refine qt ?_
    refine qf ?_
    refine qa ?_
    refine qlk rfl rfl rfl (eqn58 _ _) rfl ?_
    refine qe ?_
    refine qd ?_
    refine qcl (b := false) rfl (fun h => by cases h) (fun _ => ?_)
    refine qf ?_
    refine qa ?_
    refine qjN rfl rfl qoy rfl ?_
    refine qq rfl rfl rfl rfl ?_
    refine qq rfl rfl rfl rfl ?_
    refine qe ?_
    refine qd ?_
    refine qcl (b := true) rfl (fun _ => ?_) (fun h => by cases h)
    refine qf ?_
    refine qa ?_
    refine zL rfl tf100 rfl (fun g => ?_)
    refine qI (i := 0) rfl rfl rfl tf100 rfl rfl rfl rfl rfl ?_
    refine qe ?_
    refine qd ?_
    refine qa ?_
    refine qI (i := 1) rfl rfl rfl tf22 rfl rfl rfl rfl rfl ?_
    refine qI (i := 2) rfl rfl rfl tf4 rfl rfl rfl rfl rfl ?_
    refine qe ?_
    refine qH ?_
    intro _ a w' hf hp'
    exact ⟨hf.defers, _, rfl, _, results_none rfl _ _ _, rfl, rfl, hp'.pick (.cons 1 rfl (.cons 1 rfl .nil)) .nil (by simp)⟩
  · simp only [jy] at hv
    split at hv
    · rename_i h; subst h; simpa using hv
    · split at hv
      · rename_i h; subst h; simpa using hv
      · split at hv
        · rename_i h; subst h; simpa using hv
        · cases hv
theorem qdk (F : Nat) (x1 : Int) (x2 : Int) (x3 : Int) (r : Int) (hm : jJ F x1 x2 x3 = some r) :
    Pure Tryz.prog 9 [.agg #[.int .i64 x1, .int .i64 x2, .int .i64 x3]] [] Unit (fun _ => .int .i64 r) (fun _ => []) (fun _ => []) := by
 refine qQ Tryz.func9 rfl Tryz.ntmps9 rfl hm (fun w => qF (l' := [(0, .agg #[.int .i64 x1, .int .i64 x2, .int .i64 x3])]) rfl (qf (qa (zp rfl rfl rfl (fun g4 => qb rfl rfl rfl (qe (qd (qf (qf (qa (qo rfl rfl qeK rfl (qp (i := 0) rfl rfl tf3 rfl rfl (fun _ => rfl) rfl rfl ?_))))))))))))
 refine qP rfl rfl rfl rfl (qc rfl rfl rfl (zH 4 (decide (x1 < 0)) [(1, .pointer (some ⟨g4, 0, none⟩)), (10, .bool ((decide (x1 < 0)) || (decide (7 < x1))))] (fun h12 => ?_) (fun h12 => ?_) ?_))
 exact qw (os := _) rfl (zj (k := 6) rfl h12 (qk rfl rfl rfl (qk rfl rfl rfl (qk rfl rfl rfl (qE (b := true) rfl rfl rfl rfl (qA (d := 10) (v := .bool ((decide (x1 < 0)) || (decide (7 < x1)))) rfl (by rw [h12]; simp only [Bool.true_or]) (qe (qO (qh rfl (qh rfl q8))))))))))
 exact qw (os := _) rfl (zk (k := 6) rfl h12 (qo rfl rfl qeK rfl (qp (i := 0) rfl rfl tf3 rfl rfl (fun _ => rfl) rfl rfl (zi rfl rfl rfl rfl (qE (b := false) rfl rfl rfl rfl (qA (d := 10) (v := .bool ((decide (x1 < 0)) || (decide (7 < x1)))) rfl (by rw [h12]; simp only [Bool.false_or]) (qe (qO (qh rfl (qh rfl q8))))))))))
 refine qw (os := _) rfl (qc rfl rfl rfl (zH 4 ((decide (x1 < 0)) || (decide (7 < x1))) [(1, .pointer (some ⟨g4, 0, none⟩)), (15, .bool (((decide (x1 < 0)) || (decide (7 < x1))) || (decide (x2 < 0))))] (fun h13 => ?_) (fun h13 => ?_) ?_))
 exact qw (os := _) rfl (zj (k := 11) rfl h13 (qk rfl rfl rfl (qk rfl rfl rfl (qk rfl rfl rfl (qE (b := true) rfl rfl rfl rfl (qA (d := 15) (v := .bool (((decide (x1 < 0)) || (decide (7 < x1))) || (decide (x2 < 0)))) rfl (by rw [h13]; simp only [Bool.true_or]) (qe (qO (qh rfl (qh rfl q8))))))))))
 exact qw (os := _) rfl (zk (k := 11) rfl h13 (qo rfl rfl qbl rfl (qp (i := 0) rfl rfl tf3 rfl rfl (fun _ => rfl) rfl rfl (qP rfl rfl rfl rfl (qE (b := false) rfl rfl rfl rfl (qA (d := 15) (v := .bool (((decide (x1 < 0)) || (decide (7 < x1))) || (decide (x2 < 0)))) rfl (by rw [h13]; simp only [Bool.false_or]) (qe (qO (qh rfl (qh rfl q8))))))))))
 refine qw (os := _) rfl (qc rfl rfl rfl (zH 4 (((decide (x1 < 0)) || (decide (7 < x1))) || (decide (x2 < 0))) [(1, .pointer (some ⟨g4, 0, none⟩)), (20, .bool ((((decide (x1 < 0)) || (decide (7 < x1))) || (decide (x2 < 0))) || ((x2 : Int) == 1)))] (fun h14 => ?_) (fun h14 => ?_) ?_))
 exact qw (os := _) rfl (zj (k := 16) rfl h14 (qk rfl rfl rfl (qk rfl rfl rfl (qk rfl rfl rfl (qE (b := true) rfl rfl rfl rfl (qA (d := 20) (v := .bool ((((decide (x1 < 0)) || (decide (7 < x1))) || (decide (x2 < 0))) || ((x2 : Int) == 1))) rfl (by rw [h14]; simp only [Bool.true_or]) (qe (qO (qh rfl (qh rfl q8))))))))))
 exact qw (os := _) rfl (zk (k := 16) rfl h14 (qo rfl rfl qbl rfl (qp (i := 0) rfl rfl tf3 rfl rfl (fun _ => rfl) rfl rfl (zu rfl rfl rfl rfl (qE (b := false) rfl rfl rfl rfl (qA (d := 20) (v := .bool ((((decide (x1 < 0)) || (decide (7 < x1))) || (decide (x2 < 0))) || ((x2 : Int) == 1))) rfl (by rw [h14]; simp only [Bool.false_or]) (qe (qO (qh rfl (qh rfl q8))))))))))
 refine qw (os := _) rfl (qc rfl rfl rfl (zH 4 ((((decide (x1 < 0)) || (decide (7 < x1))) || (decide (x2 < 0))) || ((x2 : Int) == 1)) [(1, .pointer (some ⟨g4, 0, none⟩)), (25, .bool (((((decide (x1 < 0)) || (decide (7 < x1))) || (decide (x2 < 0))) || ((x2 : Int) == 1)) || (decide (300 < x2))))] (fun h15 => ?_) (fun h15 => ?_) ?_))
 exact qw (os := _) rfl (zj (k := 21) rfl h15 (qk rfl rfl rfl (qk rfl rfl rfl (qk rfl rfl rfl (qE (b := true) rfl rfl rfl rfl (qA (d := 25) (v := .bool (((((decide (x1 < 0)) || (decide (7 < x1))) || (decide (x2 < 0))) || ((x2 : Int) == 1)) || (decide (300 < x2)))) rfl (by rw [h15]; simp only [Bool.true_or]) (qe (qO (qh rfl (qh rfl q8))))))))))
 exact qw (os := _) rfl (zk (k := 21) rfl h15 (qo rfl rfl qbl rfl (qp (i := 0) rfl rfl tf3 rfl rfl (fun _ => rfl) rfl rfl (zi rfl rfl rfl rfl (qE (b := false) rfl rfl rfl rfl (qA (d := 25) (v := .bool (((((decide (x1 < 0)) || (decide (7 < x1))) || (decide (x2 < 0))) || ((x2 : Int) == 1)) || (decide (300 < x2)))) rfl (by rw [h15]; simp only [Bool.false_or]) (qe (qO (qh rfl (qh rfl q8))))))))))
 refine qw (os := _) rfl (qc rfl rfl rfl (zH 4 (((((decide (x1 < 0)) || (decide (7 < x1))) || (decide (x2 < 0))) || ((x2 : Int) == 1)) || (decide (300 < x2))) [(1, .pointer (some ⟨g4, 0, none⟩)), (30, .bool ((((((decide (x1 < 0)) || (decide (7 < x1))) || (decide (x2 < 0))) || ((x2 : Int) == 1)) || (decide (300 < x2))) || (decide (x3 < 1))))] (fun h16 => ?_) (fun h16 => ?_) ?_))
 exact qw (os := _) rfl (zj (k := 26) rfl h16 (qk rfl rfl rfl (qk rfl rfl rfl (qk rfl rfl rfl (qE (b := true) rfl rfl rfl rfl (qA (d := 30) (v := .bool ((((((decide (x1 < 0)) || (decide (7 < x1))) || (decide (x2 < 0))) || ((x2 : Int) == 1)) || (decide (300 < x2))) || (decide (x3 < 1)))) rfl (by rw [h16]; simp only [Bool.true_or]) (qe (qO (qh rfl (qh rfl q8))))))))))
 exact qw (os := _) rfl (zk (k := 26) rfl h16 (qo rfl rfl qfW rfl (qp (i := 0) rfl rfl tf3 rfl rfl (fun _ => rfl) rfl rfl (qP rfl rfl rfl rfl (qE (b := false) rfl rfl rfl rfl (qA (d := 30) (v := .bool ((((((decide (x1 < 0)) || (decide (7 < x1))) || (decide (x2 < 0))) || ((x2 : Int) == 1)) || (decide (300 < x2))) || (decide (x3 < 1)))) rfl (by rw [h16]; simp only [Bool.false_or]) (qe (qO (qh rfl (qh rfl q8))))))))))
 refine qw (os := _) rfl (qc rfl rfl rfl (zH 4 ((((((decide (x1 < 0)) || (decide (7 < x1))) || (decide (x2 < 0))) || ((x2 : Int) == 1)) || (decide (300 < x2))) || (decide (x3 < 1))) [(35, .bool (((((((decide (x1 < 0)) || (decide (7 < x1))) || (decide (x2 < 0))) || ((x2 : Int) == 1)) || (decide (300 < x2))) || (decide (x3 < 1))) || (decide (16 < x3))))] (fun h17 => ?_) (fun h17 => ?_) ?_))
 exact qw (os := _) rfl (zj (k := 31) rfl h17 (qk rfl rfl rfl (qk rfl rfl rfl (qk rfl rfl rfl (qE (b := true) rfl rfl rfl rfl (qA (d := 35) (v := .bool (((((((decide (x1 < 0)) || (decide (7 < x1))) || (decide (x2 < 0))) || ((x2 : Int) == 1)) || (decide (300 < x2))) || (decide (x3 < 1))) || (decide (16 < x3)))) rfl (by rw [h17]; simp only [Bool.true_or]) (qe (qO (qh rfl q8)))))))))
 exact qw (os := _) rfl (zk (k := 31) rfl h17 (qo rfl rfl qfW rfl (qp (i := 0) rfl rfl tf3 rfl rfl (fun _ => rfl) rfl rfl (zi rfl rfl rfl rfl (qE (b := false) rfl rfl rfl rfl (qA (d := 35) (v := .bool (((((((decide (x1 < 0)) || (decide (7 < x1))) || (decide (x2 < 0))) || ((x2 : Int) == 1)) || (decide (300 < x2))) || (decide (x3 < 1))) || (decide (16 < x3)))) rfl (by rw [h17]; simp only [Bool.false_or]) (qe (qO (qh rfl q8)))))))))
 refine qw (os := _) rfl (qe (qd (qy rfl (fun h18 => ?_) (fun h18 => ?_))))
 exact qf (qa (qb rfl rfl rfl (qe (qd (qr (qn (qm () (res1 rfl rfl))))))))
 exact ql (qd (qf (qa (qb rfl rfl rfl (qe (qd (qr (qm () (res1 rfl rfl)))))))))
theorem qhh (F : Nat) (x1 : Int) (r : Bool) (hm : qc5 F x1 = some r) :
    Pure Tryz.prog 27 [.int .i64 x1] [] Unit (fun _ => .bool r) (fun _ => []) (fun _ => []) := by
 refine qQ Tryz.func27 rfl Tryz.ntmps27 rfl hm (fun w => qF (l' := [(0, .int .i64 x1)]) rfl (qf (qa (qb rfl rfl rfl (qe (qd (qf (qa (qc rfl rfl rfl (jl rfl rfl rfl rfl (qc rfl rfl rfl (zH 3 (decide (0 ≤ x1)) [(8, .bool ((decide (0 ≤ x1)) && (decide (x1 ≤ 1048576))))] (fun h2 => ?_) (fun h2 => ?_) ?_))))))))))))
 exact qw (os := _) rfl (zj (k := 5) rfl h2 (qc rfl rfl rfl (qdX rfl rfl rfl rfl (qE (b := true) rfl rfl rfl rfl (qA (d := 8) (v := .bool ((decide (0 ≤ x1)) && (decide (x1 ≤ 1048576)))) rfl (by rw [h2]; simp only [Bool.true_and]) (qe (qO (qh rfl q8))))))))
 exact qw (os := _) rfl (zk (k := 5) rfl h2 (qk rfl rfl rfl (qk rfl rfl rfl (qE (b := false) rfl rfl rfl rfl (qA (d := 8) (v := .bool ((decide (0 ≤ x1)) && (decide (x1 ≤ 1048576)))) rfl (by rw [h2]; simp only [Bool.false_and]) (qe (qO (qh rfl q8))))))))
 exact qw (os := _) rfl (qb rfl rfl rfl (qe (qd (qr (qm () (res1 rfl rfl))))))
theorem qcn (F : Nat) (x1 : List Int) (a2 : Option Addr) (c3 : Nat) (r : Int) (hm : v6 F x1 = some r) :
    Pure Tryz.prog 13 [.slice a2 x1.length c3] [Sl (eI .i64) 1 (.slice a2 x1.length c3) x1] Unit (fun _ => .int .i64 r) (fun _ => []) (fun _ => []) := by
 refine qQ Tryz.func13 rfl Tryz.ntmps13 rfl hm (fun w => qF (l' := [(0, .slice a2 x1.length c3)]) rfl (qf (qa (qb rfl rfl rfl (qe (qd (qf (qf (qa (qc rfl rfl rfl (qN rfl Tryz.underlying22 rfl rfl (zi rfl rfl rfl rfl ?_))))))))))))
 refine qe (qd (qy rfl (fun h131 => ?_) (fun h131 => ?_)))
 exact qf (qa (qb rfl rfl rfl (qe (qd (qr (qn (qm () (res1 rfl rfl))))))))
 refine ql (qd (qf (qa (qb rfl rfl rfl (qe (qd (qC (fun ((_, _) : (Unit × Unit)) => []) (fun ((_, _) : (Unit × Unit)) => []) (fun ((_, _) : (Unit × Unit)) => []) (fun ((_, _) : (Unit × Unit)) => []) (fun ((_, _) : (Unit × Unit)) => qe5 F) ?_ ?_)))))))
 refine qf (qa (qc rfl rfl rfl (qN rfl Tryz.underlying22 rfl rfl (qc rfl rfl rfl (qe (qd (qt (qM (fun (((x88, x89), _) : ((Int × Int) × Unit)) => [(3, .int .i64 x88), (9, .slice a2 x1.length c3), (10, .int .i64 (x1.length : Int)), (11, .int .i64 x89)]) (fun (((x88, x89), _) : ((Int × Int) × Unit)) => []) (fun (((x88, x89), _) : ((Int × Int) × Unit)) => []) (fun (((x88, x89), _) : ((Int × Int) × Unit)) => [Sl (eI .i64) 1 (.slice a2 x1.length c3) x1]) (fun k (s : ((Int × Int) × Unit)) => vA F x1 k s.1) ((-1, 0), ()) F ?_ (hF := (qi 0 rfl qu))))))))))
 intro k110
 rintro ⟨⟨x88, x89⟩, _⟩
 try dsimp only
 refine qZ (m' := qbv F x1 (vA F x1 k110) x88 x89) rfl (qf (qa (qP rfl rfl rfl rfl (qe (qd (qf (qy rfl (fun h130 => ?_) (fun h130 => ?_))))))))
 refine ql (qd (qf (qt (qf (qa (q7 (j := 0) (qL .i64) (by decide) rfl Tryz.underlying22 tf3 rfl rfl rfl rfl (fun x121 e121 b122 o123 => zl (j := 0) rfl rfl tf3 rfl rfl (fun _ => rfl) rfl rfl (qb rfl rfl rfl (qe (qd (qf (qt ?_))))))))))))
 refine qf (qa (qc rfl rfl rfl (qv ent27 rfl rfl rfl (fun x127 e127 => qhh F x121 x127 e127) .nil (fun x127 e127 => ?_))))
 intro _
 refine ko rfl rfl rfl (qb rfl rfl rfl (qe (qd (qy rfl (fun h129 => ?_) (fun h129 => ?_)))))
 refine qf (qa (qb rfl rfl rfl (qe (qd (qr (qR (qn (qR (qn (qn (qR (qn ?_))))))))))))
 exact qm () (res1 rfl rfl)
 refine qf (qa (qc rfl rfl rfl (qc rfl rfl rfl (qdX rfl rfl rfl rfl (qb rfl rfl rfl (qe (qd (qy rfl (fun h128 => ?_) (fun h128 => ?_)))))))))
 refine qf (qa (qb rfl rfl rfl (qe (qd (qr (qR (qn (qR (qn (qn (qR (qn ?_))))))))))))
 exact qm () (res1 rfl rfl)
 refine ql (qH (qd (qa (qc rfl rfl rfl (qb rfl rfl rfl (qe (qH (qd (qa (qD rfl rfl rfl rfl (qc rfl rfl rfl (qe ?_))))))))))))
 exact qG ((x121, iadd .i64 x89 1), ()) (hF := (qi 1 rfl qu))
 exact qS (qx (qx (qT (qj ((), ())))))
 rintro ⟨_, _⟩
 try dsimp only
 exact qf (qa (qb rfl rfl rfl (qe (qd (qr (qm () (res1 rfl rfl)))))))
theorem qgI (F : Nat) (x1 : Int) (x2 : List Int) (a3 : Option Addr) (c4 : Nat) (x5 : Int) (x6 : Int) (x7 : Int) (r : Int) (hm : qb5 F x1 x2 x5 x6 x7 = some r) :
    Pure Tryz.prog 14 [.int .i64 x1, .slice a3 x2.length c4, .agg #[.int .i64 x5, .int .i64 x6, .int .i64 x7]] [Sl (eI .i64) 1 (.slice a3 x2.length c4) x2] Unit (fun _ => .int .i64 r) (fun _ => []) (fun _ => []) := by
 refine qQ Tryz.func14 rfl Tryz.ntmps14 rfl hm (fun w => qF (l' := [(0, .int .i64 x1), (1, .slice a3 x2.length c4), (2, .agg #[.int .i64 x5, .int .i64 x6, .int .i64 x7])]) rfl (qf (qa (zp rfl rfl rfl (fun g8 => qb rfl rfl rfl (qe (qd (qf (qf (qa (qc rfl rfl rfl (qP rfl rfl rfl rfl ?_))))))))))))
 refine qc rfl rfl rfl (zH 3 (decide (x1 < 0)) [(1, .slice a3 x2.length c4), (5, .pointer (some ⟨g8, 0, none⟩)), (12, .bool ((decide (x1 < 0)) || (decide (1048576 < x1))))] (fun h11 => ?_) (fun h11 => ?_) ?_)
 exact qw (os := _) rfl (zj (k := 9) rfl h11 (qk rfl rfl rfl (qk rfl rfl rfl (qE (b := true) rfl rfl rfl rfl (qA (d := 12) (v := .bool ((decide (x1 < 0)) || (decide (1048576 < x1)))) rfl (by rw [h11]; simp only [Bool.true_or]) (qe (qO (qh rfl (qh rfl (qh rfl q8))))))))))
 exact qw (os := _) rfl (zk (k := 9) rfl h11 (qc rfl rfl rfl (zi rfl rfl rfl rfl (qE (b := false) rfl rfl rfl rfl (qA (d := 12) (v := .bool ((decide (x1 < 0)) || (decide (1048576 < x1)))) rfl (by rw [h11]; simp only [Bool.false_or]) (qe (qO (qh rfl (qh rfl (qh rfl q8))))))))))
 refine qw (os := _) rfl (qe (qd (qy rfl (fun h16 => ?_) (fun h16 => ?_))))
 exact qf (qa (qb rfl rfl rfl (qe (qd (qr (qn (qm () (res1 rfl rfl))))))))
 refine ql (qd (qf (qf (qa (qo rfl rfl qeK rfl (qp (i := 0) rfl rfl tf3 rfl rfl (fun _ => rfl) rfl rfl (zi rfl rfl rfl rfl (qe (qd (qy rfl (fun h15 => ?_) (fun h15 => ?_)))))))))))
 refine qf (qa (qc rfl rfl rfl (qv ent13 rfl rfl rfl (fun x14 e14 => qcn F x2 a3 c4 x14 e14) (.consF 0 rfl .nil) (fun x14 e14 => ?_))))
 intro _
 exact qb rfl rfl rfl (qe (qd (qr (qn (qm () (res1 rfl rfl))))))
 exact ql (qd (qf (qa (qb rfl rfl rfl (qe (qd (qr (qm () (res1 rfl rfl)))))))))
theorem qec (F : Nat) (x1 : List Int) (a2 : Option Addr) (c3 : Nat) (r : List Int) (hm : yA F x1 = some r) :
    Pure Tryz.prog 97 [.slice a2 x1.length c3] [Sl (eI .u8) 1 (.slice a2 x1.length c3) x1] (Option Addr × Nat) (fun g => .slice g.1 r.length g.2) (fun g => [Ro (eI .u8) 5 1 (.slice g.1 r.length g.2) r]) (fun _ => []) := by
 refine qQ Tryz.func97 rfl Tryz.ntmps97 rfl hm (fun w => qF (l' := [(0, .slice a2 x1.length c3)]) rfl (qf (qa (qb rfl rfl rfl (qe (qd (qf (qf (qa (qc rfl rfl rfl (qjr rfl Tryz.underlying25 rfl rfl rfl (qe ?_))))))))))))
 refine qd (qcl rfl (fun h11 => ?_) (fun h11 => ?_))
 refine qku 0 (qL .u8) (by decide) rfl h11 (fun h12 => ?_)
 subst h12
 exact qZ (m' := some ([] : List Int)) rfl (qf (qa (qb rfl rfl rfl (qe (qd (qr (qn (qU Int (eI .u8) 5 1 (qm (none, 0) (res1 rfl rfl) (fun h => by subst h; exact (.cons 0 rfl .nil)))))))))))
 exact ql (qd (qf (qa (zE (vs := []) (ys := ([] : List Int)) (qL .u8) (by decide) rfl Tryz.underlying25 tf5 rfl rfl rfl rfl rfl (by decide) (fun a6 c7 => qc rfl rfl rfl (zy 0 (qL .u8) rfl Tryz.underlying25 tf5 rfl rfl rfl rfl rfl (.inr ⟨0, rfl⟩) rfl rfl (fun x8 e8 a9 c10 => qb rfl rfl rfl (qe (qd (qr (qm (a9, c10) (res1 rfl rfl) (fun h => by subst h; exact (.cons 0 rfl .nil)))))))))))))
theorem qh9 (F : Nat) (x1 : Int) (x2 : List Int) (a3 : Option Addr) (c4 : Nat) (r : (Int × List Int)) (hm : qdI F x1 x2 = some r) :
    PureM Tryz.prog 77 [.agg #[.int .i64 x1, .slice a3 x2.length c4]] [] [] [Sl (eI .u8) 1 (.slice a3 x2.length c4) x2] ((Option Addr × Nat) × Nat) (fun g => .pointer (some ⟨g.2, 0, none⟩)) (fun g => [⟨g.2, 124, [.int .i64 r.1, .slice g.1.1 r.2.length g.1.2]⟩]) (fun g => [Ro (eI .u8) 5 1 (.slice g.1.1 r.2.length g.1.2) r.2]) := by
 refine yJ Tryz.func77 rfl Tryz.ntmps77 rfl hm (fun w => qF (l' := [(0, .agg #[.int .i64 x1, .slice a3 x2.length c4])]) rfl (qf (qa (zp rfl rfl rfl (fun g5 => qb rfl rfl rfl (qe (qd (qf (zP mixed [] [⟨g5, 27, [.int .i64 x1, .slice a3 x2.length c4]⟩] [Sl (eI .u8) 1 (.slice a3 x2.length c4) x2] (.cons 0 rfl .nil) (qW 0 rfl qV) 9 rfl (qg 0 (.pointer (some ⟨g5, 0, none⟩)) rfl rfl rfl (qK rfl kW) (zF 1 (.int .i64 x1) rfl rfl rfl (zB (i := 0) rfl tf3 rfl rfl (fun _ => rfl) rfl) (qg 2 (.pointer (some ⟨g5, 1, none⟩)) rfl rfl rfl (qK rfl qbT) ?_))))))))))))
 refine zF 3 (.slice a3 x2.length c4) rfl rfl rfl (zB (i := 0) rfl tf25 rfl rfl (fun _ => rfl) rfl) (q6 4 rfl (by kernel_rfl) rfl (qv ent97 rfl rfl rfl (fun x10 e10 => qec F x2 a3 c4 x10 e10) (.consF 0 rfl .nil) (fun x10 e10 => ?_)))
 rintro ⟨a11, c12⟩
 refine qe (qY (.cons 0 rfl .nil) (qW 0 rfl qV) (qg 5 (.agg #[.int .i64 x1, .slice a11 x10.length c12]) rfl rfl rfl (qhM (cells := [.int .i64 x1, .slice a11 x10.length c12]) st27 rfl (by kernel_rfl)) (qg 6 (.agg #[.int .i64 x1, .slice a11 x10.length c12]) rfl rfl rfl (qhM (cells := [.int .i64 x1, .slice a11 x10.length c12]) st124 rfl (by kernel_rfl)) (q6 7 rfl (by kernel_rfl) rfl (zp rfl rfl rfl (fun g13 => qe (qY (.cons 1 rfl .nil) (qW 0 rfl qV) (qg 8 (.pointer (some ⟨g13, 0, none⟩)) rfl rfl rfl (qs rfl) (zm (by kernel_rfl) (z7 (qd (qr ?_)) (by intro c h; cases h)))))))))))
 exact zT ((a11, c12), g13) (res1 rfl rfl) (hB := fun h => by subst h; exact (.cons 0 rfl .nil)) (hR := fun h => by subst h; exact (.cons 0 rfl .nil))
theorem qiS (F : Nat) (x1 : Int) (x2 : List Int) (a3 : Option Addr) (c4 : Nat) (x5 : Int) (x6 : Int) (r : Unit) (hm : qd6 F x1 x2 x5 x6 = some r) :
    PureM Tryz.prog 78 [.agg #[.int .i64 x1, .slice a3 x2.length c4], .int .i64 x5, .int .i64 x6] [] [] [Sl (eI .u8) 1 (.slice a3 x2.length c4) x2] (Nat × Nat × Nat) (fun g => .func (.func 98) #[] #[.pointer (some ⟨g.1, 0, none⟩), .pointer (some ⟨g.2.1, 0, none⟩), .pointer (some ⟨g.2.2, 0, none⟩)]) (fun g => [⟨g.1, 3, [.int .i64 x5]⟩, ⟨g.2.1, 3, [.int .i64 x6]⟩, ⟨g.2.2, 27, [.int .i64 x1, .slice a3 x2.length c4]⟩]) (fun _ => []) := by
 refine yJ Tryz.func78 rfl Tryz.ntmps78 rfl hm (fun w => qF (l' := [(0, .agg #[.int .i64 x1, .slice a3 x2.length c4]), (1, .int .i64 x5), (2, .int .i64 x6)]) rfl (qf (qa (zp rfl rfl rfl (fun g7 => zp rfl rfl rfl (fun g8 => zp rfl rfl rfl (fun g9 => qb rfl rfl rfl (qe (qd (qf (qa (qeJ rfl rfl rfl ?_))))))))))))
 exact qb rfl rfl rfl (qe (qd (qr (zT (g8, g9, g7) (res1 rfl rfl) (hB := fun h => by subst h; exact (.cons 1 rfl (.cons 0 rfl (.cons 0 rfl .nil))))))))
theorem qd4 (F : Nat) (g1 : Nat) (x2 : Int) (x3 : List Int) (a4 : Option Addr) (c5 : Nat) (x6 : Int) (r : (Int × List Int)) (hm : vT F x2 x3 x6 = some r) :
    PureM Tryz.prog 79 [.pointer (some ⟨g1, 0, none⟩), .int .u64 x6] [⟨g1, 124, [.int .i64 x2, .slice a4 x3.length c5]⟩] [Ro (eI .u8) 5 1 (.slice a4 x3.length c5) x3] [] (Option Addr × Nat) (fun _ => .tuple #[]) (fun g => [⟨g1, 124, [.int .i64 r.1, .slice g.1 r.2.length g.2]⟩]) (fun g => [Ro (eI .u8) 5 1 (.slice g.1 r.2.length g.2) r.2]) := by
  refine yJ Tryz.func79 rfl Tryz.ntmps79 rfl hm (fun w => ?_)
  refine qF (l' := [(0, .pointer (some ⟨g1, 0, none⟩)), (1, .int .u64 x6)]) rfl ?_
  refine qC (fun ((x15, (a13, c14)) : (List Int × (Option Addr × Nat))) => [(0, .pointer (some ⟨g1, 0, none⟩)), (1, .int .u64 x6)]) (fun ((x15, (a13, c14)) : (List Int × (Option Addr × Nat))) => [⟨g1, 124, [.int .i64 x2, .slice a13 x15.length c14]⟩]) (fun ((x15, (a13, c14)) : (List Int × (Option Addr × Nat))) => [Ro (eI .u8) 5 1 (.slice a13 x15.length c14) x15]) (fun ((x15, (a13, c14)) : (List Int × (Option Addr × Nat))) => []) (fun ((x15, _) : (List Int × (Option Addr × Nat))) => yI F x2 x6 x15) ?_ ?_
  · refine qf ?_
    refine qa ?_
    refine qc rfl rfl rfl ?_
    refine qX rfl rfl rfl ?_
    refine qo rfl rfl qcI rfl ?_
    refine qo rfl rfl kW rfl ?_
    refine qp (i := 0) rfl rfl tf3 rfl rfl (fun _ => rfl) rfl rfl ?_
    refine qds rfl rfl rfl rfl rfl ?_
    refine zu rfl rfl rfl rfl ?_
    refine qe ?_
    refine qd ?_
    refine qy rfl (fun h49 => ?_) (fun h49 => ?_)
    · refine qa ?_
      refine qc rfl rfl rfl ?_
      refine qc rfl rfl rfl ?_
      refine qX rfl rfl rfl ?_
      refine qo rfl rfl qcI rfl ?_
      refine qo rfl rfl qbT rfl ?_
      refine qp (i := 0) rfl rfl tf25 rfl rfl (fun _ => rfl) rfl rfl ?_
      refine zE (vs := [.int .u8 0]) (ys := ([0] : List Int)) (qL .u8) (by decide) rfl Tryz.underlying25 tf5 rfl rfl rfl rfl rfl (by decide) (fun a44 c45 => ?_)
      refine zy 1 (qL .u8) rfl Tryz.underlying25 tf5 rfl rfl rfl rfl rfl (.inl ⟨0, _, rfl⟩) rfl rfl (fun x46 e46 a47 c48 => ?_)
      refine qX rfl rfl rfl ?_
      refine qo rfl rfl qcI rfl ?_
      refine qo rfl rfl qbT rfl ?_
      refine qI (i := 0) rfl rfl rfl tf25 rfl rfl rfl rfl rfl ?_
      refine qe ?_
      exact qj (x46, (a47, c48)) (hB := (.cons 0 rfl .nil)) (hR := (.cons 0 rfl .nil))
    · refine ql ?_
      exact qj (x3, (a4, c5)) (hB := (.cons 0 rfl .nil)) (hR := (.cons 0 rfl .nil))
  · rintro ⟨x15, ⟨a13, c14⟩⟩
    try dsimp only
    refine qf ?_
    refine qdB (j := 0) rfl (fun x30 e30 g31 h32 => ?_)
    replace h32 : a13 = some ⟨g31, 0, none⟩ := h32
    have h33 := qfo (k := x15.length) (c := c14) h32
    refine qeY (fun h34 => ?_)
    refine qdB (j := 0) rfl (fun x36 e36 g37 h38 => ?_)
    replace h38 : a13 = some ⟨g37, 0, none⟩ := h38
    have h39 := qfo (k := x15.length) (c := c14) h38
    refine zP mixed [25] [⟨g1, 124, [.int .i64 x2, .slice a13 x15.length c14]⟩] [zG g31 ((iquo .i64 x2 8).toNat * 1) ((eI .u8) x30), zG g37 ((iquo .i64 x2 8).toNat * 1) ((eI .u8) x36)] (.cons 0 rfl .nil) (qgc 0 rfl (qbQ (qL .u8) e30 h32) (qgc 0 rfl (qbQ (qL .u8) e36 h38) qV)) 26 rfl ?_
    refine qg 0 (.pointer (some ⟨g1, 0, none⟩)) rfl rfl rfl (qs rfl) ?_
    refine qg 1 (.pointer (some ⟨g1, 0, none⟩)) rfl rfl rfl (qs rfl) ?_
    refine qg 2 (.pointer (some ⟨g1, 0, none⟩)) rfl rfl rfl (qK rfl qcI) ?_
    refine qg 3 (.pointer (some ⟨g1, 1, none⟩)) rfl rfl rfl (qK rfl qbT) ?_
    refine zF 4 (.slice a13 x15.length c14) rfl rfl rfl (zB (i := 0) rfl tf25 rfl rfl (fun _ => rfl) rfl) ?_
    refine qg 5 (.pointer (some ⟨g1, 0, none⟩)) rfl rfl rfl (qs rfl) ?_
    refine qg 6 (.pointer (some ⟨g1, 0, none⟩)) rfl rfl rfl (qs rfl) ?_
    refine qg 7 (.pointer (some ⟨g1, 0, none⟩)) rfl rfl rfl (qK rfl qcI) ?_
    refine qg 8 (.pointer (some ⟨g1, 0, none⟩)) rfl rfl rfl (qK rfl kW) ?_
    refine zF 9 (.int .i64 x2) rfl rfl rfl (zB (i := 0) rfl tf3 rfl rfl (fun _ => rfl) rfl) ?_
    refine qg 10 (.int .i64 (iquo .i64 x2 8)) rfl rfl rfl (qqo rfl rfl rfl) ?_
    refine qJ (d := 26) (v := .slice (some ⟨g31, 0, none⟩) x15.length c14) rfl (by rw [h32] <;> rfl) ?_
    refine qg 11 (.pointer (some ⟨g31, (iquo .i64 x2 8).toNat * 1, none⟩)) rfl rfl rfl (qe1 Tryz.underlying25 tf5 rfl rfl (zW e30).1 (vx e30)) ?_
    refine qJ (d := 26) (v := .slice a13 x15.length c14) rfl (by rw [h32] <;> rfl) ?_
    refine z8 12 (.int .u8 x30) [[25]] rfl rfl rfl (yC (j := 0) rfl tf5 rfl rfl (fun _ => rfl) rfl) ?_
    refine qg 13 (.int .u64 x6) rfl rfl rfl (qs rfl) ?_
    refine qg 14 (.int .u64 (ishl .u64 x6 7)) rfl rfl rfl (qf9 rfl rfl rfl) ?_
    refine qg 15 (.int .u8 (iconv .u8 (ishl .u64 x6 7))) rfl rfl rfl (qhs Tryz.underlying72 Tryz.underlying5 rfl) ?_
    refine qg 16 (.pointer (some ⟨g1, 0, none⟩)) rfl rfl rfl (qs rfl) ?_
    refine qg 17 (.pointer (some ⟨g1, 0, none⟩)) rfl rfl rfl (qs rfl) ?_
    refine qg 18 (.pointer (some ⟨g1, 0, none⟩)) rfl rfl rfl (qK rfl qcI) ?_
    refine qg 19 (.pointer (some ⟨g1, 0, none⟩)) rfl rfl rfl (qK rfl kW) ?_
    refine zF 20 (.int .i64 x2) rfl rfl rfl (zB (i := 0) rfl tf3 rfl rfl (fun _ => rfl) rfl) ?_
    refine qg 21 (.int .i64 (irem x2 8)) rfl rfl rfl (qke rfl rfl rfl) ?_
    refine qg 22 (.int .u8 (ishr .u8 (iconv .u8 (ishl .u64 x6 7)) (irem x2 8))) rfl rfl rfl (qqp rfl rfl h34) ?_
    refine qg 23 (.int .u8 (ior .u8 x30 (ishr .u8 (iconv .u8 (ishl .u64 x6 7)) (irem x2 8)))) rfl rfl rfl (qs rfl) ?_
    refine qJ (d := 26) (v := .slice (some ⟨g37, 0, none⟩) x15.length c14) rfl (by rw [h38] <;> rfl) ?_
    refine qg 24 (.pointer (some ⟨g37, (iquo .i64 x2 8).toNat * 1, none⟩)) rfl rfl rfl (qe1 Tryz.underlying25 tf5 rfl rfl (zW e36).1 (vx e36)) ?_
    refine qJ (d := 26) (v := .slice a13 x15.length c14) rfl (by rw [h38] <;> rfl) ?_
    refine q6 25 rfl (by kernel_rfl) rfl ?_
    refine qeE (j := 0) (y' := ior .u8 x30 (ishr .u8 (iconv .u8 (ishl .u64 x6 7)) (irem x2 8))) (qL .u8) rfl rfl rfl tf5 rfl (qfo h38) (zW e36).2.1 rfl (fun x41 e41 h42 => ?_)
    have h43 : x41.length = x15.length := by rw [← e41, List.length_set]
    refine qA (d := 26) (v := .slice a13 x41.length c14) rfl h42 ?_
    refine qjY (i := 0) (cs' := [.int .i64 x2, .slice a13 x41.length c14]) rfl (by rw [h42] <;> rfl) ?_
    refine qe ?_
    refine qex 25 rfl (by kernel_rfl) (.cons 0 (by rw [h43]; rfl) .nil) ?_
    refine zm (by kernel_rfl) ?_
    refine z7 ?_ (by intro c h; cases h)
    refine qd ?_
    refine qa ?_
    refine qc rfl rfl rfl ?_
    refine qX rfl rfl rfl ?_
    refine qo rfl rfl qcI rfl ?_
    refine qo rfl rfl kW rfl ?_
    refine qp (i := 0) rfl rfl tf3 rfl rfl (fun _ => rfl) rfl rfl ?_
    refine qD rfl rfl rfl rfl ?_
    refine qX rfl rfl rfl ?_
    refine qo rfl rfl qcI rfl ?_
    refine qo rfl rfl kW rfl ?_
    refine qI (i := 0) rfl rfl rfl tf3 rfl rfl rfl rfl rfl ?_
    refine qe ?_
    exact zT (a13, c14) (res0 rfl) (hB := fun h => by subst h; exact (.cons 0 rfl .nil)) (hR := fun h => by subst h; exact (.cons 0 rfl .nil))
theorem qep (F : Nat) (x1 : Int) (x2 : List Int) (a3 : Option Addr) (c4 : Nat) (x5 : Int) (r : Int) (hm : qbf F x1 x2 x5 = some r) :
    Pure Tryz.prog 61 [.agg #[.int .i64 x1, .slice a3 x2.length c4], .int .i64 x5] [Sl (eI .u8) 1 (.slice a3 x2.length c4) x2] Unit (fun _ => .int .u64 r) (fun _ => []) (fun _ => []) := by
 refine qQ Tryz.func61 rfl Tryz.ntmps61 rfl hm (fun w => qF (l' := [(0, .agg #[.int .i64 x1, .slice a3 x2.length c4]), (1, .int .i64 x5)]) rfl (qf (qa (zp rfl rfl rfl (fun g6 => qb rfl rfl rfl (qe (qd (qf (qa (qo rfl rfl qbT rfl (qp (i := 0) rfl rfl tf25 rfl rfl (fun _ => rfl) rfl rfl (qc rfl rfl rfl ?_))))))))))))
 refine qbL rfl rfl rfl rfl rfl (q7 (j := 0) (qL .u8) (by decide) rfl Tryz.underlying25 tf5 rfl rfl rfl rfl (fun x7 e7 b8 o9 => zl (j := 0) rfl rfl tf5 rfl rfl (fun _ => rfl) rfl rfl (qc rfl rfl rfl (qds rfl rfl rfl rfl rfl (zd rfl rfl rfl rfl (vY (fun h10 => qdU rfl rfl rfl rfl h10 (q9 rfl Tryz.underlying5 Tryz.underlying72 rfl rfl (qhv rfl rfl rfl rfl (qb rfl rfl rfl (yf (fun x11 e11 => qA (d := 4) (v := .int .u64 x11) rfl (by rw [e11] <;> rfl) ?_))))))))))))
 exact qe (qd (qr (qm () (res1 rfl rfl))))
theorem qhl (F : Nat) {σ τ : Type} {J : Rounds σ τ} {yy : σ → Int → Option (σ ⊕ τ)} {L : Nat} (hY : YieldC Tryz.prog L (fun (p : Int) => [.int .u64 p]) J yy) (s0 : σ) (gs0 : J.γ) (g1 : Nat) (x2 : Int) (g3 : Nat) (x4 : Int) (g5 : Nat) (x6 : Int) (x7 : List Int) (a8 : Option Addr) (c9 : Nat) (r : σ ⊕ τ) (hm : qdb F yy x2 x4 x6 x7 s0 = some r) :
    PureM Tryz.prog 98 ([.func (.yield L) #[] #[], .pointer (some ⟨g1, 0, none⟩), .pointer (some ⟨g3, 0, none⟩), .pointer (some ⟨g5, 0, none⟩)]) ([⟨g1, 3, [.int .i64 x2]⟩, ⟨g3, 3, [.int .i64 x4]⟩, ⟨g5, 27, [.int .i64 x6, .slice a8 x7.length c9]⟩] ++ J.IB s0 gs0) (J.IR s0 gs0) [J.F, Sl (eI .u8) 1 (.slice a8 x7.length c9) x7] (J.G r) (fun _ => .tuple #[]) (fun g => [⟨g1, 3, [.int .i64 x2]⟩, ⟨g3, 3, [.int .i64 x4]⟩, ⟨g5, 27, [.int .i64 x6, .slice a8 x7.length c9]⟩] ++ J.bs r g) (fun g => J.rs r g) := by
 refine yJ Tryz.func98 rfl Tryz.ntmps98 rfl hm (fun w => qF (l' := [(0, .func (.yield L) #[] #[]), (1, .pointer (some ⟨g1, 0, none⟩)), (2, .pointer (some ⟨g3, 0, none⟩)), (3, .pointer (some ⟨g5, 0, none⟩))]) rfl (qf (qa (qp (i := 0) rfl rfl tf3 rfl rfl (fun _ => rfl) rfl rfl (qb rfl rfl rfl (qe (qd (qt (qM (fun (((x22, x23), g24) : ((Int × σ) × J.γ)) => [(0, .func (.yield L) #[] #[]), (2, .pointer (some ⟨g3, 0, none⟩)), (3, .pointer (some ⟨g5, 0, none⟩)), (5, .int .i64 x22)]) (fun (((x22, x23), g24) : ((Int × σ) × J.γ)) => [⟨g1, 3, [.int .i64 x2]⟩, ⟨g3, 3, [.int .i64 x4]⟩, ⟨g5, 27, [.int .i64 x6, .slice a8 x7.length c9]⟩] ++ J.IB x23 g24) (fun (((x22, x23), g24) : ((Int × σ) × J.γ)) => [] ++ J.IR x23 g24) (fun (((x22, x23), g24) : ((Int × σ) × J.γ)) => [Sl (eI .u8) 1 (.slice a8 x7.length c9) x7, J.F]) (fun k (s : ((Int × σ) × J.γ)) => kG F yy x4 x6 x7 k s.1) ((x2, s0), gs0) F ?_ (hB := (.cons 0 rfl (.cons 0 rfl (.cons 0 rfl (zQ 0 rfl))))) (hR := (zQ 0 rfl)) (hF := (qi 1 rfl (qi 0 rfl qu))))))))))))
 intro k37
 rintro ⟨⟨x22, x23⟩, g24⟩
 try dsimp only
 refine qZ (m' := jG F yy x4 x6 x7 (kG F yy x4 x6 x7 k37) x22 x23) rfl (qf (qf (qa (qc rfl rfl rfl (qp (i := 1) rfl rfl tf3 rfl rfl (fun _ => rfl) rfl rfl (qP rfl rfl rfl rfl (qe (qd (qy rfl (fun h49 => ?_) (fun h49 => ?_))))))))))
 refine ql (qd (qf (qt (qf (qa (qc rfl rfl rfl (qp (i := 2) rfl rfl tf27 rfl rfl (by simp) rfl rfl (qc rfl rfl rfl (qv ent61 rfl rfl rfl (fun x44 e44 => qep F x6 x7 a8 c9 x22 x44 e44) (.consF 0 rfl .nil) (fun x44 e44 => ?_))))))))))
 intro _
 refine qjo hY x23 x44 g24 (B1 := [⟨g1, 3, [.int .i64 x2]⟩, ⟨g3, 3, [.int .i64 x4]⟩, ⟨g5, 27, [.int .i64 x6, .slice a8 x7.length c9]⟩]) (R1 := []) (j := 1) rfl rfl rfl rfl rfl rfl rfl (fun x45 _ g47 => ?_) (fun x46 _ g47 => ?_)
 exact ko rfl rfl rfl (qe (qd (qcl (b := false) rfl (fun h => by cases h) (fun _ => ql (qH (qd (qa (qc rfl rfl rfl (qD rfl rfl rfl rfl (qb rfl rfl rfl (qe (qG ((iadd .i64 x22 1, x45), g47) (hB := (.cons 0 rfl (.cons 0 rfl (.cons 0 rfl (zQ 0 rfl))))) (hR := (zQ 0 rfl)) (hF := (qi 0 rfl (qi 1 rfl qu)))))))))))))))
 exact ko rfl rfl rfl (qe (qd (qcl (b := true) rfl (fun _ => qr (qR (qn (qn (qR (qfC (B0 := [⟨g1, 3, [.int .i64 x2]⟩, ⟨g3, 3, [.int .i64 x4]⟩, ⟨g5, 27, [.int .i64 x6, .slice a8 x7.length c9]⟩]) (x := .inr x46) g47 (.inl rfl) (res0 rfl) (.cons 0 rfl (.cons 0 rfl (.cons 0 rfl (zQ 0 rfl)))) (zQ 0 rfl))))))) (fun h => by cases h))))
 exact qS (qx (qx (qT (qfC (B0 := [⟨g1, 3, [.int .i64 x2]⟩, ⟨g3, 3, [.int .i64 x4]⟩, ⟨g5, 27, [.int .i64 x6, .slice a8 x7.length c9]⟩]) (x := .inl x23) g24 (.inr rfl) (res0 rfl) (.cons 0 rfl (.cons 0 rfl (.cons 0 rfl (zQ 0 rfl)))) (zQ 0 rfl)))))
theorem qg2 (F : Nat) (x1 : Int) (x2 : List Int) (a3 : Option Addr) (c4 : Nat) (x5 : Int) (x6 : List Int) (a7 : Option Addr) (c8 : Nat) (r : (Int × List Int)) (hm : qb3 F x1 x2 x5 x6 = some r) :
    PureM Tryz.prog 56 [.agg #[.int .i64 x1, .slice a3 x2.length c4], .agg #[.int .i64 x5, .slice a7 x6.length c8]] [] [] [Sl (eI .u8) 1 (.slice a3 x2.length c4) x2, Sl (eI .u8) 1 (.slice a7 x6.length c8) x6] (Option Addr × Nat) (fun g => .agg #[.int .i64 r.1, .slice g.1 r.2.length g.2]) (fun _ => []) (fun g => [Ro (eI .u8) 5 1 (.slice g.1 r.2.length g.2) r.2]) := by
 refine qlp Tryz.func56 rfl Tryz.ntmps56 rfl hm (fun w => qF (l' := [(0, .agg #[.int .i64 x1, .slice a3 x2.length c4]), (1, .agg #[.int .i64 x5, .slice a7 x6.length c8])]) rfl (qf (qa (zp rfl rfl rfl (fun g9 => zp rfl rfl rfl (fun g10 => zL rfl tf27 rfl (fun g11 => qe (qd (qf (qa (qp (i := 2) rfl rfl tf27 rfl rfl (by simp) rfl rfl (zA ent77 rfl rfl rfl (fun x12 e12 => qh9 F x1 x2 a3 c4 x12 e12) .nil .nil (.consF 0 rfl .nil) (fun x12 e12 => ?_)))))))))))))
 rintro ⟨⟨a13, c14⟩, g15⟩
 refine zL rfl tf118 rfl (fun g16 => qI (i := 0) rfl rfl rfl tf118 rfl rfl rfl rfl rfl (qe (qd (qf (qf (qa (qp (i := 3) rfl rfl tf27 rfl rfl (by simp) rfl rfl (qo rfl rfl kW rfl (qp (i := 3) rfl rfl tf3 rfl rfl (fun _ => rfl) rfl rfl (zA ent78 rfl rfl rfl (fun x37 e37 => qiS F x5 x6 a7 c8 0 x5 x37 e37) .nil .nil (.consF 1 rfl .nil) (fun x37 e37 => ?_)))))))))))
 rintro ⟨g38, g39, g40⟩
 refine qe (qd (qt (qjd (encs := (fun (p : Int) => [.int .u64 p])) (y := (fun ((x45, x48) : (Int × List Int)) (x53 : Int) => qaO F x45 x48 x53)) (lb := [.pointer (some ⟨g38, 0, none⟩), .pointer (some ⟨g39, 0, none⟩), .pointer (some ⟨g40, 0, none⟩)]) (fun ((x45, x48) : (Int × List Int)) ((a46, c47) : (Option Addr × Nat)) => [⟨g16, 118, [.pointer (some ⟨g15, 0, none⟩)]⟩, ⟨g15, 124, [.int .i64 x45, .slice a46 x48.length c47]⟩, ⟨g11, 27, [.int .i64 0, .slice none 0 0]⟩, ⟨g10, 27, [.int .i64 x5, .slice a7 x6.length c8]⟩, ⟨g9, 27, [.int .i64 x1, .slice a3 x2.length c4]⟩]) (fun ((x45, x48) : (Int × List Int)) ((a46, c47) : (Option Addr × Nat)) => [Ro (eI .u8) 5 1 (.slice a46 x48.length c47) x48]) (fun (_ : Empty) (_ : Unit) => []) (fun (_ : Empty) (_ : Unit) => []) (fun _ => .skip) (x12.1, x12.2) (a13, c14) rfl ent98 (fun _ => rfl) rfl (.cons 0 rfl (.cons 0 rfl (.cons 0 rfl .nil))) (.cons 0 rfl (.cons 0 rfl (.cons 0 rfl (.cons 0 rfl (.cons 0 rfl .nil))))) (.cons 0 rfl .nil) (.consF 1 rfl .nil) (fun z hz _ _ _ hY => qhl F hY (x12.1, x12.2) (a13, c14) g38 0 g39 x5 g40 x5 x6 a7 c8 z hz) ?_ ?_ ?_)))
 rintro rc1 L1 D1 ⟨x45, x48⟩ ⟨a46, c47⟩ x53 z w M _
 try dsimp only
 refine qkN [(0, .agg #[.int .i64 x1, .slice a3 x2.length c4]), (1, .agg #[.int .i64 x5, .slice a7 x6.length c8]), (2, .pointer (some ⟨g9, 0, none⟩)), (3, .pointer (some ⟨g10, 0, none⟩)), (4, .pointer (some ⟨g11, 0, none⟩)), (5, .pointer (some ⟨g16, 0, none⟩)), (7, .agg #[.int .i64 x1, .slice a3 x2.length c4]), (8, .pointer (some ⟨g15, 0, none⟩)), (9, .agg #[.int .i64 x5, .slice a7 x6.length c8]), (10, .pointer (some ⟨g10, 0, none⟩)), (11, .int .i64 x5), (12, .func (.func 98) #[] #[.pointer (some ⟨g38, 0, none⟩), .pointer (some ⟨g39, 0, none⟩), .pointer (some ⟨g40, 0, none⟩)]), (13, .int .u64 x53)] (qh rfl (qh rfl (qh rfl (qh rfl (qh rfl (qh rfl (qh rfl (qh rfl (qh rfl (qh rfl (qh rfl (qh rfl (qh rfl q8))))))))))))) (qa (qb rfl rfl rfl (qe (qjk (i := 5) rfl (qt (qa (qp (i := 0) rfl rfl tf118 rfl rfl (fun _ => rfl) rfl rfl (qc rfl rfl rfl (zA ent79 rfl rfl rfl (fun x54 e54 => qd4 F g15 x45 x48 a46 c47 x53 x54 e54) (.cons 1 rfl .nil) (.cons 0 rfl .nil) .nil (fun x54 e54 => ?_))))))))))
 rintro ⟨a55, c56⟩
 exact qe (qH (qgS (rc := rc1) rfl (.cons 5 rfl .nil) rfl (a55, c56) (.cons 2 rfl (.cons 1 rfl (.cons 1 rfl (.cons 1 rfl (.cons 1 rfl (.cons 0 rfl (.cons 0 rfl .nil))))))) (.cons 0 rfl .nil)))
 rintro ⟨x45, x48⟩ _ ⟨a46, c47⟩ D1
 try dsimp only
 exact qH (qd (qf (qa (qp (i := 4) rfl rfl tf118 rfl rfl (fun _ => rfl) rfl rfl (qX rfl rfl rfl (qo rfl rfl qcI rfl (qp (i := 5) rfl rfl tf27 rfl rfl (by simp) rfl rfl (qI (i := 6) rfl rfl rfl tf27 rfl rfl rfl rfl rfl (qe (qd (qr (qjj [D1] (a46, c47) (.inl rfl) rfl (.cons 0 rfl .nil) (resL (rs := [.cell 4 27]) rfl (.cell (i := 5) rfl tf27 rfl rfl (by simp) rfl ResOk.nil) rfl) (fun h => by subst h; rfl) (fun h => by subst h; exact .nil) (fun h => by subst h; exact (.cons 0 rfl .nil))))))))))))))
 intro t; exact t.elim
theorem qdV (F : Nat) (g1 : Nat) (x2 : Int) (x3 : List Int) (a4 : Option Addr) (c5 : Nat) (x6 : Bool) (x7 : Int) (x8 : List Int) (a9 : Option Addr) (c10 : Nat) (r : (Int × List Int × Bool)) (hm : yO F x2 x3 x6 x7 x8 = some r) :
    PureM Tryz.prog 35 [.pointer (some ⟨g1, 0, none⟩), .agg #[.int .i64 x7, .slice a9 x8.length c10]] [⟨g1, 42, [.int .i64 x2, .slice a4 x3.length c5, .bool x6]⟩] [Ro (eI .u8) 5 1 (.slice a4 x3.length c5) x3] [Sl (eI .u8) 1 (.slice a9 x8.length c10) x8] (Option Addr × Nat) (fun _ => .tuple #[]) (fun g => [⟨g1, 42, [.int .i64 r.1, .slice g.1 r.2.1.length g.2, .bool r.2.2]⟩]) (fun g => [Ro (eI .u8) 5 1 (.slice g.1 r.2.1.length g.2) r.2.1]) := by
 refine yJ Tryz.func35 rfl Tryz.ntmps35 rfl hm (fun w => qF (l' := [(0, .pointer (some ⟨g1, 0, none⟩)), (1, .agg #[.int .i64 x7, .slice a9 x8.length c10])]) rfl (qf (qa (zp rfl rfl rfl (fun g11 => qe (qd (qC (fun ((x13, _) : (Bool × Unit)) => [(0, .pointer (some ⟨g1, 0, none⟩)), (3, .pointer (some ⟨g11, 0, none⟩))]) (fun ((x13, _) : (Bool × Unit)) => [⟨g11, 27, [.int .i64 x7, .slice a9 x8.length c10]⟩, ⟨g1, 42, [.int .i64 x2, .slice a4 x3.length c5, .bool x13]⟩]) (fun ((x13, _) : (Bool × Unit)) => [Ro (eI .u8) 5 1 (.slice a4 x3.length c5) x3]) (fun ((x13, _) : (Bool × Unit)) => [Sl (eI .u8) 1 (.slice a9 x8.length c10) x8]) (fun ((x13, _) : (Bool × Unit)) => yD F x2 x3 x7 x8 x13) ?_ ?_)))))))
 refine qdv (fun h18 => ?_) (fun h18 => ?_)
 refine zP mixed [18] [⟨g11, 27, [.int .i64 x7, .slice a9 x8.length c10]⟩] [Sl (eI .u8) 1 (.slice a9 x8.length c10) x8, (BlkD.is ⟨g1, 42, [.int .i64 x2, .slice a4 x3.length c5, .bool x6]⟩)] (.cons 0 rfl .nil) (qW 0 rfl (qjI 1 rfl qV)) 19 rfl (qg 0 (.pointer (some ⟨g1, 0, none⟩)) rfl rfl rfl (qs rfl) (qg 1 (.pointer (some ⟨g1, 0, none⟩)) rfl rfl rfl (qs rfl) (qg 2 (.pointer (some ⟨g1, 0, none⟩)) rfl rfl rfl (qs rfl) (qg 3 (.pointer (some ⟨g1, 2, none⟩)) rfl rfl rfl (qK rfl qea) (z8 4 (.bool x6) [[18]] rfl rfl rfl (qdL (j := 1) rfl tf4 rfl rfl (fun _ => rfl) rfl) (qg 5 (.bool x6) rfl rfl rfl (qs rfl) (qJ (d := 9) (v := .bool true) rfl (by rw [h18] <;> rfl) (qB 6 rfl rfl rfl (qB 7 rfl rfl rfl (qB 8 rfl rfl rfl (qB 9 rfl rfl rfl (qB 10 rfl rfl rfl ?_))))))))))))
 refine qB 11 rfl rfl rfl (qB 12 rfl rfl rfl (qB 13 rfl rfl rfl (qB 14 rfl rfl rfl (qg 15 (.bool true) rfl rfl rfl (qs rfl) (qg 16 (.pointer (some ⟨g1, 0, none⟩)) rfl rfl rfl (qs rfl) (qg 17 (.pointer (some ⟨g1, 2, none⟩)) rfl rfl rfl (qK rfl qea) (q6 18 rfl (by kernel_rfl) rfl (qI (i := 1) rfl rfl rfl tf4 rfl rfl rfl rfl rfl (qe (qex 18 rfl (by kernel_rfl) (.cons 0 rfl .nil) (zm (by kernel_rfl) (z7 ?_ (by intro c h; cases h)))))))))))))
 exact qj (true, ()) (hB := (.cons 0 rfl (.cons 0 rfl .nil))) (hR := (.cons 0 rfl .nil)) (hF := (qi 0 rfl qu))
 refine zP mixed [18] [⟨g11, 27, [.int .i64 x7, .slice a9 x8.length c10]⟩] [Sl (eI .u8) 1 (.slice a9 x8.length c10) x8, (BlkD.is ⟨g1, 42, [.int .i64 x2, .slice a4 x3.length c5, .bool x6]⟩)] (.cons 0 rfl .nil) (qW 0 rfl (qjI 1 rfl qV)) 19 rfl (qg 0 (.pointer (some ⟨g1, 0, none⟩)) rfl rfl rfl (qs rfl) (qg 1 (.pointer (some ⟨g1, 0, none⟩)) rfl rfl rfl (qs rfl) (qg 2 (.pointer (some ⟨g1, 0, none⟩)) rfl rfl rfl (qs rfl) (qg 3 (.pointer (some ⟨g1, 2, none⟩)) rfl rfl rfl (qK rfl qea) (z8 4 (.bool x6) [[18]] rfl rfl rfl (qdL (j := 1) rfl tf4 rfl rfl (fun _ => rfl) rfl) (qg 5 (.bool x6) rfl rfl rfl (qs rfl) (qJ (d := 9) (v := .bool false) rfl (by rw [h18] <;> rfl) (qg 6 (.pointer (some ⟨g1, 0, none⟩)) rfl rfl rfl (qs rfl) (qg 7 (.pointer (some ⟨g1, 0, none⟩)) rfl rfl rfl (qs rfl) (qg 8 (.pointer (some ⟨g1, 0, none⟩)) rfl rfl rfl (qK rfl qf1) (qg 9 (.pointer (some ⟨g1, 0, none⟩)) rfl rfl rfl (qK rfl kW) (z8 10 (.int .i64 x2) [[18]] rfl rfl rfl (qdL (j := 1) rfl tf3 rfl rfl (fun _ => rfl) rfl) ?_))))))))))))
 refine qg 11 (.pointer (some ⟨g11, 0, none⟩)) rfl rfl rfl (qK rfl kW) (zF 12 (.int .i64 x7) rfl rfl rfl (zB (i := 0) rfl tf3 rfl rfl (fun _ => rfl) rfl) (qg 13 (.int .i64 (iadd .i64 x2 x7)) rfl rfl rfl (qs rfl) (qg 14 (.bool (decide (8192 < (iadd .i64 x2 x7)))) rfl rfl rfl (qs rfl) (qg 15 (.bool (decide (8192 < (iadd .i64 x2 x7)))) rfl rfl rfl (qs rfl) (qg 16 (.pointer (some ⟨g1, 0, none⟩)) rfl rfl rfl (qs rfl) (qg 17 (.pointer (some ⟨g1, 2, none⟩)) rfl rfl rfl (qK rfl qea) (q6 18 rfl (by kernel_rfl) rfl (qI (i := 1) rfl rfl rfl tf4 rfl rfl rfl rfl rfl (qe (qex 18 rfl (by kernel_rfl) (.cons 0 rfl .nil) (zm (by kernel_rfl) (z7 ?_ (by intro c h; cases h)))))))))))))
 exact qj ((decide (8192 < (iadd .i64 x2 x7))), ()) (hB := (.cons 0 rfl (.cons 0 rfl .nil))) (hR := (.cons 0 rfl .nil)) (hF := (qi 0 rfl qu))
 rintro ⟨x13, _⟩
 try dsimp only
 refine qf (qa (qc rfl rfl rfl (qX rfl rfl rfl (qo rfl rfl qea rfl (qp (i := 1) rfl rfl tf4 rfl rfl (fun _ => rfl) rfl rfl (ko rfl rfl rfl (qe (qd (qy rfl (fun h17 => ?_) (fun h17 => ?_))))))))))
 refine zP mixed [9] [⟨g11, 27, [.int .i64 x7, .slice a9 x8.length c10]⟩] [Sl (eI .u8) 1 (.slice a9 x8.length c10) x8, (BlkD.is ⟨g1, 42, [.int .i64 x2, .slice a4 x3.length c5, .bool x13]⟩)] (.cons 0 rfl .nil) (qW 0 rfl (qjI 1 rfl qV)) 10 rfl (qg 0 (.pointer (some ⟨g1, 0, none⟩)) rfl rfl rfl (qs rfl) (qg 1 (.pointer (some ⟨g1, 0, none⟩)) rfl rfl rfl (qs rfl) (qg 2 (.pointer (some ⟨g1, 0, none⟩)) rfl rfl rfl (qs rfl) (qg 3 (.pointer (some ⟨g1, 0, none⟩)) rfl rfl rfl (qK rfl qf1) (z8 4 (.agg #[.int .i64 x2, .slice a4 x3.length c5]) [[9]] rfl rfl rfl (qdL (j := 1) rfl tf27 rfl rfl (by simp) rfl) (zF 5 (.agg #[.int .i64 x7, .slice a9 x8.length c10]) rfl rfl rfl (zB (i := 0) rfl tf27 rfl rfl (by simp) rfl) (q6 6 rfl (by kernel_rfl) rfl (zA ent56 rfl rfl rfl (fun x14 e14 => qg2 F x2 x3 a4 c5 x7 x8 a9 c10 x14 e14) .nil .nil (.consR 0 (Ro (eI .u8) 5 1 (.slice a4 x3.length c5) x3) rfl (.consF 0 rfl .nil)) (fun x14 e14 => ?_)))))))))
 rintro ⟨a15, c16⟩
 exact qe (qY (.cons 0 rfl .nil) (qW 0 rfl (qjI 1 rfl qV)) (qg 7 (.pointer (some ⟨g1, 0, none⟩)) rfl rfl rfl (qs rfl) (qg 8 (.pointer (some ⟨g1, 0, none⟩)) rfl rfl rfl (qK rfl qf1) (q6 9 rfl (by kernel_rfl) rfl (qI (i := 1) rfl rfl rfl tf27 rfl rfl rfl rfl rfl (qe (qex 9 rfl (by kernel_rfl) (.cons 0 rfl .nil) (zm (by kernel_rfl) (z7 (zT (a15, c16) (res0 rfl) (hB := fun h => by subst h; exact (.cons 1 rfl .nil)) (hR := fun h => by subst h; exact (.cons 0 rfl .nil))) (by intro c h; cases h))))))))))
 exact ql (zT (a4, c5) (res0 rfl) (hB := fun h => by subst h; exact (.cons 1 rfl .nil)) (hR := fun h => by subst h; exact (.cons 0 rfl .nil)))
theorem qb6 (F : Nat) (x1 : Int) (r : Int) (hm : yN F x1 = some r) :
    Pure Tryz.prog 93 [.int .u64 x1] [] Unit (fun _ => .int .i64 r) (fun _ => []) (fun _ => []) := by
 refine qQ Tryz.func93 rfl Tryz.ntmps93 rfl hm (fun w => qF (l' := [(0, .int .u64 x1)]) rfl (qf (qa (qb rfl rfl rfl (qe (qd (qC (fun (((x3, x4), _) : ((Int × Int) × Unit)) => [(0, .int .u64 x3), (2, .int .i64 x4)]) (fun (((x3, x4), _) : ((Int × Int) × Unit)) => []) (fun (((x3, x4), _) : ((Int × Int) × Unit)) => []) (fun (((x3, x4), _) : ((Int × Int) × Unit)) => []) (fun (((x3, x4), _) : ((Int × Int) × Unit)) => yE F x3 x4) ?_ ?_)))))))
 refine qf (qa (qc rfl rfl rfl (jl rfl rfl rfl rfl (qe (qd (qy rfl (fun h14 => ?_) (fun h14 => ?_)))))))
 exact qf (qa (qc rfl rfl rfl (qdU rfl rfl rfl rfl rfl (qb rfl rfl rfl (qe (qd (qa (qb rfl rfl rfl (qe (qj ((ishr .u64 x1 32, 32), ())))))))))))
 exact ql (qj ((x1, 0), ()))
 rintro ⟨⟨x3, x4⟩, _⟩
 try dsimp only
 refine qC (fun (((x6, x7), _) : ((Int × Int) × Unit)) => [(0, .int .u64 x6), (2, .int .i64 x7)]) (fun (((x6, x7), _) : ((Int × Int) × Unit)) => []) (fun (((x6, x7), _) : ((Int × Int) × Unit)) => []) (fun (((x6, x7), _) : ((Int × Int) × Unit)) => []) (fun (((x6, x7), _) : ((Int × Int) × Unit)) => yG F x6 x7) ?_ ?_
 refine qf (qa (qc rfl rfl rfl (jl rfl rfl rfl rfl (qe (qd (qy rfl (fun h13 => ?_) (fun h13 => ?_)))))))
 exact qf (qa (qc rfl rfl rfl (qdU rfl rfl rfl rfl rfl (qb rfl rfl rfl (qe (qd (qa (qc rfl rfl rfl (qD rfl rfl rfl rfl (qb rfl rfl rfl (qe (qj ((ishr .u64 x3 16, iadd .i64 x4 16), ())))))))))))))
 exact ql (qj ((x3, x4), ()))
 rintro ⟨⟨x6, x7⟩, _⟩
 try dsimp only
 refine qC (fun (((x9, x10), _) : ((Int × Int) × Unit)) => [(0, .int .u64 x9), (2, .int .i64 x10)]) (fun (((x9, x10), _) : ((Int × Int) × Unit)) => []) (fun (((x9, x10), _) : ((Int × Int) × Unit)) => []) (fun (((x9, x10), _) : ((Int × Int) × Unit)) => []) (fun (((x9, x10), _) : ((Int × Int) × Unit)) => yH F x9 x10) ?_ ?_
 refine qf (qa (qc rfl rfl rfl (jl rfl rfl rfl rfl (qe (qd (qy rfl (fun h12 => ?_) (fun h12 => ?_)))))))
 exact qf (qa (qc rfl rfl rfl (qdU rfl rfl rfl rfl rfl (qb rfl rfl rfl (qe (qd (qa (qc rfl rfl rfl (qD rfl rfl rfl rfl (qb rfl rfl rfl (qe (qj ((ishr .u64 x6 8, iadd .i64 x7 8), ())))))))))))))
 exact ql (qj ((x6, x7), ()))
 rintro ⟨⟨x9, x10⟩, _⟩
 try dsimp only
 exact qf (qa (qc rfl rfl rfl (qc rfl rfl rfl (q9 rfl Tryz.underlying72 Tryz.underlying5 rfl rfl (qlA (xs := ([0, 1, 2, 2, 3, 3, 3, 3, 4, 4, 4, 4, 4, 4, 4, 4, 5, 5, 5, 5, 5, 5, 5, 5, 5, 5, 5, 5, 5, 5, 5, 5, 6, 6, 6, 6, 6, 6, 6, 6, 6, 6, 6, 6, 6, 6, 6, 6, 6, 6, 6, 6, 6, 6, 6, 6, 6, 6, 6, 6, 6, 6, 6, 6, 7, 7, 7, 7, 7, 7, 7, 7, 7, 7, 7, 7, 7, 7, 7, 7, 7, 7, 7, 7, 7, 7, 7, 7, 7, 7, 7, 7, 7, 7, 7, 7, 7, 7, 7, 7, 7, 7, 7, 7, 7, 7, 7, 7, 7, 7, 7, 7, 7, 7, 7, 7, 7, 7, 7, 7, 7, 7, 7, 7, 7, 7, 7, 7, 8, 8, 8, 8, 8, 8, 8, 8, 8, 8, 8, 8, 8, 8, 8, 8, 8, 8, 8, 8, 8, 8, 8, 8, 8, 8, 8, 8, 8, 8, 8, 8, 8, 8, 8, 8, 8, 8, 8, 8, 8, 8, 8, 8, 8, 8, 8, 8, 8, 8, 8, 8, 8, 8, 8, 8, 8, 8, 8, 8, 8, 8, 8, 8, 8, 8, 8, 8, 8, 8, 8, 8, 8, 8, 8, 8, 8, 8, 8, 8, 8, 8, 8, 8, 8, 8, 8, 8, 8, 8, 8, 8, 8, 8, 8, 8, 8, 8, 8, 8, 8, 8, 8, 8, 8, 8, 8, 8, 8, 8, 8, 8, 8, 8, 8, 8, 8, 8, 8, 8, 8, 8, 8, 8, 8, 8, 8, 8] : List Int)) rfl Tryz.underlying9 rfl rfl (by kernel_rfl) rfl (fun x11 e11 => q9 rfl Tryz.underlying5 Tryz.underlying3 rfl rfl (qD rfl rfl rfl rfl (qb rfl rfl rfl (qe (qd (qr (qm () (res1 rfl rfl)))))))))))))
theorem qjx (F : Nat) (x1 : Int) (r : Int) (hm : qdt F x1 = some r) :
    Pure Tryz.prog 68 [.int .u64 x1] [] Unit (fun _ => .int .i64 r) (fun _ => []) (fun _ => []) := by
 refine qQ Tryz.func68 rfl Tryz.ntmps68 rfl hm (fun w => qF (l' := [(0, .int .u64 x1)]) rfl (qf (qa (qb rfl rfl rfl (qe (qd (qf (qa (qc rfl rfl rfl (qD rfl rfl rfl rfl (qv ent93 rfl rfl rfl (fun x2 e2 => qb6 F (iadd .u64 x1 1) x2 e2) .nil (fun x2 e2 => ?_))))))))))))
 intro _
 exact zd rfl rfl rfl rfl (qb rfl rfl rfl (qe (qd (qr (qm () (res1 rfl rfl))))))
theorem qff (F : Nat) (g1 : Nat) (x2 : Int) (x3 : List Int) (a4 : Option Addr) (c5 : Nat) (x6 : Int) (x7 : Int) (r : (Int × List Int)) (hm : vO F x2 x3 x6 x7 = some r) :
    PureM Tryz.prog 94 [.pointer (some ⟨g1, 0, none⟩), .int .u64 x6, .int .i64 x7] [⟨g1, 124, [.int .i64 x2, .slice a4 x3.length c5]⟩] [Ro (eI .u8) 5 1 (.slice a4 x3.length c5) x3] [] (Option Addr × Nat) (fun _ => .tuple #[]) (fun g => [⟨g1, 124, [.int .i64 r.1, .slice g.1 r.2.length g.2]⟩]) (fun g => [Ro (eI .u8) 5 1 (.slice g.1 r.2.length g.2) r.2]) := by
 refine yJ Tryz.func94 rfl Tryz.ntmps94 rfl hm (fun w => qF (l' := [(0, .pointer (some ⟨g1, 0, none⟩)), (1, .int .u64 x6), (2, .int .i64 x7)]) rfl (qf (qa (qc rfl rfl rfl (zd rfl rfl rfl rfl (qb rfl rfl rfl (qe (qd (qt (qM (fun (((x18, x19, x22), (a20, c21)) : ((Int × Int × List Int) × (Option Addr × Nat))) => [(0, .pointer (some ⟨g1, 0, none⟩)), (1, .int .u64 x6), (6, .int .i64 x18)]) (fun (((x18, x19, x22), (a20, c21)) : ((Int × Int × List Int) × (Option Addr × Nat))) => [⟨g1, 124, [.int .i64 x19, .slice a20 x22.length c21]⟩]) (fun (((x18, x19, x22), (a20, c21)) : ((Int × Int × List Int) × (Option Addr × Nat))) => [Ro (eI .u8) 5 1 (.slice a20 x22.length c21) x22]) (fun (((x18, x19, x22), (a20, c21)) : ((Int × Int × List Int) × (Option Addr × Nat))) => []) (fun k (s : ((Int × Int × List Int) × (Option Addr × Nat))) => kz F x6 k s.1) ((isub .i64 x7 1, x2, x3), (a4, c5)) F ?_ (hB := (.cons 0 rfl .nil)) (hR := (.cons 0 rfl .nil))))))))))))
 intro k33
 rintro ⟨⟨x18, x19, x22⟩, ⟨a20, c21⟩⟩
 try dsimp only
 refine qZ (m' := kC F x6 (kz F x6 k33) x18 x19 x22) rfl (qf (qf (qa (qc rfl rfl rfl (jl rfl rfl rfl rfl (qe (qd (qy rfl (fun h43 => ?_) (fun h43 => ?_)))))))))
 refine ql (qd (qf (qt (qa (qc rfl rfl rfl (qc rfl rfl rfl (qc rfl rfl rfl (vY (fun h39 => qdU rfl rfl rfl rfl h39 (qhv rfl rfl rfl rfl (zA ent79 rfl rfl rfl (fun x40 e40 => qd4 F g1 x19 x22 a20 c21 (iand .u64 (ishr .u64 x6 x18) 1) x40 e40) (.cons 0 rfl .nil) (.cons 0 rfl .nil) .nil (fun x40 e40 => ?_))))))))))))
 rintro ⟨a41, c42⟩
 exact qe (qH (qd (qa (qc rfl rfl rfl (zd rfl rfl rfl rfl (qb rfl rfl rfl (qe (qG ((isub .i64 x18 1, x40.1, x40.2), (a41, c42)) (hB := (.cons 0 rfl .nil)) (hR := (.cons 0 rfl .nil))))))))))
 exact qS (qx (qx (qT (zT (a20, c21) (res0 rfl) (hB := fun h => by subst h; exact (.cons 0 rfl .nil)) (hR := fun h => by subst h; exact (.cons 0 rfl .nil))))))
theorem qeF (F : Nat) (x1 : Int) (x2 : List Int) (a3 : Option Addr) (c4 : Nat) (x5 : Int) (x6 : Int) (r : (Int × List Int)) (hm : qaK F x1 x2 x5 x6 = some r) :
    Pure Tryz.prog 69 [.agg #[.int .i64 x1, .slice a3 x2.length c4], .int .u64 x5, .int .i64 x6] [Sl (eI .u8) 1 (.slice a3 x2.length c4) x2] (Option Addr × Nat) (fun g => .agg #[.int .i64 r.1, .slice g.1 r.2.length g.2]) (fun g => [Ro (eI .u8) 5 1 (.slice g.1 r.2.length g.2) r.2]) (fun _ => []) := by
 refine qQ Tryz.func69 rfl Tryz.ntmps69 rfl hm (fun w => qF (l' := [(0, .agg #[.int .i64 x1, .slice a3 x2.length c4]), (1, .int .u64 x5), (2, .int .i64 x6)]) rfl (qf (qa (zp rfl rfl rfl (fun g7 => zL rfl tf27 rfl (fun g8 => qe (qd (qf (qa (qp (i := 1) rfl rfl tf27 rfl rfl (by simp) rfl rfl (zA ent77 rfl rfl rfl (fun x9 e9 => qh9 F x1 x2 a3 c4 x9 e9) .nil .nil (.consF 0 rfl .nil) (fun x9 e9 => ?_))))))))))))
 rintro ⟨⟨a10, c11⟩, g12⟩
 refine qb rfl rfl rfl (qe (qd (qf (qa (qc rfl rfl rfl (qc rfl rfl rfl (qc rfl rfl rfl (zA ent94 rfl rfl rfl (fun x13 e13 => qff F g12 x9.1 x9.2 a10 c11 x5 x6 x13 e13) (.cons 0 rfl .nil) (.cons 0 rfl .nil) .nil (fun x13 e13 => ?_)))))))))
 rintro ⟨a14, c15⟩
 exact qe (qd (qf (qa (qc rfl rfl rfl (qX rfl rfl rfl (qo rfl rfl qcI rfl (qp (i := 0) rfl rfl tf27 rfl rfl (by simp) rfl rfl (qI (i := 1) rfl rfl rfl tf27 rfl rfl rfl rfl rfl (qe (qd (qr (qm (a14, c15) (resL (rs := [.cell 6 27]) rfl (.cell (i := 1) rfl tf27 rfl rfl (by simp) rfl ResOk.nil) rfl) (fun h => by subst h; exact (.cons 0 rfl .nil))))))))))))))
theorem qhf (F : Nat) (x1 : Int) (r : (Int × List Int)) (hm : qc7 F x1 = some r) :
    Pure Tryz.prog 70 [.int .u64 x1] [] (Option Addr × Nat) (fun g => .agg #[.int .i64 r.1, .slice g.1 r.2.length g.2]) (fun g => [Ro (eI .u8) 5 1 (.slice g.1 r.2.length g.2) r.2]) (fun _ => []) := by
 refine qQ Tryz.func70 rfl Tryz.ntmps70 rfl hm (fun w => qF (l' := [(0, .int .u64 x1)]) rfl (qf (qa (zL rfl tf27 rfl (fun g2 => qe (qd (qf (qa (qc rfl rfl rfl (q9 rfl Tryz.underlying72 Tryz.underlying3 rfl rfl (qc rfl rfl rfl (qD rfl rfl rfl rfl ?_))))))))))))
 refine qbL rfl rfl rfl rfl rfl (ql9 (qL .u8) rfl Tryz.underlying25 tf5 rfl rfl rfl rfl rfl rfl rfl (fun x3 e3 a4 c5 => zX (cells := [.int .i64 (iconv .i64 x1), .slice a4 x3.length c5]) rfl st27 rfl (by kernel_rfl) rfl (qv ent69 rfl rfl rfl (fun x6 e6 => qeF F (iconv .i64 x1) x3 a4 c5 1 1 x6 e6) (.consR 0 (Ro (eI .u8) 5 1 (.slice a4 x3.length c5) x3) rfl .nil) (fun x6 e6 => ?_))))
 rintro ⟨a7, c8⟩
 exact qI (i := 0) rfl rfl rfl tf27 rfl rfl rfl rfl rfl (qe (qd (qr (qm (a7, c8) (resL (rs := [.cell 2 27]) rfl (.cell (i := 0) rfl tf27 rfl rfl (by simp) rfl ResOk.nil) rfl) (fun h => by subst h; exact (.cons 0 rfl .nil))))))
theorem qkS (F : Nat) (x1 : Int) (x2 : Int) (r : Int) (hm : qdY F x1 x2 = some r) :
    Pure Tryz.prog 71 [.int .u64 x1, .int .i64 x2] [] Unit (fun _ => .int .u64 r) (fun _ => []) (fun _ => []) := by
 refine qQ Tryz.func71 rfl Tryz.ntmps71 rfl hm (fun w => qF (l' := [(0, .int .u64 x1), (1, .int .i64 x2)]) rfl (qf (qa (qb rfl rfl rfl (qe (qd (qf (qa (qc rfl rfl rfl (qc rfl rfl rfl (vY (fun h3 => qa5 rfl rfl rfl rfl h3 ?_))))))))))))
 exact zd rfl rfl rfl rfl (qhv rfl rfl rfl rfl (qb rfl rfl rfl (yf (fun x4 e4 => qA (d := 4) (v := .int .u64 x4) rfl (by rw [e4] <;> rfl) (qe (qd (qr (qm () (res1 rfl rfl)))))))))
theorem qgX (F : Nat) (x1 : Int) (r : (Int × List Int)) (hm : qa9 F x1 = some r) :
    Pure Tryz.prog 50 [.int .u64 x1] [] (Option Addr × Nat) (fun g => .agg #[.int .i64 r.1, .slice g.1 r.2.length g.2]) (fun g => [Ro (eI .u8) 5 1 (.slice g.1 r.2.length g.2) r.2]) (fun _ => []) := by
 refine qQ Tryz.func50 rfl Tryz.ntmps50 rfl hm (fun w => qF (l' := [(0, .int .u64 x1)]) rfl (qf (qa (zL rfl tf27 rfl (fun g2 => qe (qd (qf (qa (qc rfl rfl rfl (qv ent68 rfl rfl rfl (fun x3 e3 => qjx F x1 x3 e3) .nil (fun x3 e3 => ?_)))))))))))
 intro _
 refine qb rfl rfl rfl (qe (qd (qf (qa (qc rfl rfl rfl (q9 rfl Tryz.underlying3 Tryz.underlying72 rfl rfl (qv ent70 rfl rfl rfl (fun x4 e4 => qhf F (iconv .u64 x3) x4 e4) .nil (fun x4 e4 => ?_))))))))
 rintro ⟨a5, c6⟩
 refine qc rfl rfl rfl (qD rfl rfl rfl rfl (qc rfl rfl rfl (qv ent71 rfl rfl rfl (fun x7 e7 => qkS F (iadd .u64 x1 1) x3 x7 e7) .nil (fun x7 e7 => ?_))))
 intro _
 refine qc rfl rfl rfl (qv ent69 rfl rfl rfl (fun x8 e8 => qeF F x4.1 x4.2 a5 c6 x7 x3 x8 e8) (.consR 0 (Ro (eI .u8) 5 1 (.slice a5 x4.2.length c6) x4.2) rfl .nil) (fun x8 e8 => ?_))
 rintro ⟨a9, c10⟩
 exact qI (i := 0) rfl rfl rfl tf27 rfl rfl rfl rfl rfl (qe (qd (qr (qm (a9, c10) (resL (rs := [.cell 2 27]) rfl (.cell (i := 0) rfl tf27 rfl rfl (by simp) rfl ResOk.nil) rfl) (fun h => by subst h; exact (.cons 0 rfl .nil))))))
theorem kO (F : Nat) (g1 : Nat) (x2 : Int) (x3 : List Int) (a4 : Option Addr) (c5 : Nat) (x6 : Bool) (x7 : Int) (r : (Int × List Int × Bool)) (hm : zO F x2 x3 x6 x7 = some r) :
    PureM Tryz.prog 28 [.pointer (some ⟨g1, 0, none⟩), .int .i64 x7] [⟨g1, 42, [.int .i64 x2, .slice a4 x3.length c5, .bool x6]⟩] [Ro (eI .u8) 5 1 (.slice a4 x3.length c5) x3] [] (Option Addr × Nat) (fun _ => .tuple #[]) (fun g => [⟨g1, 42, [.int .i64 r.1, .slice g.1 r.2.1.length g.2, .bool r.2.2]⟩]) (fun g => [Ro (eI .u8) 5 1 (.slice g.1 r.2.1.length g.2) r.2.1]) := by
 refine yJ Tryz.func28 rfl Tryz.ntmps28 rfl hm (fun w => qF (l' := [(0, .pointer (some ⟨g1, 0, none⟩)), (1, .int .i64 x7)]) rfl (qa (qc rfl rfl rfl (qc rfl rfl rfl (q9 rfl Tryz.underlying3 Tryz.underlying72 rfl rfl (qv ent50 rfl rfl rfl (fun x8 e8 => qgX F (iconv .u64 x7) x8 e8) .nil (fun x8 e8 => ?_)))))))
 rintro ⟨a9, c10⟩
 refine zA ent35 rfl rfl rfl (fun x11 e11 => qdV F g1 x2 x3 a4 c5 x6 x8.1 x8.2 a9 c10 x11 e11) (.cons 0 rfl .nil) (.cons 1 rfl .nil) (.consR 0 (Ro (eI .u8) 5 1 (.slice a9 x8.2.length c10) x8.2) rfl .nil) (fun x11 e11 => ?_)
 rintro ⟨a12, c13⟩
 exact qe (zT (a12, c13) (res0 rfl) (hB := fun h => by subst h; exact (.cons 0 rfl .nil)) (hR := fun h => by subst h; exact (.cons 0 rfl .nil)))
theorem qe7 (F : Nat) (x1 : Int) (r : Bool) (hm : qbH F x1 = some r) :
    Pure Tryz.prog 95 [.int .i64 x1] [] Unit (fun _ => .bool r) (fun _ => []) (fun _ => []) := by
 refine qQ Tryz.func95 rfl Tryz.ntmps95 rfl hm (fun w => qF (l' := [(0, .int .i64 x1)]) rfl (qf (qa (qb rfl rfl rfl (qe (qd (qf (qa (qc rfl rfl rfl (qc rfl rfl rfl (kD rfl rfl rfl rfl (qb rfl rfl rfl ?_))))))))))))
 exact qe (qd (qr (qm () (res1 rfl rfl))))
theorem qhX (F : Nat) (x1 : Int) (x2 : Int) (r : Bool) (hm : qcd F x1 x2 = some r) :
    Pure Tryz.prog 72 [.int .i64 x1, .int .i64 x2] [] Unit (fun _ => .bool r) (fun _ => []) (fun _ => []) := by
 refine qQ Tryz.func72 rfl Tryz.ntmps72 rfl hm (fun w => qF (l' := [(0, .int .i64 x1), (1, .int .i64 x2)]) rfl (qf (qa (qb rfl rfl rfl (qe (qd (qf (qa (qc rfl rfl rfl (qv ent95 rfl rfl rfl (fun x3 e3 => qe7 F x1 x3 e3) .nil (fun x3 e3 => ?_)))))))))))
 intro _
 refine qc rfl rfl rfl (kT 4 (fun ((x6, _) : (Bool × Unit)) => [(0, .int .i64 x1), (1, .int .i64 x2), (11, .bool x6)]) (fun ((x6, _) : (Bool × Unit)) => []) (fun ((x6, _) : (Bool × Unit)) => []) (fun ((x6, _) : (Bool × Unit)) => []) (fun ((x6, _) : (Bool × Unit)) => qak F x1 x2 x6) ?_ ?_)
 refine qw (os := _) rfl (jq (fun h4 => ?_) (fun h4 => ?_))
 refine zj (k := 7) rfl h4 (qc rfl rfl rfl (qv ent95 rfl rfl rfl (fun x8 e8 => qe7 F x2 x8 e8) .nil (fun x8 e8 => ?_)))
 intro _
 exact ko rfl rfl rfl (qE (b := true) rfl rfl rfl rfl (qe (qj ((!x8), ()))))
 exact zk (k := 7) rfl h4 (qk rfl rfl rfl (qk rfl rfl rfl (qk rfl rfl rfl (qE (b := false) rfl rfl rfl rfl (qe (qj (false, ())))))))
 rintro ⟨x6, _⟩
 try dsimp only
 refine qw (os := _) rfl (qc rfl rfl rfl (zH 4 x6 [(16, .bool (x6 || (decide (x1 < x2))))] (fun h7 => ?_) (fun h7 => ?_) ?_))
 exact qw (os := _) rfl (zj (k := 12) rfl h7 (qk rfl rfl rfl (qk rfl rfl rfl (qk rfl rfl rfl (qE (b := true) rfl rfl rfl rfl (qA (d := 16) (v := .bool (x6 || (decide (x1 < x2)))) rfl (by rw [h7]; simp only [Bool.true_or]) (qe (qO (qh rfl q8)))))))))
 exact qw (os := _) rfl (zk (k := 12) rfl h7 (qc rfl rfl rfl (qc rfl rfl rfl (qP rfl rfl rfl rfl (qE (b := false) rfl rfl rfl rfl (qA (d := 16) (v := .bool (x6 || (decide (x1 < x2)))) rfl (by rw [h7]; simp only [Bool.false_or]) (qe (qO (qh rfl q8)))))))))
 exact qw (os := _) rfl (qb rfl rfl rfl (qe (qd (qr (qm () (res1 rfl rfl))))))
theorem qdx (F : Nat) (x1 : Int) (r : Bool) (hm : jP F x1 = some r) :
    Pure Tryz.prog 73 [.int .i64 x1] [] Unit (fun _ => .bool r) (fun _ => []) (fun _ => []) := by
 refine qQ Tryz.func73 rfl Tryz.ntmps73 rfl hm (fun w => qF (l' := [(0, .int .i64 x1)]) rfl (qf (qa (qb rfl rfl rfl (qe (qd (qf (qa (qc rfl rfl rfl (qc rfl rfl rfl (kD rfl rfl rfl rfl (qb rfl rfl rfl ?_))))))))))))
 exact qe (qd (qr (qm () (res1 rfl rfl))))
theorem jC (F : Nat) (x1 : List Int) (a2 : Option Addr) (c3 : Nat) (x4 : Int) (r : (Int × Bool)) (hm : kq F x1 x4 = some r) :
    Pure Tryz.prog 51 [.slice a2 x1.length c3, .int .i64 x4] [Sl (eI .i64) 1 (.slice a2 x1.length c3) x1] Unit (fun _ => .tuple #[.int .i64 r.1, .bool r.2]) (fun _ => []) (fun _ => []) := by
 refine qQ Tryz.func51 rfl Tryz.ntmps51 rfl hm (fun w => qF (l' := [(0, .slice a2 x1.length c3), (1, .int .i64 x4)]) rfl (qf (qa (qb rfl rfl rfl (qb rfl rfl rfl (qe (qd (qf (qa (qc rfl rfl rfl (qN rfl Tryz.underlying22 rfl rfl (qb rfl rfl rfl ?_))))))))))))
 refine qe (qd (qf (qa (qc rfl rfl rfl (qb rfl rfl rfl (qb rfl rfl rfl (qe (qd (qC (fun ((x32, _) : (Int × Unit)) => [(0, .slice a2 x1.length c3), (1, .int .i64 x4), (6, .int .i64 (x1.length : Int)), (7, .int .i64 x32)]) (fun ((x32, _) : (Int × Unit)) => []) (fun ((x32, _) : (Int × Unit)) => []) (fun ((x32, _) : (Int × Unit)) => [Sl (eI .i64) 1 (.slice a2 x1.length c3) x1]) (fun ((x32, _) : (Int × Unit)) => k8 F x1 x4 x32) ?_ ?_)))))))))
 refine qt (qM (fun (((x85, x86), _) : ((Int × Int) × Unit)) => [(0, .slice a2 x1.length c3), (1, .int .i64 x4), (6, .int .i64 (x1.length : Int)), (7, .int .i64 x85), (8, .int .i64 x86)]) (fun (((x85, x86), _) : ((Int × Int) × Unit)) => []) (fun (((x85, x86), _) : ((Int × Int) × Unit)) => []) (fun (((x85, x86), _) : ((Int × Int) × Unit)) => [Sl (eI .i64) 1 (.slice a2 x1.length c3) x1]) (fun k (s : ((Int × Int) × Unit)) => zK F x1 x4 k s.1) ((0, (x1.length : Int)), ()) F ?_ (hF := (qi 0 rfl qu)))
 intro k95
 rintro ⟨⟨x85, x86⟩, _⟩
 try dsimp only
 refine qZ (m' := kw F x1 x4 (zK F x1 x4 k95) x85 x86) rfl (qf (qf (qa (qc rfl rfl rfl (qc rfl rfl rfl (qP rfl rfl rfl rfl (qe (qd (qy rfl (fun h103 => ?_) (fun h103 => ?_))))))))))
 refine ql (qd (qt (qf (qa (qc rfl rfl rfl (qc rfl rfl rfl (qD rfl rfl rfl rfl (q9 rfl Tryz.underlying3 Tryz.underlying112 rfl rfl (qdU rfl rfl rfl rfl rfl (q9 rfl Tryz.underlying112 Tryz.underlying3 rfl rfl (qb rfl rfl rfl (yf (fun x97 e97 => ?_)))))))))))))
 refine qA (d := 9) (v := .int .i64 x97) rfl (by rw [e97] <;> rfl) (qe (qd (qf (qa (qc rfl rfl rfl (qc rfl rfl rfl (q7 (j := 0) (qL .i64) (by decide) rfl Tryz.underlying22 tf3 rfl rfl rfl rfl (fun x98 e98 b99 o100 => zl (j := 0) rfl rfl tf3 rfl rfl (fun _ => rfl) rfl rfl (qc rfl rfl rfl (qv ent72 rfl rfl rfl (fun x101 e101 => qhX F x98 x4 x101 e101) .nil (fun x101 e101 => ?_)))))))))))
 intro _
 refine qe (qd (qy rfl (fun h102 => ?_) (fun h102 => ?_)))
 exact qa (qc rfl rfl rfl (qD rfl rfl rfl rfl (qb rfl rfl rfl (qe (qH (qG ((iadd .i64 x97 1, x86), ()) (hF := (qi 1 rfl qu))))))))
 exact qa (qc rfl rfl rfl (qb rfl rfl rfl (qe (qH (qG ((x85, x97), ()) (hF := (qi 1 rfl qu)))))))
 exact qS (qx (qx (qT (qj (x85, ()) (hF := (qi 0 rfl qu))))))
 rintro ⟨x32, _⟩
 try dsimp only
 refine qf (qa (qc rfl rfl rfl (qc rfl rfl rfl (qc rfl rfl rfl (qP rfl rfl rfl rfl (qc rfl rfl rfl (kT 18 (fun ((x55, _) : (Bool × Unit)) => [(31, .int .i64 x32), (53, .bool x55)]) (fun ((x55, _) : (Bool × Unit)) => []) (fun ((x55, _) : (Bool × Unit)) => []) (fun ((x55, _) : (Bool × Unit)) => []) (fun ((x55, _) : (Bool × Unit)) => ya F x32 x55) ?_ ?_)))))))
 refine qw (os := _) rfl (jq (fun h33 => ?_) (fun h33 => ?_))
 refine zj (k := 35) rfl h33 (qc rfl rfl rfl (qc rfl rfl rfl (q7 (j := 0) (qL .i64) (by decide) rfl Tryz.underlying22 tf3 rfl rfl rfl rfl (fun x56 e56 b57 o58 => zl (j := 0) rfl rfl tf3 rfl rfl (fun _ => rfl) rfl rfl (qc rfl rfl rfl (zu rfl rfl rfl rfl (qc rfl rfl rfl (kT 10 (fun ((x68, _) : (Bool × Unit)) => [(31, .int .i64 x32), (35, .bool true), (52, .bool x68)]) (fun ((x68, _) : (Bool × Unit)) => []) (fun ((x68, _) : (Bool × Unit)) => []) (fun ((x68, _) : (Bool × Unit)) => []) (fun ((x68, _) : (Bool × Unit)) => k9 F x32 x68) ?_ ?_))))))))
 refine qw (os := _) rfl (jq (fun h59 => ?_) (fun h59 => ?_))
 exact zj (k := 42) rfl h59 (qk rfl rfl rfl (qk rfl rfl rfl (qk rfl rfl rfl (qk rfl rfl rfl (qk rfl rfl rfl (qk rfl rfl rfl (qk rfl rfl rfl (qk rfl rfl rfl (qk rfl rfl rfl (qE (b := true) rfl rfl rfl rfl (qe (qj (true, ())))))))))))))
 refine zk (k := 42) rfl h59 (qc rfl rfl rfl (qc rfl rfl rfl (q7 (j := 1) (qL .i64) (by decide) rfl Tryz.underlying22 tf3 rfl rfl rfl rfl (fun x69 e69 b70 o71 => zl (j := 0) rfl rfl tf3 rfl rfl (fun _ => rfl) rfl rfl (qv ent73 rfl rfl rfl (fun x72 e72 => qdx F x69 x72 e72) .nil (fun x72 e72 => ?_))))))
 intro _
 refine qc rfl rfl rfl (kT 3 (fun ((x75, _) : (Bool × Unit)) => [(31, .int .i64 x32), (35, .bool true), (42, .bool false), (51, .bool x75)]) (fun ((x75, _) : (Bool × Unit)) => []) (fun ((x75, _) : (Bool × Unit)) => []) (fun ((x75, _) : (Bool × Unit)) => []) (fun ((x75, _) : (Bool × Unit)) => yi F x32 x75) ?_ ?_)
 refine qw (os := _) rfl (jq (fun h73 => ?_) (fun h73 => ?_))
 refine zj (k := 48) rfl h73 (qc rfl rfl rfl (qv ent73 rfl rfl rfl (fun x76 e76 => qdx F x4 x76 e76) .nil (fun x76 e76 => ?_)))
 intro _
 exact qE (b := true) rfl rfl rfl rfl (qe (qj (x76, ())))
 exact zk (k := 48) rfl h73 (qk rfl rfl rfl (qk rfl rfl rfl (qE (b := false) rfl rfl rfl rfl (qe (qj (false, ()))))))
 rintro ⟨x75, _⟩
 try dsimp only
 exact qw (os := _) rfl (qE (b := false) rfl rfl rfl rfl (qe (qj (x75, ()))))
 rintro ⟨x68, _⟩
 try dsimp only
 exact qw (os := _) rfl (qE (b := true) rfl rfl rfl rfl (qe (qj (x68, ()))))
 refine zk (k := 35) rfl h33 (qk rfl rfl rfl (qk rfl rfl rfl (qk rfl rfl rfl (qk rfl rfl rfl (qk rfl rfl rfl (qk rfl rfl rfl (qk rfl rfl rfl (qk rfl rfl rfl (qk rfl rfl rfl (qk rfl rfl rfl (qk rfl rfl rfl (qk rfl rfl rfl ?_))))))))))))
 exact qk rfl rfl rfl (qk rfl rfl rfl (qk rfl rfl rfl (qk rfl rfl rfl (qk rfl rfl rfl (qE (b := false) rfl rfl rfl rfl (qe (qj (false, ()))))))))
 rintro ⟨x55, _⟩
 try dsimp only
 exact qw (os := _) rfl (qb rfl rfl rfl (qb rfl rfl rfl (qe (qd (qr (qm () (res2 rfl rfl rfl)))))))
theorem qfU (F : Nat) (g1 : Nat) (x2 : List Int) (a3 : Option Addr) (c4 : Nat) (x5 : Bool) (x6 : Int) (x7 : Bool) (r : (List Int × Bool × Int)) (hm : jR F x2 x5 x6 x7 = some r) :
    PureM Tryz.prog 52 [.pointer (some ⟨g1, 0, none⟩), .bool x7] [⟨g1, 87, [.slice a3 x2.length c4, .bool x5, .int .i64 x6]⟩] [Ro (eI .i64) 3 1 (.slice a3 x2.length c4) x2] [] (Option Addr × Nat) (fun _ => .tuple #[]) (fun g => [⟨g1, 87, [.slice g.1 r.1.length g.2, .bool r.2.1, .int .i64 r.2.2]⟩]) (fun g => [Ro (eI .i64) 3 1 (.slice g.1 r.1.length g.2) r.1]) := by
 refine yJ Tryz.func52 rfl Tryz.ntmps52 rfl hm (fun w => qF (l' := [(0, .pointer (some ⟨g1, 0, none⟩)), (1, .bool x7)]) rfl (qC (fun (((x21, x22, x23), (a19, c20)) : ((List Int × Bool × Int) × (Option Addr × Nat))) => [(0, .pointer (some ⟨g1, 0, none⟩))]) (fun (((x21, x22, x23), (a19, c20)) : ((List Int × Bool × Int) × (Option Addr × Nat))) => [⟨g1, 87, [.slice a19 x21.length c20, .bool x22, .int .i64 x23]⟩]) (fun (((x21, x22, x23), (a19, c20)) : ((List Int × Bool × Int) × (Option Addr × Nat))) => [Ro (eI .i64) 3 1 (.slice a19 x21.length c20) x21]) (fun (((x21, x22, x23), (a19, c20)) : ((List Int × Bool × Int) × (Option Addr × Nat))) => []) (fun (((x21, x22, x23), _) : ((List Int × Bool × Int) × (Option Addr × Nat))) => vv F x21 x22 x23) ?_ ?_))
 refine qf (qa (qc rfl rfl rfl (qc rfl rfl rfl (qX rfl rfl rfl (qo rfl rfl qou rfl (qp (i := 0) rfl rfl tf4 rfl rfl (fun _ => rfl) rfl rfl (qm0 rfl Tryz.underlying4 rfl rfl rfl (qe (qd (qy rfl (fun h34 => ?_) (fun h34 => ?_)))))))))))
 refine qf (zP mixed [13] [] [(BlkD.is ⟨g1, 87, [.slice a3 x2.length c4, .bool x5, .int .i64 x6]⟩)] .nil (qjI 0 rfl qV) 14 rfl (qg 0 (.pointer (some ⟨g1, 0, none⟩)) rfl rfl rfl (qs rfl) (qg 1 (.pointer (some ⟨g1, 0, none⟩)) rfl rfl rfl (qs rfl) (qg 2 (.pointer (some ⟨g1, 0, none⟩)) rfl rfl rfl (qs rfl) (qg 3 (.pointer (some ⟨g1, 0, none⟩)) rfl rfl rfl (qK rfl qmk) (z8 4 (.slice a3 x2.length c4) [[13]] rfl rfl rfl (qdL (j := 0) rfl tf22 rfl rfl (fun _ => rfl) rfl) (qg 5 (.pointer (some ⟨g1, 0, none⟩)) rfl rfl rfl (qs rfl) (qg 6 (.pointer (some ⟨g1, 0, none⟩)) rfl rfl rfl (qs rfl) (qg 7 (.pointer (some ⟨g1, 2, none⟩)) rfl rfl rfl (qK rfl qjL) (z8 8 (.int .i64 x6) [[13]] rfl rfl rfl (qdL (j := 0) rfl tf3 rfl rfl (fun _ => rfl) rfl) (q6 9 rfl (by kernel_rfl) rfl (zE (vs := [.int .i64 x6]) (ys := ([x6] : List Int)) (qL .i64) (by decide) rfl Tryz.underlying22 tf3 rfl rfl rfl rfl rfl (by decide) (fun a29 c30 => ?_)))))))))))))
 refine qe (qY .nil (qjI 0 rfl qV) (q6 10 rfl (by kernel_rfl) rfl (zy 1 (qL .i64) rfl Tryz.underlying22 tf3 rfl rfl rfl rfl rfl (.inl ⟨0, _, rfl⟩) rfl rfl (fun x31 e31 a32 c33 => qe (qY .nil (qjI 0 rfl qV) (qg 11 (.pointer (some ⟨g1, 0, none⟩)) rfl rfl rfl (qs rfl) (qg 12 (.pointer (some ⟨g1, 0, none⟩)) rfl rfl rfl (qK rfl qmk) (q6 13 rfl (by kernel_rfl) rfl (qI (i := 0) rfl rfl rfl tf22 rfl rfl rfl rfl rfl (qe (qex 13 rfl (by kernel_rfl) .nil (zm (by kernel_rfl) ?_))))))))))))
 refine z7 (qd (qa (qc rfl rfl rfl (qc rfl rfl rfl (qc rfl rfl rfl (qX rfl rfl rfl (qo rfl rfl qou rfl (qI (i := 0) rfl rfl rfl tf4 rfl rfl rfl rfl rfl (qX rfl rfl rfl (qo rfl rfl qjL rfl (qI (i := 0) rfl rfl rfl tf3 rfl rfl rfl rfl rfl (qe ?_)))))))))))) (by intro c h; cases h)
 exact qj ((x31, x7, 0), (a32, c33)) (hB := (.cons 0 rfl .nil)) (hR := (.cons 0 rfl .nil))
 exact ql (qj ((x2, x5, x6), (a3, c4)) (hB := (.cons 0 rfl .nil)) (hR := (.cons 0 rfl .nil)))
 rintro ⟨⟨x21, x22, x23⟩, ⟨a19, c20⟩⟩
 try dsimp only
 exact qa (qc rfl rfl rfl (qX rfl rfl rfl (qo rfl rfl qjL rfl (qp (i := 0) rfl rfl tf3 rfl rfl (fun _ => rfl) rfl rfl (qD rfl rfl rfl rfl (qX rfl rfl rfl (qo rfl rfl qjL rfl (qI (i := 0) rfl rfl rfl tf3 rfl rfl rfl rfl rfl (qe (zT (a19, c20) (res0 rfl) (hB := fun h => by subst h; exact (.cons 0 rfl .nil)) (hR := fun h => by subst h; exact (.cons 0 rfl .nil))))))))))))
theorem qlb (F : Nat) (x1 : List Int) (a2 : Option Addr) (c3 : Nat) (x4 : List Int) (a5 : Option Addr) (c6 : Nat) (r : (List Int × List Int)) (hm : qd0 F x1 x4 = some r) :
    Pure Tryz.prog 29 [.slice a2 x1.length c3, .slice a5 x4.length c6] [Sl (eI .i64) 1 (.slice a2 x1.length c3) x1, Sl (eI .i64) 1 (.slice a5 x4.length c6) x4] ((Option Addr × Nat) × (Option Addr × Nat)) (fun g => .tuple #[.slice g.1.1 r.1.length g.1.2, .slice g.2.1 r.2.length g.2.2]) (fun g => [Ro (eI .i64) 3 1 (.slice g.1.1 r.1.length g.1.2) r.1, Ro (eI .i64) 3 1 (.slice g.2.1 r.2.length g.2.2) r.2]) (fun _ => []) := by
 refine qQ Tryz.func29 rfl Tryz.ntmps29 rfl hm (fun w => qF (l' := [(0, .slice a2 x1.length c3), (1, .slice a5 x4.length c6)]) rfl (qf (qa (qb rfl rfl rfl (qb rfl rfl rfl (qe (qd (qf (qa (zX (cells := [.slice none 0 0, .bool true, .int .i64 0]) rfl st87 rfl (by kernel_rfl) rfl (zp rfl rfl rfl (fun g7 => qb rfl rfl rfl ?_))))))))))))
 refine qe (qd (qC (fun (((x66, x67, x68), (a64, c65)) : ((List Int × Bool × Int) × (Option Addr × Nat))) => [(0, .slice a2 x1.length c3), (1, .slice a5 x4.length c6), (5, .slice none 0 0), (6, .pointer (some ⟨g7, 0, none⟩))]) (fun (((x66, x67, x68), (a64, c65)) : ((List Int × Bool × Int) × (Option Addr × Nat))) => [⟨g7, 87, [.slice a64 x66.length c65, .bool x67, .int .i64 x68]⟩]) (fun (((x66, x67, x68), (a64, c65)) : ((List Int × Bool × Int) × (Option Addr × Nat))) => [Ro (eI .i64) 3 1 (.slice a64 x66.length c65) x66]) (fun (((x66, x67, x68), (a64, c65)) : ((List Int × Bool × Int) × (Option Addr × Nat))) => [Sl (eI .i64) 1 (.slice a2 x1.length c3) x1, Sl (eI .i64) 1 (.slice a5 x4.length c6) x4]) (fun (((x66, x67, x68), _) : ((List Int × Bool × Int) × (Option Addr × Nat))) => qdE F x1 x4 x66 x67 x68) ?_ ?_))
 refine qf (qa (qc rfl rfl rfl (qN rfl Tryz.underlying22 rfl rfl (qc rfl rfl rfl (qe (qd (qt (zS Int (eI .i64) 3 1 (qM (fun (((x249, x252, x253, x254), (a250, c251)) : ((Int × List Int × Bool × Int) × (Option Addr × Nat))) => [(0, .slice a2 x1.length c3), (1, .slice a5 x4.length c6), (5, .slice none 0 0), (6, .pointer (some ⟨g7, 0, none⟩)), (17, .slice a2 x1.length c3), (18, .int .i64 (x1.length : Int)), (19, .int .i64 x249)]) (fun (((x249, x252, x253, x254), (a250, c251)) : ((Int × List Int × Bool × Int) × (Option Addr × Nat))) => [⟨g7, 87, [.slice a250 x252.length c251, .bool x253, .int .i64 x254]⟩]) (fun (((x249, x252, x253, x254), (a250, c251)) : ((Int × List Int × Bool × Int) × (Option Addr × Nat))) => [Ro (eI .i64) 3 1 (.slice a250 x252.length c251) x252]) (fun (((x249, x252, x253, x254), (a250, c251)) : ((Int × List Int × Bool × Int) × (Option Addr × Nat))) => [Sl (eI .i64) 1 (.slice a2 x1.length c3) x1, Sl (eI .i64) 1 (.slice a5 x4.length c6) x4]) (fun k (s : ((Int × List Int × Bool × Int) × (Option Addr × Nat))) => vH F x1 x4 k s.1) ((0, ([] : List Int), true, 0), (none, 0)) F ?_ (hB := (.cons 0 rfl .nil)) (hR := (.cons 0 rfl .nil)) (hF := (qi 0 rfl (qi 1 rfl qu))))))))))))
 intro k271
 rintro ⟨⟨x249, x252, x253, x254⟩, ⟨a250, c251⟩⟩
 try dsimp only
 refine qZ (m' := qbw F x1 x4 (vH F x1 x4 k271) x249 x252 x253 x254) rfl (qf (qa (qP rfl rfl rfl rfl (qe (qd (qf (qy rfl (fun h287 => ?_) (fun h287 => ?_))))))))
 refine ql (qd (qf (qt (qf (qa (q7 (j := 0) (qL .i64) (by decide) rfl Tryz.underlying22 tf3 rfl rfl rfl rfl (fun x280 e280 b281 o282 => zl (j := 0) rfl rfl tf3 rfl rfl (fun _ => rfl) rfl rfl (qb rfl rfl rfl (qe (qd (qf (qa ?_))))))))))))
 refine qc rfl rfl rfl (qc rfl rfl rfl (qv ent51 rfl rfl rfl (fun x283 e283 => jC F x4 a5 c6 x280 x283 e283) (.consF 2 rfl .nil) (fun x283 e283 => ?_)))
 intro _
 refine qc rfl rfl rfl (qq rfl rfl rfl rfl (qq rfl rfl rfl rfl (qb rfl rfl rfl (qb rfl rfl rfl (qe (qd (qa (qc rfl rfl rfl (qc rfl rfl rfl (zA ent52 rfl rfl rfl (fun x284 e284 => qfU F g7 x252 a250 c251 x253 x254 x283.2 x284 e284) (.cons 0 rfl .nil) (.cons 0 rfl .nil) .nil (fun x284 e284 => ?_)))))))))))
 rintro ⟨a285, c286⟩
 exact qe (qH (qd (qa (qD rfl rfl rfl rfl (qc rfl rfl rfl (qe (qG ((iadd .i64 x249 1, x284.1, x284.2.1, x284.2.2), (a285, c286)) (hB := (.cons 0 rfl .nil)) (hR := (.cons 0 rfl .nil)) (hF := (qi 1 rfl (qi 2 rfl qu))))))))))
 exact qS (qx (qx (qT (qj ((x252, x253, x254), (a250, c251)) (hB := (.cons 0 rfl .nil)) (hR := (.cons 0 rfl .nil)) (hF := (qi 0 rfl (qi 1 rfl qu)))))))
 rintro ⟨⟨x66, x67, x68⟩, ⟨a64, c65⟩⟩
 try dsimp only
 refine qC (fun ((x151, (a149, c150)) : (List Int × (Option Addr × Nat))) => [(5, .slice a149 x151.length c150), (6, .pointer (some ⟨g7, 0, none⟩))]) (fun ((x151, (a149, c150)) : (List Int × (Option Addr × Nat))) => [⟨g7, 87, [.slice a64 x66.length c65, .bool x67, .int .i64 x68]⟩]) (fun ((x151, (a149, c150)) : (List Int × (Option Addr × Nat))) => [Ro (eI .i64) 3 1 (.slice a149 x151.length c150) x151, Ro (eI .i64) 3 1 (.slice a64 x66.length c65) x66]) (fun ((x151, (a149, c150)) : (List Int × (Option Addr × Nat))) => []) (fun ((x151, _) : (List Int × (Option Addr × Nat))) => qdD F x66 x151) ?_ ?_
 refine qf (qa (qc rfl rfl rfl (qN rfl Tryz.underlying22 rfl rfl (qc rfl rfl rfl (qe (qd (qt (zS Int (eI .i64) 3 1 (qM (fun (((x179, x180), (a177, c178)) : ((List Int × Int) × (Option Addr × Nat))) => [(0, .slice a2 x1.length c3), (5, .slice a177 x179.length c178), (6, .pointer (some ⟨g7, 0, none⟩)), (33, .slice a5 x4.length c6), (34, .int .i64 (x4.length : Int)), (35, .int .i64 x180)]) (fun (((x179, x180), (a177, c178)) : ((List Int × Int) × (Option Addr × Nat))) => [⟨g7, 87, [.slice a64 x66.length c65, .bool x67, .int .i64 x68]⟩]) (fun (((x179, x180), (a177, c178)) : ((List Int × Int) × (Option Addr × Nat))) => [Ro (eI .i64) 3 1 (.slice a177 x179.length c178) x179, Ro (eI .i64) 3 1 (.slice a64 x66.length c65) x66]) (fun (((x179, x180), (a177, c178)) : ((List Int × Int) × (Option Addr × Nat))) => [Sl (eI .i64) 1 (.slice a2 x1.length c3) x1, Sl (eI .i64) 1 (.slice a5 x4.length c6) x4]) (fun k (s : ((List Int × Int) × (Option Addr × Nat))) => yV F x1 x4 x66 k s.1) ((([] : List Int), 0), (none, 0)) F ?_ (hB := (.cons 0 rfl .nil)) (hR := (.cons 0 rfl (.cons 0 rfl .nil))) (hF := (qi 0 rfl (qi 1 rfl qu))))))))))))
 intro k206
 rintro ⟨⟨x179, x180⟩, ⟨a177, c178⟩⟩
 try dsimp only
 refine qZ (m' := qbO F x1 x4 x66 (yV F x1 x4 x66 k206) x179 x180) rfl (qf (qa (qP rfl rfl rfl rfl (qe (qd (qf (qy rfl (fun h231 => ?_) (fun h231 => ?_))))))))
 refine ql (qd (qC (fun ((x220, (a218, c219)) : (List Int × (Option Addr × Nat))) => [(0, .slice a2 x1.length c3), (5, .slice a218 x220.length c219), (6, .pointer (some ⟨g7, 0, none⟩)), (33, .slice a5 x4.length c6), (34, .int .i64 (x4.length : Int)), (35, .int .i64 x180)]) (fun ((x220, (a218, c219)) : (List Int × (Option Addr × Nat))) => [⟨g7, 87, [.slice a64 x66.length c65, .bool x67, .int .i64 x68]⟩]) (fun ((x220, (a218, c219)) : (List Int × (Option Addr × Nat))) => [Ro (eI .i64) 3 1 (.slice a218 x220.length c219) x220, Ro (eI .i64) 3 1 (.slice a64 x66.length c65) x66]) (fun ((x220, (a218, c219)) : (List Int × (Option Addr × Nat))) => [Sl (eI .i64) 1 (.slice a2 x1.length c3) x1, Sl (eI .i64) 1 (.slice a5 x4.length c6) x4]) (fun ((x220, _) : (List Int × (Option Addr × Nat))) => qbP F (yV F x1 x4 x66 k206) x180 x220) ?_ ?_))
 refine qt (qf (qa (q7 (j := 1) (qL .i64) (by decide) rfl Tryz.underlying22 tf3 rfl rfl rfl rfl (fun x221 e221 b222 o223 => zl (j := 0) rfl rfl tf3 rfl rfl (fun _ => rfl) rfl rfl (qb rfl rfl rfl (qe (qd (qf (qa (qc rfl rfl rfl (qc rfl rfl rfl (qv ent51 rfl rfl rfl (fun x224 e224 => jC F x1 a2 c3 x221 x224 e224) (.consF 1 rfl .nil) (fun x224 e224 => ?_)))))))))))))
 intro _
 refine qc rfl rfl rfl (qq rfl rfl rfl rfl (qq rfl rfl rfl rfl (qb rfl rfl rfl (qb rfl rfl rfl (qe (qd (qf (qa (qc rfl rfl rfl (ko rfl rfl rfl (qe (qd ?_))))))))))))
 refine qy rfl (fun h230 => ?_) (fun h230 => ?_)
 exact qa (qc rfl rfl rfl (qc rfl rfl rfl (zE (vs := [.int .i64 x221]) (ys := ([x221] : List Int)) (qL .i64) (by decide) rfl Tryz.underlying22 tf3 rfl rfl rfl rfl rfl (by decide) (fun a225 c226 => zy 1 (qL .i64) rfl Tryz.underlying22 tf3 rfl rfl rfl rfl rfl (.inl ⟨0, _, rfl⟩) rfl rfl (fun x227 e227 a228 c229 => qb rfl rfl rfl (qe (qH (qj (x227, (a228, c229)) (hB := (.cons 0 rfl .nil)) (hR := (.cons 0 rfl (.cons 1 rfl .nil))) (hF := (qi 1 rfl (qi 2 rfl qu)))))))))))
 exact ql (qH (qj (x179, (a177, c178)) (hB := (.cons 0 rfl .nil)) (hR := (.cons 0 rfl (.cons 0 rfl .nil))) (hF := (qi 1 rfl (qi 2 rfl qu)))))
 rintro ⟨x220, ⟨a218, c219⟩⟩
 try dsimp only
 exact qa (qD rfl rfl rfl rfl (qc rfl rfl rfl (qe (qG ((x220, iadd .i64 x180 1), (a218, c219)) (hB := (.cons 0 rfl .nil)) (hR := (.cons 0 rfl (.cons 0 rfl .nil))) (hF := (qi 0 rfl (qi 1 rfl qu)))))))
 exact qS (qx (qx (qT (qj (x179, (a177, c178)) (hB := (.cons 0 rfl .nil)) (hR := (.cons 0 rfl (.cons 0 rfl .nil)))))))
 rintro ⟨x151, ⟨a149, c150⟩⟩
 try dsimp only
 exact qf (qa (qc rfl rfl rfl (qX rfl rfl rfl (qo rfl rfl qmk rfl (qp (i := 0) rfl rfl tf22 rfl rfl (fun _ => rfl) rfl rfl (qc rfl rfl rfl (qb rfl rfl rfl (qb rfl rfl rfl (qe (qd (qr (qm ((a64, c65), (a149, c150)) (res2 rfl rfl rfl) (fun h => by subst h; exact (.cons 1 rfl (.cons 0 rfl .nil)))))))))))))))
theorem qfa (F : Nat) (g1 : Nat) (x2 : Int) (x3 : List Int) (a4 : Option Addr) (c5 : Nat) (x6 : Bool) (x7 : List Int) (a8 : Option Addr) (c9 : Nat) (r : (Int × List Int × Bool)) (hm : vV F x2 x3 x6 x7 = some r) :
    PureM Tryz.prog 30 [.pointer (some ⟨g1, 0, none⟩), .slice a8 x7.length c9] [⟨g1, 42, [.int .i64 x2, .slice a4 x3.length c5, .bool x6]⟩] [Ro (eI .u8) 5 1 (.slice a4 x3.length c5) x3] [Sl (eI .i64) 1 (.slice a8 x7.length c9) x7] (Option Addr × Nat) (fun _ => .tuple #[]) (fun g => [⟨g1, 42, [.int .i64 r.1, .slice g.1 r.2.1.length g.2, .bool r.2.2]⟩]) (fun g => [Ro (eI .u8) 5 1 (.slice g.1 r.2.1.length g.2) r.2.1]) := by
 refine yJ Tryz.func30 rfl Tryz.ntmps30 rfl hm (fun w => qF (l' := [(0, .pointer (some ⟨g1, 0, none⟩)), (1, .slice a8 x7.length c9)]) rfl (qf (qa (qc rfl rfl rfl (qc rfl rfl rfl (qN rfl Tryz.underlying22 rfl rfl (zA ent28 rfl rfl rfl (fun x10 e10 => kO F g1 x2 x3 a4 c5 x6 (x7.length : Int) x10 e10) (.cons 0 rfl .nil) (.cons 0 rfl .nil) .nil (fun x10 e10 => ?_))))))))
 rintro ⟨a11, c12⟩
 refine qe (qd (qf (qa (qc rfl rfl rfl (qN rfl Tryz.underlying22 rfl rfl (qc rfl rfl rfl (qe (qd (qt (qM (fun (((x27, x28, x31, x32), (a29, c30)) : ((Int × Int × List Int × Bool) × (Option Addr × Nat))) => [(0, .pointer (some ⟨g1, 0, none⟩)), (10, .slice a8 x7.length c9), (11, .int .i64 (x7.length : Int)), (12, .int .i64 x27)]) (fun (((x27, x28, x31, x32), (a29, c30)) : ((Int × Int × List Int × Bool) × (Option Addr × Nat))) => [⟨g1, 42, [.int .i64 x28, .slice a29 x31.length c30, .bool x32]⟩]) (fun (((x27, x28, x31, x32), (a29, c30)) : ((Int × Int × List Int × Bool) × (Option Addr × Nat))) => [Ro (eI .u8) 5 1 (.slice a29 x31.length c30) x31]) (fun (((x27, x28, x31, x32), (a29, c30)) : ((Int × Int × List Int × Bool) × (Option Addr × Nat))) => [Sl (eI .i64) 1 (.slice a8 x7.length c9) x7]) (fun k (s : ((Int × Int × List Int × Bool) × (Option Addr × Nat))) => kA F x7 k s.1) ((0, x10.1, x10.2.1, x10.2.2), (a11, c12)) F ?_ (hB := (.cons 0 rfl .nil)) (hR := (.cons 0 rfl .nil)) (hF := (qi 0 rfl qu))))))))))))
 intro k47
 rintro ⟨⟨x27, x28, x31, x32⟩, ⟨a29, c30⟩⟩
 try dsimp only
 refine qZ (m' := yP F x7 (kA F x7 k47) x27 x28 x31 x32) rfl (qf (qa (qP rfl rfl rfl rfl (qe (qd (qf (qy rfl (fun h61 => ?_) (fun h61 => ?_))))))))
 refine ql (qd (qf (qt (qf (qa (qc rfl rfl rfl (q7 (j := 0) (qL .i64) (by decide) rfl Tryz.underlying22 tf3 rfl rfl rfl rfl (fun x55 e55 b56 o57 => zl (j := 0) rfl rfl tf3 rfl rfl (fun _ => rfl) rfl rfl (qb rfl rfl rfl (qb rfl rfl rfl (qe (qd ?_))))))))))))
 refine qa (qc rfl rfl rfl (qc rfl rfl rfl (qc rfl rfl rfl (qho rfl rfl rfl rfl (zd rfl rfl rfl rfl (zA ent28 rfl rfl rfl (fun x58 e58 => kO F g1 x28 x31 a29 c30 x32 (isub .i64 x55 (imin x27 1)) x58 e58) (.cons 0 rfl .nil) (.cons 0 rfl .nil) .nil (fun x58 e58 => ?_)))))))
 rintro ⟨a59, c60⟩
 exact qe (qH (qd (qa (qD rfl rfl rfl rfl (qc rfl rfl rfl (qe (qG ((iadd .i64 x27 1, x58.1, x58.2.1, x58.2.2), (a59, c60)) (hB := (.cons 0 rfl .nil)) (hR := (.cons 0 rfl .nil)) (hF := (qi 1 rfl qu)))))))))
 exact qS (qx (qx (qT (zT (a29, c30) (res0 rfl) (hB := fun h => by subst h; exact (.cons 0 rfl .nil)) (hR := fun h => by subst h; exact (.cons 0 rfl .nil))))))
theorem qlr (F : Nat) (x1 : List Int) (a2 : Option Addr) (c3 : Nat) (r : Unit) (hm : qfe F x1 = some r) :
    PureM Tryz.prog 53 [.slice a2 x1.length c3] [] [] [Sl (eI .i64) 1 (.slice a2 x1.length c3) x1] Nat (fun g => .func (.func 74) #[] #[.pointer (some ⟨g, 0, none⟩)]) (fun g => [⟨g, 22, [.slice a2 x1.length c3]⟩]) (fun _ => []) := by
 refine yJ Tryz.func53 rfl Tryz.ntmps53 rfl hm (fun w => qF (l' := [(0, .slice a2 x1.length c3)]) rfl (qf (qa (zp rfl rfl rfl (fun g4 => qb rfl rfl rfl (qe (qd (qf (qa (qeJ rfl rfl rfl (qb rfl rfl rfl (qe ?_))))))))))))
 exact qd (qr (zT g4 (res1 rfl rfl) (hB := fun h => by subst h; exact (.cons 0 rfl .nil))))
theorem qiL (F : Nat) {σ τ : Type} {J : Rounds σ τ} {yy : σ → (Int × Int) → Option (σ ⊕ τ)} {L : Nat} (hY : YieldC Tryz.prog L (fun (p : (Int × Int)) => [.agg #[.int .i64 p.1, .int .i64 p.2]]) J yy) (s0 : σ) (gs0 : J.γ) (g1 : Nat) (x2 : List Int) (a3 : Option Addr) (c4 : Nat) (r : σ ⊕ τ) (hm : qbp F yy x2 s0 = some r) :
    PureM Tryz.prog 74 ([.func (.yield L) #[] #[], .pointer (some ⟨g1, 0, none⟩)]) ([⟨g1, 22, [.slice a3 x2.length c4]⟩] ++ J.IB s0 gs0) (J.IR s0 gs0) [J.F, Sl (eI .i64) 1 (.slice a3 x2.length c4) x2] (J.G r) (fun _ => .tuple #[]) (fun g => [⟨g1, 22, [.slice a3 x2.length c4]⟩] ++ J.bs r g) (fun g => J.rs r g) := by
  refine yJ Tryz.func74 rfl Tryz.ntmps74 rfl hm (fun w => ?_)
  refine qF (l' := [(0, .func (.yield L) #[] #[]), (1, .pointer (some ⟨g1, 0, none⟩))]) rfl ?_
  refine qf ?_
  refine qa ?_
  refine qb rfl rfl rfl ?_
  refine qe ?_
  refine qd ?_
  refine qt ?_
  refine qM (fun (((x266, x267), g268) : ((Int × σ) × J.γ)) => [(0, .func (.yield L) #[] #[]), (1, .pointer (some ⟨g1, 0, none⟩)), (3, .int .i64 x266)]) (fun (((x266, x267), g268) : ((Int × σ) × J.γ)) => [⟨g1, 22, [.slice a3 x2.length c4]⟩] ++ J.IB x267 g268) (fun (((x266, x267), g268) : ((Int × σ) × J.γ)) => [] ++ J.IR x267 g268) (fun (((x266, x267), g268) : ((Int × σ) × J.γ)) => [Sl (eI .i64) 1 (.slice a3 x2.length c4) x2, J.F]) (fun k (s : ((Int × σ) × J.γ)) => zN F yy x2 k s.1) ((0, s0), gs0) F ?_ (hB := (.cons 0 rfl (zQ 0 rfl))) (hR := (zQ 0 rfl)) (hF := (qi 1 rfl (qi 0 rfl qu)))
  intro k530
  rintro ⟨⟨x266, x267⟩, g268⟩
  try dsimp only
  refine qZ (m' := qaB F yy x2 (zN F yy x2 k530) x266 x267) rfl ?_
  refine qf ?_
  refine qf ?_
  refine qa ?_
  refine qc rfl rfl rfl ?_
  refine qp (i := 0) rfl rfl tf22 rfl rfl (fun _ => rfl) rfl rfl ?_
  refine qN rfl Tryz.underlying22 rfl rfl ?_
  refine qP rfl rfl rfl rfl ?_
  refine qe ?_
  refine qd ?_
  refine qy rfl (fun h791 => ?_) (fun h791 => ?_)
  · refine ql ?_
    refine qd ?_
    refine qt ?_
    refine qf ?_
    refine qa ?_
    refine qb rfl rfl rfl ?_
    refine qe ?_
    refine qd ?_
    refine qC (fun ((x654, _) : (Int × Unit)) => [(0, .func (.yield L) #[] #[]), (1, .pointer (some ⟨g1, 0, none⟩)), (3, .int .i64 x266), (4, .int .i64 x654)]) (fun ((x654, _) : (Int × Unit)) => [⟨g1, 22, [.slice a3 x2.length c4]⟩] ++ J.IB x267 g268) (fun ((x654, _) : (Int × Unit)) => [] ++ J.IR x267 g268) (fun ((x654, _) : (Int × Unit)) => [Sl (eI .i64) 1 (.slice a3 x2.length c4) x2, J.F]) (fun ((x654, _) : (Int × Unit)) => qaC F yy (zN F yy x2 k530) x2 x266 x267 x654) ?_ ?_
    · refine qt ?_
      refine qM (fun ((x709, _) : (Int × Unit)) => [(0, .func (.yield L) #[] #[]), (1, .pointer (some ⟨g1, 0, none⟩)), (3, .int .i64 x266), (4, .int .i64 x709)]) (fun ((x709, _) : (Int × Unit)) => [⟨g1, 22, [.slice a3 x2.length c4]⟩] ++ J.IB x267 g268) (fun ((x709, _) : (Int × Unit)) => [] ++ J.IR x267 g268) (fun ((x709, _) : (Int × Unit)) => [Sl (eI .i64) 1 (.slice a3 x2.length c4) x2, J.F]) (fun k (s : (Int × Unit)) => yj F yy (zN F yy x2 k530) x2 x266 x267 k s.1) (1, ()) F ?_ (hB := (.cons 0 rfl (zQ 0 rfl))) (hR := (zQ 0 rfl)) (hF := (qi 0 rfl (qi 1 rfl qu)))
      intro k750
      rintro ⟨x709, _⟩
      try dsimp only
      refine qZ (m' := qaw F yy (zN F yy x2 k530) x2 x266 x267 (yj F yy (zN F yy x2 k530) x2 x266 x267 k750) x709) rfl ?_
      refine qf ?_
      refine qC (fun ((x780, _) : (Bool × Unit)) => [(0, .func (.yield L) #[] #[]), (1, .pointer (some ⟨g1, 0, none⟩)), (3, .int .i64 x266), (4, .int .i64 x709), (29, .bool x780)]) (fun ((x780, _) : (Bool × Unit)) => [⟨g1, 22, [.slice a3 x2.length c4]⟩] ++ J.IB x267 g268) (fun ((x780, _) : (Bool × Unit)) => [] ++ J.IR x267 g268) (fun ((x780, _) : (Bool × Unit)) => [Sl (eI .i64) 1 (.slice a3 x2.length c4) x2, J.F]) (fun ((x780, _) : (Bool × Unit)) => qar F yy (zN F yy x2 k530) (yj F yy (zN F yy x2 k530) x2 x266 x267 k750) x2 x266 x267 x709 x780) ?_ ?_
      · refine qdv (fun h782 => ?_) (fun h782 => ?_)
        · refine vm (j := 0) (qL .i64) (by decide) rfl (fun x783 e783 b784 o785 h786 => ?_)
          replace h786 : a3 = some ⟨b784, o785, none⟩ := h786
          refine vm (j := 1) (qL .i64) (by decide) rfl (fun x787 e787 b788 o789 h790 => ?_)
          replace h790 : a3 = some ⟨b788, o789, none⟩ := h790
          refine zP mixed [] [⟨g1, 22, [.slice a3 x2.length c4]⟩] [zG b788 (o789 + x266.toNat * 1) ((eI .i64) x787), zG b784 (o785 + (iadd .i64 x266 x709).toNat * 1) ((eI .i64) x783), Sl (eI .i64) 1 (.slice a3 x2.length c4) x2, J.F] (.cons 0 rfl .nil) (qW 0 rfl (qW 1 rfl (qW 2 rfl (qW 3 rfl qV)))) 21 rfl ?_
          refine qg 0 (.int .i64 x266) rfl rfl rfl (qs rfl) ?_
          refine qg 1 (.int .i64 x709) rfl rfl rfl (qs rfl) ?_
          refine qg 2 (.int .i64 (iadd .i64 x266 x709)) rfl rfl rfl (qs rfl) ?_
          refine zF 3 (.slice a3 x2.length c4) rfl rfl rfl (zB (i := 0) rfl tf22 rfl rfl (fun _ => rfl) rfl) ?_
          refine qg 4 (.int .i64 (x2.length : Int)) rfl rfl rfl (qks Tryz.underlying22 rfl) ?_
          refine qg 5 (.bool (decide ((iadd .i64 x266 x709) < (x2.length : Int)))) rfl rfl rfl (qs rfl) ?_
          refine qg 6 (.bool (decide ((iadd .i64 x266 x709) < (x2.length : Int)))) rfl rfl rfl (qs rfl) ?_
          refine qJ (d := 15) (v := .bool true) rfl (by rw [h782] <;> rfl) ?_
          refine zF 7 (.slice a3 x2.length c4) rfl rfl rfl (zB (i := 0) rfl tf22 rfl rfl (fun _ => rfl) rfl) ?_
          refine qg 8 (.int .i64 x266) rfl rfl rfl (qs rfl) ?_
          refine qg 9 (.int .i64 x709) rfl rfl rfl (qs rfl) ?_
          refine qg 10 (.int .i64 (iadd .i64 x266 x709)) rfl rfl rfl (qs rfl) ?_
          refine qJ (d := 16) (v := .slice (some ⟨b784, o785, none⟩) x2.length c4) rfl (by rw [h786] <;> rfl) ?_
          refine qg 11 (.pointer (some ⟨b784, (o785 + (iadd .i64 x266 x709).toNat * 1), none⟩)) rfl rfl rfl (qbj Tryz.underlying22 tf3 rfl rfl (zW e783).1 (vx e783)) ?_
          refine qJ (d := 16) (v := .slice a3 x2.length c4) rfl (by rw [h786] <;> rfl) ?_
          refine z8 12 (.int .i64 x783) [] rfl rfl rfl (yC (j := 1) rfl tf3 rfl rfl (fun _ => rfl) rfl) ?_
          refine zF 13 (.slice a3 x2.length c4) rfl rfl rfl (zB (i := 0) rfl tf22 rfl rfl (fun _ => rfl) rfl) ?_
          refine qg 14 (.int .i64 x266) rfl rfl rfl (qs rfl) ?_
          refine qJ (d := 22) (v := .slice (some ⟨b788, o789, none⟩) x2.length c4) rfl (by rw [h790] <;> rfl) ?_
          refine qg 15 (.pointer (some ⟨b788, (o789 + x266.toNat * 1), none⟩)) rfl rfl rfl (qbj Tryz.underlying22 tf3 rfl rfl (zW e787).1 (vx e787)) ?_
          refine qJ (d := 22) (v := .slice a3 x2.length c4) rfl (by rw [h790] <;> rfl) ?_
          refine z8 16 (.int .i64 x787) [] rfl rfl rfl (yC (j := 0) rfl tf3 rfl rfl (fun _ => rfl) rfl) ?_
          refine qg 17 (.int .i64 x709) rfl rfl rfl (qs rfl) ?_
          refine qg 18 (.int .i64 (iadd .i64 x787 x709)) rfl rfl rfl (qs rfl) ?_
          refine qg 19 (.bool ((x783 : Int) == (iadd .i64 x787 x709))) rfl rfl rfl (qs rfl) ?_
          refine qg 20 (.bool ((x783 : Int) == (iadd .i64 x787 x709))) rfl rfl rfl (qs rfl) ?_
          refine zm (by kernel_rfl) ?_
          refine z7 ?_ (by intro c h; cases h)
          exact qj (((x783 : Int) == (iadd .i64 x787 x709)), ()) (hB := (.cons 0 rfl (zQ 0 rfl))) (hR := (zQ 0 rfl)) (hF := (qi 2 rfl (qi 3 rfl qu)))
        · refine zP mixed [] [⟨g1, 22, [.slice a3 x2.length c4]⟩] [Sl (eI .i64) 1 (.slice a3 x2.length c4) x2, J.F] (.cons 0 rfl .nil) (qW 0 rfl (qW 1 rfl qV)) 21 rfl ?_
          refine qg 0 (.int .i64 x266) rfl rfl rfl (qs rfl) ?_
          refine qg 1 (.int .i64 x709) rfl rfl rfl (qs rfl) ?_
          refine qg 2 (.int .i64 (iadd .i64 x266 x709)) rfl rfl rfl (qs rfl) ?_
          refine zF 3 (.slice a3 x2.length c4) rfl rfl rfl (zB (i := 0) rfl tf22 rfl rfl (fun _ => rfl) rfl) ?_
          refine qg 4 (.int .i64 (x2.length : Int)) rfl rfl rfl (qks Tryz.underlying22 rfl) ?_
          refine qg 5 (.bool (decide ((iadd .i64 x266 x709) < (x2.length : Int)))) rfl rfl rfl (qs rfl) ?_
          refine qg 6 (.bool (decide ((iadd .i64 x266 x709) < (x2.length : Int)))) rfl rfl rfl (qs rfl) ?_
          refine qJ (d := 15) (v := .bool false) rfl (by rw [h782] <;> rfl) ?_
          refine qB 7 rfl rfl rfl ?_
          refine qB 8 rfl rfl rfl ?_
          refine qB 9 rfl rfl rfl ?_
          refine qB 10 rfl rfl rfl ?_
          refine qB 11 rfl rfl rfl ?_
          refine qB 12 rfl rfl rfl ?_
          refine qB 13 rfl rfl rfl ?_
          refine qB 14 rfl rfl rfl ?_
          refine qB 15 rfl rfl rfl ?_
          refine qB 16 rfl rfl rfl ?_
          refine qB 17 rfl rfl rfl ?_
          refine qB 18 rfl rfl rfl ?_
          refine qB 19 rfl rfl rfl ?_
          refine qg 20 (.bool false) rfl rfl rfl (qs rfl) ?_
          refine zm (by kernel_rfl) ?_
          refine z7 ?_ (by intro c h; cases h)
          exact qj (false, ()) (hB := (.cons 0 rfl (zQ 0 rfl))) (hR := (zQ 0 rfl)) (hF := (qi 0 rfl (qi 1 rfl qu)))
      · rintro ⟨x780, _⟩
        try dsimp only
        refine qy rfl (fun h781 => ?_) (fun h781 => ?_)
        · refine ql ?_
          refine qd ?_
          refine qt ?_
          refine qa ?_
          refine qc rfl rfl rfl ?_
          refine qD rfl rfl rfl rfl ?_
          refine qb rfl rfl rfl ?_
          refine qe ?_
          refine qH ?_
          exact qG (iadd .i64 x709 1, ()) (hB := (.cons 0 rfl (zQ 0 rfl))) (hR := (zQ 0 rfl)) (hF := (qi 0 rfl (qi 1 rfl qu)))
        · refine qS ?_
          refine qx ?_
          refine qx ?_
          refine qT ?_
          exact qj (x709, ()) (hB := (.cons 0 rfl (zQ 0 rfl))) (hR := (zQ 0 rfl)) (hF := (qi 0 rfl (qi 1 rfl qu)))
    · rintro ⟨x654, _⟩
      try dsimp only
      refine qf ?_
      refine qf ?_
      refine qa ?_
      refine qc rfl rfl rfl ?_
      refine qp (i := 0) rfl rfl tf22 rfl rfl (fun _ => rfl) rfl rfl ?_
      refine qc rfl rfl rfl ?_
      refine q7 (j := 0) (qL .i64) (by decide) rfl Tryz.underlying22 tf3 rfl rfl rfl rfl (fun x662 e662 b663 o664 => ?_)
      refine zl (j := 0) rfl rfl tf3 rfl rfl (fun _ => rfl) rfl rfl ?_
      refine qc rfl rfl rfl ?_
      refine zX (cells := [.int .i64 x662, .int .i64 x654]) rfl st75 rfl (by kernel_rfl) rfl ?_
      refine qjo hY x267 (x662, x654) g268 (B1 := [⟨g1, 22, [.slice a3 x2.length c4]⟩]) (R1 := []) (j := 2) rfl rfl rfl rfl rfl rfl rfl (fun x665 _ g667 => ?_) (fun x666 _ g667 => ?_)
      · refine ko rfl rfl rfl ?_
        refine qe ?_
        refine qd ?_
        refine qcl (b := false) rfl (fun h => by cases h) (fun _ => ?_)
        refine ql ?_
        refine qd ?_
        refine qa ?_
        refine qc rfl rfl rfl ?_
        refine qc rfl rfl rfl ?_
        refine qD rfl rfl rfl rfl ?_
        refine qb rfl rfl rfl ?_
        refine qe ?_
        refine qH ?_
        exact qG ((iadd .i64 x266 x654, x665), g667) (hB := (.cons 0 rfl (zQ 0 rfl))) (hR := (zQ 0 rfl)) (hF := (qi 1 rfl (qi 2 rfl qu)))
      · refine ko rfl rfl rfl ?_
        refine qe ?_
        refine qd ?_
        refine qcl (b := true) rfl (fun _ => ?_) (fun h => by cases h)
        refine qr ?_
        refine qn ?_
        refine qR ?_
        refine qn ?_
        refine qR ?_
        exact qfC (B0 := [⟨g1, 22, [.slice a3 x2.length c4]⟩]) (x := .inr x666) g667 (.inl rfl) (res0 rfl) (.cons 0 rfl (zQ 0 rfl)) (zQ 0 rfl)
  · refine qS ?_
    refine qx ?_
    refine qx ?_
    refine qT ?_
    exact qfC (B0 := [⟨g1, 22, [.slice a3 x2.length c4]⟩]) (x := .inl x267) g268 (.inr rfl) (res0 rfl) (.cons 0 rfl (zQ 0 rfl)) (zQ 0 rfl)
theorem qlV (F : Nat) (x1 : List Int) (a2 : Option Addr) (c3 : Nat) (x4 : Int) (r : (List (Int × Int) × List Int)) (hm : qeG F x1 x4 = some r) :
    PureM Tryz.prog 31 [.slice a2 x1.length c3, .int .i64 x4] [] [] [Sl (eI .i64) 1 (.slice a2 x1.length c3) x1] ((Option Addr × Nat) × (Option Addr × Nat)) (fun g => .tuple #[.slice g.1.1 r.1.length g.1.2, .slice g.2.1 r.2.length g.2.2]) (fun _ => []) (fun g => [Ro eS75 75 2 (.slice g.1.1 r.1.length g.1.2) r.1, Ro (eI .i64) 3 1 (.slice g.2.1 r.2.length g.2.2) r.2]) := by
 refine qlp Tryz.func31 rfl Tryz.ntmps31 rfl hm (fun w => qF (l' := [(0, .slice a2 x1.length c3), (1, .int .i64 x4)]) rfl (qf (qa (zp rfl rfl rfl (fun g5 => zL rfl tf57 rfl (fun g6 => zL rfl tf22 rfl (fun g7 => qe (qd (qf (qf (qa (qc rfl rfl rfl ?_))))))))))))
 refine zA ent53 rfl rfl rfl (fun x188 e188 => qlr F x1 a2 c3 x188 e188) .nil .nil (.consF 0 rfl .nil) (fun x188 e188 => ?_)
 rintro g189
 refine qe (qd (qt (zS Int (eI .i64) 3 1 (zS (Int × Int) eS75 75 2 (qjd (encs := (fun (p : (Int × Int)) => [.agg #[.int .i64 p.1, .int .i64 p.2]])) (y := (fun ((x252, x255) : (List Int × List (Int × Int))) ((x312, x313) : (Int × Int)) => qbr F x4 x252 x255 x312 x313)) (lb := [.pointer (some ⟨g189, 0, none⟩)]) (fun ((x252, x255) : (List Int × List (Int × Int))) ((a250, c251, a253, c254) : (Option Addr × Nat × Option Addr × Nat)) => [⟨g7, 22, [.slice a250 x252.length c251]⟩, ⟨g6, 57, [.slice a253 x255.length c254]⟩, ⟨g5, 3, [.int .i64 x4]⟩]) (fun ((x252, x255) : (List Int × List (Int × Int))) ((a250, c251, a253, c254) : (Option Addr × Nat × Option Addr × Nat)) => [Ro (eI .i64) 3 1 (.slice a250 x252.length c251) x252, Ro eS75 75 2 (.slice a253 x255.length c254) x255]) (fun (_ : Empty) (_ : Unit) => []) (fun (_ : Empty) (_ : Unit) => []) (fun _ => .skip) (([] : List Int), ([] : List (Int × Int))) (none, 0, none, 0) rfl ent74 (fun _ => rfl) rfl (.cons 0 rfl .nil) (.cons 0 rfl (.cons 0 rfl (.cons 0 rfl .nil))) (.cons 1 rfl (.cons 0 rfl .nil)) (.consF 0 rfl .nil) (fun z hz _ _ _ hY => qiL F hY (([] : List Int), ([] : List (Int × Int))) (none, 0, none, 0) g189 x1 a2 c3 z hz) ?_ ?_ ?_)))))
 rintro rc1 L1 D1 ⟨x252, x255⟩ ⟨a250, c251, a253, c254⟩ ⟨x312, x313⟩ z w M _
 try dsimp only
 refine qkN [(0, .slice a2 x1.length c3), (1, .int .i64 x4), (3, .pointer (some ⟨g5, 0, none⟩)), (4, .pointer (some ⟨g6, 0, none⟩)), (5, .pointer (some ⟨g7, 0, none⟩)), (8, .slice a2 x1.length c3), (9, .func (.func 74) #[] #[.pointer (some ⟨g189, 0, none⟩)]), (10, .agg #[.int .i64 x312, .int .i64 x313])] (qh rfl (qh rfl (qh rfl (qh rfl (qh rfl (qh rfl (qh rfl (qh rfl q8)))))))) (qa (zL rfl tf75 rfl (fun g314 => qI (i := 0) rfl rfl rfl tf75 rfl rfl rfl rfl rfl (qe (qjk (i := 4) rfl (qt (qf (qf (qa (qo rfl rfl qdG rfl (qp (i := 0) rfl rfl tf3 rfl rfl (fun _ => rfl) rfl rfl (qp (i := 3) rfl rfl tf3 rfl rfl (fun _ => rfl) rfl rfl ?_))))))))))))
 refine jl rfl rfl rfl rfl (qe (qd (qy rfl (fun h367 => ?_) (fun h367 => ?_))))
 exact qf (qa (qp (i := 2) rfl rfl tf57 rfl rfl (fun _ => rfl) rfl rfl (qp (i := 0) rfl rfl tf75 rfl rfl (by simp) rfl rfl (zE (vs := [.agg #[.int .i64 x312, .int .i64 x313]]) (ys := ([(x312, x313)] : List (Int × Int))) yl (by decide) rfl Tryz.underlying57 tf75 rfl rfl rfl rfl rfl (by decide) (fun a321 c322 => zy 2 yl rfl Tryz.underlying57 tf75 rfl rfl rfl rfl rfl (.inl ⟨0, _, rfl⟩) rfl rfl (fun x323 e323 a324 c325 => qI (i := 2) rfl rfl rfl tf57 rfl rfl rfl rfl rfl (qe (qd (qS (qx (qT (qgS (rc := rc1) rfl (.cons 4 rfl .nil) rfl (a250, c251, a324, c325) (.cons 2 rfl (.cons 2 rfl (.cons 2 rfl (.cons 0 rfl (.cons 1 rfl .nil))))) (.cons 2 rfl (.cons 0 rfl .nil))))))))))))))
 refine ql (qd (qf (qa (qo rfl rfl qdG rfl (qp (i := 0) rfl rfl tf3 rfl rfl (fun _ => rfl) rfl rfl (qc rfl rfl rfl (qe (qd (qt (qM (fun (((x338, x341), (a339, c340)) : ((Int × List Int) × (Option Addr × Nat))) => [(3, .pointer (some ⟨g5, 0, none⟩)), (4, .pointer (some ⟨g6, 0, none⟩)), (5, .pointer (some ⟨g7, 0, none⟩)), (6, .pointer (some ⟨g314, 0, none⟩)), (20, .int .i64 x313), (21, .int .i64 x338)]) (fun (((x338, x341), (a339, c340)) : ((Int × List Int) × (Option Addr × Nat))) => [⟨g314, 75, [.int .i64 x312, .int .i64 x313]⟩, ⟨g7, 22, [.slice a339 x341.length c340]⟩, ⟨g6, 57, [.slice a253 x255.length c254]⟩, ⟨g5, 3, [.int .i64 x4]⟩, (blkO L1 (.loop (bsy rc1))), (dblk D1)]) (fun (((x338, x341), (a339, c340)) : ((Int × List Int) × (Option Addr × Nat))) => [Ro (eI .i64) 3 1 (.slice a339 x341.length c340) x341, Ro eS75 75 2 (.slice a253 x255.length c254) x255]) (fun (((x338, x341), (a339, c340)) : ((Int × List Int) × (Option Addr × Nat))) => []) (fun k (s : ((Int × List Int) × (Option Addr × Nat))) => qab F x255 x312 x313 k s.1) ((0, x252), (a250, c251)) F ?_ (hB := (.cons 0 rfl (.cons 0 rfl (.cons 0 rfl (.cons 0 rfl (.cons 0 rfl (.cons 0 rfl .nil))))))) (hR := (.cons 0 rfl (.cons 0 rfl .nil)))))))))))))
 intro k354
 rintro ⟨⟨x338, x341⟩, ⟨a339, c340⟩⟩
 try dsimp only
 refine qZ (m' := qcT F x255 x312 x313 (qab F x255 x312 x313 k354) x338 x341) rfl (qf (qa (qP rfl rfl rfl rfl (qe (qd (qf (qy rfl (fun h366 => ?_) (fun h366 => ?_))))))))
 refine ql (qd (qf (qt (qf (qa (qc rfl rfl rfl (qb rfl rfl rfl (qe (qd (qa (qp (i := 1) rfl rfl tf22 rfl rfl (fun _ => rfl) rfl rfl (qo rfl rfl qdg rfl ?_))))))))))))
 refine qp (i := 0) rfl rfl tf3 rfl rfl (fun _ => rfl) rfl rfl (qc rfl rfl rfl (qD rfl rfl rfl rfl (zE (vs := [.int .i64 (iadd .i64 x312 x338)]) (ys := ([iadd .i64 x312 x338] : List Int)) (qL .i64) (by decide) rfl Tryz.underlying22 tf3 rfl rfl rfl rfl rfl (by decide) (fun a361 c362 => zy 1 (qL .i64) rfl Tryz.underlying22 tf3 rfl rfl rfl rfl rfl (.inl ⟨0, _, rfl⟩) rfl rfl (fun x363 e363 a364 c365 => qI (i := 1) rfl rfl rfl tf22 rfl rfl rfl rfl rfl (qe (qH (qd (qa (qD rfl rfl rfl rfl (qc rfl rfl rfl (qe ?_))))))))))))
 exact qG ((iadd .i64 x338 1, x363), (a364, c365)) (hB := (.cons 0 rfl (.cons 0 rfl (.cons 0 rfl (.cons 0 rfl (.cons 0 rfl (.cons 0 rfl .nil))))))) (hR := (.cons 0 rfl (.cons 1 rfl .nil)))
 exact qS (qx (qx (qT (qH (qgS (rc := rc1) rfl (.cons 4 rfl .nil) rfl (a339, c340, a253, c254) (.cons 2 rfl (.cons 2 rfl (.cons 2 rfl (.cons 0 rfl (.cons 1 rfl .nil))))) (.cons 0 rfl (.cons 0 rfl .nil)))))))
 rintro ⟨x252, x255⟩ _ ⟨a250, c251, a253, c254⟩ D1
 try dsimp only
 refine qH (qd (qf (zP mixed [] [(dblk D1), ⟨g189, 22, [.slice a2 x1.length c3]⟩, ⟨g7, 22, [.slice a250 x252.length c251]⟩, ⟨g6, 57, [.slice a253 x255.length c254]⟩, ⟨g5, 3, [.int .i64 x4]⟩] [Sl (eI .i64) 1 (.slice a2 x1.length c3) x1] (.cons 0 rfl (.cons 0 rfl (.cons 0 rfl (.cons 0 rfl (.cons 0 rfl .nil))))) (qW 0 rfl qV) 4 rfl (zF 0 (.slice a253 x255.length c254) rfl rfl rfl (zB (i := 3) rfl tf57 rfl rfl (fun _ => rfl) rfl) (zF 1 (.slice a250 x252.length c251) rfl rfl rfl (zB (i := 2) rfl tf22 rfl rfl (fun _ => rfl) rfl) (q6 2 rfl (by kernel_rfl) rfl (qI (i := 3) rfl rfl rfl tf57 rfl rfl rfl rfl rfl (qe (qY (.cons 0 rfl (.cons 0 rfl (.cons 0 rfl (.cons 0 rfl (.cons 0 rfl .nil))))) (qW 0 rfl qV) (q6 3 rfl (by kernel_rfl) rfl (qI (i := 2) rfl rfl rfl tf22 rfl rfl rfl rfl rfl (qe ?_))))))))))))
 exact qY (.cons 0 rfl (.cons 0 rfl (.cons 0 rfl (.cons 0 rfl (.cons 0 rfl .nil))))) (qW 0 rfl qV) (zm (by kernel_rfl) (z7 (qd (qr (qjj [D1] ((a253, c254), (a250, c251)) (.inl rfl) rfl (.cons 0 rfl .nil) (resL (rs := [.cell 4 57, .cell 5 22]) rfl (.cell (i := 2) rfl tf57 rfl rfl (fun _ => rfl) rfl (.cell (i := 1) rfl tf22 rfl rfl (fun _ => rfl) rfl ResOk.nil)) rfl) (fun h => by subst h; rfl) (fun h => by subst h; exact .nil) (fun h => by subst h; exact (.cons 1 rfl (.cons 0 rfl .nil)))))) (by intro c h; cases h)))
 intro t; exact t.elim
theorem qfQ (F : Nat) (x1 : Int) (r : Int) (hm : qbq F x1 = some r) :
    Pure Tryz.prog 54 [.int .i64 x1] [] Unit (fun _ => .int .u64 r) (fun _ => []) (fun _ => []) := by
 refine qQ Tryz.func54 rfl Tryz.ntmps54 rfl hm (fun w => qF (l' := [(0, .int .i64 x1)]) rfl (qf (qa (qb rfl rfl rfl (qe (qd (qf (qa (qc rfl rfl rfl (q9 rfl Tryz.underlying2 Tryz.underlying72 rfl rfl (qa5 rfl rfl rfl rfl rfl (qc rfl rfl rfl ?_))))))))))))
 exact qdU rfl rfl rfl rfl rfl (q9 rfl Tryz.underlying2 Tryz.underlying72 rfl rfl (qms rfl rfl rfl rfl (qb rfl rfl rfl (yf (fun x2 e2 => qA (d := 2) (v := .int .u64 x2) rfl (by rw [e2] <;> rfl) (qe (qd (qr (qm () (res1 rfl rfl))))))))))
theorem qf7 (F : Nat) (g1 : Nat) (x2 : Int) (x3 : List Int) (a4 : Option Addr) (c5 : Nat) (x6 : Bool) (x7 : Int) (x8 : Int) (x9 : List (Int × Int)) (a10 : Option Addr) (c11 : Nat) (r : (Int × List Int × Bool)) (hm : jF F x2 x3 x6 x7 x8 x9 = some r) :
    PureM Tryz.prog 32 [.pointer (some ⟨g1, 0, none⟩), .int .i64 x7, .int .i64 x8, .slice a10 x9.length c11] [⟨g1, 42, [.int .i64 x2, .slice a4 x3.length c5, .bool x6]⟩] [Ro (eI .u8) 5 1 (.slice a4 x3.length c5) x3] [Sl eS75 2 (.slice a10 x9.length c11) x9] (Option Addr × Nat) (fun _ => .tuple #[]) (fun g => [⟨g1, 42, [.int .i64 r.1, .slice g.1 r.2.1.length g.2, .bool r.2.2]⟩]) (fun g => [Ro (eI .u8) 5 1 (.slice g.1 r.2.1.length g.2) r.2.1]) := by
 refine yJ Tryz.func32 rfl Tryz.ntmps32 rfl hm (fun w => qF (l' := [(0, .pointer (some ⟨g1, 0, none⟩)), (1, .int .i64 x7), (2, .int .i64 x8), (3, .slice a10 x9.length c11)]) rfl (qf (qa (qc rfl rfl rfl (qc rfl rfl rfl (qN rfl Tryz.underlying57 rfl rfl (zA ent28 rfl rfl rfl (fun x12 e12 => kO F g1 x2 x3 a4 c5 x6 (x9.length : Int) x12 e12) (.cons 0 rfl .nil) (.cons 0 rfl .nil) .nil (fun x12 e12 => ?_))))))))
 rintro ⟨a13, c14⟩
 refine qe (qd (qf (qa (qc rfl rfl rfl (qb rfl rfl rfl (qe (qd (qf (qa (qc rfl rfl rfl (qN rfl Tryz.underlying57 rfl rfl (qc rfl rfl rfl ?_))))))))))))
 refine qe (qd (qt (qM (fun (((x73, x74, x75, x78, x79), (a76, c77)) : ((Int × Int × Int × List Int × Bool) × (Option Addr × Nat))) => [(0, .pointer (some ⟨g1, 0, none⟩)), (2, .int .i64 x8), (8, .int .i64 x73), (16, .slice a10 x9.length c11), (17, .int .i64 (x9.length : Int)), (18, .int .i64 x74)]) (fun (((x73, x74, x75, x78, x79), (a76, c77)) : ((Int × Int × Int × List Int × Bool) × (Option Addr × Nat))) => [⟨g1, 42, [.int .i64 x75, .slice a76 x78.length c77, .bool x79]⟩]) (fun (((x73, x74, x75, x78, x79), (a76, c77)) : ((Int × Int × Int × List Int × Bool) × (Option Addr × Nat))) => [Ro (eI .u8) 5 1 (.slice a76 x78.length c77) x78]) (fun (((x73, x74, x75, x78, x79), (a76, c77)) : ((Int × Int × Int × List Int × Bool) × (Option Addr × Nat))) => [Sl eS75 2 (.slice a10 x9.length c11) x9]) (fun k (s : ((Int × Int × Int × List Int × Bool) × (Option Addr × Nat))) => kd F x8 x9 k s.1) ((x7, 0, x12.1, x12.2.1, x12.2.2), (a13, c14)) F ?_ (hB := (.cons 0 rfl .nil)) (hR := (.cons 0 rfl .nil)) (hF := (qi 0 rfl qu)))))
 intro k138
 rintro ⟨⟨x73, x74, x75, x78, x79⟩, ⟨a76, c77⟩⟩
 try dsimp only
 refine qZ (m' := vr F x8 x9 (kd F x8 x9 k138) x73 x74 x75 x78 x79) rfl (qf (qa (qP rfl rfl rfl rfl (qe (qd (qf (qy rfl (fun h196 => ?_) (fun h196 => ?_))))))))
 refine ql (qd (qf (qt (qf (qa (qc rfl rfl rfl (q7 (j := 0) yl (by decide) rfl Tryz.underlying57 tf75 rfl rfl rfl rfl (fun x168 e168 b169 o170 => zl (j := 0) rfl rfl tf75 rfl rfl (by simp) rfl rfl (zL rfl tf75 rfl (fun g171 => qb rfl rfl rfl (qI (i := 0) rfl rfl rfl tf75 rfl rfl rfl rfl rfl (qe ?_))))))))))))
 refine qd (qC (fun (((x180, x183, x184), (a181, c182)) : ((Int × List Int × Bool) × (Option Addr × Nat))) => [(0, .pointer (some ⟨g1, 0, none⟩)), (2, .int .i64 x8), (10, .pointer (some ⟨g171, 0, none⟩)), (16, .slice a10 x9.length c11), (17, .int .i64 (x9.length : Int)), (18, .int .i64 x74)]) (fun (((x180, x183, x184), (a181, c182)) : ((Int × List Int × Bool) × (Option Addr × Nat))) => [⟨g1, 42, [.int .i64 x180, .slice a181 x183.length c182, .bool x184]⟩, ⟨g171, 75, [.int .i64 x168.1, .int .i64 x168.2]⟩]) (fun (((x180, x183, x184), (a181, c182)) : ((Int × List Int × Bool) × (Option Addr × Nat))) => [Ro (eI .u8) 5 1 (.slice a181 x183.length c182) x183]) (fun (((x180, x183, x184), (a181, c182)) : ((Int × List Int × Bool) × (Option Addr × Nat))) => [Sl eS75 2 (.slice a10 x9.length c11) x9]) (fun (((x180, x183, x184), _) : ((Int × List Int × Bool) × (Option Addr × Nat))) => yw F (kd F x8 x9 k138) x8 x74 x168 x180 x183 x184) ?_ ?_)
 refine qf (qa (qc rfl rfl rfl (zu rfl rfl rfl rfl (qe (qd (qy rfl (fun h195 => ?_) (fun h195 => ?_)))))))
 refine qa (qc rfl rfl rfl (qo rfl rfl qdg rfl (qp (i := 0) rfl rfl tf3 rfl rfl (fun _ => rfl) rfl rfl (qc rfl rfl rfl (zd rfl rfl rfl rfl (qv ent54 rfl rfl rfl (fun x188 e188 => qfQ F (isub .i64 x168.1 x73) x188 e188) .nil (fun x188 e188 => ?_)))))))
 intro _
 refine q9 rfl Tryz.underlying72 Tryz.underlying3 rfl rfl (zA ent28 rfl rfl rfl (fun x189 e189 => kO F g1 x75 x78 a76 c77 x79 (iconv .i64 x188) x189 e189) (.cons 1 rfl .nil) (.cons 0 rfl .nil) .nil (fun x189 e189 => ?_))
 rintro ⟨a190, c191⟩
 exact qe (qj ((x189.1, x189.2.1, x189.2.2), (a190, c191)) (hB := (.cons 0 rfl (.cons 0 rfl .nil))) (hR := (.cons 0 rfl .nil)) (hF := (qi 1 rfl qu)))
 refine qa (qc rfl rfl rfl (qo rfl rfl qdg rfl (qp (i := 0) rfl rfl tf3 rfl rfl (fun _ => rfl) rfl rfl (qc rfl rfl rfl (zd rfl rfl rfl rfl (zd rfl rfl rfl rfl (zA ent28 rfl rfl rfl (fun x192 e192 => kO F g1 x75 x78 a76 c77 x79 (isub .i64 (isub .i64 x168.1 x73) 2) x192 e192) (.cons 1 rfl .nil) (.cons 0 rfl .nil) .nil (fun x192 e192 => ?_))))))))
 rintro ⟨a193, c194⟩
 exact qe (qj ((x192.1, x192.2.1, x192.2.2), (a193, c194)) (hB := (.cons 0 rfl (.cons 0 rfl .nil))) (hR := (.cons 0 rfl .nil)) (hF := (qi 1 rfl qu)))
 rintro ⟨⟨x180, x183, x184⟩, ⟨a181, c182⟩⟩
 try dsimp only
 refine qf (qa (qc rfl rfl rfl (qo rfl rfl qdG rfl (qp (i := 1) rfl rfl tf3 rfl rfl (fun _ => rfl) rfl rfl (qc rfl rfl rfl (zd rfl rfl rfl rfl (zA ent28 rfl rfl rfl (fun x185 e185 => kO F g1 x180 x183 a181 c182 x184 (isub .i64 x168.2 x8) x185 e185) (.cons 0 rfl .nil) (.cons 0 rfl .nil) .nil (fun x185 e185 => ?_))))))))
 rintro ⟨a186, c187⟩
 refine qe (qd (qa (qo rfl rfl qdg rfl (qp (i := 1) rfl rfl tf3 rfl rfl (fun _ => rfl) rfl rfl (qo rfl rfl qdG rfl (qp (i := 1) rfl rfl tf3 rfl rfl (fun _ => rfl) rfl rfl (qD rfl rfl rfl rfl (zd rfl rfl rfl rfl (qb rfl rfl rfl (qe (qH (qd ?_))))))))))))
 exact qa (qD rfl rfl rfl rfl (qc rfl rfl rfl (qe (qG ((isub .i64 (iadd .i64 x168.1 x168.2) 1, iadd .i64 x74 1, x185.1, x185.2.1, x185.2.2), (a186, c187)) (hB := (.cons 0 rfl .nil)) (hR := (.cons 0 rfl .nil)) (hF := (qi 0 rfl qu))))))
 exact qS (qx (qx (qT (zT (a76, c77) (res0 rfl) (hB := fun h => by subst h; exact (.cons 0 rfl .nil)) (hR := fun h => by subst h; exact (.cons 0 rfl .nil))))))
theorem qiz (F : Nat) (x1 : Int) (x2 : Int) (r : (Int × Int × Int)) (hm : qcW F x1 x2 = some r) :
    Pure Tryz.prog 75 [.int .u64 x1, .int .i64 x2] [] Unit (fun _ => .tuple #[.int .i64 r.1, .int .u64 r.2.1, .int .u64 r.2.2]) (fun _ => []) (fun _ => []) := by
 refine qQ Tryz.func75 rfl Tryz.ntmps75 rfl hm (fun w => qF (l' := [(0, .int .u64 x1), (1, .int .i64 x2)]) rfl (qf (qa (qb rfl rfl rfl (qb rfl rfl rfl (qb rfl rfl rfl (qe (qd (qf (qa (qc rfl rfl rfl (qD rfl rfl rfl rfl ?_))))))))))))
 refine qv ent93 rfl rfl rfl (fun x3 e3 => qb6 F (iadd .u64 x1 1) x3 e3) .nil (fun x3 e3 _ => zd rfl rfl rfl rfl (qc rfl rfl rfl (vY (fun h4 => qbL rfl rfl rfl rfl h4 (qb rfl rfl rfl (qe (qd (qf (qeY (fun h11 => qeY (fun h13 => zP mixed [] [] [] .nil qV 14 rfl (qg 0 (.int .i64 (iquo .i64 (isub .i64 x3 1) x2)) rfl rfl rfl (qs rfl) ?_))))))))))))
 refine qg 1 (.int .i64 (iquo .i64 (isub .i64 x3 1) x2)) rfl rfl rfl (qs rfl) (qg 2 (.int .i64 x2) rfl rfl rfl (qs rfl) (qg 3 (.int .i64 (imul .i64 (iquo .i64 (isub .i64 x3 1) x2) x2)) rfl rfl rfl (qs rfl) (qg 4 (.int .u64 (ishl .u64 1 (imul .i64 (iquo .i64 (isub .i64 x3 1) x2) x2))) rfl rfl rfl (qf9 rfl rfl h11) (qg 5 (.int .i64 (iquo .i64 (isub .i64 x3 1) x2)) rfl rfl rfl (qs rfl) (qg 6 (.int .i64 x2) rfl rfl rfl (qs rfl) (qg 7 (.int .i64 (imul .i64 (iquo .i64 (isub .i64 x3 1) x2) x2)) rfl rfl rfl (qs rfl) (qg 8 (.int .i64 x2) rfl rfl rfl (qs rfl) (qg 9 (.int .i64 (iadd .i64 (imul .i64 (iquo .i64 (isub .i64 x3 1) x2) x2) x2)) rfl rfl rfl (qs rfl) (qg 10 (.int .u64 (ishl .u64 1 (iadd .i64 (imul .i64 (iquo .i64 (isub .i64 x3 1) x2) x2) x2))) rfl rfl rfl (qf9 rfl rfl h13) (qg 11 (.int .i64 (iquo .i64 (isub .i64 x3 1) x2)) rfl rfl rfl (qs rfl) (qg 12 (.int .u64 (ishl .u64 1 (imul .i64 (iquo .i64 (isub .i64 x3 1) x2) x2))) rfl rfl rfl (qs rfl) (qg 13 (.int .u64 (ishl .u64 1 (iadd .i64 (imul .i64 (iquo .i64 (isub .i64 x3 1) x2) x2) x2))) rfl rfl rfl (qs rfl) ?_))))))))))))
 exact zm (by kernel_rfl) (z7 (qd (qr (qm () (res3 rfl rfl rfl rfl)))) (by intro c h; cases h))
theorem qfk (F : Nat) (x1 : Int) (r : (Int × Int)) (hm : qaP F x1 = some r) :
    Pure Tryz.prog 96 [.int .u64 x1] [] Unit (fun _ => .tuple #[.int .i64 r.1, .int .u64 r.2]) (fun _ => []) (fun _ => []) := by
 refine qQ Tryz.func96 rfl Tryz.ntmps96 rfl hm (fun w => qF (l' := [(0, .int .u64 x1)]) rfl (qf (qa (qb rfl rfl rfl (qb rfl rfl rfl (qe (qd (qf (qa (qc rfl rfl rfl (zd rfl rfl rfl rfl (qv ent93 rfl rfl rfl (fun x2 e2 => qb6 F (isub .u64 x1 1) x2 e2) .nil (fun x2 e2 => ?_)))))))))))))
 intro _
 refine qb rfl rfl rfl (qe (qd (qf (qeY (fun h6 => zP mixed [] [] [] .nil qV 7 rfl (qg 0 (.int .i64 x2) rfl rfl rfl (qs rfl) (qg 1 (.int .i64 x2) rfl rfl rfl (qs rfl) (qg 2 (.int .u64 (ishl .u64 1 x2)) rfl rfl rfl (qf9 rfl rfl h6) (qg 3 (.int .u64 x1) rfl rfl rfl (qs rfl) (qg 4 (.int .u64 (isub .u64 (ishl .u64 1 x2) x1)) rfl rfl rfl (qs rfl) (qg 5 (.int .i64 x2) rfl rfl rfl (qs rfl) (qg 6 (.int .u64 (isub .u64 (ishl .u64 1 x2) x1)) rfl rfl rfl (qs rfl) ?_))))))))))))
 exact zm (by kernel_rfl) (z7 (qd (qr (qm () (res2 rfl rfl rfl)))) (by intro c h; cases h))
theorem qgH (F : Nat) (x1 : Int) (x2 : List Int) (a3 : Option Addr) (c4 : Nat) (x5 : Int) (x6 : Int) (r : (Int × List Int)) (hm : qay F x1 x2 x5 x6 = some r) :
    Pure Tryz.prog 76 [.agg #[.int .i64 x1, .slice a3 x2.length c4], .int .u64 x5, .int .u64 x6] [Sl (eI .u8) 1 (.slice a3 x2.length c4) x2] (Option Addr × Nat) (fun g => .agg #[.int .i64 r.1, .slice g.1 r.2.length g.2]) (fun g => [Ro (eI .u8) 5 1 (.slice g.1 r.2.length g.2) r.2]) (fun _ => []) := by
 refine qQ Tryz.func76 rfl Tryz.ntmps76 rfl hm (fun w => qF (l' := [(0, .agg #[.int .i64 x1, .slice a3 x2.length c4]), (1, .int .u64 x5), (2, .int .u64 x6)]) rfl (qf (qa (zp rfl rfl rfl (fun g7 => zL rfl tf27 rfl (fun g8 => qe (qd (qf (qa (qc rfl rfl rfl (qv ent96 rfl rfl rfl (fun x9 e9 => qfk F x6 x9 e9) .nil (fun x9 e9 => ?_))))))))))))
 intro _
 refine qc rfl rfl rfl (qq rfl rfl rfl rfl (qq rfl rfl rfl rfl (qb rfl rfl rfl (qb rfl rfl rfl (qe (qd (qf (qf (qa (qc rfl rfl rfl (qc rfl rfl rfl (qP rfl rfl rfl rfl ?_))))))))))))
 refine qe (qd (qy rfl (fun h20 => ?_) (fun h20 => ?_)))
 refine qf (qa (qp (i := 1) rfl rfl tf27 rfl rfl (by simp) rfl rfl (qc rfl rfl rfl (qc rfl rfl rfl (zd rfl rfl rfl rfl (qv ent69 rfl rfl rfl (fun x14 e14 => qeF F x1 x2 a3 c4 x5 (isub .i64 x9.1 1) x14 e14) (.consF 0 rfl .nil) (fun x14 e14 => ?_)))))))
 rintro ⟨a15, c16⟩
 exact qI (i := 0) rfl rfl rfl tf27 rfl rfl rfl rfl rfl (qe (qd (qr (qn (qm (a15, c16) (resL (rs := [.cell 6 27]) rfl (.cell (i := 0) rfl tf27 rfl rfl (by simp) rfl ResOk.nil) rfl) (fun h => by subst h; exact (.cons 0 rfl .nil)))))))
 refine ql (qd (qf (qa (qp (i := 1) rfl rfl tf27 rfl rfl (by simp) rfl rfl (qc rfl rfl rfl (qc rfl rfl rfl (qD rfl rfl rfl rfl (qc rfl rfl rfl (qv ent69 rfl rfl rfl (fun x17 e17 => qeF F x1 x2 a3 c4 (iadd .u64 x5 x9.2) x9.1 x17 e17) (.consF 0 rfl .nil) (fun x17 e17 => ?_))))))))))
 rintro ⟨a18, c19⟩
 exact qI (i := 0) rfl rfl rfl tf27 rfl rfl rfl rfl rfl (qe (qd (qr (qm (a18, c19) (resL (rs := [.cell 6 27]) rfl (.cell (i := 0) rfl tf27 rfl rfl (by simp) rfl ResOk.nil) rfl) (fun h => by subst h; exact (.cons 0 rfl .nil))))))
theorem qiQ (F : Nat) (x1 : Int) (x2 : Int) (r : (Int × List Int × Int)) (hm : qc1 F x1 x2 = some r) :
    Pure Tryz.prog 55 [.int .u64 x1, .int .i64 x2] [] (Option Addr × Nat) (fun g => .tuple #[.agg #[.int .i64 r.1, .slice g.1 r.2.1.length g.2], .int .i64 r.2.2]) (fun g => [Ro (eI .u8) 5 1 (.slice g.1 r.2.1.length g.2) r.2.1]) (fun _ => []) := by
 refine qQ Tryz.func55 rfl Tryz.ntmps55 rfl hm (fun w => qF (l' := [(0, .int .u64 x1), (1, .int .i64 x2)]) rfl (qf (qa (zL rfl tf27 rfl (fun g3 => qb rfl rfl rfl (qe (qd (qf (qf (qa (qc rfl rfl rfl (qP rfl rfl rfl rfl ?_))))))))))))
 refine qc rfl rfl rfl (zH 3 (decide (x2 < 1)) [(0, .int .u64 x1), (1, .int .i64 x2), (4, .pointer (some ⟨g3, 0, none⟩)), (14, .bool ((decide (x2 < 1)) || (decide (16 < x2))))] (fun h7 => ?_) (fun h7 => ?_) ?_)
 exact qw (os := _) rfl (zj (k := 11) rfl h7 (qk rfl rfl rfl (qk rfl rfl rfl (qE (b := true) rfl rfl rfl rfl (qA (d := 14) (v := .bool ((decide (x2 < 1)) || (decide (16 < x2)))) rfl (by rw [h7]; simp only [Bool.true_or]) (qe (qO (qh rfl (qh rfl (qh rfl (qh rfl q8)))))))))))
 exact qw (os := _) rfl (zk (k := 11) rfl h7 (qc rfl rfl rfl (zi rfl rfl rfl rfl (qE (b := false) rfl rfl rfl rfl (qA (d := 14) (v := .bool ((decide (x2 < 1)) || (decide (16 < x2)))) rfl (by rw [h7]; simp only [Bool.false_or]) (qe (qO (qh rfl (qh rfl (qh rfl (qh rfl q8)))))))))))
 refine qw (os := _) rfl (qc rfl rfl rfl (zH 3 ((decide (x2 < 1)) || (decide (16 < x2))) [(0, .int .u64 x1), (1, .int .i64 x2), (4, .pointer (some ⟨g3, 0, none⟩)), (18, .bool (((decide (x2 < 1)) || (decide (16 < x2))) || (decide (1099511627776 < x1))))] (fun h8 => ?_) (fun h8 => ?_) ?_))
 exact qw (os := _) rfl (zj (k := 15) rfl h8 (qk rfl rfl rfl (qk rfl rfl rfl (qE (b := true) rfl rfl rfl rfl (qA (d := 18) (v := .bool (((decide (x2 < 1)) || (decide (16 < x2))) || (decide (1099511627776 < x1)))) rfl (by rw [h8]; simp only [Bool.true_or]) (qe (qO (qh rfl (qh rfl (qh rfl (qh rfl q8)))))))))))
 exact qw (os := _) rfl (zk (k := 15) rfl h8 (qc rfl rfl rfl (zi rfl rfl rfl rfl (qE (b := false) rfl rfl rfl rfl (qA (d := 18) (v := .bool (((decide (x2 < 1)) || (decide (16 < x2))) || (decide (1099511627776 < x1)))) rfl (by rw [h8]; simp only [Bool.false_or]) (qe (qO (qh rfl (qh rfl (qh rfl (qh rfl q8)))))))))))
 refine qw (os := _) rfl (qe (qd (qy rfl (fun h16 => ?_) (fun h16 => ?_))))
 exact qf (qa (zX (cells := [.int .i64 0, .slice none 0 0]) rfl st27 rfl (by kernel_rfl) rfl (qI (i := 0) rfl rfl rfl tf27 rfl rfl rfl rfl rfl (qb rfl rfl rfl (qe (qd (qr (qn (qU Int (eI .u8) 5 1 (qm (none, 0) (resL (rs := [.cell 4 27, .tmp 5]) rfl (.cell (i := 0) rfl tf27 rfl rfl (by simp) rfl (.tmp rfl ResOk.nil)) rfl) (fun h => by subst h; exact (.cons 0 rfl .nil))))))))))))
 refine ql (qd (qf (qa (qc rfl rfl rfl (qc rfl rfl rfl (qv ent75 rfl rfl rfl (fun x9 e9 => qiz F x1 x2 x9 e9) .nil (fun x9 e9 => ?_)))))))
 intro _
 refine qc rfl rfl rfl (qq rfl rfl rfl rfl (qq rfl rfl rfl rfl (qq rfl rfl rfl rfl (qb rfl rfl rfl (qb rfl rfl rfl (qb rfl rfl rfl (qe (qd (qf (qa (qc rfl rfl rfl (q9 rfl Tryz.underlying3 Tryz.underlying72 rfl rfl ?_))))))))))))
 refine qv ent70 rfl rfl rfl (fun x10 e10 => qhf F (iconv .u64 x9.1) x10 e10) .nil (fun x10 e10 => ?_)
 rintro ⟨a11, c12⟩
 refine qc rfl rfl rfl (qD rfl rfl rfl rfl (qc rfl rfl rfl (zd rfl rfl rfl rfl (qc rfl rfl rfl (qc rfl rfl rfl (zd rfl rfl rfl rfl (qv ent76 rfl rfl rfl (fun x13 e13 => qgH F x10.1 x10.2 a11 c12 (isub .u64 (iadd .u64 x1 1) x9.2.1) (isub .u64 x9.2.2 x9.2.1) x13 e13) (.consR 0 (Ro (eI .u8) 5 1 (.slice a11 x10.2.length c12) x10.2) rfl .nil) (fun x13 e13 => ?_))))))))
 rintro ⟨a14, c15⟩
 exact qI (i := 0) rfl rfl rfl tf27 rfl rfl rfl rfl rfl (qb rfl rfl rfl (qe (qd (qr (qm (a14, c15) (resL (rs := [.cell 4 27, .tmp 5]) rfl (.cell (i := 0) rfl tf27 rfl rfl (by simp) rfl (.tmp rfl ResOk.nil)) rfl) (fun h => by subst h; exact (.cons 0 rfl .nil)))))))
theorem qga (F : Nat) (x1 : Int) (x2 : List Int) (a3 : Option Addr) (c4 : Nat) (x5 : List Int) (a6 : Option Addr) (c7 : Nat) (x8 : Int) (r : (Int × List Int × Bool)) (hm : qbR F x1 x2 x5 x8 = some r) :
    PureM Tryz.prog 33 [.agg #[.int .i64 x1, .slice a3 x2.length c4], .slice a6 x5.length c7, .int .i64 x8] [] [Ro (eI .u8) 5 1 (.slice a3 x2.length c4) x2] [Sl (eI .u64) 1 (.slice a6 x5.length c7) x5] (Option Addr × Nat) (fun g => .tuple #[.agg #[.int .i64 r.1, .slice g.1 r.2.1.length g.2], .bool r.2.2]) (fun _ => []) (fun g => [Ro (eI .u8) 5 1 (.slice g.1 r.2.1.length g.2) r.2.1]) := by
 refine yJ Tryz.func33 rfl Tryz.ntmps33 rfl hm (fun w => qF (l' := [(0, .agg #[.int .i64 x1, .slice a3 x2.length c4]), (1, .slice a6 x5.length c7), (2, .int .i64 x8)]) rfl (qf (qa (zp rfl rfl rfl (fun g9 => zL rfl tf27 rfl (fun g10 => qb rfl rfl rfl (qe (qd (qC (fun (((x107, x110), (a108, c109)) : ((Int × List Int) × (Option Addr × Nat))) => [(3, .pointer (some ⟨g9, 0, none⟩)), (6, .pointer (some ⟨g10, 0, none⟩))]) (fun (((x107, x110), (a108, c109)) : ((Int × List Int) × (Option Addr × Nat))) => [⟨g10, 27, [.int .i64 0, .slice none 0 0]⟩, ⟨g9, 27, [.int .i64 x107, .slice a108 x110.length c109]⟩]) (fun (((x107, x110), (a108, c109)) : ((Int × List Int) × (Option Addr × Nat))) => [Ro (eI .u8) 5 1 (.slice a108 x110.length c109) x110]) (fun (((x107, x110), (a108, c109)) : ((Int × List Int) × (Option Addr × Nat))) => []) (fun (((x107, x110), _) : ((Int × List Int) × (Option Addr × Nat))) => qfS F x107 x110) ?_ ?_)))))))))
 refine qf (qa (qc rfl rfl rfl (qN rfl Tryz.underlying63 rfl rfl (qc rfl rfl rfl (qe (qd (qt (qM (fun (((x141, x142, x145), (a143, c144)) : ((Int × Int × List Int) × (Option Addr × Nat))) => [(2, .int .i64 x8), (3, .pointer (some ⟨g9, 0, none⟩)), (6, .pointer (some ⟨g10, 0, none⟩)), (12, .slice a6 x5.length c7), (13, .int .i64 (x5.length : Int)), (14, .int .i64 x141)]) (fun (((x141, x142, x145), (a143, c144)) : ((Int × Int × List Int) × (Option Addr × Nat))) => [⟨g10, 27, [.int .i64 0, .slice none 0 0]⟩, ⟨g9, 27, [.int .i64 x142, .slice a143 x145.length c144]⟩]) (fun (((x141, x142, x145), (a143, c144)) : ((Int × Int × List Int) × (Option Addr × Nat))) => [Ro (eI .u8) 5 1 (.slice a143 x145.length c144) x145]) (fun (((x141, x142, x145), (a143, c144)) : ((Int × Int × List Int) × (Option Addr × Nat))) => [Sl (eI .u64) 1 (.slice a6 x5.length c7) x5]) (fun k (s : ((Int × Int × List Int) × (Option Addr × Nat))) => qac F x5 x8 k s.1) ((0, x1, x2), (a3, c4)) F ?_ (hB := (.cons 0 rfl (.cons 0 rfl .nil))) (hR := (.cons 0 rfl .nil)) (hF := (qi 0 rfl qu))))))))))
 intro k176
 rintro ⟨⟨x141, x142, x145⟩, ⟨a143, c144⟩⟩
 try dsimp only
 refine qZ (m' := qcM F x5 x8 (qac F x5 x8 k176) x141 x142 x145) rfl (qf (qa (qP rfl rfl rfl rfl (qe (qd (qf (qy rfl (fun h206 => ?_) (fun h206 => ?_))))))))
 refine ql (qd (qf (qt (qf (qa (q7 (j := 0) (qL .u64) (by decide) rfl Tryz.underlying63 tf72 rfl rfl rfl rfl (fun x192 e192 b193 o194 => zl (j := 0) rfl rfl tf72 rfl rfl (fun _ => rfl) rfl rfl (qb rfl rfl rfl (qe (qd (qf (qa ?_))))))))))))
 refine qc rfl rfl rfl (qc rfl rfl rfl (qv ent55 rfl rfl rfl (fun x195 e195 => qiQ F x192 x8 x195 e195) .nil (fun x195 e195 => ?_)))
 rintro ⟨a196, c197⟩
 refine qc rfl rfl rfl (qq rfl rfl rfl rfl (qq rfl rfl rfl rfl (zL rfl tf27 rfl (fun g198 => qI (i := 0) rfl rfl rfl tf27 rfl rfl rfl rfl rfl (qb rfl rfl rfl (qe (qd (qf (qf (qa (qc rfl rfl rfl (kD rfl rfl rfl rfl ?_))))))))))))
 refine qc rfl rfl rfl (zH 7 ((x195.2.2 : Int) != 0) [(2, .int .i64 x8), (3, .pointer (some ⟨g9, 0, none⟩)), (6, .pointer (some ⟨g10, 0, none⟩)), (12, .slice a6 x5.length c7), (13, .int .i64 (x5.length : Int)), (14, .int .i64 x141), (10, .pointer (some ⟨g198, 0, none⟩)), (33, .bool (((x195.2.2 : Int) != 0) || (decide (8192 < (iadd .i64 x142 x195.1)))))] (fun h201 => ?_) (fun h201 => ?_) ?_)
 exact qw (os := _) rfl (zj (k := 26) rfl h201 (qk rfl rfl rfl (qk rfl rfl rfl (qk rfl rfl rfl (qk rfl rfl rfl (qk rfl rfl rfl (qk rfl rfl rfl (qE (b := true) rfl rfl rfl rfl (qA (d := 33) (v := .bool (((x195.2.2 : Int) != 0) || (decide (8192 < (iadd .i64 x142 x195.1))))) rfl (by rw [h201]; simp only [Bool.true_or]) (qe (qO (qh rfl (qh rfl (qh rfl (qh rfl (qh rfl (qh rfl (qh rfl (qh rfl q8)))))))))))))))))))
 exact qw (os := _) rfl (zk (k := 26) rfl h201 (qo rfl rfl kW rfl (qp (i := 2) rfl rfl tf3 rfl rfl (fun _ => rfl) rfl rfl (qo rfl rfl kW rfl (qp (i := 0) rfl rfl tf3 rfl rfl (fun _ => rfl) rfl rfl (qD rfl rfl rfl rfl (zi rfl rfl rfl rfl (qE (b := false) rfl rfl rfl rfl (qA (d := 33) (v := .bool (((x195.2.2 : Int) != 0) || (decide (8192 < (iadd .i64 x142 x195.1))))) rfl (by rw [h201]; simp only [Bool.false_or]) (qe (qO (qh rfl (qh rfl (qh rfl (qh rfl (qh rfl (qh rfl (qh rfl (qh rfl q8)))))))))))))))))))
 refine qw (os := _) rfl (qe (qd (qy rfl (fun h205 => ?_) (fun h205 => ?_))))
 refine qf (qa (zX (cells := [.int .i64 0, .slice none 0 0]) rfl st27 rfl (by kernel_rfl) rfl (qI (i := 1) rfl rfl rfl tf27 rfl rfl rfl rfl rfl (qb rfl rfl rfl (qe (qd (qr (qn (qR (qn (qn (qR ?_))))))))))))
 exact qn (qU Int (eI .u8) 5 1 (zT (none, 0) (resL (rs := [.cell 6 27, .tmp 7]) rfl (.cell (i := 1) rfl tf27 rfl rfl (by simp) rfl (.tmp rfl ResOk.nil)) rfl) (hR := fun h => by subst h; exact (.cons 0 rfl .nil))))
 refine ql (qd (qa (qp (i := 2) rfl rfl tf27 rfl rfl (by simp) rfl rfl (qp (i := 0) rfl rfl tf27 rfl rfl (by simp) rfl rfl (zA ent56 rfl rfl rfl (fun x202 e202 => qg2 F x142 x145 a143 c144 x195.1 x195.2.1 a196 c197 x202 e202) .nil .nil (.consR 1 (Ro (eI .u8) 5 1 (.slice a143 x145.length c144) x145) rfl (.consR 0 (Ro (eI .u8) 5 1 (.slice a196 x195.2.1.length c197) x195.2.1) rfl .nil)) (fun x202 e202 => ?_))))))
 rintro ⟨a203, c204⟩
 exact qI (i := 2) rfl rfl rfl tf27 rfl rfl rfl rfl rfl (qe (qH (qd (qa (qD rfl rfl rfl rfl (qc rfl rfl rfl (qe (qG ((iadd .i64 x141 1, x202.1, x202.2), (a203, c204)) (hB := (.cons 1 rfl (.cons 1 rfl .nil))) (hR := (.cons 0 rfl .nil)) (hF := (qi 1 rfl qu))))))))))
 exact qS (qx (qx (qT (qj ((x142, x145), (a143, c144)) (hB := (.cons 0 rfl (.cons 0 rfl .nil))) (hR := (.cons 0 rfl .nil))))))
 rintro ⟨⟨x107, x110⟩, ⟨a108, c109⟩⟩
 try dsimp only
 exact qf (qa (qp (i := 1) rfl rfl tf27 rfl rfl (by simp) rfl rfl (qI (i := 0) rfl rfl rfl tf27 rfl rfl rfl rfl rfl (qb rfl rfl rfl (qe (qd (qr (zT (a108, c109) (resL (rs := [.cell 6 27, .tmp 7]) rfl (.cell (i := 0) rfl tf27 rfl rfl (by simp) rfl (.tmp rfl ResOk.nil)) rfl) (hR := fun h => by subst h; exact (.cons 0 rfl .nil))))))))))
theorem qgq (F : Nat) (g1 : Nat) (x2 : Int) (x3 : Bool) (x4 : Int) (r : (Int × Int × Bool)) (hm : qat F x2 x3 x4 = some r) :
    PureM Tryz.prog 57 [.pointer (some ⟨g1, 0, none⟩), .int .i64 x4] [⟨g1, 97, [.int .i64 x2, .bool x3]⟩] [] [] Unit (fun _ => .int .u64 r.1) (fun _ => [⟨g1, 97, [.int .i64 r.2.1, .bool r.2.2]⟩]) (fun _ => []) := by
 refine yJ Tryz.func57 rfl Tryz.ntmps57 rfl hm (fun w => qF (l' := [(0, .pointer (some ⟨g1, 0, none⟩)), (1, .int .i64 x4)]) rfl (qf (qa (qb rfl rfl rfl (qe (qd (qC (fun ((x8, _) : (Int × Unit)) => [(0, .pointer (some ⟨g1, 0, none⟩)), (1, .int .i64 x4), (4, .int .u64 x8)]) (fun ((x8, _) : (Int × Unit)) => [⟨g1, 97, [.int .i64 x2, .bool x3]⟩]) (fun ((x8, _) : (Int × Unit)) => []) (fun ((x8, _) : (Int × Unit)) => []) (fun ((x8, _) : (Int × Unit)) => qaN F x4 x8) ?_ ?_)))))))
 refine qf (qa (qc rfl rfl rfl (qX rfl rfl rfl (qo rfl rfl qj7 rfl (qp (i := 0) rfl rfl tf4 rfl rfl (fun _ => rfl) rfl rfl (qe (qd (qy rfl (fun h11 => ?_) (fun h11 => ?_)))))))))
 refine qa (qc rfl rfl rfl (qc rfl rfl rfl (qX rfl rfl rfl (qo rfl rfl qeL rfl (qp (i := 0) rfl rfl tf3 rfl rfl (fun _ => rfl) rfl rfl (zd rfl rfl rfl rfl (zd rfl rfl rfl rfl (q9 rfl Tryz.underlying3 Tryz.underlying72 rfl rfl (qb rfl rfl rfl (yf (fun x9 e9 => qA (d := 4) (v := .int .u64 x9) rfl (by rw [e9] <;> rfl) (qe ?_))))))))))))
 exact qj (x9, ()) (hB := (.cons 0 rfl .nil))
 refine qa (qc rfl rfl rfl (qc rfl rfl rfl (qX rfl rfl rfl (qo rfl rfl qeL rfl (qp (i := 0) rfl rfl tf3 rfl rfl (fun _ => rfl) rfl rfl (zd rfl rfl rfl rfl (qv ent54 rfl rfl rfl (fun x10 e10 => qfQ F (isub .i64 x4 x2) x10 e10) .nil (fun x10 e10 => ?_))))))))
 intro _
 exact qb rfl rfl rfl (qe (qj (x10, ()) (hB := (.cons 0 rfl .nil))))
 rintro ⟨x8, _⟩
 try dsimp only
 refine qf (qa (qc rfl rfl rfl (qc rfl rfl rfl (qc rfl rfl rfl (qX rfl rfl rfl (qo rfl rfl qeL rfl (qI (i := 0) rfl rfl rfl tf3 rfl rfl rfl rfl rfl (qX rfl rfl rfl (qo rfl rfl qj7 rfl (qI (i := 0) rfl rfl rfl tf4 rfl rfl rfl rfl rfl (qe (qd ?_))))))))))))
 exact qf (qa (qc rfl rfl rfl (qb rfl rfl rfl (qe (qd (qr (zT () (res1 rfl rfl) (hB := fun h => by subst h; exact (.cons 0 rfl .nil)))))))))
theorem qil (F : Nat) (x1 : List Int) (a2 : Option Addr) (c3 : Nat) (x4 : Int) (r : List Int) (hm : qdM F x1 x4 = some r) :
    Pure Tryz.prog 34 [.slice a2 x1.length c3, .int .i64 x4] [Sl (eI .i64) 1 (.slice a2 x1.length c3) x1] (Option Addr × Nat) (fun g => .slice g.1 r.length g.2) (fun g => [Ro (eI .u64) 72 1 (.slice g.1 r.length g.2) r]) (fun _ => []) := by
 refine qQ Tryz.func34 rfl Tryz.ntmps34 rfl hm (fun w => qF (l' := [(0, .slice a2 x1.length c3), (1, .int .i64 x4)]) rfl (qf (qa (qb rfl rfl rfl (qe (qd (qf (qa (qc rfl rfl rfl (zX (cells := [.int .i64 x4, .bool false]) rfl st97 rfl (by kernel_rfl) rfl (zp rfl rfl rfl (fun g5 => qb rfl rfl rfl ?_))))))))))))
 refine qe (qd (qf (qa (qb rfl rfl rfl (qe (qd (qC (fun ((x75, (a73, c74)) : (List Int × (Option Addr × Nat))) => [(6, .slice a73 x75.length c74)]) (fun ((x75, (a73, c74)) : (List Int × (Option Addr × Nat))) => []) (fun ((x75, (a73, c74)) : (List Int × (Option Addr × Nat))) => [Ro (eI .u64) 72 1 (.slice a73 x75.length c74) x75]) (fun ((x75, (a73, c74)) : (List Int × (Option Addr × Nat))) => []) (fun ((x75, _) : (List Int × (Option Addr × Nat))) => qee F x75) ?_ ?_)))))))
 refine qf (qa (qc rfl rfl rfl (qN rfl Tryz.underlying22 rfl rfl (qc rfl rfl rfl (qe (qd (qt (zS Int (eI .u64) 72 1 (qM (fun (((x98, x99, x100, x101), (a96, c97)) : ((List Int × Int × Int × Bool) × (Option Addr × Nat))) => [(5, .pointer (some ⟨g5, 0, none⟩)), (6, .slice a96 x98.length c97), (12, .slice a2 x1.length c3), (13, .int .i64 (x1.length : Int)), (14, .int .i64 x99)]) (fun (((x98, x99, x100, x101), (a96, c97)) : ((List Int × Int × Int × Bool) × (Option Addr × Nat))) => [⟨g5, 97, [.int .i64 x100, .bool x101]⟩]) (fun (((x98, x99, x100, x101), (a96, c97)) : ((List Int × Int × Int × Bool) × (Option Addr × Nat))) => [Ro (eI .u64) 72 1 (.slice a96 x98.length c97) x98]) (fun (((x98, x99, x100, x101), (a96, c97)) : ((List Int × Int × Int × Bool) × (Option Addr × Nat))) => [Sl (eI .i64) 1 (.slice a2 x1.length c3) x1]) (fun k (s : ((List Int × Int × Int × Bool) × (Option Addr × Nat))) => qaf F x1 k s.1) ((([] : List Int), 0, x4, false), (none, 0)) F ?_ (hB := (.cons 0 rfl .nil)) (hR := (.cons 0 rfl .nil)) (hF := (qi 0 rfl qu)))))))))))
 intro k122
 rintro ⟨⟨x98, x99, x100, x101⟩, ⟨a96, c97⟩⟩
 try dsimp only
 refine qZ (m' := qcK F x1 (qaf F x1 k122) x98 x99 x100 x101) rfl (qf (qa (qP rfl rfl rfl rfl (qe (qd (qf (qy rfl (fun h142 => ?_) (fun h142 => ?_))))))))
 refine ql (qd (qf (qt (qf (qa (q7 (j := 0) (qL .i64) (by decide) rfl Tryz.underlying22 tf3 rfl rfl rfl rfl (fun x133 e133 b134 o135 => zl (j := 0) rfl rfl tf3 rfl rfl (fun _ => rfl) rfl rfl (qb rfl rfl rfl (qe (qd (qa (qc rfl rfl rfl ?_))))))))))))
 refine qc rfl rfl rfl (qc rfl rfl rfl (zA ent57 rfl rfl rfl (fun x136 e136 => qgq F g5 x100 x101 x133 x136 e136) (.cons 0 rfl .nil) .nil .nil (fun x136 e136 => ?_)))
 intro _
 exact zE (vs := [.int .u64 x136.1]) (ys := ([x136.1] : List Int)) (qL .u64) (by decide) rfl Tryz.underlying63 tf72 rfl rfl rfl rfl rfl (by decide) (fun a137 c138 => zy 1 (qL .u64) rfl Tryz.underlying63 tf72 rfl rfl rfl rfl rfl (.inl ⟨0, _, rfl⟩) rfl rfl (fun x139 e139 a140 c141 => qb rfl rfl rfl (qe (qH (qd (qa (qD rfl rfl rfl rfl (qc rfl rfl rfl (qe (qG ((x139, iadd .i64 x99 1, x136.2.1, x136.2.2), (a140, c141)) (hB := (.cons 0 rfl .nil)) (hR := (.cons 0 rfl .nil)) (hF := (qi 1 rfl qu))))))))))))
 exact qS (qx (qx (qT (qj (x98, (a96, c97)) (hR := (.cons 0 rfl .nil))))))
 rintro ⟨x75, ⟨a73, c74⟩⟩
 try dsimp only
 exact qf (qa (qc rfl rfl rfl (qb rfl rfl rfl (qe (qd (qr (qm (a73, c74) (res1 rfl rfl) (fun h => by subst h; exact (.cons 0 rfl .nil)))))))))
set_option maxHeartbeats 4000000 in
theorem qdz (F : Nat) (g1 : Nat) (x2 : Int) (x3 : List Int) (a4 : Option Addr) (c5 : Nat) (x6 : Bool) (x7 : Int) (x8 : List Int) (a9 : Option Addr) (c10 : Nat) (x11 : List Int) (a12 : Option Addr) (c13 : Nat) (x14 : Int) (x15 : Int) (x16 : Int) (r : (Int × List Int × Bool)) (hm : vq F x2 x3 x6 x7 x8 x11 x14 x15 x16 = some r) :
    PureM Tryz.prog 15 [.pointer (some ⟨g1, 0, none⟩), .int .i64 x7, .slice a9 x8.length c10, .slice a12 x11.length c13, .agg #[.int .i64 x14, .int .i64 x15, .int .i64 x16]] [⟨g1, 42, [.int .i64 x2, .slice a4 x3.length c5, .bool x6]⟩] [Ro (eI .u8) 5 1 (.slice a4 x3.length c5) x3] [Sl (eI .i64) 1 (.slice a9 x8.length c10) x8, Sl (eI .i64) 1 (.slice a12 x11.length c13) x11] (Option Addr × Nat) (fun _ => .tuple #[]) (fun g => [⟨g1, 42, [.int .i64 r.1, .slice g.1 r.2.1.length g.2, .bool r.2.2]⟩]) (fun g => [Ro (eI .u8) 5 1 (.slice g.1 r.2.1.length g.2) r.2.1]) := by
 refine yJ Tryz.func15 rfl Tryz.ntmps15 rfl hm (fun w => qF (l' := [(0, .pointer (some ⟨g1, 0, none⟩)), (1, .int .i64 x7), (2, .slice a9 x8.length c10), (3, .slice a12 x11.length c13), (4, .agg #[.int .i64 x14, .int .i64 x15, .int .i64 x16])]) rfl (qf (qa (zp rfl rfl rfl (fun g17 => qe (qd (qf (qa (qc rfl rfl rfl (qc rfl rfl rfl (qN rfl Tryz.underlying22 rfl rfl (zA ent28 rfl rfl rfl (fun x18 e18 => kO F g1 x2 x3 a4 c5 x6 (x8.length : Int) x18 e18) (.cons 1 rfl .nil) (.cons 0 rfl .nil) .nil (fun x18 e18 => ?_)))))))))))))
 rintro ⟨a19, c20⟩
 refine qe (qd (qf (qf (qa (qc rfl rfl rfl (qN rfl Tryz.underlying22 rfl rfl (zu rfl rfl rfl rfl (qe (qd (qy rfl (fun h122 => ?_) (fun h122 => ?_)))))))))))
 exact qr (qn (zT (a19, c20) (res0 rfl) (hB := fun h => by subst h; exact (.cons 0 rfl .nil)) (hR := fun h => by subst h; exact (.cons 0 rfl .nil))))
 refine ql (qd (qf (qa (qc rfl rfl rfl (qb rfl rfl rfl (qe (qd (qC (fun (((x33, x34, x37, x38), (a31, c32, a35, c36)) : ((List Int × Int × List Int × Bool) × (Option Addr × Nat × Option Addr × Nat))) => [(0, .pointer (some ⟨g1, 0, none⟩)), (1, .int .i64 x7), (9, .pointer (some ⟨g17, 0, none⟩)), (10, .slice a31 x33.length c32)]) (fun (((x33, x34, x37, x38), (a31, c32, a35, c36)) : ((List Int × Int × List Int × Bool) × (Option Addr × Nat × Option Addr × Nat))) => [⟨g1, 42, [.int .i64 x34, .slice a35 x37.length c36, .bool x38]⟩, ⟨g17, 24, [.int .i64 x14, .int .i64 x15, .int .i64 x16]⟩]) (fun (((x33, x34, x37, x38), (a31, c32, a35, c36)) : ((List Int × Int × List Int × Bool) × (Option Addr × Nat × Option Addr × Nat))) => [Ro (eI .u8) 5 1 (.slice a35 x37.length c36) x37]) (fun (((x33, x34, x37, x38), (a31, c32, a35, c36)) : ((List Int × Int × List Int × Bool) × (Option Addr × Nat × Option Addr × Nat))) => [Sl (eI .i64) 1 (.slice a31 x33.length c32) x33]) (fun (((x33, x34, x37, x38), _) : ((List Int × Int × List Int × Bool) × (Option Addr × Nat × Option Addr × Nat))) => yv F x7 x15 x16 x33 x34 x37 x38) ?_ ?_))))))))
 refine qf (qa (qo rfl rfl qeK rfl (qp (i := 1) rfl rfl tf3 rfl rfl (fun _ => rfl) rfl rfl (zi rfl rfl rfl rfl (qe (qd (qy rfl (fun h121 => ?_) (fun h121 => ?_))))))))
 refine qf (qa (qb rfl rfl rfl (qe (qd (qf (qa (qc rfl rfl rfl (qc rfl rfl rfl (qv ent29 rfl rfl rfl (fun x113 e113 => qlb F x11 a12 c13 x8 a9 c10 x113 e113) (.consF 1 rfl (.consF 0 rfl .nil)) (fun x113 e113 => ?_))))))))))
 rintro ⟨⟨a114, c115⟩, ⟨a116, c117⟩⟩
 refine qc rfl rfl rfl (qq rfl rfl rfl rfl (qq rfl rfl rfl rfl (qb rfl rfl rfl (qb rfl rfl rfl (qe (qd (qa (qc rfl rfl rfl (qc rfl rfl rfl (zA ent30 rfl rfl rfl (fun x118 e118 => qfa F g1 x18.1 x18.2.1 a19 c20 x18.2.2 x113.1 a114 c115 x118 e118) (.cons 0 rfl .nil) (.cons 2 rfl .nil) (.consR 0 (Ro (eI .i64) 3 1 (.slice a114 x113.1.length c115) x113.1) rfl .nil) (fun x118 e118 => ?_)))))))))))
 rintro ⟨a119, c120⟩
 exact qe (qeZ 2 rfl (qj ((x113.2, x118.1, x118.2.1, x118.2.2), (a116, c117, a119, c120)) (hB := (.cons 0 rfl (.cons 0 rfl .nil))) (hR := (.cons 0 rfl .nil)) (hF := (qi 0 rfl qu))))
 exact ql (qj ((x8, x18.1, x18.2.1, x18.2.2), (a9, c10, a19, c20)) (hB := (.cons 0 rfl (.cons 0 rfl .nil))) (hR := (.cons 0 rfl .nil)) (hF := (qi 0 rfl qu)))
 rintro ⟨⟨x33, x34, x37, x38⟩, ⟨a31, c32, a35, c36⟩⟩
 try dsimp only
 refine qf (qf (qa (qc rfl rfl rfl (qN rfl Tryz.underlying22 rfl rfl (zu rfl rfl rfl rfl (qe (qd (qy rfl (fun h112 => ?_) (fun h112 => ?_)))))))))
 exact qr (qn (zT (a35, c36) (res0 rfl) (hB := fun h => by subst h; exact (.cons 0 rfl .nil)) (hR := fun h => by subst h; exact (.cons 0 rfl .nil))))
 refine ql (qd (qC (fun (((x51, x52, x55, x56), (a49, c50, a53, c54)) : ((List Int × Int × List Int × Bool) × (Option Addr × Nat × Option Addr × Nat))) => [(0, .pointer (some ⟨g1, 0, none⟩)), (1, .int .i64 x7), (9, .pointer (some ⟨g17, 0, none⟩)), (10, .slice a49 x51.length c50)]) (fun (((x51, x52, x55, x56), (a49, c50, a53, c54)) : ((List Int × Int × List Int × Bool) × (Option Addr × Nat × Option Addr × Nat))) => [⟨g1, 42, [.int .i64 x52, .slice a53 x55.length c54, .bool x56]⟩, ⟨g17, 24, [.int .i64 x14, .int .i64 x15, .int .i64 x16]⟩]) (fun (((x51, x52, x55, x56), (a49, c50, a53, c54)) : ((List Int × Int × List Int × Bool) × (Option Addr × Nat × Option Addr × Nat))) => [Ro (eI .u8) 5 1 (.slice a53 x55.length c54) x55]) (fun (((x51, x52, x55, x56), (a49, c50, a53, c54)) : ((List Int × Int × List Int × Bool) × (Option Addr × Nat × Option Addr × Nat))) => [Sl (eI .i64) 1 (.slice a49 x51.length c50) x51]) (fun (((x51, x52, x55, x56), _) : ((List Int × Int × List Int × Bool) × (Option Addr × Nat × Option Addr × Nat))) => yp F x7 x16 x51 x52 x55 x56) ?_ ?_))
 refine qf (qa (qo rfl rfl qbl rfl (qp (i := 1) rfl rfl tf3 rfl rfl (fun _ => rfl) rfl rfl (zi rfl rfl rfl rfl (qe (qd (qy rfl (fun h111 => ?_) (fun h111 => ?_))))))))
 refine qf (qa (qb rfl rfl rfl (qe (qd (qf (qa (qc rfl rfl rfl (qo rfl rfl qbl rfl (qp (i := 1) rfl rfl tf3 rfl rfl (fun _ => rfl) rfl rfl (zA ent31 rfl rfl rfl (fun x103 e103 => qlV F x33 a31 c32 x15 x103 e103) .nil .nil (.consF 0 rfl .nil) (fun x103 e103 => ?_)))))))))))
 rintro ⟨⟨a104, c105⟩, ⟨a106, c107⟩⟩
 refine qc rfl rfl rfl (qq rfl rfl rfl rfl (qq rfl rfl rfl rfl (qb rfl rfl rfl (qb rfl rfl rfl (qe (qd (qa (qc rfl rfl rfl (qc rfl rfl rfl (qo rfl rfl qbl rfl (qp (i := 1) rfl rfl tf3 rfl rfl (fun _ => rfl) rfl rfl (qc rfl rfl rfl ?_))))))))))))
 refine zA ent32 rfl rfl rfl (fun x108 e108 => qf7 F g1 x34 x37 a35 c36 x38 x7 x15 x103.1 a104 c105 x108 e108) (.cons 0 rfl .nil) (.cons 2 rfl .nil) (.consR 0 (Ro eS75 75 2 (.slice a104 x103.1.length c105) x103.1) rfl .nil) (fun x108 e108 => ?_)
 rintro ⟨a109, c110⟩
 exact qe (qeZ 2 rfl (qj ((x103.2, x108.1, x108.2.1, x108.2.2), (a106, c107, a109, c110)) (hB := (.cons 0 rfl (.cons 0 rfl .nil))) (hR := (.cons 0 rfl .nil)) (hF := (qi 0 rfl qu))))
 exact ql (qj ((x33, x34, x37, x38), (a31, c32, a35, c36)) (hB := (.cons 0 rfl (.cons 0 rfl .nil))) (hR := (.cons 0 rfl .nil)) (hF := (qi 0 rfl qu)))
 rintro ⟨⟨x51, x52, x55, x56⟩, ⟨a49, c50, a53, c54⟩⟩
 try dsimp only
 refine qC (fun (((x76, x77, x80), (g75, a78, c79)) : ((Bool × Int × List Int) × (Nat × Option Addr × Nat))) => [(0, .pointer (some ⟨g1, 0, none⟩)), (13, .pointer (some ⟨g75, 0, none⟩)), (14, .bool x76)]) (fun (((x76, x77, x80), (g75, a78, c79)) : ((Bool × Int × List Int) × (Nat × Option Addr × Nat))) => [⟨g1, 42, [.int .i64 x52, .slice a53 x55.length c54, .bool x56]⟩, ⟨g75, 27, [.int .i64 x77, .slice a78 x80.length c79]⟩]) (fun (((x76, x77, x80), (g75, a78, c79)) : ((Bool × Int × List Int) × (Nat × Option Addr × Nat))) => [Ro (eI .u8) 5 1 (.slice a53 x55.length c54) x55, Ro (eI .u8) 5 1 (.slice a78 x80.length c79) x80]) (fun (((x76, x77, x80), (g75, a78, c79)) : ((Bool × Int × List Int) × (Nat × Option Addr × Nat))) => []) (fun (((x76, x77, x80), _) : ((Bool × Int × List Int) × (Nat × Option Addr × Nat))) => yu F x52 x55 x56 x76 x77 x80) ?_ ?_
 refine zP mixed [] [⟨g1, 42, [.int .i64 x52, .slice a53 x55.length c54, .bool x56]⟩, ⟨g17, 24, [.int .i64 x14, .int .i64 x15, .int .i64 x16]⟩] [Sl (eI .i64) 1 (.slice a49 x51.length c50) x51] (.cons 0 rfl (.cons 0 rfl .nil)) (qW 0 rfl qV) 13 rfl (qg 0 (.agg #[.int .i64 0, .slice none 0 0]) rfl rfl rfl (qhM (cells := [.int .i64 0, .slice none 0 0]) st27 rfl (by kernel_rfl)) (qg 1 (.slice a49 x51.length c50) rfl rfl rfl (qs rfl) (qg 2 (.int .i64 x7) rfl rfl rfl (qs rfl) (qg 4 (.pointer (some ⟨g17, 2, none⟩)) rfl rfl rfl (qK rfl qfW) (zF 5 (.int .i64 x16) rfl rfl rfl (zB (i := 1) rfl tf3 rfl rfl (fun _ => rfl) rfl) (qhr 3 10 rfl rfl (by kernel_rfl) rfl rfl ?_ ?_))))))
 refine qv ent34 rfl rfl rfl (fun x85 e85 => qil F x51 a49 c50 x7 x85 e85) (.consF 0 rfl .nil) (fun x85 e85 => ?_)
 rintro ⟨a86, c87⟩
 refine qe (qY (.cons 0 rfl (.cons 0 rfl .nil)) (qW 0 rfl qV) (qhr 6 10 rfl rfl (by kernel_rfl) rfl rfl ?_ ?_))
 refine yB Int (eI .u8) 5 1 (zA ent33 rfl rfl rfl (fun x88 e88 => qga F 0 ([] : List Int) none 0 x85 a86 c87 x16 x88 e88) .nil (.cons 0 rfl .nil) (.consR 0 (Ro (eI .u64) 72 1 (.slice a86 x85.length c87) x85) rfl .nil) (fun x88 e88 => ?_))
 rintro ⟨a89, c90⟩
 refine qe (qY (.cons 0 rfl (.cons 0 rfl .nil)) (qW 0 rfl qV) (qg 7 (.tuple #[.agg #[.int .i64 x88.1, .slice a89 x88.2.1.length c90], .bool x88.2.2]) rfl rfl rfl (qs rfl) (qg 8 (.agg #[.int .i64 x88.1, .slice a89 x88.2.1.length c90]) rfl rfl rfl (qs rfl) (qg 9 (.bool x88.2.2) rfl rfl rfl (qs rfl) (q6 10 rfl (by kernel_rfl) rfl (zL rfl tf27 rfl (fun g91 => qe (qY (.cons 1 rfl (.cons 1 rfl .nil)) (qW 0 rfl qV) (q6 11 rfl (by kernel_rfl) rfl (qI (i := 0) rfl rfl rfl tf27 rfl rfl rfl rfl rfl (qe (qY (.cons 1 rfl (.cons 1 rfl .nil)) (qW 0 rfl qV) ?_))))))))))))
 exact qg 12 (.bool x88.2.2) rfl rfl rfl (qs rfl) (zm (by kernel_rfl) (z7 (qj ((x88.2.2, x88.1, x88.2.1), (g91, a89, c90)) (hB := (.cons 1 rfl (.cons 0 rfl .nil))) (hR := (.cons 2 rfl (.cons 0 rfl .nil)))) (by intro c h; cases h)))
 refine qhx (m' := ((qbR F 0 ([] : List Int) x85 x16).bind fun x93 => yu F x52 x55 x56 x93.2.2 x93.1 x93.2.1)) (rfl) (zL rfl tf27 rfl (fun g92 => qe (qY (.cons 1 rfl (.cons 1 rfl .nil)) (qW 0 rfl qV) (q6 6 rfl (by kernel_rfl) rfl (yB Int (eI .u8) 5 1 (zA ent33 rfl rfl rfl (fun x93 e93 => qga F 0 ([] : List Int) none 0 x85 a86 c87 x16 x93 e93) .nil (.cons 0 rfl .nil) (.consR 0 (Ro (eI .u64) 72 1 (.slice a86 x85.length c87) x85) rfl .nil) (fun x93 e93 => ?_)))))))
 rintro ⟨a94, c95⟩
 exact qe (qY (.cons 1 rfl (.cons 1 rfl .nil)) (qW 0 rfl qV) (qg 7 (.tuple #[.agg #[.int .i64 x93.1, .slice a94 x93.2.1.length c95], .bool x93.2.2]) rfl rfl rfl (qs rfl) (qg 8 (.agg #[.int .i64 x93.1, .slice a94 x93.2.1.length c95]) rfl rfl rfl (qs rfl) (qg 9 (.bool x93.2.2) rfl rfl rfl (qs rfl) (q6 11 rfl (by kernel_rfl) rfl (qI (i := 0) rfl rfl rfl tf27 rfl rfl rfl rfl rfl (qe (qY (.cons 1 rfl (.cons 1 rfl .nil)) (qW 0 rfl qV) (qg 12 (.bool x93.2.2) rfl rfl rfl (qs rfl) (zm (by kernel_rfl) (z7 (qj ((x93.2.2, x93.1, x93.2.1), (g92, a94, c95)) (hB := (.cons 1 rfl (.cons 0 rfl .nil))) (hR := (.cons 2 rfl (.cons 0 rfl .nil)))) (by intro c h; cases h))))))))))))
 refine qhx (m' := ((qdM F x51 x7).bind fun x97 => ((qbR F 0 ([] : List Int) x97 x16).bind fun x100 => yu F x52 x55 x56 x100.2.2 x100.1 x100.2.1))) (rfl) (zL rfl tf27 rfl (fun g96 => qe (qY (.cons 1 rfl (.cons 1 rfl .nil)) (qW 0 rfl qV) (q6 3 rfl (by kernel_rfl) rfl (qv ent34 rfl rfl rfl (fun x97 e97 => qil F x51 a49 c50 x7 x97 e97) (.consF 0 rfl .nil) (fun x97 e97 => ?_))))))
 rintro ⟨a98, c99⟩
 refine qe (qY (.cons 1 rfl (.cons 1 rfl .nil)) (qW 0 rfl qV) (q6 6 rfl (by kernel_rfl) rfl (yB Int (eI .u8) 5 1 (zA ent33 rfl rfl rfl (fun x100 e100 => qga F 0 ([] : List Int) none 0 x97 a98 c99 x16 x100 e100) .nil (.cons 0 rfl .nil) (.consR 0 (Ro (eI .u64) 72 1 (.slice a98 x97.length c99) x97) rfl .nil) (fun x100 e100 => ?_)))))
 rintro ⟨a101, c102⟩
 exact qe (qY (.cons 1 rfl (.cons 1 rfl .nil)) (qW 0 rfl qV) (qg 7 (.tuple #[.agg #[.int .i64 x100.1, .slice a101 x100.2.1.length c102], .bool x100.2.2]) rfl rfl rfl (qs rfl) (qg 8 (.agg #[.int .i64 x100.1, .slice a101 x100.2.1.length c102]) rfl rfl rfl (qs rfl) (qg 9 (.bool x100.2.2) rfl rfl rfl (qs rfl) (q6 11 rfl (by kernel_rfl) rfl (qI (i := 0) rfl rfl rfl tf27 rfl rfl rfl rfl rfl (qe (qY (.cons 1 rfl (.cons 1 rfl .nil)) (qW 0 rfl qV) (qg 12 (.bool x100.2.2) rfl rfl rfl (qs rfl) (zm (by kernel_rfl) (z7 (qj ((x100.2.2, x100.1, x100.2.1), (g96, a101, c102)) (hB := (.cons 1 rfl (.cons 0 rfl .nil))) (hR := (.cons 2 rfl (.cons 0 rfl .nil)))) (by intro c h; cases h))))))))))))
 rintro ⟨⟨x76, x77, x80⟩, ⟨g75, a78, c79⟩⟩
 try dsimp only
 refine qf (qa (qc rfl rfl rfl (qc rfl rfl rfl (qX rfl rfl rfl (qo rfl rfl qea rfl (qp (i := 0) rfl rfl tf4 rfl rfl (fun _ => rfl) rfl rfl (qc rfl rfl rfl (zH 3 x56 [(0, .pointer (some ⟨g1, 0, none⟩)), (13, .pointer (some ⟨g75, 0, none⟩)), (64, .pointer (some ⟨g1, 0, none⟩)), (72, .bool (x56 || (!x76)))] (fun h81 => ?_) (fun h81 => ?_) ?_))))))))
 exact qw (os := _) rfl (zj (k := 69) rfl h81 (qk rfl rfl rfl (qk rfl rfl rfl (qE (b := true) rfl rfl rfl rfl (qA (d := 72) (v := .bool (x56 || (!x76))) rfl (by rw [h81]; simp only [Bool.true_or]) (qe (qO (qh rfl (qh rfl (qh rfl (qh rfl q8)))))))))))
 exact qw (os := _) rfl (zk (k := 69) rfl h81 (qc rfl rfl rfl (ko rfl rfl rfl (qE (b := false) rfl rfl rfl rfl (qA (d := 72) (v := .bool (x56 || (!x76))) rfl (by rw [h81]; simp only [Bool.false_or]) (qe (qO (qh rfl (qh rfl (qh rfl (qh rfl q8)))))))))))
 refine qw (os := _) rfl (qX rfl rfl rfl (qo rfl rfl qea rfl (qI (i := 0) rfl rfl rfl tf4 rfl rfl rfl rfl rfl (qe (qd (qa (qc rfl rfl rfl (qp (i := 1) rfl rfl tf27 rfl rfl (by simp) rfl rfl (zA ent35 rfl rfl rfl (fun x82 e82 => qdV F g1 x52 x55 a53 c54 (x56 || (!x76)) x77 x80 a78 c79 x82 e82) (.cons 0 rfl .nil) (.cons 0 rfl .nil) (.consR 0 (Ro (eI .u8) 5 1 (.slice a78 x80.length c79) x80) rfl .nil) (fun x82 e82 => ?_))))))))))
 rintro ⟨a83, c84⟩
 exact qe (zT (a83, c84) (res0 rfl) (hB := fun h => by subst h; exact (.cons 0 rfl .nil)) (hR := fun h => by subst h; exact (.cons 0 rfl .nil)))
theorem qeM (F : Nat) (x1 : Int) (x2 : List Int) (a3 : Option Addr) (c4 : Nat) (x5 : List Int) (a6 : Option Addr) (c7 : Nat) (x8 : Int) (x9 : Int) (x10 : Int) (r : (Int × List Int × Int)) (hm : qaR F x1 x2 x5 x8 x9 x10 = some r) :
    Pure Tryz.prog 4 [.int .i64 x1, .slice a3 x2.length c4, .slice a6 x5.length c7, .agg #[.int .i64 x8, .int .i64 x9, .int .i64 x10]] [Sl (eI .i64) 1 (.slice a3 x2.length c4) x2, Sl (eI .i64) 1 (.slice a6 x5.length c7) x5] (Option Addr × Nat) (fun g => .tuple #[.agg #[.int .i64 r.1, .slice g.1 r.2.1.length g.2], .int .i64 r.2.2]) (fun g => [Ro (eI .u8) 5 1 (.slice g.1 r.2.1.length g.2) r.2.1]) (fun _ => []) := by
 refine qQ Tryz.func4 rfl Tryz.ntmps4 rfl hm (fun w => qF (l' := [(0, .int .i64 x1), (1, .slice a3 x2.length c4), (2, .slice a6 x5.length c7), (3, .agg #[.int .i64 x8, .int .i64 x9, .int .i64 x10])]) rfl (qf (qa (zp rfl rfl rfl (fun g11 => zL rfl tf27 rfl (fun g12 => qb rfl rfl rfl (qe (qd (qf (qa (qp (i := 1) rfl rfl tf24 rfl rfl (by simp) rfl rfl (qv ent9 rfl rfl rfl (fun x13 e13 => qdk F x8 x9 x10 x13 e13) .nil (fun x13 e13 => ?_)))))))))))))
 intro _
 refine qb rfl rfl rfl (qe (qd (qC (fun ((x19, _) : (Int × Unit)) => [(0, .int .i64 x1), (1, .slice a3 x2.length c4), (2, .slice a6 x5.length c7), (7, .pointer (some ⟨g11, 0, none⟩)), (8, .pointer (some ⟨g12, 0, none⟩)), (10, .int .i64 x19)]) (fun ((x19, _) : (Int × Unit)) => [⟨g12, 27, [.int .i64 0, .slice none 0 0]⟩, ⟨g11, 24, [.int .i64 x8, .int .i64 x9, .int .i64 x10]⟩]) (fun ((x19, _) : (Int × Unit)) => []) (fun ((x19, _) : (Int × Unit)) => [Sl (eI .i64) 1 (.slice a3 x2.length c4) x2, Sl (eI .i64) 1 (.slice a6 x5.length c7) x5]) (fun ((x19, _) : (Int × Unit)) => vE F x1 x2 x5 x8 x9 x10 x19) ?_ ?_)))
 refine qf (qa (qc rfl rfl rfl (zu rfl rfl rfl rfl (qc rfl rfl rfl (kT 7 (fun ((x40, _) : (Bool × Unit)) => [(0, .int .i64 x1), (1, .slice a3 x2.length c4), (2, .slice a6 x5.length c7), (7, .pointer (some ⟨g11, 0, none⟩)), (8, .pointer (some ⟨g12, 0, none⟩)), (10, .int .i64 x13), (23, .bool x40)]) (fun ((x40, _) : (Bool × Unit)) => [⟨g12, 27, [.int .i64 0, .slice none 0 0]⟩, ⟨g11, 24, [.int .i64 x8, .int .i64 x9, .int .i64 x10]⟩]) (fun ((x40, _) : (Bool × Unit)) => []) (fun ((x40, _) : (Bool × Unit)) => [Sl (eI .i64) 1 (.slice a3 x2.length c4) x2, Sl (eI .i64) 1 (.slice a6 x5.length c7) x5]) (fun ((x40, _) : (Bool × Unit)) => j4 F x1 x2 x5 x8 x9 x10 x13 x40) ?_ ?_)))))
 refine qw (os := _) rfl (jq (fun h38 => ?_) (fun h38 => ?_))
 refine zj (k := 16) rfl h38 (qc rfl rfl rfl (qP rfl rfl rfl rfl (qc rfl rfl rfl (zH 3 (decide (x1 < 0)) [(0, .int .i64 x1), (1, .slice a3 x2.length c4), (2, .slice a6 x5.length c7), (7, .pointer (some ⟨g11, 0, none⟩)), (8, .pointer (some ⟨g12, 0, none⟩)), (10, .int .i64 x13), (16, .bool true), (22, .bool ((decide (x1 < 0)) || (decide (1048576 < x1))))] (fun h42 => ?_) (fun h42 => ?_) ?_))))
 exact qw (os := _) rfl (zj (k := 19) rfl h42 (qk rfl rfl rfl (qk rfl rfl rfl (qE (b := true) rfl rfl rfl rfl (qA (d := 22) (v := .bool ((decide (x1 < 0)) || (decide (1048576 < x1)))) rfl (by rw [h42]; simp only [Bool.true_or]) (qe (qO (qh rfl (qh rfl (qh rfl (qh rfl (qh rfl (qh rfl (qh rfl (qh rfl q8)))))))))))))))
 exact qw (os := _) rfl (zk (k := 19) rfl h42 (qc rfl rfl rfl (zi rfl rfl rfl rfl (qE (b := false) rfl rfl rfl rfl (qA (d := 22) (v := .bool ((decide (x1 < 0)) || (decide (1048576 < x1)))) rfl (by rw [h42]; simp only [Bool.false_or]) (qe (qO (qh rfl (qh rfl (qh rfl (qh rfl (qh rfl (qh rfl (qh rfl (qh rfl q8)))))))))))))))
 exact qw (os := _) rfl (qE (b := true) rfl rfl rfl rfl (qe (qj (((decide (x1 < 0)) || (decide (1048576 < x1))), ()) (hB := (.cons 0 rfl (.cons 0 rfl .nil))) (hF := (qi 0 rfl (qi 1 rfl qu))))))
 exact zk (k := 16) rfl h38 (qk rfl rfl rfl (qk rfl rfl rfl (qk rfl rfl rfl (qk rfl rfl rfl (qk rfl rfl rfl (qk rfl rfl rfl (qE (b := false) rfl rfl rfl rfl (qe (qj (false, ()) (hB := (.cons 0 rfl (.cons 0 rfl .nil))) (hF := (qi 0 rfl (qi 1 rfl qu))))))))))))
 rintro ⟨x40, _⟩
 try dsimp only
 refine qw (os := _) rfl (qe (qd (qy rfl (fun h41 => ?_) (fun h41 => ?_))))
 exact qa (qb rfl rfl rfl (qe (qj (3, ()) (hB := (.cons 0 rfl (.cons 0 rfl .nil))) (hF := (qi 0 rfl (qi 1 rfl qu))))))
 exact ql (qj (x13, ()) (hB := (.cons 0 rfl (.cons 0 rfl .nil))) (hF := (qi 0 rfl (qi 1 rfl qu))))
 rintro ⟨x19, _⟩
 try dsimp only
 refine qC (fun ((x22, _) : (Int × Unit)) => [(0, .int .i64 x1), (1, .slice a3 x2.length c4), (2, .slice a6 x5.length c7), (7, .pointer (some ⟨g11, 0, none⟩)), (8, .pointer (some ⟨g12, 0, none⟩)), (10, .int .i64 x22)]) (fun ((x22, _) : (Int × Unit)) => [⟨g12, 27, [.int .i64 0, .slice none 0 0]⟩, ⟨g11, 24, [.int .i64 x8, .int .i64 x9, .int .i64 x10]⟩]) (fun ((x22, _) : (Int × Unit)) => []) (fun ((x22, _) : (Int × Unit)) => [Sl (eI .i64) 1 (.slice a3 x2.length c4) x2, Sl (eI .i64) 1 (.slice a6 x5.length c7) x5]) (fun ((x22, _) : (Int × Unit)) => vG F x1 x2 x5 x8 x9 x10 x22) ?_ ?_
 refine qf (qa (qc rfl rfl rfl (zu rfl rfl rfl rfl (qe (qd (qy rfl (fun h37 => ?_) (fun h37 => ?_)))))))
 refine qa (qc rfl rfl rfl (qv ent13 rfl rfl rfl (fun x36 e36 => qcn F x2 a3 c4 x36 e36) (.consF 0 rfl .nil) (fun x36 e36 => ?_)))
 intro _
 exact qb rfl rfl rfl (qe (qj (x36, ()) (hB := (.cons 0 rfl (.cons 0 rfl .nil))) (hF := (qi 0 rfl (qi 1 rfl qu)))))
 exact ql (qj (x19, ()) (hB := (.cons 0 rfl (.cons 0 rfl .nil))) (hF := (qi 0 rfl (qi 1 rfl qu))))
 rintro ⟨x22, _⟩
 try dsimp only
 refine qC (fun ((x25, _) : (Int × Unit)) => [(0, .int .i64 x1), (1, .slice a3 x2.length c4), (2, .slice a6 x5.length c7), (7, .pointer (some ⟨g11, 0, none⟩)), (8, .pointer (some ⟨g12, 0, none⟩)), (10, .int .i64 x25)]) (fun ((x25, _) : (Int × Unit)) => [⟨g12, 27, [.int .i64 0, .slice none 0 0]⟩, ⟨g11, 24, [.int .i64 x8, .int .i64 x9, .int .i64 x10]⟩]) (fun ((x25, _) : (Int × Unit)) => []) (fun ((x25, _) : (Int × Unit)) => [Sl (eI .i64) 1 (.slice a3 x2.length c4) x2, Sl (eI .i64) 1 (.slice a6 x5.length c7) x5]) (fun ((x25, _) : (Int × Unit)) => j3 F x1 x2 x5 x8 x9 x10 x25) ?_ ?_
 refine qf (qa (qc rfl rfl rfl (zu rfl rfl rfl rfl (qe (qd (qy rfl (fun h35 => ?_) (fun h35 => ?_)))))))
 refine qa (qc rfl rfl rfl (qc rfl rfl rfl (qp (i := 1) rfl rfl tf24 rfl rfl (by simp) rfl rfl (qv ent14 rfl rfl rfl (fun x34 e34 => qgI F x1 x5 a6 c7 x8 x9 x10 x34 e34) (.consF 1 rfl .nil) (fun x34 e34 => ?_)))))
 intro _
 exact qb rfl rfl rfl (qe (qj (x34, ()) (hB := (.cons 0 rfl (.cons 0 rfl .nil))) (hF := (qi 0 rfl (qi 1 rfl qu)))))
 exact ql (qj (x22, ()) (hB := (.cons 0 rfl (.cons 0 rfl .nil))) (hF := (qi 0 rfl (qi 1 rfl qu))))
 rintro ⟨x25, _⟩
 try dsimp only
 refine qf (qf (qa (qc rfl rfl rfl (kD rfl rfl rfl rfl (qe (qd (qy rfl (fun h33 => ?_) (fun h33 => ?_))))))))
 exact qf (qa (zX (cells := [.int .i64 0, .slice none 0 0]) rfl st27 rfl (by kernel_rfl) rfl (qc rfl rfl rfl (qI (i := 0) rfl rfl rfl tf27 rfl rfl rfl rfl rfl (qb rfl rfl rfl (qe (qd (qr (qn (qU Int (eI .u8) 5 1 (qm (none, 0) (resL (rs := [.cell 8 27, .tmp 9]) rfl (.cell (i := 0) rfl tf27 rfl rfl (by simp) rfl (.tmp rfl ResOk.nil)) rfl) (fun h => by subst h; exact (.cons 0 rfl .nil)))))))))))))
 refine ql (qd (qf (qa (zX (cells := [.int .i64 0, .slice none 0 0, .bool false]) rfl st42 rfl (by kernel_rfl) rfl (zp rfl rfl rfl (fun g27 => qb rfl rfl rfl (qe (qd (qf (qa (qc rfl rfl rfl (qc rfl rfl rfl ?_))))))))))))
 refine qc rfl rfl rfl (qc rfl rfl rfl (qp (i := 2) rfl rfl tf24 rfl rfl (by simp) rfl rfl (yB Int (eI .u8) 5 1 (zA ent15 rfl rfl rfl (fun x28 e28 => qdz F g27 0 ([] : List Int) none 0 false x1 x2 a3 c4 x5 a6 c7 x8 x9 x10 x28 e28) (.cons 0 rfl .nil) (.cons 0 rfl .nil) (.consF 0 rfl (.consF 1 rfl .nil)) (fun x28 e28 => ?_)))))
 rintro ⟨a29, c30⟩
 refine qe (qd (qf (qf (qa (qc rfl rfl rfl (qX rfl rfl rfl (qo rfl rfl qea rfl (qp (i := 0) rfl rfl tf4 rfl rfl (fun _ => rfl) rfl rfl (qe (qd (qy rfl (fun h32 => ?_) (fun h32 => ?_))))))))))))
 exact qf (qa (zX (cells := [.int .i64 0, .slice none 0 0]) rfl st27 rfl (by kernel_rfl) rfl (qI (i := 1) rfl rfl rfl tf27 rfl rfl rfl rfl rfl (qb rfl rfl rfl (qe (qd (qr (qn (qU Int (eI .u8) 5 1 (qm (none, 0) (resL (rs := [.cell 8 27, .tmp 9]) rfl (.cell (i := 1) rfl tf27 rfl rfl (by simp) rfl (.tmp rfl ResOk.nil)) rfl) (fun h => by subst h; exact (.cons 0 rfl .nil))))))))))))
 refine ql (qd (qf (qa (qc rfl rfl rfl (qX rfl rfl rfl (qo rfl rfl qf1 rfl (qp (i := 0) rfl rfl tf27 rfl rfl (by simp) rfl rfl (qI (i := 1) rfl rfl rfl tf27 rfl rfl rfl rfl rfl (qb rfl rfl rfl (qe (qd (qr ?_))))))))))))
 exact qm (a29, c30) (resL (rs := [.cell 8 27, .tmp 9]) rfl (.cell (i := 1) rfl tf27 rfl rfl (by simp) rfl (.tmp rfl ResOk.nil)) rfl) (fun h => by subst h; exact (.cons 0 rfl .nil))
theorem qkj (F : Nat) (x1 : Int) (x2 : List Int) (a3 : Option Addr) (c4 : Nat) (r : Int) (hm : qdj F x1 x2 = some r) :
    Pure Tryz.prog 36 [.agg #[.int .i64 x1, .slice a3 x2.length c4]] [Sl (eI .u8) 1 (.slice a3 x2.length c4) x2] Unit (fun _ => .int .i64 r) (fun _ => []) (fun _ => []) := by
  refine qQ Tryz.func36 rfl Tryz.ntmps36 rfl hm (fun w => ?_)
  refine qF (l' := [(0, .agg #[.int .i64 x1, .slice a3 x2.length c4])]) rfl ?_
  refine qf ?_
  refine qa ?_
  refine zp rfl rfl rfl (fun g5 => ?_)
  refine qb rfl rfl rfl ?_
  refine qe ?_
  refine qd ?_
  refine qf ?_
  refine qt ?_
  refine qf ?_
  refine qa ?_
  refine qo rfl rfl kW rfl ?_
  refine qp (i := 0) rfl rfl tf3 rfl rfl (fun _ => rfl) rfl rfl ?_
  refine qP rfl rfl rfl rfl ?_
  refine qc rfl rfl rfl ?_
  refine zH 4 (decide (x1 < 0)) [(1, .pointer (some ⟨g5, 0, none⟩)), (11, .bool ((decide (x1 < 0)) || (decide (8192 < x1))))] (fun h27 => ?_) (fun h27 => ?_) ?_
  · refine qw (os := _) rfl ?_
    refine zj (k := 7) rfl h27 ?_
    refine qk rfl rfl rfl ?_
    refine qk rfl rfl rfl ?_
    refine qk rfl rfl rfl ?_
    refine qE (b := true) rfl rfl rfl rfl ?_
    refine qA (d := 11) (v := .bool ((decide (x1 < 0)) || (decide (8192 < x1)))) rfl (by rw [h27]; simp only [Bool.true_or]) ?_
    refine qe ?_
    exact qO (qh rfl (qh rfl q8))
  · refine qw (os := _) rfl ?_
    refine zk (k := 7) rfl h27 ?_
    refine qo rfl rfl kW rfl ?_
    refine qp (i := 0) rfl rfl tf3 rfl rfl (fun _ => rfl) rfl rfl ?_
    refine zi rfl rfl rfl rfl ?_
    refine qE (b := false) rfl rfl rfl rfl ?_
    refine qA (d := 11) (v := .bool ((decide (x1 < 0)) || (decide (8192 < x1)))) rfl (by rw [h27]; simp only [Bool.false_or]) ?_
    refine qe ?_
    exact qO (qh rfl (qh rfl q8))
  refine qw (os := _) rfl ?_
  refine qb rfl rfl rfl ?_
  refine qe ?_
  refine qd ?_
  refine qy rfl (fun h47 => ?_) (fun h47 => ?_)
  · refine qf ?_
    refine qa ?_
    refine qb rfl rfl rfl ?_
    refine qe ?_
    refine qd ?_
    refine qr ?_
    refine qR ?_
    refine qn ?_
    exact qm () (res1 rfl rfl)
  · refine qf ?_
    refine qa ?_
    refine qo rfl rfl qbT rfl ?_
    refine qp (i := 0) rfl rfl tf25 rfl rfl (fun _ => rfl) rfl rfl ?_
    refine qN rfl Tryz.underlying25 rfl rfl ?_
    refine qo rfl rfl kW rfl ?_
    refine qp (i := 0) rfl rfl tf3 rfl rfl (fun _ => rfl) rfl rfl ?_
    refine qD rfl rfl rfl rfl ?_
    refine qbL rfl rfl rfl rfl rfl ?_
    refine kD rfl rfl rfl rfl ?_
    refine qb rfl rfl rfl ?_
    refine qe ?_
    refine qd ?_
    refine qy rfl (fun h46 => ?_) (fun h46 => ?_)
    · refine qf ?_
      refine qa ?_
      refine qb rfl rfl rfl ?_
      refine qe ?_
      refine qd ?_
      refine qr ?_
      refine qR ?_
      refine qn ?_
      exact qm () (res1 rfl rfl)
    · refine qC (fun ((x36, _) : (Bool × Unit)) => [(21, .bool x36)]) (fun ((x36, _) : (Bool × Unit)) => []) (fun ((x36, _) : (Bool × Unit)) => []) (fun ((x36, _) : (Bool × Unit)) => []) (fun ((x36, _) : (Bool × Unit)) => qaa F x36) ?_ ?_
      · refine qdv (fun h38 => ?_) (fun h38 => ?_)
        · refine vm (j := 0) (qL .u8) (by decide) rfl (fun x39 e39 b40 o41 h42 => ?_)
          replace h42 : a3 = some ⟨b40, o41, none⟩ := h42
          refine qeY (fun h43 => ?_)
          refine zP mixed [] [⟨g5, 27, [.int .i64 x1, .slice a3 x2.length c4]⟩] [zG b40 (o41 + (isub .i64 (x2.length : Int) 1).toNat * 1) ((eI .u8) x39), Sl (eI .u8) 1 (.slice a3 x2.length c4) x2] (.cons 0 rfl .nil) (qW 0 rfl (qW 1 rfl qV)) 20 rfl ?_
          refine qg 0 (.pointer (some ⟨g5, 0, none⟩)) rfl rfl rfl (qK rfl kW) ?_
          refine zF 1 (.int .i64 x1) rfl rfl rfl (zB (i := 0) rfl tf3 rfl rfl (fun _ => rfl) rfl) ?_
          refine qg 2 (.int .i64 (irem x1 8)) rfl rfl rfl (qke rfl rfl rfl) ?_
          refine qg 3 (.bool (((irem x1 8) : Int) != 0)) rfl rfl rfl (qs rfl) ?_
          refine qg 4 (.bool (((irem x1 8) : Int) != 0)) rfl rfl rfl (qs rfl) ?_
          refine qJ (d := 26) (v := .bool true) rfl (by rw [h38] <;> rfl) ?_
          refine qg 5 (.pointer (some ⟨g5, 1, none⟩)) rfl rfl rfl (qK rfl qbT) ?_
          refine zF 6 (.slice a3 x2.length c4) rfl rfl rfl (zB (i := 0) rfl tf25 rfl rfl (fun _ => rfl) rfl) ?_
          refine qg 7 (.pointer (some ⟨g5, 1, none⟩)) rfl rfl rfl (qK rfl qbT) ?_
          refine zF 8 (.slice a3 x2.length c4) rfl rfl rfl (zB (i := 0) rfl tf25 rfl rfl (fun _ => rfl) rfl) ?_
          refine qg 9 (.int .i64 (x2.length : Int)) rfl rfl rfl (qks Tryz.underlying25 rfl) ?_
          refine qg 10 (.int .i64 (isub .i64 (x2.length : Int) 1)) rfl rfl rfl (qs rfl) ?_
          refine qJ (d := 28) (v := .slice (some ⟨b40, o41, none⟩) x2.length c4) rfl (by rw [h42] <;> rfl) ?_
          refine qg 11 (.pointer (some ⟨b40, (o41 + (isub .i64 (x2.length : Int) 1).toNat * 1), none⟩)) rfl rfl rfl (qbj Tryz.underlying25 tf5 rfl rfl (zW e39).1 (vx e39)) ?_
          refine qJ (d := 28) (v := .slice a3 x2.length c4) rfl (by rw [h42] <;> rfl) ?_
          refine z8 12 (.int .u8 x39) [] rfl rfl rfl (yC (j := 0) rfl tf5 rfl rfl (fun _ => rfl) rfl) ?_
          refine qg 13 (.pointer (some ⟨g5, 0, none⟩)) rfl rfl rfl (qK rfl kW) ?_
          refine zF 14 (.int .i64 x1) rfl rfl rfl (zB (i := 0) rfl tf3 rfl rfl (fun _ => rfl) rfl) ?_
          refine qg 15 (.int .i64 (irem x1 8)) rfl rfl rfl (qke rfl rfl rfl) ?_
          refine qg 16 (.int .u8 (ishl .u8 x39 (irem x1 8))) rfl rfl rfl (qf9 rfl rfl h43) ?_
          refine qg 17 (.bool (((ishl .u8 x39 (irem x1 8)) : Int) != 0)) rfl rfl rfl (qs rfl) ?_
          refine qg 18 (.bool (((ishl .u8 x39 (irem x1 8)) : Int) != 0)) rfl rfl rfl (qs rfl) ?_
          refine qg 19 (.bool (((ishl .u8 x39 (irem x1 8)) : Int) != 0)) rfl rfl rfl (qs rfl) ?_
          refine zm (by kernel_rfl) ?_
          refine z7 ?_ (by intro c h; cases h)
          exact qj ((((ishl .u8 x39 (irem x1 8)) : Int) != 0), ())
        · refine zP mixed [] [⟨g5, 27, [.int .i64 x1, .slice a3 x2.length c4]⟩] [Sl (eI .u8) 1 (.slice a3 x2.length c4) x2] (.cons 0 rfl .nil) (qW 0 rfl qV) 20 rfl ?_
          refine qg 0 (.pointer (some ⟨g5, 0, none⟩)) rfl rfl rfl (qK rfl kW) ?_
          refine zF 1 (.int .i64 x1) rfl rfl rfl (zB (i := 0) rfl tf3 rfl rfl (fun _ => rfl) rfl) ?_
          refine qg 2 (.int .i64 (irem x1 8)) rfl rfl rfl (qke rfl rfl rfl) ?_
          refine qg 3 (.bool (((irem x1 8) : Int) != 0)) rfl rfl rfl (qs rfl) ?_
          refine qg 4 (.bool (((irem x1 8) : Int) != 0)) rfl rfl rfl (qs rfl) ?_
          refine qJ (d := 26) (v := .bool false) rfl (by rw [h38] <;> rfl) ?_
          refine qB 5 rfl rfl rfl ?_
          refine qB 6 rfl rfl rfl ?_
          refine qB 7 rfl rfl rfl ?_
          refine qB 8 rfl rfl rfl ?_
          refine qB 9 rfl rfl rfl ?_
          refine qB 10 rfl rfl rfl ?_
          refine qB 11 rfl rfl rfl ?_
          refine qB 12 rfl rfl rfl ?_
          refine qB 13 rfl rfl rfl ?_
          refine qB 14 rfl rfl rfl ?_
          refine qB 15 rfl rfl rfl ?_
          refine qB 16 rfl rfl rfl ?_
          refine qB 17 rfl rfl rfl ?_
          refine qg 18 (.bool false) rfl rfl rfl (qs rfl) ?_
          refine qg 19 (.bool false) rfl rfl rfl (qs rfl) ?_
          refine zm (by kernel_rfl) ?_
          refine z7 ?_ (by intro c h; cases h)
          exact qj (false, ())
      · rintro ⟨x36, _⟩
        try dsimp only
        refine qy rfl (fun h37 => ?_) (fun h37 => ?_)
        · refine qf ?_
          refine qa ?_
          refine qb rfl rfl rfl ?_
          refine qe ?_
          refine qd ?_
          refine qr ?_
          refine qR ?_
          refine qn ?_
          exact qm () (res1 rfl rfl)
        · refine ql ?_
          refine qH ?_
          refine qd ?_
          refine qf ?_
          refine qa ?_
          refine qb rfl rfl rfl ?_
          refine qe ?_
          refine qd ?_
          refine qr ?_
          exact qm () (res1 rfl rfl)
theorem qit (F : Nat) (x1 : Int) (x2 : List Int) (a3 : Option Addr) (c4 : Nat) (x5 : Int) (r : Int) (hm : qc2 F x1 x2 x5 = some r) :
    Pure Tryz.prog 16 [.agg #[.int .i64 x1, .slice a3 x2.length c4], .int .i64 x5] [Sl (eI .u8) 1 (.slice a3 x2.length c4) x2] Unit (fun _ => .int .i64 r) (fun _ => []) (fun _ => []) := by
 refine qQ Tryz.func16 rfl Tryz.ntmps16 rfl hm (fun w => qF (l' := [(0, .agg #[.int .i64 x1, .slice a3 x2.length c4]), (1, .int .i64 x5)]) rfl (qf (qa (zp rfl rfl rfl (fun g6 => qb rfl rfl rfl (qe (qd (qf (qa (qp (i := 0) rfl rfl tf27 rfl rfl (by simp) rfl rfl (qv ent36 rfl rfl rfl (fun x7 e7 => qkj F x1 x2 a3 c4 x7 e7) (.consF 0 rfl .nil) (fun x7 e7 => ?_))))))))))))
 intro _
 refine qb rfl rfl rfl (qe (qd (qC (fun ((x13, _) : (Int × Unit)) => [(5, .int .i64 x13)]) (fun ((x13, _) : (Int × Unit)) => []) (fun ((x13, _) : (Int × Unit)) => []) (fun ((x13, _) : (Int × Unit)) => []) (fun ((x13, _) : (Int × Unit)) => qa2 F x13) ?_ ?_)))
 refine qf (qa (qc rfl rfl rfl (zu rfl rfl rfl rfl (qc rfl rfl rfl (kT 9 (fun ((x16, _) : (Bool × Unit)) => [(5, .int .i64 x7), (19, .bool x16)]) (fun ((x16, _) : (Bool × Unit)) => []) (fun ((x16, _) : (Bool × Unit)) => []) (fun ((x16, _) : (Bool × Unit)) => []) (fun ((x16, _) : (Bool × Unit)) => qa0 F x7 x16) ?_ ?_)))))
 refine qw (os := _) rfl (jq (fun h14 => ?_) (fun h14 => ?_))
 refine zj (k := 10) rfl h14 (qc rfl rfl rfl (qP rfl rfl rfl rfl (qc rfl rfl rfl (zH 5 (decide (x5 < 0)) [(5, .int .i64 x7), (10, .bool true), (18, .bool ((decide (x5 < 0)) || (decide (x1 < x5))))] (fun h18 => ?_) (fun h18 => ?_) ?_))))
 exact qw (os := _) rfl (zj (k := 13) rfl h18 (qk rfl rfl rfl (qk rfl rfl rfl (qk rfl rfl rfl (qk rfl rfl rfl (qE (b := true) rfl rfl rfl rfl (qA (d := 18) (v := .bool ((decide (x5 < 0)) || (decide (x1 < x5)))) rfl (by rw [h18]; simp only [Bool.true_or]) (qe (qO (qh rfl (qh rfl (qh rfl q8))))))))))))
 exact qw (os := _) rfl (zk (k := 13) rfl h18 (qc rfl rfl rfl (qo rfl rfl kW rfl (qp (i := 0) rfl rfl tf3 rfl rfl (fun _ => rfl) rfl rfl (zi rfl rfl rfl rfl (qE (b := false) rfl rfl rfl rfl (qA (d := 18) (v := .bool ((decide (x5 < 0)) || (decide (x1 < x5)))) rfl (by rw [h18]; simp only [Bool.false_or]) (qe (qO (qh rfl (qh rfl (qh rfl q8))))))))))))
 exact qw (os := _) rfl (qE (b := true) rfl rfl rfl rfl (qe (qj (((decide (x5 < 0)) || (decide (x1 < x5))), ()))))
 exact zk (k := 10) rfl h14 (qk rfl rfl rfl (qk rfl rfl rfl (qk rfl rfl rfl (qk rfl rfl rfl (qk rfl rfl rfl (qk rfl rfl rfl (qk rfl rfl rfl (qk rfl rfl rfl (qE (b := false) rfl rfl rfl rfl (qe (qj (false, ()))))))))))))
 rintro ⟨x16, _⟩
 try dsimp only
 refine qw (os := _) rfl (qe (qd (qy rfl (fun h17 => ?_) (fun h17 => ?_))))
 exact qa (qb rfl rfl rfl (qe (qj (3, ()))))
 exact ql (qj (x7, ()))
 rintro ⟨x13, _⟩
 try dsimp only
 exact qf (qa (qc rfl rfl rfl (qb rfl rfl rfl (qe (qd (qr (qm () (res1 rfl rfl))))))))
theorem jD (F : Nat) (x1 : Bool) (r : (Unit ⊕ Unit)) (hm : yo F x1 = some r) :
    PureL Tryz.prog 60 [.bool x1] [] [] [] lostCh Unit (fun (_ : Unit) (_ : Unit) => .tuple #[]) (fun (_ : Unit) (_ : Unit) => []) (fun (_ : Unit) (_ : Unit) => []) (fun (_ : Unit) => []) r := by
 refine qfp Tryz.func60 rfl Tryz.ntmps60 rfl hm (fun w => qF (l' := [(0, .bool x1)]) rfl (qf (qa (qc rfl rfl rfl (ko rfl rfl rfl (qe (qd (qy rfl (fun h2 => ?_) (fun h2 => ?_)))))))))
 exact qa (zX (cells := []) rfl st100 rfl (by kernel_rfl) rfl (qnH rfl rfl (qpD _) rfl (qnT rfl rfl (vi .nil))))
 exact ql (qcw () (.inr rfl) (res0 rfl) rfl .nil .nil)
theorem qgj (F : Nat) (x1 : Int) (x2 : List Int) (a3 : Option Addr) (c4 : Nat) (x5 : Int) (r : (Int × Int × Bool)) (hm : qcf F x1 x2 x5 = some r) :
    Pure Tryz.prog 115 [.agg #[.int .i64 x1, .slice a3 x2.length c4], .int .i64 x5] [Sl (eI .u8) 1 (.slice a3 x2.length c4) x2] Unit (fun _ => .tuple #[.int .u64 r.1, .int .i64 r.2.1, .bool r.2.2]) (fun _ => []) (fun _ => []) := by
 refine qQ Tryz.func115 rfl Tryz.ntmps115 rfl hm (fun w => qF (l' := [(0, .agg #[.int .i64 x1, .slice a3 x2.length c4]), (1, .int .i64 x5)]) rfl (qf (qa (zp rfl rfl rfl (fun g6 => qb rfl rfl rfl (qb rfl rfl rfl (qb rfl rfl rfl (qe (qd (qC (fun ((_, _) : (Unit × Unit)) => []) (fun ((_, _) : (Unit × Unit)) => []) (fun ((_, _) : (Unit × Unit)) => []) (fun ((_, _) : (Unit × Unit)) => []) (fun ((_, _) : (Unit × Unit)) => qe4 F) ?_ ?_))))))))))
 refine qf (qa (qc rfl rfl rfl (qb rfl rfl rfl (qe (qd (qt (qM (fun ((x33, _) : (Int × Unit)) => [(1, .int .i64 x5), (2, .pointer (some ⟨g6, 0, none⟩)), (7, .int .i64 x33)]) (fun ((x33, _) : (Int × Unit)) => [⟨g6, 27, [.int .i64 x1, .slice a3 x2.length c4]⟩]) (fun ((x33, _) : (Int × Unit)) => []) (fun ((x33, _) : (Int × Unit)) => [Sl (eI .u8) 1 (.slice a3 x2.length c4) x2]) (fun k (s : (Int × Unit)) => vI F x1 x2 x5 k s.1) (x5, ()) F ?_ (hB := (.cons 0 rfl .nil)) (hF := (qi 0 rfl qu)))))))))
 intro k40
 rintro ⟨x33, _⟩
 try dsimp only
 refine qZ (m' := qbE F x1 x2 x5 (vI F x1 x2 x5 k40) x33) rfl (qf (qf (qa (qc rfl rfl rfl (qo rfl rfl kW rfl (qp (i := 0) rfl rfl tf3 rfl rfl (fun _ => rfl) rfl rfl (qP rfl rfl rfl rfl (qe (qd (qy rfl (fun h46 => ?_) (fun h46 => ?_)))))))))))
 refine ql (qd (qf (qt (qf (qa (qp (i := 0) rfl rfl tf27 rfl rfl (by simp) rfl rfl (qc rfl rfl rfl (qv ent61 rfl rfl rfl (fun x44 e44 => qep F x1 x2 a3 c4 x33 x44 e44) (.consF 0 rfl .nil) (fun x44 e44 => ?_)))))))))
 intro _
 refine zu rfl rfl rfl rfl (qe (qd (qy rfl (fun h45 => ?_) (fun h45 => ?_))))
 refine qf (qa (qc rfl rfl rfl (qc rfl rfl rfl (zd rfl rfl rfl rfl (q9 rfl Tryz.underlying3 Tryz.underlying72 rfl rfl (qc rfl rfl rfl (qD rfl rfl rfl rfl (qb rfl rfl rfl (qb rfl rfl rfl (qb rfl rfl rfl (qe (qd ?_))))))))))))
 exact qr (qR (qn (qn (qR (qn (qm () (res3 rfl rfl rfl rfl)))))))
 exact ql (qH (qd (qa (qc rfl rfl rfl (qD rfl rfl rfl rfl (qb rfl rfl rfl (qe (qG (iadd .i64 x33 1, ()) (hB := (.cons 0 rfl .nil)) (hF := (qi 0 rfl qu))))))))))
 exact qS (qx (qx (qT (qj ((), ())))))
 rintro ⟨_, _⟩
 try dsimp only
 exact qf (qa (qb rfl rfl rfl (qb rfl rfl rfl (qb rfl rfl rfl (qe (qd (qr (qm () (res3 rfl rfl rfl rfl)))))))))
theorem qfI (F : Nat) (x1 : Int) (x2 : List Int) (a3 : Option Addr) (c4 : Nat) (x5 : Int) (r : (Int × Int × Int)) (hm : qbk F x1 x2 x5 = some r) :
    Pure Tryz.prog 112 [.agg #[.int .i64 x1, .slice a3 x2.length c4], .int .i64 x5] [Sl (eI .u8) 1 (.slice a3 x2.length c4) x2] Unit (fun _ => .tuple #[.int .u64 r.1, .int .i64 r.2.1, .int .i64 r.2.2]) (fun _ => []) (fun _ => []) := by
 refine qQ Tryz.func112 rfl Tryz.ntmps112 rfl hm (fun w => qF (l' := [(0, .agg #[.int .i64 x1, .slice a3 x2.length c4]), (1, .int .i64 x5)]) rfl (qf (qa (zp rfl rfl rfl (fun g6 => qb rfl rfl rfl (qb rfl rfl rfl (qb rfl rfl rfl (qe (qd (qf (qa (qp (i := 0) rfl rfl tf27 rfl rfl (by simp) rfl rfl ?_))))))))))))
 refine qc rfl rfl rfl (qv ent115 rfl rfl rfl (fun x7 e7 => qgj F x1 x2 a3 c4 x5 x7 e7) (.consF 0 rfl .nil) (fun x7 e7 => ?_))
 intro _
 refine qc rfl rfl rfl (qq rfl rfl rfl rfl (qq rfl rfl rfl rfl (qq rfl rfl rfl rfl (qb rfl rfl rfl (qb rfl rfl rfl (qb rfl rfl rfl (qe (qd (qf (qf (qa (qc rfl rfl rfl ?_))))))))))))
 refine ko rfl rfl rfl (qe (qd (qy rfl (fun h9 => ?_) (fun h9 => ?_))))
 exact qf (qa (qb rfl rfl rfl (qb rfl rfl rfl (qb rfl rfl rfl (qe (qd (qr (qn (qm () (res3 rfl rfl rfl rfl))))))))))
 exact ql (qd (qf (qa (qc rfl rfl rfl (qc rfl rfl rfl (qb rfl rfl rfl (qb rfl rfl rfl (qb rfl rfl rfl (qe (qd (qr (qm () (res3 rfl rfl rfl rfl)))))))))))))
theorem qfn (F : Nat) (x1 : Int) (x2 : List Int) (a3 : Option Addr) (c4 : Nat) (x5 : Int) (x6 : Int) (r : (Int × Bool)) (hm : jB F x1 x2 x5 x6 = some r) :
    Pure Tryz.prog 127 [.agg #[.int .i64 x1, .slice a3 x2.length c4], .int .i64 x5, .int .i64 x6] [Sl (eI .u8) 1 (.slice a3 x2.length c4) x2] Unit (fun _ => .tuple #[.int .u64 r.1, .bool r.2]) (fun _ => []) (fun _ => []) := by
 refine qQ Tryz.func127 rfl Tryz.ntmps127 rfl hm (fun w => qF (l' := [(0, .agg #[.int .i64 x1, .slice a3 x2.length c4]), (1, .int .i64 x5), (2, .int .i64 x6)]) rfl (qf (qa (zp rfl rfl rfl (fun g7 => qb rfl rfl rfl (qb rfl rfl rfl (qe (qd (qf (qf (qa (qo rfl rfl kW rfl ?_))))))))))))
 refine qp (i := 0) rfl rfl tf3 rfl rfl (fun _ => rfl) rfl rfl (qc rfl rfl rfl (zd rfl rfl rfl rfl (qc rfl rfl rfl (qP rfl rfl rfl rfl (qe (qd (qy rfl (fun h40 => ?_) (fun h40 => ?_))))))))
 exact qf (qa (qb rfl rfl rfl (qb rfl rfl rfl (qe (qd (qr (qn (qm () (res2 rfl rfl rfl)))))))))
 refine ql (qd (qC (fun ((x24, _) : (Int × Unit)) => [(6, .int .u64 x24)]) (fun ((x24, _) : (Int × Unit)) => []) (fun ((x24, _) : (Int × Unit)) => []) (fun ((x24, _) : (Int × Unit)) => []) (fun ((x24, _) : (Int × Unit)) => qdw F x24) ?_ ?_))
 refine qf (qa (qc rfl rfl rfl (qc rfl rfl rfl (qe (qd (qt (qM (fun (((x29, x30), _) : ((Int × Int) × Unit)) => [(1, .int .i64 x5), (3, .pointer (some ⟨g7, 0, none⟩)), (6, .int .u64 x29), (15, .int .i64 x6), (16, .int .i64 x30)]) (fun (((x29, x30), _) : ((Int × Int) × Unit)) => [⟨g7, 27, [.int .i64 x1, .slice a3 x2.length c4]⟩]) (fun (((x29, x30), _) : ((Int × Int) × Unit)) => []) (fun (((x29, x30), _) : ((Int × Int) × Unit)) => [Sl (eI .u8) 1 (.slice a3 x2.length c4) x2]) (fun k (s : ((Int × Int) × Unit)) => jo F x1 x2 x5 x6 k s.1) ((0, 0), ()) F ?_ (hB := (.cons 0 rfl .nil)) (hF := (qi 0 rfl qu)))))))))
 intro k35
 rintro ⟨⟨x29, x30⟩, _⟩
 try dsimp only
 refine qZ (m' := qcj F x1 x2 x5 x6 (jo F x1 x2 x5 x6 k35) x29 x30) rfl (qf (qa (qP rfl rfl rfl rfl (qe (qd (qf (qy rfl (fun h39 => ?_) (fun h39 => ?_))))))))
 refine ql (qd (qf (qt (qf (qa (qc rfl rfl rfl (qb rfl rfl rfl (qe (qd (qa (qc rfl rfl rfl (qa5 rfl rfl rfl rfl rfl ?_))))))))))))
 refine qp (i := 0) rfl rfl tf27 rfl rfl (by simp) rfl rfl (qc rfl rfl rfl (qc rfl rfl rfl (qD rfl rfl rfl rfl (qv ent61 rfl rfl rfl (fun x38 e38 => qep F x1 x2 a3 c4 (iadd .i64 x5 x30) x38 e38) (.consF 0 rfl .nil) (fun x38 e38 => ?_)))))
 intro _
 exact qqw rfl rfl rfl rfl (qb rfl rfl rfl (qe (qH (qd (qa (qD rfl rfl rfl rfl (qc rfl rfl rfl (qe (qG ((ior .u64 (ishl .u64 x29 1) x38, iadd .i64 x30 1), ()) (hB := (.cons 0 rfl .nil)) (hF := (qi 0 rfl qu)))))))))))
 exact qS (qx (qx (qT (qj (x29, ())))))
 rintro ⟨x24, _⟩
 try dsimp only
 exact qf (qa (qc rfl rfl rfl (qb rfl rfl rfl (qb rfl rfl rfl (qe (qd (qr (qm () (res2 rfl rfl rfl)))))))))
theorem qaJ (F : Nat) (x1 : Int) (x2 : List Int) (a3 : Option Addr) (c4 : Nat) (x5 : Int) (r : (Int × Int × Int)) (hm : ky F x1 x2 x5 = some r) :
    Pure Tryz.prog 113 [.func (.func 112) #[] #[], .agg #[.int .i64 x1, .slice a3 x2.length c4], .int .i64 x5] [Sl (eI .u8) 1 (.slice a3 x2.length c4) x2] Unit (fun _ => .tuple #[.int .u64 r.1, .int .i64 r.2.1, .int .i64 r.2.2]) (fun _ => []) (fun _ => []) := by
 refine qQ Tryz.func113 rfl Tryz.ntmps113 rfl hm (fun w => qF (l' := [(0, .func (.func 112) #[] #[]), (1, .agg #[.int .i64 x1, .slice a3 x2.length c4]), (2, .int .i64 x5)]) rfl (qf (qa (zp rfl rfl rfl (fun g6 => qb rfl rfl rfl (qb rfl rfl rfl (qb rfl rfl rfl (qe (qd (qf (qa (qc rfl rfl rfl ?_))))))))))))
 refine qp (i := 0) rfl rfl tf27 rfl rfl (by simp) rfl rfl (qc rfl rfl rfl (qnM ent112 rfl rfl rfl rfl (fun x7 e7 => qfI F x1 x2 a3 c4 x5 x7 e7) (.consF 0 rfl .nil) (fun x7 e7 => ?_)))
 intro _
 refine qc rfl rfl rfl (qq rfl rfl rfl rfl (qq rfl rfl rfl rfl (qq rfl rfl rfl rfl (qb rfl rfl rfl (qb rfl rfl rfl (qb rfl rfl rfl (qe (qd (qf (qf (qa (qc rfl rfl rfl ?_))))))))))))
 refine kD rfl rfl rfl rfl (qe (qd (qy rfl (fun h20 => ?_) (fun h20 => ?_))))
 exact qf (qa (qc rfl rfl rfl (qb rfl rfl rfl (qb rfl rfl rfl (qb rfl rfl rfl (qe (qd (qr (qn (qm () (res3 rfl rfl rfl rfl)))))))))))
 refine ql (qd (qf (qf (qa (qc rfl rfl rfl (jl rfl rfl rfl rfl (qe (qd (qy rfl (fun h19 => ?_) (fun h19 => ?_))))))))))
 exact qf (qa (qb rfl rfl rfl (qb rfl rfl rfl (qb rfl rfl rfl (qe (qd (qr (qn (qm () (res3 rfl rfl rfl rfl))))))))))
 refine ql (qd (qf (qa (qp (i := 0) rfl rfl tf27 rfl rfl (by simp) rfl rfl (qc rfl rfl rfl (qc rfl rfl rfl (q9 rfl Tryz.underlying72 Tryz.underlying3 rfl rfl (qv ent127 rfl rfl rfl (fun x10 e10 => qfn F x1 x2 a3 c4 x7.2.1 (iconv .i64 x7.1) x10 e10) (.consF 0 rfl .nil) (fun x10 e10 => ?_)))))))))
 intro _
 refine qc rfl rfl rfl (qq rfl rfl rfl rfl (qq rfl rfl rfl rfl (qb rfl rfl rfl (qb rfl rfl rfl (qe (qd (qf (qf (qa (qc rfl rfl rfl (ko rfl rfl rfl (qe ?_))))))))))))
 refine qd (qy rfl (fun h18 => ?_) (fun h18 => ?_))
 exact qf (qa (qb rfl rfl rfl (qb rfl rfl rfl (qb rfl rfl rfl (qe (qd (qr (qn (qm () (res3 rfl rfl rfl rfl))))))))))
 refine ql (qd (qf (qf (qa (qc rfl rfl rfl (qc rfl rfl rfl (vY (fun h15 => qa5 rfl rfl rfl rfl h15 (zd rfl rfl rfl rfl (qD rfl rfl rfl rfl (qb rfl rfl rfl (yf (fun x16 e16 => ?_)))))))))))))
 refine qA (d := 12) (v := .int .u64 x16) rfl (by rw [e16] <;> rfl) (qe (qd (qf (qa (qc rfl rfl rfl (zi rfl rfl rfl rfl (qe (qd (qy rfl (fun h17 => ?_) (fun h17 => ?_))))))))))
 exact qf (qa (qb rfl rfl rfl (qb rfl rfl rfl (qb rfl rfl rfl (qe (qd (qr (qn (qm () (res3 rfl rfl rfl rfl))))))))))
 refine ql (qd (qf (qa (qc rfl rfl rfl (qc rfl rfl rfl (qc rfl rfl rfl (q9 rfl Tryz.underlying72 Tryz.underlying3 rfl rfl (qD rfl rfl rfl rfl (qb rfl rfl rfl (qb rfl rfl rfl (qb rfl rfl rfl (qe ?_))))))))))))
 exact qd (qr (qm () (res3 rfl rfl rfl rfl)))
theorem qgD (F : Nat) (x1 : Int) (x2 : List Int) (a3 : Option Addr) (c4 : Nat) (x5 : Int) (r : (Int × Int × Int)) (hm : qam F x1 x2 x5 = some r) :
    Pure Tryz.prog 99 [.agg #[.int .i64 x1, .slice a3 x2.length c4], .int .i64 x5] [Sl (eI .u8) 1 (.slice a3 x2.length c4) x2] Unit (fun _ => .tuple #[.int .u64 r.1, .int .i64 r.2.1, .int .i64 r.2.2]) (fun _ => []) (fun _ => []) := by
 refine qQ Tryz.func99 rfl Tryz.ntmps99 rfl hm (fun w => qF (l' := [(0, .agg #[.int .i64 x1, .slice a3 x2.length c4]), (1, .int .i64 x5)]) rfl (qf (qa (zp rfl rfl rfl (fun g6 => qb rfl rfl rfl (qb rfl rfl rfl (qb rfl rfl rfl (qe (qd (qf (qa (qp (i := 0) rfl rfl tf27 rfl rfl (by simp) rfl rfl ?_))))))))))))
 refine qc rfl rfl rfl (qv ent113 rfl rfl rfl (fun x7 e7 => qaJ F x1 x2 a3 c4 x5 x7 e7) (.consF 0 rfl .nil) (fun x7 e7 => ?_))
 intro _
 exact qq rfl rfl rfl rfl (qq rfl rfl rfl rfl (qq rfl rfl rfl rfl (qb rfl rfl rfl (qb rfl rfl rfl (qb rfl rfl rfl (qe (qd (qr (qm () (res3 rfl rfl rfl rfl))))))))))
theorem ym (F : Nat) (g1 : Nat) (x2 : Int) (x3 : List Int) (a4 : Option Addr) (c5 : Nat) (x6 : Int) (x7 : Int) (r : ((Int × Int × Int) ⊕ (Int × Int))) (hm : kf F x2 x3 x6 x7 = some r) :
    PureL Tryz.prog 80 [.pointer (some ⟨g1, 0, none⟩), .int .i64 x7] [⟨g1, 69, [.int .i64 x2, .slice a4 x3.length c5, .int .i64 x6]⟩] [] [Sl (eI .u8) 1 (.slice a4 x3.length c5) x3] lostCh Unit (fun (r : (Int × Int × Int)) (_ : Unit) => .int .i64 r.1) (fun (r : (Int × Int × Int)) (_ : Unit) => [⟨g1, 69, [.int .i64 r.2.1, .slice a4 x3.length c5, .int .i64 r.2.2]⟩]) (fun (_ : (Int × Int × Int)) (_ : Unit) => []) (fun (z : (Int × Int)) => [⟨g1, 69, [.int .i64 z.1, .slice a4 x3.length c5, .int .i64 z.2]⟩]) r := by
 refine qfp Tryz.func80 rfl Tryz.ntmps80 rfl hm (fun w => qF (l' := [(0, .pointer (some ⟨g1, 0, none⟩)), (1, .int .i64 x7)]) rfl (qf (qa (qb rfl rfl rfl (qe (qd (qf (zP mixed [] [⟨g1, 69, [.int .i64 x2, .slice a4 x3.length c5, .int .i64 x6]⟩] [Sl (eI .u8) 1 (.slice a4 x3.length c5) x3] (.cons 0 rfl .nil) (qW 0 rfl qV) 16 rfl (qg 0 (.pointer (some ⟨g1, 0, none⟩)) rfl rfl rfl (qs rfl) (qg 1 (.pointer (some ⟨g1, 0, none⟩)) rfl rfl rfl (qs rfl) (qg 2 (.pointer (some ⟨g1, 0, none⟩)) rfl rfl rfl (qK rfl qlS) (zF 3 (.agg #[.int .i64 x2, .slice a4 x3.length c5]) rfl rfl rfl (zB (i := 0) rfl tf27 rfl rfl (by simp) rfl) ?_))))))))))))
 refine qg 4 (.pointer (some ⟨g1, 0, none⟩)) rfl rfl rfl (qs rfl) (qg 5 (.pointer (some ⟨g1, 0, none⟩)) rfl rfl rfl (qs rfl) (qg 6 (.pointer (some ⟨g1, 2, none⟩)) rfl rfl rfl (qK rfl qfV) (zF 7 (.int .i64 x6) rfl rfl rfl (zB (i := 0) rfl tf3 rfl rfl (fun _ => rfl) rfl) (q6 8 rfl (by kernel_rfl) rfl (qv ent99 rfl rfl rfl (fun x9 e9 => qgD F x2 x3 a4 c5 x6 x9 e9) (.consF 0 rfl .nil) (fun x9 e9 => ?_))))))
 intro _
 refine qe (qY (.cons 0 rfl .nil) (qW 0 rfl qV) (qg 9 (.tuple #[.int .u64 x9.1, .int .i64 x9.2.1, .int .i64 x9.2.2]) rfl rfl rfl (qs rfl) (qg 10 (.int .u64 x9.1) rfl rfl rfl (qs rfl) (qg 11 (.int .i64 x9.2.1) rfl rfl rfl (qs rfl) (qg 12 (.int .i64 x9.2.2) rfl rfl rfl (qs rfl) (qg 13 (.int .u64 x9.1) rfl rfl rfl (qs rfl) (qg 14 (.int .i64 x9.2.1) rfl rfl rfl (qs rfl) (qg 15 (.int .i64 x9.2.2) rfl rfl rfl (qs rfl) (zm (by kernel_rfl) (z7 (qd (qf ?_)) (by intro c h; cases h)))))))))))
 refine qa (qc rfl rfl rfl (zu rfl rfl rfl rfl (qc rfl rfl rfl (zH 5 ((x9.2.2 : Int) == 0) [(0, .pointer (some ⟨g1, 0, none⟩)), (5, .int .u64 x9.1), (6, .int .i64 x9.2.1), (28, .bool (((x9.2.2 : Int) == 0) && (decide (x9.1 ≤ (iconv .u64 x7)))))] (fun h10 => ?_) (fun h10 => ?_) ?_))))
 exact qw (os := _) rfl (zj (k := 23) rfl h10 (qc rfl rfl rfl (qc rfl rfl rfl (q9 rfl Tryz.underlying3 Tryz.underlying72 rfl rfl (qdX rfl rfl rfl rfl (qE (b := true) rfl rfl rfl rfl (qA (d := 28) (v := .bool (((x9.2.2 : Int) == 0) && (decide (x9.1 ≤ (iconv .u64 x7))))) rfl (by rw [h10]; simp only [Bool.true_and]) (qe (qO (qh rfl (qh rfl (qh rfl (qh rfl q8)))))))))))))
 exact qw (os := _) rfl (zk (k := 23) rfl h10 (qk rfl rfl rfl (qk rfl rfl rfl (qk rfl rfl rfl (qk rfl rfl rfl (qE (b := false) rfl rfl rfl rfl (qA (d := 28) (v := .bool (((x9.2.2 : Int) == 0) && (decide (x9.1 ≤ (iconv .u64 x7))))) rfl (by rw [h10]; simp only [Bool.false_and]) (qe (qO (qh rfl (qh rfl (qh rfl (qh rfl q8)))))))))))))
 refine qw (os := _) rfl (kY ent60 rfl rfl rfl (fun x11 e11 => jD F (((x9.2.2 : Int) == 0) && (decide (x9.1 ≤ (iconv .u64 x7)))) x11 e11) .nil .nil .nil (fun x12 _ => ?_) (fun x11 e11 => ?_))
 exact zI (vi (.cons 0 rfl .nil))
 intro _
 refine qe (qd (qf (qa (qc rfl rfl rfl (qc rfl rfl rfl (qX rfl rfl rfl (qo rfl rfl qfV rfl (qI (i := 0) rfl rfl rfl tf3 rfl rfl rfl rfl rfl (qe (qd (qf (qa ?_))))))))))))
 exact qc rfl rfl rfl (q9 rfl Tryz.underlying72 Tryz.underlying3 rfl rfl (qb rfl rfl rfl (qe (qd (qr (qcw () (.inl rfl) (res1 rfl rfl) rfl (.cons 0 rfl .nil) .nil))))))
theorem qiu (F : Nat) (x1 : List Int) (a2 : Option Addr) (c3 : Nat) (x4 : Int) (r : Int) (hm : qcO F x1 x4 = some r) :
    Pure Tryz.prog 100 [.slice a2 x1.length c3, .int .i64 x4] [Sl (eI .i64) 1 (.slice a2 x1.length c3) x1] Unit (fun _ => .int .i64 r) (fun _ => []) (fun _ => []) := by
 refine qQ Tryz.func100 rfl Tryz.ntmps100 rfl hm (fun w => qF (l' := [(0, .slice a2 x1.length c3), (1, .int .i64 x4)]) rfl (qf (qa (qb rfl rfl rfl (qe (qd (qf (qf (qa (qc rfl rfl rfl (qN rfl Tryz.underlying22 rfl rfl (qc rfl rfl rfl ?_))))))))))))
 refine qD rfl rfl rfl rfl (zi rfl rfl rfl rfl (qe (qd (qy rfl (fun h195 => ?_) (fun h195 => ?_)))))
 exact qf (qa (qb rfl rfl rfl (qe (qd (qr (qn (qm () (res1 rfl rfl))))))))
 refine ql (qd (qf (qa (qb rfl rfl rfl (qe (qd (qC (fun ((x99, _) : (Int × Unit)) => [(1, .int .i64 x4), (5, .int .i64 x99)]) (fun ((x99, _) : (Int × Unit)) => []) (fun ((x99, _) : (Int × Unit)) => []) (fun ((x99, _) : (Int × Unit)) => []) (fun ((x99, _) : (Int × Unit)) => qcm F x4 x99) ?_ ?_)))))))
 refine qf (qa (qc rfl rfl rfl (qN rfl Tryz.underlying22 rfl rfl (qc rfl rfl rfl (qe (qd (qt (qM (fun (((x132, x133), _) : ((Int × Int) × Unit)) => [(1, .int .i64 x4), (5, .int .i64 x132), (13, .slice a2 x1.length c3), (14, .int .i64 (x1.length : Int)), (15, .int .i64 x133)]) (fun (((x132, x133), _) : ((Int × Int) × Unit)) => []) (fun (((x132, x133), _) : ((Int × Int) × Unit)) => []) (fun (((x132, x133), _) : ((Int × Int) × Unit)) => [Sl (eI .i64) 1 (.slice a2 x1.length c3) x1]) (fun k (s : ((Int × Int) × Unit)) => k7 F x1 x4 k s.1) ((0, 0), ()) F ?_ (hF := (qi 0 rfl qu))))))))))
 intro k164
 rintro ⟨⟨x132, x133⟩, _⟩
 try dsimp only
 refine qZ (m' := qan F x1 x4 (k7 F x1 x4 k164) x132 x133) rfl (qf (qa (qP rfl rfl rfl rfl (qe (qd (qf (qy rfl (fun h194 => ?_) (fun h194 => ?_))))))))
 refine ql (qd (qf (qt (qf (qa (qc rfl rfl rfl (q7 (j := 0) (qL .i64) (by decide) rfl Tryz.underlying22 tf3 rfl rfl rfl rfl (fun x180 e180 b181 o182 => zl (j := 0) rfl rfl tf3 rfl rfl (fun _ => rfl) rfl rfl (qb rfl rfl rfl (qb rfl rfl rfl (qe (qd ?_))))))))))))
 refine qf (qf (qa (qc rfl rfl rfl (qP rfl rfl rfl rfl (qc rfl rfl rfl (kT 7 (fun ((x190, _) : (Bool × Unit)) => [(1, .int .i64 x4), (5, .int .i64 x132), (7, .int .i64 x180), (13, .slice a2 x1.length c3), (14, .int .i64 (x1.length : Int)), (15, .int .i64 x133), (29, .bool x190)]) (fun ((x190, _) : (Bool × Unit)) => []) (fun ((x190, _) : (Bool × Unit)) => []) (fun ((x190, _) : (Bool × Unit)) => [Sl (eI .i64) 1 (.slice a2 x1.length c3) x1]) (fun ((x190, _) : (Bool × Unit)) => qaH F (k7 F x1 x4 k164) x4 x132 x133 x180 x190) ?_ ?_))))))
 refine qw (os := _) rfl (jq (fun h188 => ?_) (fun h188 => ?_))
 exact zj (k := 22) rfl h188 (qk rfl rfl rfl (qk rfl rfl rfl (qk rfl rfl rfl (qk rfl rfl rfl (qk rfl rfl rfl (qk rfl rfl rfl (qE (b := true) rfl rfl rfl rfl (qe (qj (true, ()) (hF := (qi 1 rfl qu)))))))))))
 refine zk (k := 22) rfl h188 (qc rfl rfl rfl (qP rfl rfl rfl rfl (qc rfl rfl rfl (zH 3 (decide (x180 < 1)) [(1, .int .i64 x4), (5, .int .i64 x132), (13, .slice a2 x1.length c3), (14, .int .i64 (x1.length : Int)), (15, .int .i64 x133), (7, .int .i64 x180), (22, .bool false), (23, .int .i64 x180), (24, .bool (decide (x180 < 1))), (25, .bool (decide (x180 < 1))), (28, .bool ((decide (x180 < 1)) && (decide (0 < x133))))] (fun h193 => ?_) (fun h193 => ?_) ?_))))
 exact qw (os := _) rfl (zj (k := 25) rfl h193 (qc rfl rfl rfl (zi rfl rfl rfl rfl (qE (b := true) rfl rfl rfl rfl (qA (d := 28) (v := .bool ((decide (x180 < 1)) && (decide (0 < x133)))) rfl (by rw [h193]; simp only [Bool.true_and]) (qA (d := 25) (v := .bool (decide (x180 < 1))) rfl (by rw [h193] <;> rfl) (qe (qO (qh rfl (qh rfl (qh rfl (qh rfl (qh rfl (qh rfl (qh rfl (qh rfl (qh rfl (qh rfl (qh rfl q8)))))))))))))))))))
 exact qw (os := _) rfl (zk (k := 25) rfl h193 (qk rfl rfl rfl (qk rfl rfl rfl (qE (b := false) rfl rfl rfl rfl (qA (d := 28) (v := .bool ((decide (x180 < 1)) && (decide (0 < x133)))) rfl (by rw [h193]; simp only [Bool.false_and]) (qA (d := 25) (v := .bool (decide (x180 < 1))) rfl (by rw [h193] <;> rfl) (qe (qO (qh rfl (qh rfl (qh rfl (qh rfl (qh rfl (qh rfl (qh rfl (qh rfl (qh rfl (qh rfl (qh rfl q8)))))))))))))))))))
 exact qw (os := _) rfl (qE (b := false) rfl rfl rfl rfl (qe (qj (((decide (x180 < 1)) && (decide (0 < x133))), ()) (hF := (qi 1 rfl qu)))))
 rintro ⟨x190, _⟩
 try dsimp only
 refine qw (os := _) rfl (qe (qd (qy rfl (fun h192 => ?_) (fun h192 => ?_))))
 exact qf (qa (qb rfl rfl rfl (qe (qd (qr (qn (qR (qn (qn (qR (qn (qm () (res1 rfl rfl)))))))))))))
 refine ql (qd (qa (qc rfl rfl rfl (qc rfl rfl rfl (qc rfl rfl rfl (qD rfl rfl rfl rfl (qho rfl rfl rfl rfl (qD rfl rfl rfl rfl (qc rfl rfl rfl (qD rfl rfl rfl rfl (qho rfl rfl rfl rfl (qb rfl rfl rfl ?_))))))))))))
 exact yf (fun x191 e191 => qA (d := 5) (v := .int .i64 x191) rfl (by rw [e191] <;> rfl) (qe (qH (qd (qa (qD rfl rfl rfl rfl (qc rfl rfl rfl (qe (qG ((x191, iadd .i64 x133 1), ()) (hF := (qi 0 rfl qu)))))))))))
 exact qS (qx (qx (qT (qj (x132, ())))))
 rintro ⟨x99, _⟩
 try dsimp only
 refine qf (qf (qa (qc rfl rfl rfl (qc rfl rfl rfl (zi rfl rfl rfl rfl (qe (qd (qy rfl (fun h101 => ?_) (fun h101 => ?_)))))))))
 exact qf (qa (qb rfl rfl rfl (qe (qd (qr (qn (qm () (res1 rfl rfl))))))))
 exact ql (qd (qf (qa (qb rfl rfl rfl (qe (qd (qr (qm () (res1 rfl rfl)))))))))
theorem qhU (F : Nat) (x1 : List Int) (a2 : Option Addr) (c3 : Nat) (x4 : List Int) (a5 : Option Addr) (c6 : Nat) (r : List Int) (hm : qdC F x1 x4 = some r) :
    Pure Tryz.prog 101 [.slice a2 x1.length c3, .slice a5 x4.length c6] [Sl (eI .i64) 1 (.slice a2 x1.length c3) x1, Sl (eI .i64) 1 (.slice a5 x4.length c6) x4] (Option Addr × Nat) (fun g => .slice g.1 r.length g.2) (fun g => [Ro (eI .i64) 3 1 (.slice g.1 r.length g.2) r]) (fun _ => []) := by
 refine qQ Tryz.func101 rfl Tryz.ntmps101 rfl hm (fun w => qF (l' := [(0, .slice a2 x1.length c3), (1, .slice a5 x4.length c6)]) rfl (qf (qa (qb rfl rfl rfl (qe (qd (qf (qa (qb rfl rfl rfl (qe (qd (qf ?_))))))))))))
 refine qa (qb rfl rfl rfl (qe (qd (qC (fun (((x158, x161, x162), (a156, c157, a159, c160)) : ((List Int × List Int × Bool) × (Option Addr × Nat × Option Addr × Nat))) => [(0, .slice a156 x158.length c157), (5, .slice a159 x161.length c160), (6, .bool x162)]) (fun (((x158, x161, x162), (a156, c157, a159, c160)) : ((List Int × List Int × Bool) × (Option Addr × Nat × Option Addr × Nat))) => []) (fun (((x158, x161, x162), (a156, c157, a159, c160)) : ((List Int × List Int × Bool) × (Option Addr × Nat × Option Addr × Nat))) => [Ro (eI .i64) 3 1 (.slice a159 x161.length c160) x161]) (fun (((x158, x161, x162), (a156, c157, a159, c160)) : ((List Int × List Int × Bool) × (Option Addr × Nat × Option Addr × Nat))) => [Sl (eI .i64) 1 (.slice a156 x158.length c157) x158]) (fun (((x158, x161, x162), _) : ((List Int × List Int × Bool) × (Option Addr × Nat × Option Addr × Nat))) => qci F x158 x161 x162) ?_ ?_))))
 refine qf (qa (qc rfl rfl rfl (qN rfl Tryz.underlying22 rfl rfl (qc rfl rfl rfl (qe (qd (qt (zS Int (eI .i64) 3 1 (qM (fun (((x217, x220, x221, x222), (a215, c216, a218, c219)) : ((List Int × List Int × Bool × Int) × (Option Addr × Nat × Option Addr × Nat))) => [(0, .slice a215 x217.length c216), (5, .slice a218 x220.length c219), (6, .bool x221), (9, .slice a5 x4.length c6), (10, .int .i64 (x4.length : Int)), (11, .int .i64 x222)]) (fun (((x217, x220, x221, x222), (a215, c216, a218, c219)) : ((List Int × List Int × Bool × Int) × (Option Addr × Nat × Option Addr × Nat))) => []) (fun (((x217, x220, x221, x222), (a215, c216, a218, c219)) : ((List Int × List Int × Bool × Int) × (Option Addr × Nat × Option Addr × Nat))) => [Ro (eI .i64) 3 1 (.slice a218 x220.length c219) x220]) (fun (((x217, x220, x221, x222), (a215, c216, a218, c219)) : ((List Int × List Int × Bool × Int) × (Option Addr × Nat × Option Addr × Nat))) => [Sl (eI .i64) 1 (.slice a215 x217.length c216) x217, Sl (eI .i64) 1 (.slice a5 x4.length c6) x4]) (fun k (s : ((List Int × List Int × Bool × Int) × (Option Addr × Nat × Option Addr × Nat))) => kX F x4 k s.1) ((x1, ([] : List Int), true, 0), (a2, c3, none, 0)) F ?_ (hR := (.cons 0 rfl .nil)) (hF := (qi 0 rfl (qi 1 rfl qu))))))))))))
 intro k271
 rintro ⟨⟨x217, x220, x221, x222⟩, ⟨a215, c216, a218, c219⟩⟩
 try dsimp only
 refine qZ (m' := jM F x4 (kX F x4 k271) x217 x220 x221 x222) rfl (qf (qa (qP rfl rfl rfl rfl (qe (qd (qf (qy rfl (fun h319 => ?_) (fun h319 => ?_))))))))
 refine ql (qd (qf (qt (qf (qa (q7 (j := 1) (qL .i64) (by decide) rfl Tryz.underlying22 tf3 rfl rfl rfl rfl (fun x296 e296 b297 o298 => zl (j := 0) rfl rfl tf3 rfl rfl (fun _ => rfl) rfl rfl (qb rfl rfl rfl (qe (qd (qC (fun ((x308, (a306, c307)) : (List Int × (Option Addr × Nat))) => [(0, .slice a215 x217.length c216), (5, .slice a306 x308.length c307), (6, .bool x221), (8, .int .i64 x296), (9, .slice a5 x4.length c6), (10, .int .i64 (x4.length : Int)), (11, .int .i64 x222)]) (fun ((x308, (a306, c307)) : (List Int × (Option Addr × Nat))) => []) (fun ((x308, (a306, c307)) : (List Int × (Option Addr × Nat))) => [Ro (eI .i64) 3 1 (.slice a306 x308.length c307) x308]) (fun ((x308, (a306, c307)) : (List Int × (Option Addr × Nat))) => [Sl (eI .i64) 1 (.slice a215 x217.length c216) x217, Sl (eI .i64) 1 (.slice a5 x4.length c6) x4]) (fun ((x308, _) : (List Int × (Option Addr × Nat))) => jV F (kX F x4 k271) x217 x221 x222 x296 x308) ?_ ?_)))))))))))
 refine qf (qa (qc rfl rfl rfl (qe (qd (qy rfl (fun h318 => ?_) (fun h318 => ?_))))))
 exact qa (qc rfl rfl rfl (qc rfl rfl rfl (qc rfl rfl rfl (qhp (j := 1) (qL .i64) rfl Tryz.underlying22 tf3 rfl rfl rfl rfl rfl (fun x312 e312 a313 c314 => zy 0 (qL .i64) rfl Tryz.underlying22 tf3 rfl rfl rfl rfl rfl (.inr ⟨0, rfl⟩) rfl rfl (fun x315 e315 a316 c317 => qb rfl rfl rfl (qe (qj (x315, (a316, c317)) (hR := (.cons 0 rfl .nil)) (hF := (qi 2 rfl (qi 3 rfl qu)))))))))))
 exact ql (qj (x220, (a218, c219)) (hR := (.cons 0 rfl .nil)) (hF := (qi 1 rfl (qi 2 rfl qu))))
 rintro ⟨x308, ⟨a306, c307⟩⟩
 try dsimp only
 refine qa (qc rfl rfl rfl (qc rfl rfl rfl (qhp (j := 0) (qL .i64) rfl Tryz.underlying22 tf3 rfl rfl rfl rfl rfl (fun x309 e309 a310 c311 => qc rfl rfl rfl (ko rfl rfl rfl (qb rfl rfl rfl (qb rfl rfl rfl (qe (qH (qd (qa (qD rfl rfl rfl rfl ?_))))))))))))
 exact qc rfl rfl rfl (qe (qG ((x309, x308, (!x221), iadd .i64 x222 1), (a310, c311, a306, c307)) (hR := (.cons 0 rfl .nil)) (hF := (qi 0 rfl (qi 2 rfl qu)))))
 exact qS (qx (qx (qT (qj ((x217, x220, x221), (a215, c216, a218, c219)) (hR := (.cons 0 rfl .nil)) (hF := (qi 0 rfl qu))))))
 rintro ⟨⟨x158, x161, x162⟩, ⟨a156, c157, a159, c160⟩⟩
 try dsimp only
 refine qC (fun ((x169, (a167, c168)) : (List Int × (Option Addr × Nat))) => [(5, .slice a167 x169.length c168)]) (fun ((x169, (a167, c168)) : (List Int × (Option Addr × Nat))) => []) (fun ((x169, (a167, c168)) : (List Int × (Option Addr × Nat))) => [Ro (eI .i64) 3 1 (.slice a167 x169.length c168) x169]) (fun ((x169, (a167, c168)) : (List Int × (Option Addr × Nat))) => []) (fun ((x169, _) : (List Int × (Option Addr × Nat))) => qaA F x169) ?_ ?_
 refine qf (qa (qc rfl rfl rfl (qe (qd (qy rfl (fun h173 => ?_) (fun h173 => ?_))))))
 exact qa (qc rfl rfl rfl (qc rfl rfl rfl (zy 0 (qL .i64) rfl Tryz.underlying22 tf3 rfl rfl rfl rfl rfl (.inr ⟨0, rfl⟩) rfl rfl (fun x170 e170 a171 c172 => qb rfl rfl rfl (qe (qj (x170, (a171, c172)) (hR := (.cons 0 rfl .nil))))))))
 exact ql (qj (x161, (a159, c160)) (hR := (.cons 0 rfl .nil)))
 rintro ⟨x169, ⟨a167, c168⟩⟩
 try dsimp only
 exact qf (qa (qc rfl rfl rfl (qb rfl rfl rfl (qe (qd (qr (qm (a167, c168) (res1 rfl rfl) (fun h => by subst h; exact (.cons 0 rfl .nil)))))))))
theorem qjJ (F : Nat) (x1 : List Int) (a2 : Option Addr) (c3 : Nat) (x4 : List Int) (a5 : Option Addr) (c6 : Nat) (r : (List Int × Int)) (hm : qdn F x1 x4 = some r) :
    Pure Tryz.prog 81 [.slice a2 x1.length c3, .slice a5 x4.length c6] [Sl (eI .i64) 1 (.slice a2 x1.length c3) x1, Sl (eI .i64) 1 (.slice a5 x4.length c6) x4] (Option Addr × Nat) (fun g => .tuple #[.slice g.1 r.1.length g.2, .int .i64 r.2]) (fun g => [Ro (eI .i64) 3 1 (.slice g.1 r.1.length g.2) r.1]) (fun _ => []) := by
  refine qQ Tryz.func81 rfl Tryz.ntmps81 rfl hm (fun w => ?_)
  refine qF (l' := [(0, .slice a2 x1.length c3), (1, .slice a5 x4.length c6)]) rfl ?_
  refine qf ?_
  refine qa ?_
  refine qb rfl rfl rfl ?_
  refine qb rfl rfl rfl ?_
  refine qe ?_
  refine qd ?_
  refine qf ?_
  refine qa ?_
  refine qc rfl rfl rfl ?_
  refine qv ent13 rfl rfl rfl (fun x7 e7 => qcn F x1 a2 c3 x7 e7) (.consF 0 rfl .nil) (fun x7 e7 => ?_)
  intro _
  refine qb rfl rfl rfl ?_
  refine qe ?_
  refine qd ?_
  refine qC (fun ((x10, _) : (Int × Unit)) => [(0, .slice a2 x1.length c3), (1, .slice a5 x4.length c6), (6, .int .i64 x10)]) (fun ((x10, _) : (Int × Unit)) => []) (fun ((x10, _) : (Int × Unit)) => []) (fun ((x10, _) : (Int × Unit)) => [Sl (eI .i64) 1 (.slice a2 x1.length c3) x1, Sl (eI .i64) 1 (.slice a5 x4.length c6) x4]) (fun ((x10, _) : (Int × Unit)) => jY F x1 x4 x10) ?_ ?_
  · refine qf ?_
    refine qa ?_
    refine qc rfl rfl rfl ?_
    refine zu rfl rfl rfl rfl ?_
    refine qe ?_
    refine qd ?_
    refine qy rfl (fun h17 => ?_) (fun h17 => ?_)
    · refine qa ?_
      refine qc rfl rfl rfl ?_
      refine qc rfl rfl rfl ?_
      refine qN rfl Tryz.underlying22 rfl rfl ?_
      refine qv ent100 rfl rfl rfl (fun x16 e16 => qiu F x4 a5 c6 (x1.length : Int) x16 e16) (.consF 1 rfl .nil) (fun x16 e16 => ?_)
      intro _
      refine qb rfl rfl rfl ?_
      refine qe ?_
      exact qj (x16, ()) (hF := (qi 0 rfl (qi 1 rfl qu)))
    · refine ql ?_
      exact qj (x7, ()) (hF := (qi 0 rfl (qi 1 rfl qu)))
  · rintro ⟨x10, _⟩
    try dsimp only
    refine qf ?_
    refine qf ?_
    refine qa ?_
    refine qc rfl rfl rfl ?_
    refine kD rfl rfl rfl rfl ?_
    refine qe ?_
    refine qd ?_
    refine qy rfl (fun h15 => ?_) (fun h15 => ?_)
    · refine qf ?_
      refine qa ?_
      refine qc rfl rfl rfl ?_
      refine qb rfl rfl rfl ?_
      refine qb rfl rfl rfl ?_
      refine qe ?_
      refine qd ?_
      refine qr ?_
      refine qn ?_
      refine qU Int (eI .i64) 3 1 ?_
      exact qm (none, 0) (res2 rfl rfl rfl) (fun h => by subst h; exact (.cons 0 rfl .nil))
    · refine ql ?_
      refine qd ?_
      refine qf ?_
      refine qa ?_
      refine qc rfl rfl rfl ?_
      refine qc rfl rfl rfl ?_
      refine qv ent101 rfl rfl rfl (fun x12 e12 => qhU F x1 a2 c3 x4 a5 c6 x12 e12) (.consF 0 rfl (.consF 1 rfl .nil)) (fun x12 e12 => ?_)
      rintro ⟨a13, c14⟩
      refine qb rfl rfl rfl ?_
      refine qb rfl rfl rfl ?_
      refine qe ?_
      refine qd ?_
      refine qr ?_
      exact qm (a13, c14) (res2 rfl rfl rfl) (fun h => by subst h; exact (.cons 0 rfl .nil))
end Go.Proofs.YtidnfcdnhdbolaaGreat
