/- Each Go function of this seat computes what its model says. -/
import Derived.Test.YtfjkpdlcdceenaaGreatDoorRows
import Derived.Test.YtfjkpdlcdceenaaGreatDoorModels
import Derived.Test.YtfjkpdlcdceenaaGreatDoorShelf
import Derived.Test.YtfjkpdlcdceenaaGreatDoorTxt
namespace Go.Proofs.YtfjkpdlcdceenaaGreatDoor
open Go SX
def eS44 (p : (Int × Int)) : List Value := [.int .i64 p.1, .int .i64 p.2]
theorem ql : EncOk eS44 2 := ⟨fun _ => rfl, fun _ => rfl⟩
def eN66 (p : List Int × (Option Addr × Nat)) : List Value := [.slice p.2.1 p.1.length p.2.2]
def iN66 (p : List Int × (Option Addr × Nat)) : List (World → Prop) := [Sl (eI .i64) 1 (.slice p.2.1 p.1.length p.2.2) p.1]
theorem zi : EncOk eN66 1 := ⟨fun _ => rfl, fun _ => rfl⟩
def rN66 (p : List Int × (Option Addr × Nat)) : List RowF := [FoR (eI .i64) 3 1 (.slice p.2.1 p.1.length p.2.2) p.1]
theorem qh8 : ∀ p, iN66 p = (rN66 p).map RowF.cells := fun _ => rfl
theorem qf9 : ∀ f ∈ rN66 (([] : List Int), ((none, 0) : Option Addr × Nat)), f.v = .slice none 0 0 ∧ f.n = 0 ∧ f.cs = [] := by simp [rN66, FoR]
instance tf3 : TyF Tryz.prog 3 false (.int .i64 0) 1 8 := .of (by kernel_rfl) (by kernel_rfl)
instance tf5 : TyF Tryz.prog 5 false (.int .u8 0) 1 1 := .of (by kernel_rfl) (by kernel_rfl)
instance tf9 : TyF Tryz.prog 9 false (.string (bstr ([] : List Int))) 1 16 := .of (by kernel_rfl) (by kernel_rfl)
instance tf22 : TyF Tryz.prog 22 false (.slice none 0 0) 1 24 := .of (by kernel_rfl) (by kernel_rfl)
instance tf24 : TyF Tryz.prog 24 true (.agg #[.slice none 0 0]) 1 24 := .of (by kernel_rfl) (by kernel_rfl)
instance tf25 : TyF Tryz.prog 25 false (.int .i64 0) 1 8 := .of (by kernel_rfl) (by kernel_rfl)
instance tf29 : TyF Tryz.prog 29 true (.agg #[.int .i64 0, .int .i64 0]) 2 16 := .of (by kernel_rfl) (by kernel_rfl)
instance tf39 : TyF Tryz.prog 39 false (.slice none 0 0) 1 24 := .of (by kernel_rfl) (by kernel_rfl)
instance tf44 : TyF Tryz.prog 44 true (.agg #[.int .i64 0, .int .i64 0]) 2 16 := .of (by kernel_rfl) (by kernel_rfl)
instance tf49 : TyF Tryz.prog 49 true (.agg #[.pointer none, .slice none 0 0]) 2 32 := .of (by kernel_rfl) (by kernel_rfl)
instance tf60 : TyF Tryz.prog 60 false (.map none) 1 8 := .of (by kernel_rfl) (by kernel_rfl)
instance tf66 : TyF Tryz.prog 66 false (.slice none 0 0) 1 24 := .of (by kernel_rfl) (by kernel_rfl)
instance tf82 : TyF Tryz.prog 82 true (.agg #[]) 0 0 := .of (by kernel_rfl) (by kernel_rfl)
instance ff24_0 : FdF Tryz.prog 24 0 0 := .of (by kernel_rfl)
instance ff29_0 : FdF Tryz.prog 29 0 0 := .of (by kernel_rfl)
instance ff29_1 : FdF Tryz.prog 29 1 1 := .of (by kernel_rfl)
instance ff44_0 : FdF Tryz.prog 44 0 0 := .of (by kernel_rfl)
instance ff44_1 : FdF Tryz.prog 44 1 1 := .of (by kernel_rfl)
instance ff62_0 : FdF Tryz.prog 62 0 0 := .of (by kernel_rfl)
instance ff62_1 : FdF Tryz.prog 62 1 1 := .of (by kernel_rfl)
instance ff62_2 : FdF Tryz.prog 62 2 2 := .of (by kernel_rfl)
instance st24 : StF Tryz.prog 24 [(0, 1)] (.agg #[.slice none 0 0]) := .of (by kernel_rfl) (by kernel_rfl)
instance st29 : StF Tryz.prog 29 [(0, 1), (1, 1)] (.agg #[.int .i64 0, .int .i64 0]) := .of (by kernel_rfl) (by kernel_rfl)
instance st44 : StF Tryz.prog 44 [(0, 1), (1, 1)] (.agg #[.int .i64 0, .int .i64 0]) := .of (by kernel_rfl) (by kernel_rfl)
instance st62 : StF Tryz.prog 62 [(0, 1), (1, 1), (2, 1)] (.agg #[.int .i64 0, .slice none 0 0, .map none]) := .of (by kernel_rfl) (by kernel_rfl)
instance st82 : StF Tryz.prog 82 [] (.agg #[]) := .of (by kernel_rfl) (by kernel_rfl)
instance se29 : StE2 Tryz.prog 29 .i64 .i64 := ⟨_, _, Tryz.underlying29, by kernel_rfl, by kernel_rfl, by decide, by decide, rfl, rfl, Tryz.underlying3, Tryz.underlying25⟩
instance se44 : StE2 Tryz.prog 44 .i64 .i64 := ⟨_, _, Tryz.underlying44, by kernel_rfl, by kernel_rfl, by decide, by decide, rfl, rfl, Tryz.underlying3, Tryz.underlying3⟩
theorem mixed : Tryz.prog.follows .mixedOrders = true := by kernel_rfl
instance en8 : EnC Tryz.prog 8 := ⟨qe Tryz.func8 rfl rfl⟩
instance en9 : EnC Tryz.prog 9 := ⟨qe Tryz.func9 rfl rfl⟩
instance en10 : EnC Tryz.prog 10 := ⟨qe Tryz.func10 rfl rfl⟩
instance en11 : EnC Tryz.prog 11 := ⟨qe Tryz.func11 rfl rfl⟩
instance en12 : EnC Tryz.prog 12 := ⟨qe Tryz.func12 rfl rfl⟩
instance en13 : EnC Tryz.prog 13 := ⟨qe Tryz.func13 rfl rfl⟩
instance en14 : EnC Tryz.prog 14 := ⟨qe Tryz.func14 rfl rfl⟩
instance en15 : EnC Tryz.prog 15 := ⟨qe Tryz.func15 rfl rfl⟩
instance en16 : EnC Tryz.prog 16 := ⟨qe Tryz.func16 rfl rfl⟩
instance en17 : EnC Tryz.prog 17 := ⟨qe Tryz.func17 rfl rfl⟩
instance en18 : EnC Tryz.prog 18 := ⟨qe Tryz.func18 rfl rfl⟩
theorem ent19 : Enters Tryz.prog 19 := qe Tryz.func19 rfl rfl
instance en19 : EnC Tryz.prog 19 := ⟨ent19⟩
theorem ent20 : Enters Tryz.prog 20 := qe Tryz.func20 rfl rfl
instance en20 : EnC Tryz.prog 20 := ⟨ent20⟩
instance en21 : EnC Tryz.prog 21 := ⟨qe Tryz.func21 rfl rfl⟩
theorem ent22 : Enters Tryz.prog 22 := qe Tryz.func22 rfl rfl
instance en22 : EnC Tryz.prog 22 := ⟨ent22⟩
instance en23 : EnC Tryz.prog 23 := ⟨qe Tryz.func23 rfl rfl⟩
instance en24 : EnC Tryz.prog 24 := ⟨qe Tryz.func24 rfl rfl⟩
instance en25 : EnC Tryz.prog 25 := ⟨qe Tryz.func25 rfl rfl⟩
instance en26 : EnC Tryz.prog 26 := ⟨qe Tryz.func26 rfl rfl⟩
instance en27 : EnC Tryz.prog 27 := ⟨qe Tryz.func27 rfl rfl⟩
instance en28 : EnC Tryz.prog 28 := ⟨qe Tryz.func28 rfl rfl⟩
instance en29 : EnC Tryz.prog 29 := ⟨qe Tryz.func29 rfl rfl⟩
instance en30 : EnC Tryz.prog 30 := ⟨qe Tryz.func30 rfl rfl⟩
instance en31 : EnC Tryz.prog 31 := ⟨qe Tryz.func31 rfl rfl⟩
instance en32 : EnC Tryz.prog 32 := ⟨qe Tryz.func32 rfl rfl⟩
instance en33 : EnC Tryz.prog 33 := ⟨qe Tryz.func33 rfl rfl⟩
instance en34 : EnC Tryz.prog 34 := ⟨qe Tryz.func34 rfl rfl⟩
instance en35 : EnC Tryz.prog 35 := ⟨qe Tryz.func35 rfl rfl⟩
instance en36 : EnC Tryz.prog 36 := ⟨qe Tryz.func36 rfl rfl⟩
instance en37 : EnC Tryz.prog 37 := ⟨qe Tryz.func37 rfl rfl⟩
instance en38 : EnC Tryz.prog 38 := ⟨qe Tryz.func38 rfl rfl⟩
instance en39 : EnC Tryz.prog 39 := ⟨qe Tryz.func39 rfl rfl⟩
theorem ent42 : Enters Tryz.prog 42 := qe Tryz.func42 rfl rfl
instance en42 : EnC Tryz.prog 42 := ⟨ent42⟩
theorem ent43 : Enters Tryz.prog 43 := qe Tryz.func43 rfl rfl
instance en43 : EnC Tryz.prog 43 := ⟨ent43⟩
instance en44 : EnC Tryz.prog 44 := ⟨qe Tryz.func44 rfl rfl⟩
instance en45 : EnC Tryz.prog 45 := ⟨qe Tryz.func45 rfl rfl⟩
instance en46 : EnC Tryz.prog 46 := ⟨qe Tryz.func46 rfl rfl⟩
instance en47 : EnC Tryz.prog 47 := ⟨qe Tryz.func47 rfl rfl⟩
instance en48 : EnC Tryz.prog 48 := ⟨qe Tryz.func48 rfl rfl⟩
instance en49 : EnC Tryz.prog 49 := ⟨qe Tryz.func49 rfl rfl⟩
theorem ent50 : Enters Tryz.prog 50 := qe Tryz.func50 rfl rfl
instance en50 : EnC Tryz.prog 50 := ⟨ent50⟩
instance en51 : EnC Tryz.prog 51 := ⟨qe Tryz.func51 rfl rfl⟩
instance en52 : EnC Tryz.prog 52 := ⟨qe Tryz.func52 rfl rfl⟩
instance en53 : EnC Tryz.prog 53 := ⟨qe Tryz.func53 rfl rfl⟩
instance en54 : EnC Tryz.prog 54 := ⟨qe Tryz.func54 rfl rfl⟩
instance en58 : EnC Tryz.prog 58 := ⟨qe Tryz.func58 rfl rfl⟩
theorem ent59 : Enters Tryz.prog 59 := qe Tryz.func59 rfl rfl
instance en59 : EnC Tryz.prog 59 := ⟨ent59⟩
theorem ent60 : Enters Tryz.prog 60 := qe Tryz.func60 rfl rfl
instance en60 : EnC Tryz.prog 60 := ⟨ent60⟩
theorem ent61 : Enters Tryz.prog 61 := qe Tryz.func61 rfl rfl
instance en61 : EnC Tryz.prog 61 := ⟨ent61⟩
instance en62 : EnC Tryz.prog 62 := ⟨qe Tryz.func62 rfl rfl⟩
instance en63 : EnC Tryz.prog 63 := ⟨qe Tryz.func63 rfl rfl⟩
instance en73 : EnC Tryz.prog 73 := ⟨qe Tryz.func73 rfl rfl⟩
instance en83 : EnC Tryz.prog 83 := ⟨qe Tryz.func83 rfl rfl⟩
theorem qgc (cb : Array Value) : qdj Tryz.prog 53 50 2 (fun l => .agg l.toArray) cb :=
  qfw fun _ _ enc hk h1 cf hO blk cap d w hc hH hb hsz hT => Go.Proofs.AnyQ.slices_SortFunc_total Tryz.sortf53 2 tf44.run_isAgg tf44.run_size enc hk h1 cf hO 50 cb blk 0 cap d w ent50 hc hH hb hsz hT
instance un3 : UnF Tryz.prog 3 (.int .i64) := ⟨Tryz.underlying3⟩
instance un5 : UnF Tryz.prog 5 (.int .u8) := ⟨Tryz.underlying5⟩
instance un9 : UnF Tryz.prog 9 .string := ⟨Tryz.underlying9⟩
instance un22 : UnF Tryz.prog 22 (.slice 66) := ⟨Tryz.underlying22⟩
instance un39 : UnF Tryz.prog 39 (.slice 44) := ⟨Tryz.underlying39⟩
instance un47 : UnF Tryz.prog 47 (.slice 5) := ⟨Tryz.underlying47⟩
instance un57 : UnF Tryz.prog 57 (.slice 9) := ⟨Tryz.underlying57⟩
instance un66 : UnF Tryz.prog 66 (.slice 3) := ⟨Tryz.underlying66⟩
set_option maxRecDepth 100000 in
theorem au0 (p : List Nat) {A B : Prop} (t : B → Stp p A := by
  intro h
  repeat (first
    | exact stp0 h
    | (refine stc 0 ?_; refine stk (fun h => qbf h) ?_)
    | (refine stc 1 ?_; refine stk (fun h => qav h) ?_)
    | (refine stc 2 ?_; refine stk (fun h => qbd h) ?_)
    | (refine stc 3 ?_; refine stk (fun h => jm h) ?_)
    | (refine stc 4 ?_; refine stk (fun h => jV rfl rfl rfl h) ?_)
    | (refine stc 5 ?_; refine stk (fun h => jn rfl rfl rfl h) ?_)
    | (refine stc 6 ?_; refine stk (fun h => qgC rfl rfl rfl h) ?_)
    | (refine stc 7 ?_; refine stk (fun h => qfF h) ?_)
    | (refine stc 8 ?_; refine stk (fun h => qfb h) ?_)
    | (refine stc 9 ?_; refine stk (fun h => qhR rfl (And.left h) (And.right h)) ?_)
    | (refine stc 10 ?_; refine stk (fun h => qgr h) ?_)
    | (refine stc 11 ?_; refine qcf rfl rfl rfl (qh5 rfl) ?_)
    | (refine stc 12 ?_; refine qhe rfl (by kernel_rfl) rfl ?_)
    | (refine stc 13 ?_; refine stk (fun h => qfz h) ?_)
    | (refine stc 14 ?_; refine stk (fun h => qfB rfl inferInstance rfl h) ?_)
    | (refine stc 15 ?_; refine stk (fun h => qfG h) ?_)
    | (refine stc 16 ?_; exact stz (yw ()))
    | (refine stc 17 ?_; refine stk (fun h => qeq (b := true) rfl rfl rfl rfl h) ?_)
    | (refine stc 18 ?_; refine stk (fun h => qeq (b := false) rfl rfl rfl rfl h) ?_)
    | (refine stc 19 ?_; refine stk (fun h => jo (i := 0) rfl rfl rfl inferInstance rfl rfl rfl rfl rfl h) ?_)
    | (refine stc 20 ?_; exact stz (qfE))
    | (refine stc 21 ?_; refine stk (fun h => qeo rfl rfl rfl rfl h) ?_)
    | (refine stc 22 ?_; refine stk (fun h => qgE h) ?_)
    | (refine stc 23 ?_; refine stk (fun h => jH rfl rfl inferInstance rfl h) ?_)
    | (refine stc 24 ?_; first
      | (refine sta 0 ?_; refine stk (fun h => qgD h) ?_)
      | (refine sta 1 ?_; refine stk (fun h => qho rfl UnF.u rfl rfl h) ?_)
      | (refine sta 2 ?_; refine stk (fun h => qhq rfl rfl rfl rfl h) ?_)
      | (refine sta 3 ?_; refine stk (fun h => qhi rfl rfl rfl rfl h) ?_)
      | (refine sta 4 ?_; refine stk (fun h => kv (i := 0) rfl rfl inferInstance rfl rfl (fun _ => rfl) rfl rfl h) ?_)
      | (refine sta 5 ?_; refine stk (fun h => qgh (by kernel_rfl) h) ?_)
      | (refine sta 6 ?_; refine stk (fun h => qgq h) ?_)
      | (refine sta 7 ?_; refine stk (fun h => qgF h) ?_)
      | (refine sta 8 ?_; refine qcf rfl rfl rfl (qdK rfl inferInstance) ?_)
      | (refine sta 9 ?_; refine stk (fun h => jo (i := 1) rfl rfl rfl inferInstance rfl rfl rfl rfl rfl h) ?_)
      | (refine sta 10 ?_; refine stk (fun h => qhS (And.left h) (And.right h)) ?_)
      | (refine sta 11 ?_; refine stk (fun h => qhl rfl rfl rfl rfl h) ?_)
      | (refine sta 12 ?_; refine stk (fun h => qgn h) ?_)
      | (refine sta 13 ?_; refine stk (fun h => kv (i := 0) rfl rfl inferInstance rfl rfl (by simp) rfl rfl h) ?_)
      | (refine sta 14 ?_; refine qhd rfl rfl rfl ?_)
      | (refine sta 15 ?_; refine stk (fun h => qgo h) ?_))
    | (refine stc 25 ?_; first
      | (refine sta 0 ?_; refine stk (fun h => qhj rfl rfl rfl h) ?_)
      | (refine sta 1 ?_; refine qce rfl rfl rfl (kS (i := 0) rfl inferInstance rfl rfl (fun _ => rfl) rfl) ?_)
      | (refine sta 2 ?_; refine stk (fun h => qhn rfl rfl rfl rfl h) ?_)
      | (refine sta 3 ?_; refine stk (fun h => qhu rfl rfl rfl rfl h) ?_)
      | (refine sta 4 ?_; refine stk (fun h => qs (.cons 0 rfl (.cons 0 rfl .nil)) (q4 0 rfl (q4 1 rfl qn)) h) ?_)
      | (refine sta 5 ?_; refine stk (fun h => kv (i := 1) rfl rfl inferInstance rfl rfl (by simp) rfl rfl h) ?_)
      | (refine sta 6 ?_; refine stk (fun h => qgH (List Int) (Option Addr × Nat) eN66 rN66 66 1 h) ?_)
      | (refine sta 7 ?_; exact stz (qa ((), ())))
      | (refine sta 8 ?_; refine stk (fun h => qhv rfl rfl rfl h) ?_)
      | (refine sta 9 ?_; refine stk (fun h => qs (.cons 2 rfl .nil) (q4 0 rfl qn) h) ?_)
      | (refine sta 10 ?_; refine stk (fun h => qB qdd h) ?_)
      | (refine sta 11 ?_; refine stk (fun h => qcY (j := 0) rfl rfl inferInstance rfl rfl (fun _ => rfl) rfl rfl h) ?_)
      | (refine sta 12 ?_; refine stk (fun h => kv (i := 2) rfl rfl inferInstance rfl rfl (fun _ => rfl) rfl rfl h) ?_)
      | (refine sta 13 ?_; refine stk (fun h => kv (i := 2) rfl rfl inferInstance rfl rfl (by simp) rfl rfl h) ?_)
      | (refine sta 14 ?_; refine stk (fun h => qB qbQ h) ?_)
      | (refine sta 15 ?_; refine stk (fun h => qs (.cons 0 rfl (.cons 1 rfl (.cons 1 rfl (.cons 1 rfl .nil)))) (q4 0 rfl (q4 1 rfl qn)) h) ?_))
    | (refine stc 26 ?_; first
      | (refine sta 0 ?_; refine stk (fun h => qs (.cons 1 rfl (.cons 1 rfl .nil)) (q4 0 rfl (q4 1 rfl (q4 2 rfl qn))) h) ?_)
      | (refine sta 1 ?_; refine stk (fun h => qB qdM h) ?_)
      | (refine sta 2 ?_; refine stk (fun h => qgv rfl rfl rfl inferInstance rfl h) ?_)
      | (refine sta 3 ?_; refine stk (fun h => qaS 0 rfl h) ?_)
      | (refine sta 4 ?_; refine stk (fun h => qhm rfl rfl rfl rfl h) ?_)
      | (refine sta 5 ?_; refine stk (fun h => kv (i := 1) rfl rfl inferInstance rfl rfl (fun _ => rfl) rfl rfl h) ?_)
      | (refine sta 6 ?_; refine stk (fun h => qB qcB h) ?_)
      | (refine sta 7 ?_; refine stk (fun h => qB qct h) ?_)
      | (refine sta 8 ?_; refine stk (fun h => qB qcz h) ?_)
      | (refine sta 9 ?_; refine stk (fun h => qhx rfl rfl rfl rfl h) ?_)
      | (refine sta 10 ?_; refine stk (fun h => qaT (j := 0) rfl UnF.u inferInstance rfl rfl rfl rfl h) ?_)
      | (refine sta 11 ?_; refine stk (fun h => zU qdQ h) ?_)
      | (refine sta 12 ?_; refine stk (fun h => qaT (j := 1) rfl UnF.u inferInstance rfl rfl rfl rfl h) ?_)
      | (refine sta 13 ?_; refine stk (fun h => qs (.cons 1 rfl (.cons 1 rfl (.cons 1 rfl .nil))) qn h) ?_)
      | (refine sta 14 ?_; refine stk (fun h => jo (i := 2) rfl rfl rfl inferInstance rfl rfl rfl rfl rfl h) ?_)
      | (refine sta 15 ?_; refine stk (fun h => qs (.cons 1 rfl (.cons 1 rfl (.cons 1 rfl (.cons 1 rfl .nil)))) qn h) ?_))
    | (refine stc 27 ?_; first
      | (refine sta 0 ?_; refine stk (fun h => qaT (j := 2) rfl UnF.u inferInstance rfl rfl rfl rfl h) ?_)
      | (refine sta 1 ?_; refine stk (fun h => qB qcu h) ?_)
      | (refine sta 2 ?_; refine stk (fun h => qB (fun h => qcr F _ h) h) ?_)
      | (refine sta 3 ?_; refine stk (fun h => qhT (ky .i64) rfl UnF.u inferInstance rfl rfl rfl rfl rfl rfl rfl h) ?_)
      | (refine sta 4 ?_; refine stk (fun h => qck (j := 0) zi (by decide) rfl UnF.u inferInstance rfl rfl rfl rfl h) ?_)
      | (refine sta 5 ?_; refine stk (fun h => qhp rfl rfl rfl rfl h) ?_)
      | (refine sta 6 ?_; refine stk (fun h => qgw rfl UnF.u rfl rfl rfl h) ?_)
      | (refine sta 7 ?_; refine stk (fun h => j6 rfl rfl rfl h) ?_)
      | (refine sta 8 ?_; refine qce rfl rfl rfl (kS (i := 2) rfl inferInstance rfl rfl (fun _ => rfl) rfl) ?_)
      | (refine sta 9 ?_; refine stk (fun h => vq (j := 0) ql (by decide) rfl UnF.u inferInstance rfl rfl rfl rfl h) ?_)
      | (refine sta 10 ?_; refine qce rfl rfl rfl (kS (i := 1) rfl inferInstance rfl rfl (fun _ => rfl) rfl) ?_)
      | (refine sta 11 ?_; refine stk (fun h => qs (.cons 0 rfl (.cons 0 rfl .nil)) qn h) ?_)
      | (refine sta 12 ?_; refine stk (fun h => qhk h) ?_)
      | (refine sta 13 ?_; refine stk (fun h => jo (i := 3) rfl rfl rfl inferInstance rfl rfl rfl rfl rfl h) ?_)
      | (refine sta 14 ?_; refine stk (fun h => qch (Int × Int) eS44 44 2 h) ?_)
      | (refine sta 15 ?_; refine stk (fun h => qB qev h) ?_))
    | (refine stc 28 ?_; first
      | (refine sta 0 ?_; refine stk (fun h => qB qdO h) ?_)
      | (refine sta 1 ?_; refine stk (fun h => qel (j := 0) rfl h) ?_)
      | (refine sta 2 ?_; refine stk (fun h => zU qde h) ?_)
      | (refine sta 3 ?_; refine stk (fun h => qaS 1 rfl h) ?_)
      | (refine sta 4 ?_; refine stk (fun h => qs (.cons 1 rfl (.cons 1 rfl .nil)) (q4 0 rfl qn) h) ?_)
      | (refine sta 5 ?_; refine stk (fun h => vq (j := 1) (ky .i64) (by decide) rfl UnF.u inferInstance rfl rfl rfl rfl h) ?_)
      | (refine sta 6 ?_; refine stk (fun h => qch (List Int) eT 9 1 h) ?_)
      | (refine sta 7 ?_; refine stk (fun h => qgA rfl UnF.u rfl rfl rfl h) ?_)
      | (refine sta 8 ?_; refine stk (fun h => qco 16 rfl (by kernel_rfl) (.cons 2 rfl .nil) h) ?_)
      | (refine sta 9 ?_; refine stk (fun h => qcY (j := 0) rfl rfl inferInstance rfl rfl (by simp) rfl rfl h) ?_)
      | (refine sta 10 ?_; refine stk (fun h => qB qcy h) ?_)
      | (refine sta 11 ?_; refine stk (fun h => qfc rfl rfl rfl rfl rfl h) ?_)
      | (refine sta 12 ?_; refine stk (fun h => qB qeu h) ?_)
      | (refine sta 13 ?_; refine stk (fun h => qB qc8 h) ?_)
      | (refine sta 14 ?_; refine stk (fun h => qgz rfl rfl rfl inferInstance rfl h) ?_)
      | (refine sta 15 ?_; refine qcf rfl rfl rfl (qhW UnF.u rfl) ?_))
    | (refine stc 29 ?_; first
      | (refine sta 0 ?_; refine stk (fun h => vq (j := 0) (ky .i64) (by decide) rfl UnF.u inferInstance rfl rfl rfl rfl h) ?_)
      | (refine sta 1 ?_; refine stk (fun h => qdG rfl rfl rfl h) ?_)
      | (refine sta 2 ?_; refine stk (fun h => qbo (i := 3) rfl h) ?_)
      | (refine sta 3 ?_; refine stk (fun h => qs (.cons 1 rfl (.cons 1 rfl (.cons 1 rfl (.cons 1 rfl .nil)))) (q4 0 rfl (q4 1 rfl qn)) h) ?_)
      | (refine sta 4 ?_; refine stk (fun h => qaV (List Int) eT 9 1 h) ?_)
      | (refine sta 5 ?_; refine stk (fun h => vq (j := 0) zd (by decide) rfl UnF.u inferInstance rfl rfl rfl rfl h) ?_)
      | (refine sta 6 ?_; refine stk (fun h => qs (.cons 0 rfl (.cons 0 rfl .nil)) (q4 0 rfl (q4 1 rfl (q4 2 rfl qn))) h) ?_)
      | (refine sta 7 ?_; refine stk (fun h => qfA (And.left h) (And.right h)) ?_)
      | (refine sta 8 ?_; refine stk (fun h => qs (.cons 2 rfl .nil) (qh0 0 rfl qn) h) ?_)
      | (refine sta 9 ?_; refine stk (fun h => qhs (rin := rN66) (y := ([] : List Int)) (q := ((none, 0) : Option Addr × Nat)) zi (by decide) qf9 rfl UnF.u inferInstance rfl rfl rfl rfl rfl rfl h) ?_)
      | (refine sta 10 ?_; refine stk (fun h => qem (j := 0) rfl h) ?_)
      | (refine sta 11 ?_; refine stk (fun h => qem (j := 1) rfl h) ?_)
      | (refine sta 12 ?_; refine stk (fun h => qB qbE h) ?_)
      | (refine sta 13 ?_; refine stk (fun h => qB qaW h) ?_)
      | (refine sta 14 ?_; refine stk (fun h => qbo (i := 2) rfl h) ?_)
      | (refine sta 15 ?_; refine stk (fun h => jC (Int × Int) eS44 44 2 h) ?_))
    | (refine stc 30 ?_; first
      | (refine sta 0 ?_; refine stk (fun h => zU kC h) ?_)
      | (refine sta 1 ?_; refine stk (fun h => zU ve h) ?_)
      | (refine sta 2 ?_; refine stk (fun h => zU zj h) ?_)
      | (refine sta 3 ?_; refine stk (fun h => qck (j := 2) zi (by decide) rfl UnF.u inferInstance rfl rfl rfl rfl h) ?_)
      | (refine sta 4 ?_; refine stk (fun h => va (j := 1) (ky .i64) (by decide) rfl h) ?_)
      | (refine sta 5 ?_; refine stk (fun h => qgs rfl UnF.u UnF.u rfl rfl h) ?_)
      | (refine sta 6 ?_; refine stk (fun h => va (j := 0) ql (by decide) rfl h) ?_)
      | (refine sta 7 ?_; refine stk (fun h => qel (j := 2) rfl h) ?_)
      | (refine sta 8 ?_; refine stk (fun h => qgm h) ?_)
      | (refine sta 9 ?_; refine stk (fun h => kv (i := 3) rfl rfl inferInstance rfl rfl (by simp) rfl rfl h) ?_)
      | (refine sta 10 ?_; refine stk (fun h => kv (i := 4) rfl rfl inferInstance rfl rfl (by simp) rfl rfl h) ?_)
      | (refine sta 11 ?_; refine stk (fun h => kv (i := 3) rfl rfl inferInstance rfl rfl (fun _ => rfl) rfl rfl h) ?_)
      | (refine sta 12 ?_; refine stk (fun h => zU yx h) ?_)
      | (refine sta 13 ?_; refine stk (fun h => zU qbR h) ?_)
      | (refine sta 14 ?_; refine stk (fun h => qgu (j := 0) rfl UnF.u inferInstance rfl rfl rfl rfl h) ?_)
      | (refine sta 15 ?_; refine stk (fun h => qhg h) ?_))
    | (refine stc 31 ?_; first
      | (refine sta 0 ?_; refine stk (fun h => qgk h) ?_)
      | (refine sta 1 ?_; refine stk (fun h => qaV Int (eI .i64) 3 1 h) ?_)
      | (refine sta 2 ?_; refine stk (fun h => qs (.cons 0 rfl (.cons 0 rfl (.cons 0 rfl (.cons 0 rfl (.cons 0 rfl .nil))))) (q4 0 rfl qn) h) ?_)
      | (refine sta 3 ?_; refine stk (fun h => qB qda h) ?_)
      | (refine sta 4 ?_; refine stk (fun h => jC Int (eI .i64) 3 1 h) ?_)))) : Stv p B A := ⟨fun h => (t h).go⟩
theorem au (p : List Nat) {A B : Prop} (h : B) (t : Stv p B A := by exact au0 _) : A := t.go h
theorem av (p : List Nat) {A B C : Prop} (h : B) (k : C) (t : Stv p (B ∧ C) A := by exact au0 _) : A := t.go ⟨h, k⟩
theorem az (p : List Nat) {A : Prop} (t : Stv p True A := by exact au0 _) : A := t.go trivial
set_option maxHeartbeats 4000000 in
theorem qcz {F : Nat} {x1 : List (List Int)} {a2 : Option Addr} {c3 : Nat} {s3 : List (Option Addr × Nat)} {r : Int} (hm : zN F x1 = some r) :
    Pure Tryz.prog 18 [.agg #[.slice a2 x1.length c3]] [SlN eN66 iN66 1 (.slice a2 x1.length c3) x1 s3] Unit (fun _ => .int .i64 r) (fun _ => []) (fun _ => []) := by
 refine qM Tryz.func18 rfl Tryz.ntmps18 rfl hm (fun w => ?_)
 refine au [24,12,2,3,25,0] ?_
 intro g4
 refine av [5,0,1,2,3,23,24,4,24,1,5,0,1,2,2,3,4,25,2,0,1,9] ?_ ?_
 intro _
 exact az [2,3,5,0,1,8,7,16]
 intro _
 refine au [10,1,2,3,5,0,1] ?_
 refine qf (fun ((x798, _) : (Int × Unit)) => ([(4, .int .i64 x798)], [], [], [], y6 F x798)) ?_ ?_
 refine au [2,3,23,24,4,24,1,4,0,1,13] ?_
 refine qK (fun (((x1064, x1065), _) : ((Int × Int) × Unit)) => ([(3, .int .i64 (x1.length : Int)), (4, .int .i64 x1064), (16, .slice a2 x1.length c3), (17, .int .i64 (x1.length : Int)), (18, .int .i64 x1065)], [], [], [SlN eN66 iN66 1 (.slice a2 x1.length c3) x1 s3])) (fun k (s : ((Int × Int) × Unit)) => qL F x1 k s.1) ((0, 0), ()) F ?_
 intro k1329
 rintro ⟨⟨x1064, x1065⟩, _⟩
 try dsimp only
 refine q5 (m' := k5 F x1 (qL F x1 k1329) x1064 x1065) rfl ?_
 refine av [2,3,24,2,0,1,2,9] ?_ ?_
 intro _
 refine au [10,1] ?_
 refine qf (fun ((x1461, _) : (Int × Unit)) => ([(3, .int .i64 (x1.length : Int)), (4, .int .i64 x1461), (16, .slice a2 x1.length c3), (17, .int .i64 (x1.length : Int)), (18, .int .i64 x1065)], [], [], [SlN eN66 iN66 1 (.slice a2 x1.length c3) x1 s3], y7 F (qL F x1 k1329) x1065 x1461)) ?_ ?_
 refine au [13,2,3,27,4] ?_
 intro x1462 e1462 g1465 b1463 o1464
 refine au [25,11,5,0,1,2,3,5,0,1] ?_
 refine qf (fun ((_, _) : (Unit × Unit)) => ([(3, .int .i64 (x1.length : Int)), (4, .int .i64 x1064), (6, .slice g1465.1 x1462.length g1465.2), (16, .slice a2 x1.length c3), (17, .int .i64 (x1.length : Int)), (18, .int .i64 x1065)], [], [], [Sl (eI .i64) 1 (.slice g1465.1 x1462.length g1465.2) x1462, SlN eN66 iN66 1 (.slice a2 x1.length c3) x1 s3], k7 F (qL F x1 k1329) x1064 x1065 x1462)) ?_ ?_
 refine au [2,3,4,24,1,4,0,1,13] ?_
 refine qK (fun (((x1549, x1550), _) : ((Int × Int) × Unit)) => ([(3, .int .i64 (x1.length : Int)), (4, .int .i64 x1064), (6, .slice g1465.1 x1462.length g1465.2), (7, .int .i64 x1549), (16, .slice a2 x1.length c3), (17, .int .i64 (x1.length : Int)), (18, .int .i64 x1065), (22, .slice g1465.1 x1462.length g1465.2), (23, .int .i64 (x1462.length : Int)), (24, .int .i64 x1550)], [], [], [Sl (eI .i64) 1 (.slice g1465.1 x1462.length g1465.2) x1462, SlN eN66 iN66 1 (.slice a2 x1.length c3) x1 s3])) (fun k (s : ((Int × Int) × Unit)) => zR F (qL F x1 k1329) x1 x1064 x1065 x1462 k s.1) ((-1, 0), ()) F ?_
 intro k1571
 rintro ⟨⟨x1549, x1550⟩, _⟩
 try dsimp only
 refine q5 (m' := k6 F (qL F x1 k1329) x1 x1064 x1065 x1462 (zR F (qL F x1 k1329) x1 x1064 x1065 x1462 k1571) x1549 x1550) rfl ?_
 refine av [2,3,24,2,0,1,2,9] ?_ ?_
 intro _
 refine au [10,1,2,13,2,3,29,0] ?_
 intro x1582 e1582 b1583 o1584
 refine au [25,11,5,0,1,2,13,2,3,4,24,2,4] ?_
 refine qN 4 (decide (x1582 < 0)) [(3, .int .i64 (x1.length : Int)), (4, .int .i64 x1064), (6, .slice g1465.1 x1462.length g1465.2), (7, .int .i64 x1549), (16, .slice a2 x1.length c3), (17, .int .i64 (x1.length : Int)), (18, .int .i64 x1065), (22, .slice g1465.1 x1462.length g1465.2), (23, .int .i64 (x1462.length : Int)), (24, .int .i64 x1550), (9, .int .i64 x1582), (35, .bool ((decide (x1582 < 0)) || (decide ((x1.length : Int) ≤ x1582))))] (fun h1588 => ?_) (fun h1588 => ?_) ?_
 refine qb (os := _) rfl (qj (k := 31) rfl h1588 ?_)
 refine au [6,6,6,17] ?_
 refine qc (d := 35) (v := .bool ((decide (x1582 < 0)) || (decide ((x1.length : Int) ≤ x1582)))) rfl (by rw [h1588]; simp only [Bool.true_or]) ?_
 exact az [0,20]
 refine qb (os := _) rfl (qi (k := 31) rfl h1588 ?_)
 refine au [4,4,26,4,18] ?_
 refine qc (d := 35) (v := .bool ((decide (x1582 < 0)) || (decide ((x1.length : Int) ≤ x1582)))) rfl (by rw [h1588]; simp only [Bool.false_or]) ?_
 exact az [0,20]
 refine qb (os := _) rfl ?_
 refine av [5,0,1,9] ?_ ?_
 intro _
 exact az [2,3,5,0,1,8,22,7,22,7,7,22,7,22,7,7,22,7,16]
 intro _
 refine av [2,3,4,4,27,5,5,0,1,9] ?_ ?_
 intro _
 exact az [2,3,5,0,1,8,22,7,22,7,7,22,7,22,7,7,22,7,16]
 intro _
 refine au [10,24,0,1,3,4,5,0,24,0,1,3,24,3,4,0] ?_
 exact qw ((x1582, iadd .i64 x1550 1), ())
 intro _
 exact az [24,6,15,15,24,7,25,7]
 rintro ⟨_, _⟩
 try dsimp only
 refine au [3,4,4,24,1,24,3,5,0,24,0] ?_
 exact qa (iadd .i64 x1064 (x1462.length : Int), ())
 rintro ⟨x1461, _⟩
 try dsimp only
 refine au [3,24,3,4,0] ?_
 exact qw ((x1461, iadd .i64 x1065 1), ())
 intro _
 refine au [24,6,15,15,24,7] ?_
 exact qa (x1064, ())
 rintro ⟨x798, _⟩
 try dsimp only
 refine av [2,2,3,4,25,2,0,1,9] ?_ ?_
 intro _
 exact az [2,3,5,0,1,8,7,16]
 intro _
 exact az [10,1,2,3,5,0,1,8,16]
theorem qdQ {F : Nat} {x1 : List (List Int)} {a2 : Option Addr} {c3 : Nat} {s3 : List (Option Addr × Nat)} {r : Unit} (hm : z7 F x1 = some r) :
    PureM Tryz.prog 21 [.agg #[.slice a2 x1.length c3]] [] [] [SlN eN66 iN66 1 (.slice a2 x1.length c3) x1 s3] Nat (fun g => .func (.func 42) #[] #[.pointer (some ⟨g, 0, none⟩)]) (fun g => [⟨g, 24, [.slice a2 x1.length c3]⟩]) (fun _ => []) := by
 refine yb Tryz.func21 rfl Tryz.ntmps21 rfl hm (fun w => ?_)
 refine au [24,12,2,3,25,0] ?_
 intro g4
 refine au [5,0,1,2,3,29,1,5,0,1,8] ?_
 exact zp g4
set_option maxHeartbeats 4000000 in
theorem vt (F : Nat) {σ τ : Type} {J : Rounds σ τ} {yy : σ → (Int × Int) → Option (σ ⊕ τ)} {L : Nat} (hY : YieldC Tryz.prog L (fun (p : (Int × Int)) => [.agg #[.int .i64 p.1, .int .i64 p.2]]) J yy) (s0 : σ) (gs0 : J.γ) (g1 : Nat) (x2 : List (List Int)) (a3 : Option Addr) (c4 : (Nat × List (Option Addr × Nat))) (r : σ ⊕ τ) (hm : z8 F yy x2 s0 = some r) :
    PureM Tryz.prog 42 ([.func (.yield L) #[] #[], .pointer (some ⟨g1, 0, none⟩)]) ([⟨g1, 24, [.slice a3 x2.length c4.1]⟩] ++ J.IB s0 gs0) (J.IR s0 gs0) [J.F, SlN eN66 iN66 1 (.slice a3 x2.length c4.1) x2 c4.2] (J.G r) (fun _ => .tuple #[]) (fun g => [⟨g1, 24, [.slice a3 x2.length c4.1]⟩] ++ J.bs r g) (fun g => J.rs r g) := by
 refine yb Tryz.func42 rfl Tryz.ntmps42 rfl hm (fun w => ?_)
 refine au [24,15,2,3,23,24,4,24,1,4,0,1,13] ?_
 refine ja (fun (((x121, x122), g123) : ((Int × σ) × J.γ)) => [(0, .func (.yield L) #[] #[]), (8, .slice a3 x2.length c4.1), (9, .int .i64 (x2.length : Int)), (10, .int .i64 x121)]) (fun (((x121, x122), g123) : ((Int × σ) × J.γ)) => [⟨g1, 24, [.slice a3 x2.length c4.1]⟩] ++ J.IB x122 g123) (fun (((x121, x122), g123) : ((Int × σ) × J.γ)) => [] ++ J.IR x122 g123) (fun (((x121, x122), g123) : ((Int × σ) × J.γ)) => [SlN eN66 iN66 1 (.slice a3 x2.length c4.1) x2 c4.2, J.F]) (fun k (s : ((Int × σ) × J.γ)) => qY F yy x2 k s.1) ((0, s0), gs0) F ?_ (hB := (.cons 0 rfl (qZ 0 rfl))) (hR := (qZ 0 rfl)) (hF := (qz 1 rfl (qz 0 rfl yA)))
 intro k240
 rintro ⟨⟨x121, x122⟩, g123⟩
 try dsimp only
 refine q5 (m' := yj F yy x2 (qY F yy x2 k240) x121 x122) rfl ?_
 refine av [2,3,24,2,0,1,2,9] ?_ ?_
 intro _
 refine au [10,1] ?_
 refine qen (fun ((x298, g299) : (σ × J.γ)) => [(0, .func (.yield L) #[] #[]), (8, .slice a3 x2.length c4.1), (9, .int .i64 (x2.length : Int)), (10, .int .i64 x121)]) (fun ((x298, g299) : (σ × J.γ)) => [⟨g1, 24, [.slice a3 x2.length c4.1]⟩] ++ J.IB x298 g299) (fun ((x298, g299) : (σ × J.γ)) => [] ++ J.IR x298 g299) (fun ((x298, g299) : (σ × J.γ)) => [SlN eN66 iN66 1 (.slice a3 x2.length c4.1) x2 c4.2, J.F]) (fun ((x298, _) : (σ × J.γ)) => yk F yy (qY F yy x2 k240) x121 x298) ?_ ?_
 refine au [13,2,3,4,27,4] ?_
 intro x300 e300 g303 b301 o302
 refine au [25,11,5,5,0,1,2,3,4,24,1,4,0,1,13] ?_
 refine ja (fun (((x320, x321), g322) : ((Int × σ) × J.γ)) => [(0, .func (.yield L) #[] #[]), (3, .int .i64 x121), (8, .slice a3 x2.length c4.1), (9, .int .i64 (x2.length : Int)), (10, .int .i64 x121), (15, .slice g303.1 x300.length g303.2), (16, .int .i64 (x300.length : Int)), (17, .int .i64 x320)]) (fun (((x320, x321), g322) : ((Int × σ) × J.γ)) => [⟨g1, 24, [.slice a3 x2.length c4.1]⟩] ++ J.IB x321 g322) (fun (((x320, x321), g322) : ((Int × σ) × J.γ)) => [] ++ J.IR x321 g322) (fun (((x320, x321), g322) : ((Int × σ) × J.γ)) => [SlN eN66 iN66 1 (.slice a3 x2.length c4.1) x2 c4.2, Sl (eI .i64) 1 (.slice g303.1 x300.length g303.2) x300, J.F]) (fun k (s : ((Int × σ) × J.γ)) => zQ F yy (qY F yy x2 k240) x121 x300 k s.1) ((0, x122), g123) F ?_ (hB := (.cons 0 rfl (qZ 0 rfl))) (hR := (qZ 0 rfl)) (hF := (qz 2 rfl (qz 1 rfl (qz 3 rfl yA))))
 intro k339
 rintro ⟨⟨x320, x321⟩, g322⟩
 try dsimp only
 refine q5 (m' := k4 F yy (qY F yy x2 k240) x121 x300 (zQ F yy (qY F yy x2 k240) x121 x300 k339) x320 x321) rfl ?_
 refine av [2,3,24,2,0,1,2,9] ?_ ?_
 intro _
 refine au [10,1,2,13,2,3,28,5] ?_
 intro x348 e348 b349 o350
 refine au [25,11,5,0,1,2,3,4,4,4] ?_
 refine qh (cells := [.int .i64 x121, .int .i64 x348]) rfl st44 rfl (by kernel_rfl) rfl (qcZ hY x321 (x121, x348) g322 (B1 := [⟨g1, 24, [.slice a3 x2.length c4.1]⟩]) (R1 := []) (j := 3) rfl rfl rfl rfl rfl rfl rfl (fun x351 _ g353 => ?_) (fun x352 _ g353 => ?_))
 refine au [25,8,0,1] ?_
 refine qas (b := false) rfl (fun h => by cases h) (fun _ => ?_)
 refine au [10,24,0,1,3,24,3,4,0] ?_
 exact j7 ((iadd .i64 x320 1, x351), g353) (hB := (.cons 0 rfl (qZ 0 rfl))) (hR := (qZ 0 rfl)) (hF := (qz 1 rfl (qz 2 rfl (qz 3 rfl yA))))
 refine au [25,8,0,1] ?_
 refine qas (b := true) rfl (fun _ => ?_) (fun h => by cases h)
 refine au [8,22,7,7,22,22,7,7,22] ?_
 exact qaz (B0 := [⟨g1, 24, [.slice a3 x2.length c4.1]⟩]) (x := .inr x352) g353 (.inl rfl) (res0 rfl) (.cons 0 rfl (qZ 0 rfl)) (qZ 0 rfl)
 intro _
 refine au [24,6,15,15,24,7,24,0] ?_
 exact qc1 (x321, g322) (hB := (.cons 0 rfl (qZ 0 rfl))) (hR := (qZ 0 rfl)) (hF := (qz 0 rfl (qz 2 rfl yA)))
 rintro ⟨x298, g299⟩
 try dsimp only
 refine au [3,24,3,4,0] ?_
 exact j7 ((iadd .i64 x121 1, x298), g299) (hB := (.cons 0 rfl (qZ 0 rfl))) (hR := (qZ 0 rfl)) (hF := (qz 0 rfl (qz 1 rfl yA)))
 intro _
 refine au [24,6,15,15,24,7] ?_
 exact qaz (B0 := [⟨g1, 24, [.slice a3 x2.length c4.1]⟩]) (x := .inl x122) g123 (.inr rfl) (res0 rfl) (.cons 0 rfl (qZ 0 rfl)) (qZ 0 rfl)
set_option maxHeartbeats 4000000 in
theorem qde {F : Nat} {x1 : List (List Int)} {a2 : Option Addr} {c3 : Nat} {s3 : List (Option Addr × Nat)} {r : (List Int × Int)} (hm : kJ F x1 = some r) :
    PureM Tryz.prog 8 [.agg #[.slice a2 x1.length c3]] [] [] [SlN eN66 iN66 1 (.slice a2 x1.length c3) x1 s3, GF] Unit (fun _ => .tuple #[.string (bstr r.1), .int .i64 r.2]) (fun _ => []) (fun _ => []) := by
 refine qap Tryz.func8 rfl Tryz.ntmps8 rfl hm (fun w => ?_)
 refine au [24,12,2,3,25,0] ?_
 intro g4
 refine au [5,5,0,1,2,2,3,24,13,26,8] ?_
 intro x7 e7 _
 refine av [5,0,1,2,3,4,25,3,0,1,9] ?_ ?_
 intro _
 refine au [2,3,4,5,5,0,1,8,7] ?_
 exact vr [] () (.inl rfl) rfl .nil (res2 rfl rfl rfl) (fun h => by subst h; rfl) (fun h => by subst h; exact .nil) (fun h => by subst h; exact .nil)
 intro _
 refine au [10,1,2,3,14] ?_
 intro g8
 refine au [0,1,2,3,23,26,5,24,1] ?_
 refine vb ent20 rfl rfl rfl (fun x9 e9 => qbI (x1.length : Int) x9 e9) (.consF 1 rfl .nil) (fun x9 e9 _ => qA (a := x9) (b := ([10] : List Int)) rfl Tryz.underlying9 rfl rfl rfl (fun x10 e10 => jC Int (eI .u8) 5 1 (jb ent19 rfl rfl rfl (fun x11 e11 => qew g8 false ([] : List Int) none 0 x10 x11 e11) (.cons 0 rfl .nil) (.cons 0 rfl .nil) .nil (fun x11 e11 => ?_))))
 rintro ⟨a12, c13⟩
 refine au [0,1,2,2,3,25,5,26,11] ?_
 intro x91 e91 g92
 refine au [0,1,13] ?_
 refine jT (encs := (fun (p : (Int × Int)) => [.agg #[.int .i64 p.1, .int .i64 p.2]])) (y := (fun (x119 : List Int) ((x144, x145) : (Int × Int)) => kQ F x119 x144 x145)) (lb := [.pointer (some ⟨g92, 0, none⟩)]) (fun (x119 : List Int) ((a117, c118) : (Option Addr × Nat)) => [⟨g8, 49, [(bself g8 true), .slice a117 x119.length c118]⟩, ⟨g4, 24, [.slice a2 x1.length c3]⟩]) (fun (x119 : List Int) ((a117, c118) : (Option Addr × Nat)) => [Ro (eI .u8) 5 1 (.slice a117 x119.length c118) x119]) (fun (_ : Empty) (_ : Unit) => []) (fun (_ : Empty) (_ : Unit) => []) (fun _ => .skip) x11 (a12, c13) rfl ent42 (fun _ => rfl) rfl (.cons 0 rfl .nil) (.cons 0 rfl (.cons 0 rfl .nil)) (.cons 0 rfl .nil) (.consF 0 rfl .nil) (fun z hz _ _ _ hY => vt F hY x11 (a12, c13) g92 x1 a2 (c3, s3) z hz) ?_ ?_ ?_
 rintro rc1 L1 D1 x119 ⟨a117, c118⟩ ⟨x144, x145⟩ z w M _
 try dsimp only
 refine qat [(0, .agg #[.slice a2 x1.length c3]), (1, .pointer (some ⟨g4, 0, none⟩)), (2, .string (bstr ([] : List Int))), (3, .int .i64 0), (4, .int .i64 x7), (5, .pointer (some ⟨g8, 0, none⟩)), (7, .agg #[.slice a2 x1.length c3]), (8, .int .i64 x7), (9, .int .i64 x7), (10, .bool ((x7 : Int) != 0)), (12, .pointer (some ⟨g4, 0, none⟩)), (13, .slice a2 x1.length c3), (14, .int .i64 (x1.length : Int)), (15, .string (bstr x9)), (16, .string (bstr x10)), (17, .tuple #[.int .i64 (x10.length : Int), .nilIface]), (18, .agg #[.slice a2 x1.length c3]), (19, .func (.func 42) #[] #[.pointer (some ⟨g92, 0, none⟩)]), (20, .agg #[.int .i64 x144, .int .i64 x145])] (qv rfl (qv rfl (qv rfl (qv rfl (qv rfl (qv rfl (qv rfl (qv rfl (qv rfl (qv rfl (qv rfl (qv rfl (qv rfl (qv rfl (qv rfl (qv rfl (qv rfl (qv rfl (qv rfl j4))))))))))))))))))) ?_
 refine au [3,14] ?_
 intro g146
 refine au [19,0,29,2,13] ?_
 refine q6 mixed [] [⟨g146, 44, [.int .i64 x144, .int .i64 x145]⟩, ⟨g4, 24, [.slice a2 x1.length c3]⟩, (blkO L1 (.loop (bsy rc1))), (dblk D1)] [SlN eN66 iN66 1 (.slice a2 x1.length c3) x1 s3, GF] (.cons 0 rfl (.cons 1 rfl (.cons 1 rfl (.cons 1 rfl .nil)))) (q4 0 rfl (q4 1 rfl qn)) 10 rfl ?_
 refine au [24,8,0,25,1,1,24,8,4,25,1,5,12,2] ?_
 refine vb ent20 rfl rfl rfl (fun x147 e147 => qbI x144 x147 e147) (.consF 1 rfl .nil) (fun x147 e147 _ => ?_)
 refine au [0,25,15] ?_
 refine yL 3 6 rfl rfl (by kernel_rfl) rfl rfl ?_ ?_
 refine qA (a := x147) (b := ([32] : List Int)) rfl Tryz.underlying9 rfl rfl rfl (fun x149 e149 => ?_)
 refine au [0,25,15,12,6] ?_
 refine vb ent20 rfl rfl rfl (fun x150 e150 => qbI x145 x150 e150) (.consF 1 rfl .nil) (fun x150 e150 _ => ?_)
 refine au [0,25,15,12,7] ?_
 refine qA (a := x149) (b := x150) rfl Tryz.underlying9 rfl rfl rfl (fun x152 e152 => ?_)
 refine au [0,25,15,12,8] ?_
 refine qA (a := x152) (b := ([10] : List Int)) rfl Tryz.underlying9 rfl rfl rfl (fun x154 e154 => ?_)
 refine au [0,25,15,12,9] ?_
 refine jb ent19 rfl rfl rfl (fun x155 e155 => qew g8 true x119 a117 c118 x154 x155 e155) (.cons 1 rfl .nil) (.cons 0 rfl .nil) .nil (fun x155 e155 => ?_)
 rintro ⟨a156, c157⟩
 refine au [0,29,3,24,5] ?_
 refine q9 ?_ (by intro c h; cases h)
 refine au [24,0] ?_
 exact jc (rc := rc1) rfl (.cons 3 rfl .nil) rfl (a156, c157) (.cons 1 rfl (.cons 2 rfl (.cons 0 rfl (.cons 1 rfl .nil)))) (.cons 0 rfl .nil)
 refine yM (m' := ((itoaB x145).bind fun x158 => ((app 9223372036854775807 x147 ([32] : List Int)).bind fun x160 => ((app 9223372036854775807 x160 x158).bind fun x162 => ((app 9223372036854775807 x162 ([10] : List Int)).bind fun x164 => ((app 140737488355328 x119 (x164.map b8)).bind fun x165 => some (.inl x165))))))) (Eq.trans (b := ((app 9223372036854775807 x147 ([32] : List Int)).bind fun x149 => ((itoaB x145).bind fun x150 => ((app 9223372036854775807 x149 x150).bind fun x152 => ((app 9223372036854775807 x152 ([10] : List Int)).bind fun x154 => ((app 140737488355328 x119 (x154.map b8)).bind fun x155 => some (.inl x155))))))) rfl (by generalize (app 9223372036854775807 x147 ([32] : List Int)) = q0; generalize (itoaB x145) = q1; cases q0 <;> cases q1 <;> rfl)) (vb ent20 rfl rfl rfl (fun x158 e158 => qbI x145 x158 e158) (.consF 1 rfl .nil) (fun x158 e158 => ?_))
 intro _
 refine au [0,25,15,12,3] ?_
 refine qA (a := x147) (b := ([32] : List Int)) rfl Tryz.underlying9 rfl rfl rfl (fun x160 e160 => ?_)
 refine au [0,25,15,12,7] ?_
 refine qA (a := x160) (b := x158) rfl Tryz.underlying9 rfl rfl rfl (fun x162 e162 => ?_)
 refine au [0,25,15,12,8] ?_
 refine qA (a := x162) (b := ([10] : List Int)) rfl Tryz.underlying9 rfl rfl rfl (fun x164 e164 => ?_)
 refine au [0,25,15,12,9] ?_
 refine jb ent19 rfl rfl rfl (fun x165 e165 => qew g8 true x119 a117 c118 x164 x165 e165) (.cons 1 rfl .nil) (.cons 0 rfl .nil) .nil (fun x165 e165 => ?_)
 rintro ⟨a166, c167⟩
 refine au [0,29,3,24,5] ?_
 refine q9 ?_ (by intro c h; cases h)
 refine au [24,0] ?_
 exact jc (rc := rc1) rfl (.cons 3 rfl .nil) rfl (a166, c167) (.cons 1 rfl (.cons 2 rfl (.cons 0 rfl (.cons 1 rfl .nil)))) (.cons 0 rfl .nil)
 rintro x119 _ ⟨a117, c118⟩ D1
 try dsimp only
 refine au [24,0,1,2,3] ?_
 refine jb ent22 rfl rfl rfl (fun x168 e168 => qgW g8 true x119 a117 c118 x168 e168) (.cons 2 rfl .nil) (.cons 0 rfl .nil) .nil (fun x168 e168 _ => ?_)
 refine au [5,5,0,1,8] ?_
 exact vr [D1] () (.inl rfl) rfl (.cons 0 rfl .nil) (res2 rfl rfl rfl) (fun h => by subst h; rfl) (fun h => by subst h; exact .nil) (fun h => by subst h; exact .nil)
 intro t; exact t.elim
set_option maxHeartbeats 4000000 in
theorem yX {F : Nat} {x1 : List Int} {x2 : List Int} {r : Bool} (hm : zF F x1 x2 = some r) :
    Pure Tryz.prog 73 [.string (bstr x1), .string (bstr x2)] [] Unit (fun _ => .bool r) (fun _ => []) (fun _ => []) := by
 refine qM Tryz.func73 rfl Tryz.ntmps73 rfl hm (fun w => ?_)
 refine au [24,15,2,3,5,0,1,2,3,4] ?_
 refine zw (a := x1) rfl Tryz.underlying9 rfl rfl ?_
 refine au [4] ?_
 refine zw (a := x2) rfl Tryz.underlying9 rfl rfl ?_
 refine au [26,4,4] ?_
 refine qy 10 (fun ((x5, _) : (Bool × Unit)) => ([(20, .bool x5)], [], [], [], qJ F x5)) ?_ ?_
 refine qb (os := _) rfl ?_
 refine av [24,10] ?_ ?_
 intro h3
 refine qj (k := 10) rfl h3 ?_
 refine au [4,4] ?_
 refine zw (a := x1) rfl Tryz.underlying9 rfl rfl ?_
 refine au [4] ?_
 refine zw (a := x2) rfl Tryz.underlying9 rfl rfl ?_
 refine au [26,9] ?_
 refine jU (xs := x1) rfl Tryz.underlying9 rfl rfl rfl rfl (fun x6 e6 => ?_)
 refine au [4,27,6,17,0] ?_
 exact qa ((bstr x6 == bstr x2), ())
 intro h3
 refine qi (k := 10) rfl h3 ?_
 refine au [6,6,6,6,6,6,6,6,6,18,0] ?_
 exact qa (false, ())
 rintro ⟨x5, _⟩
 try dsimp only
 refine qb (os := _) rfl ?_
 exact az [5,0,1,8,16]
theorem yV {F : Nat} {x1 : List Int} {x2 : List Int} {r : List Int} (hm : zA F x1 x2 = some r) :
    Pure Tryz.prog 58 [.string (bstr x1), .string (bstr x2)] [] Unit (fun _ => .string (bstr r)) (fun _ => []) (fun _ => []) := by
 refine qM Tryz.func58 rfl Tryz.ntmps58 rfl hm (fun w => ?_)
 refine au [24,15,2,3,5,0,1,2,2,3,4,4] ?_
 refine qB yX ?_
 intro x6 e6 _
 refine av [0,1,9] ?_ ?_
 intro _
 refine au [2,3,4,4] ?_
 refine zw (a := x1) rfl Tryz.underlying9 rfl rfl ?_
 refine au [4] ?_
 refine zw (a := x2) rfl Tryz.underlying9 rfl rfl ?_
 refine au [26,9] ?_
 refine jU (xs := x1) rfl Tryz.underlying9 rfl rfl rfl rfl (fun x7 e7 => ?_)
 exact az [5,0,1,8,7,16]
 intro _
 exact az [10,1,2,3,4,5,0,1,8,16]
theorem qaj {F : Nat} {x1 : List Int} {x2 : List Int} {r : List Int} (hm : kx F x1 x2 = some r) :
    Pure Tryz.prog 44 [.string (bstr x1), .string (bstr x2)] [] Unit (fun _ => .string (bstr r)) (fun _ => []) (fun _ => []) := by
 refine qM Tryz.func44 rfl Tryz.ntmps44 rfl hm (fun w => ?_)
 refine au [24,15,2,3,5,0,1,2,3,4,4] ?_
 refine qB yV ?_
 intro x3 e3 _
 exact az [5,0,1,8,16]
theorem qdf {F : Nat} {x1 : List Int} {r : List (List Int)} (hm : vV F x1 = some r) :
    Pure Tryz.prog 23 [.string (bstr x1)] [] (Option Addr × Nat) (fun g => .slice g.1 r.length g.2) (fun g => [Ro eT 9 1 (.slice g.1 r.length g.2) r]) (fun _ => []) := by
 refine qM Tryz.func23 rfl Tryz.ntmps23 rfl hm (fun w => ?_)
 refine av [24,12,2,3,5,0,1,2,2,3,4,27,6,0,1,9] ?_ ?_
 intro _
 refine au [2,3,5,0,1,8,7,29,4] ?_
 exact yw (none, 0)
 intro _
 refine au [10,1,2,3,4] ?_
 refine qB qaj ?_
 intro x3 e3 _
 refine vb ent43 rfl rfl rfl (fun x4 e4 => qeV x3 ([10] : List Int) x4 e4) .nil (fun x4 e4 => ?_)
 rintro ⟨a5, c6⟩
 refine au [5,0,1,8] ?_
 exact yw (a5, c6)
set_option maxHeartbeats 4000000 in
theorem qdg {F : Nat} {x1 : List Int} {r : List (List Int)} (hm : vW F x1 = some r) :
    Pure Tryz.prog 24 [.string (bstr x1)] [] (Option Addr × Nat) (fun g => .slice g.1 r.length g.2) (fun g => [Ro eT 9 1 (.slice g.1 r.length g.2) r]) (fun _ => []) := by
 refine qM Tryz.func24 rfl Tryz.ntmps24 rfl hm (fun w => ?_)
 refine au [24,12,2,3,5,0,1,2,3,5,0,1] ?_
 refine qf (fun ((x81, (a79, c80)) : (List (List Int) × (Option Addr × Nat))) => ([(3, .slice a79 x81.length c80)], [], [Ro eT 9 1 (.slice a79 x81.length c80) x81], [], kR F x81)) ?_ ?_
 refine au [2,3,4] ?_
 refine vb ent43 rfl rfl rfl (fun x104 e104 => qeV x1 ([32] : List Int) x104 e104) .nil (fun x104 e104 => ?_)
 rintro ⟨a105, c106⟩
 refine au [24,1,4,0,1,13,28,6] ?_
 refine qK (fun (((x132, x133), (a130, c131)) : ((List (List Int) × Int) × (Option Addr × Nat))) => ([(3, .slice a130 x132.length c131), (7, .slice a105 x104.length c106), (8, .int .i64 (x104.length : Int)), (9, .int .i64 x133)], [], [Ro eT 9 1 (.slice a130 x132.length c131) x132, Ro eT 9 1 (.slice a105 x104.length c106) x104], [])) (fun k (s : ((List (List Int) × Int) × (Option Addr × Nat))) => zL F x104 k s.1) ((([] : List (List Int)), 0), (none, 0)) F ?_
 intro k157
 rintro ⟨⟨x132, x133⟩, ⟨a130, c131⟩⟩
 try dsimp only
 refine q5 (m' := yn F x104 (zL F x104 k157) x132 x133) rfl ?_
 refine av [2,3,24,2,0,1,2,9] ?_ ?_
 intro _
 refine au [10,1] ?_
 refine qf (fun ((x170, (a168, c169)) : (List (List Int) × (Option Addr × Nat))) => ([(3, .slice a168 x170.length c169), (7, .slice a105 x104.length c106), (8, .int .i64 (x104.length : Int)), (9, .int .i64 x133)], [], [Ro eT 9 1 (.slice a168 x170.length c169) x170, Ro eT 9 1 (.slice a105 x104.length c106) x104], [], yo F (zL F x104 k157) x133 x170)) ?_ ?_
 refine au [13,2,3,26,12] ?_
 intro x171 e171 g172 h173
 refine zV (j := 1) (y := x171) zd rfl rfl tf9 rfl h173 (qr e171).2.2 (fun _ => rfl) rfl rfl ?_
 refine av [5,0,1,2,3,4,28,7,0,1,9] ?_ ?_
 intro _
 refine au [3,4,4] ?_
 refine qE (vs := [.string (bstr x171)]) (ys := ([x171] : List (List Int))) zd (by decide) rfl Tryz.underlying57 tf9 rfl rfl rfl rfl rfl (by decide) (fun a174 c175 => yv 1 zd rfl Tryz.underlying57 tf9 rfl rfl rfl rfl rfl (.inl ⟨0, _, rfl⟩) rfl rfl (fun x176 e176 a177 c178 => ?_))
 refine au [5,0,24,0] ?_
 exact qa (x176, (a177, c178))
 intro _
 refine au [10,24,0] ?_
 exact qa (x132, (a130, c131))
 rintro ⟨x170, ⟨a168, c169⟩⟩
 try dsimp only
 refine au [3,24,3,4,0] ?_
 exact qw ((x170, iadd .i64 x133 1), (a168, c169))
 intro _
 refine au [24,6,15,15,24,7] ?_
 exact qa (x132, (a130, c131))
 rintro ⟨x81, ⟨a79, c80⟩⟩
 try dsimp only
 refine au [2,2,3,4,24,1,25,2,4] ?_
 refine qy 6 (fun ((x98, _) : (Bool × Unit)) => ([(3, .slice a79 x81.length c80), (29, .bool x98)], [], [Ro eT 9 1 (.slice a79 x81.length c80) x81], [], yJ F x81 x98)) ?_ ?_
 refine qb (os := _) rfl ?_
 refine av [24,10] ?_ ?_
 intro h93
 refine qj (k := 23) rfl h93 ?_
 refine au [4,26,10] ?_
 intro x100 e100 g101 h102
 refine zV (j := 0) (y := x100) zd rfl rfl tf9 rfl h102 (qr e100).2.2 (fun _ => rfl) rfl rfl (vd (xs := x100) rfl Tryz.underlying9 rfl rfl rfl (fun x103 e103 => ?_))
 refine au [24,11,17,0] ?_
 exact qa ((((b8 x103) : Int) == 35), ())
 intro h93
 refine qi (k := 23) rfl h93 ?_
 refine au [6,6,6,6,6,18,0] ?_
 exact qa (false, ())
 rintro ⟨x98, _⟩
 try dsimp only
 refine qb (os := _) rfl ?_
 refine av [0,1,9] ?_ ?_
 intro _
 refine au [2,3,5,0,1,8,7,29,4] ?_
 exact yw (none, 0)
 intro _
 refine au [10,1,2,3,4,5,0,1,8] ?_
 exact yw (a79, c80)
set_option maxHeartbeats 4000000 in
theorem qcB {F : Nat} {x1 : List Int} {r : Int} (hm : zD F x1 = some r) :
    Pure Tryz.prog 46 [.string (bstr x1)] [] Unit (fun _ => .int .i64 r) (fun _ => []) (fun _ => []) := by
 refine qM Tryz.func46 rfl Tryz.ntmps46 rfl hm (fun w => ?_)
 refine au [24,12,2,3,5,0,1,2,2,3,4] ?_
 refine zw (a := x1) rfl Tryz.underlying9 rfl rfl ?_
 refine au [25,2,4] ?_
 refine qy 4 (fun ((x9, _) : (Bool × Unit)) => ([(0, .string (bstr x1)), (12, .bool x9)], [], [], [], kF F x1 x9)) ?_ ?_
 refine qb (os := _) rfl ?_
 refine av [24,10] ?_ ?_
 intro h7
 refine qj (k := 8) rfl h7 ?_
 refine au [6,6,6,17,0] ?_
 exact qa (true, ())
 intro h7
 refine qi (k := 8) rfl h7 ?_
 refine au [4] ?_
 refine vb ent59 rfl rfl rfl (fun x12 e12 => qhH x1 ([48, 49, 50, 51, 52, 53, 54, 55, 56, 57] : List Int) x12 e12) .nil (fun x12 e12 _ => ?_)
 refine au [28,7,18,0] ?_
 exact qa ((!(bstr x12 == bstr ([] : List Int))), ())
 rintro ⟨x9, _⟩
 try dsimp only
 refine qb (os := _) rfl ?_
 refine av [0,1,9] ?_ ?_
 intro _
 exact az [2,3,5,0,1,8,7,16]
 intro _
 refine au [10,1,2,3,4] ?_
 refine vb ent60 rfl rfl rfl (fun x10 e10 => qhF x1 x10 e10) .nil (fun x10 e10 _ => ?_)
 exact az [4,21,21,5,5,0,1,2,3,4,5,0,1,8,16]
set_option maxHeartbeats 4000000 in
theorem qaK {F : Nat} {g1 : Nat} {x2 : Int} {x3 : List (Int × Int)} {a4 : Option Addr} {c5 : Nat} {x6 : List (Int × Int)} {g7 : Nat} {x8 : List (List Int)} {a9 : Option Addr} {c10 : Nat} {r : (Int × Int × List (Int × Int) × List (Int × Int))} (hm : kK F x2 x3 x6 x8 = some r) :
    PureM Tryz.prog 45 [.pointer (some ⟨g1, 0, none⟩), .slice a9 x8.length c10] [⟨g1, 62, [.int .i64 x2, .slice a4 x3.length c5, .map (some g7)]⟩, (blkO g7 (mapO .i64 .i64 x6))] [Ro eS44 44 2 (.slice a4 x3.length c5) x3] [Sl eT 1 (.slice a9 x8.length c10) x8] (Option Addr × Nat) (fun _ => .int .i64 r.1) (fun g => [⟨g1, 62, [.int .i64 r.2.1, .slice g.1 r.2.2.1.length g.2, .map (some g7)]⟩, (blkO g7 (mapO .i64 .i64 r.2.2.2))]) (fun g => [Ro eS44 44 2 (.slice g.1 r.2.2.1.length g.2) r.2.2.1]) := by
 refine yb Tryz.func45 rfl Tryz.ntmps45 rfl hm (fun w => ?_)
 refine au [24,15,2,3,5,0,1,2,2,3,4,24,1,25,3,4] ?_
 refine qy 6 (fun ((x27, _) : (Bool × Unit)) => ([(0, .pointer (some ⟨g1, 0, none⟩)), (1, .slice a9 x8.length c10), (15, .bool x27)], [⟨g1, 62, [.int .i64 x2, .slice a4 x3.length c5, .map (some g7)]⟩, (blkO g7 (mapO .i64 .i64 x6))], [Ro eS44 44 2 (.slice a4 x3.length c5) x3], [Sl eT 1 (.slice a9 x8.length c10) x8], km F x2 x3 x6 x8 x27)) ?_ ?_
 refine qb (os := _) rfl ?_
 refine av [24,10] ?_ ?_
 intro h22
 refine qj (k := 9) rfl h22 ?_
 refine au [6,6,6,6,6,17,0] ?_
 exact qa (true, ())
 intro h22
 refine qi (k := 9) rfl h22 ?_
 refine au [4,29,5] ?_
 intro x35 e35 b36 o37
 refine au [25,11,26,6] ?_
 intro x38 e38 _
 refine au [24,2,18,0] ?_
 exact qa ((decide (x38 < 0)), ())
 rintro ⟨x27, _⟩
 try dsimp only
 refine qb (os := _) rfl ?_
 refine av [0,1,9] ?_ ?_
 intro _
 refine au [2,3,5,0,1,8,7] ?_
 exact zp (a4, c5)
 intro _
 refine au [10,1,2,3,4,29,5] ?_
 intro x28 e28 b29 o30
 refine au [25,11,26,6] ?_
 intro x31 e31 _
 refine av [5,0,1,2,2,3,4,25,2,0,1,9] ?_ ?_
 intro _
 refine au [2,3,5,0,1,8,7] ?_
 exact zp (a4, c5)
 intro _
 refine au [10,1,2,3,4,4,27,7,23,19,0,1,2,3,5,0,1,8] ?_
 exact zp (a4, c5)
set_option maxHeartbeats 4000000 in
theorem qaL {F : Nat} {g1 : Nat} {x2 : Int} {x3 : List (Int × Int)} {a4 : Option Addr} {c5 : Nat} {x6 : List (Int × Int)} {g7 : Nat} {x8 : List (List Int)} {a9 : Option Addr} {c10 : Nat} {r : (Int × Int × List (Int × Int) × List (Int × Int))} (hm : kL F x2 x3 x6 x8 = some r) :
    PureM Tryz.prog 25 [.pointer (some ⟨g1, 0, none⟩), .slice a9 x8.length c10] [⟨g1, 62, [.int .i64 x2, .slice a4 x3.length c5, .map (some g7)]⟩, (blkO g7 (mapO .i64 .i64 x6))] [Ro eS44 44 2 (.slice a4 x3.length c5) x3] [Sl eT 1 (.slice a9 x8.length c10) x8] (Option Addr × Nat) (fun _ => .int .i64 r.1) (fun g => [⟨g1, 62, [.int .i64 r.2.1, .slice g.1 r.2.2.1.length g.2, .map (some g7)]⟩, (blkO g7 (mapO .i64 .i64 r.2.2.2))]) (fun g => [Ro eS44 44 2 (.slice g.1 r.2.2.1.length g.2) r.2.2.1]) := by
 refine yb Tryz.func25 rfl Tryz.ntmps25 rfl hm (fun w => ?_)
 refine av [24,15,2,3,5,0,1,2,2,3,4,27,7,23,24,4,24,2,0,1,9] ?_ ?_
 intro _
 refine au [2,3,4,4] ?_
 refine zU qaK ?_
 rintro x15 e15 ⟨a16, c17⟩
 refine au [5,0,1,8,7] ?_
 exact zp (a16, c17)
 intro _
 refine av [10,1,2,2,3,4,24,1,25,3,0,1,9] ?_ ?_
 intro _
 refine au [2,3,5,0,1,8,7] ?_
 exact zp (a4, c5)
 intro _
 refine au [10,1] ?_
 refine qf (fun (((x36, x37), g35) : ((Int × Int) × Nat)) => ([(0, .pointer (some ⟨g1, 0, none⟩)), (5, .pointer (some ⟨g35, 0, none⟩))], [⟨g1, 62, [.int .i64 x2, .slice a4 x3.length c5, .map (some g7)]⟩, (blkO g7 (mapO .i64 .i64 x6)), ⟨g35, 44, [.int .i64 x36, .int .i64 x37]⟩], [Ro eS44 44 2 (.slice a4 x3.length c5) x3], [], zH F x2 x3 x6 x36 x37)) ?_ ?_
 refine va (j := 0) zd (by decide) rfl ?_
 intro x74 e74 b75 o76 h77
 replace h77 : a9 = some ⟨b75, o76, none⟩ := h77
 refine va (j := 1) zd (by decide) rfl ?_
 intro x78 e78 b79 o80 h81
 replace h81 : a9 = some ⟨b79, o80, none⟩ := h81
 refine q6 mixed [] [⟨g1, 62, [.int .i64 x2, .slice a4 x3.length c5, .map (some g7)]⟩, (blkO g7 (mapO .i64 .i64 x6))] [qk b79 (o80 + (1 : Int).toNat * 1) (eT x78), qk b75 (o76 + (0 : Int).toNat * 1) (eT x74), Sl eT 1 (.slice a9 x8.length c10) x8] (.cons 0 rfl (.cons 0 rfl .nil)) (q4 0 rfl (q4 1 rfl (q4 2 rfl qn))) 11 rfl ?_
 refine au [11,0] ?_
 refine qg (d := 19) (v := .slice (some ⟨b75, o76, none⟩) x8.length c10) rfl (by rw [h77] <;> rfl) (qo 1 (.pointer (some ⟨b75, (o76 + (0 : Int).toNat * 1), none⟩)) rfl rfl rfl (yc Tryz.underlying57 tf9 rfl rfl (qr e74).1 (zZ e74)) (qg (d := 19) (v := .slice a9 x8.length c10) rfl (by rw [h77] <;> rfl) (q7 2 (.string (bstr x74)) [] rfl rfl rfl (zk (j := 1) rfl tf9 rfl rfl (fun _ => rfl) rfl) ?_)))
 refine au [11,4] ?_
 refine qg (d := 23) (v := .slice (some ⟨b79, o80, none⟩) x8.length c10) rfl (by rw [h81] <;> rfl) (qo 5 (.pointer (some ⟨b79, (o80 + (1 : Int).toNat * 1), none⟩)) rfl rfl rfl (yc Tryz.underlying57 tf9 rfl rfl (qr e78).1 (zZ e78)) (qg (d := 23) (v := .slice a9 x8.length c10) rfl (by rw [h81] <;> rfl) (q7 6 (.string (bstr x78)) [] rfl rfl rfl (zk (j := 0) rfl tf9 rfl rfl (fun _ => rfl) rfl) (yL 3 9 rfl rfl (by kernel_rfl) rfl rfl ?_ ?_))))
 refine au [26,6] ?_
 intro x82 e82 _
 refine au [0,29,6] ?_
 refine yL 7 9 rfl rfl (by kernel_rfl) rfl rfl ?_ ?_
 refine au [26,6] ?_
 intro x83 e83 _
 refine au [0,29,6] ?_
 refine qo 8 (.agg #[.int .i64 x82, .int .i64 x83]) rfl rfl rfl (jp (cells := [.int .i64 x82, .int .i64 x83]) st44 rfl (by kernel_rfl)) ?_
 refine au [12,9,14] ?_
 intro g84
 refine au [0,26,0,12,10,19,0,26,0,24,5] ?_
 exact q9 (qa ((x82, x83), g84)) (by intro c h; cases h)
 refine yM (m' := ((zD F x78).bind fun x86 => zH F x2 x3 x6 x82 x86)) (rfl) ?_
 refine au [14] ?_
 intro g85
 refine au [0,26,0,12,7,26,6] ?_
 intro x86 e86 _
 refine au [0,26,0] ?_
 refine qo 8 (.agg #[.int .i64 x82, .int .i64 x86]) rfl rfl rfl (jp (cells := [.int .i64 x82, .int .i64 x86]) st44 rfl (by kernel_rfl)) ?_
 refine au [12,10,19,0,26,0,24,5] ?_
 exact q9 (qa ((x82, x86), g85)) (by intro c h; cases h)
 refine yM (m' := ((zD F x74).bind fun x88 => ((zD F x78).bind fun x89 => zH F x2 x3 x6 x88 x89))) (rfl) ?_
 refine au [14] ?_
 intro g87
 refine au [0,26,0,12,3,26,6] ?_
 intro x88 e88 _
 refine au [0,26,0,12,7,26,6] ?_
 intro x89 e89 _
 refine au [0,26,0] ?_
 refine qo 8 (.agg #[.int .i64 x88, .int .i64 x89]) rfl rfl rfl (jp (cells := [.int .i64 x88, .int .i64 x89]) st44 rfl (by kernel_rfl)) ?_
 refine au [12,10,19,0,26,0,24,5] ?_
 exact q9 (qa ((x88, x89), g87)) (by intro c h; cases h)
 rintro ⟨⟨x36, x37⟩, g35⟩
 try dsimp only
 refine au [2,13,2,3,23,25,12,24,2,4] ?_
 refine qN 4 (decide (x36 < 0)) [(0, .pointer (some ⟨g1, 0, none⟩)), (5, .pointer (some ⟨g35, 0, none⟩)), (36, .bool ((decide (x36 < 0)) || (decide (x37 < 0))))] (fun h44 => ?_) (fun h44 => ?_) ?_
 refine qb (os := _) rfl (qj (k := 32) rfl h44 ?_)
 refine au [6,6,6,17] ?_
 refine qc (d := 36) (v := .bool ((decide (x36 < 0)) || (decide (x37 < 0)))) rfl (by rw [h44]; simp only [Bool.true_or]) ?_
 exact az [0,20]
 refine qb (os := _) rfl (qi (k := 32) rfl h44 ?_)
 refine au [23,25,12,24,2,18] ?_
 refine qc (d := 36) (v := .bool ((decide (x36 < 0)) || (decide (x37 < 0)))) rfl (by rw [h44]; simp only [Bool.false_or]) ?_
 exact az [0,20]
 refine qb (os := _) rfl ?_
 refine av [5,0,1,9] ?_ ?_
 intro _
 refine au [2,3,5,0,1,8,22,7] ?_
 exact zp (a4, c5)
 intro _
 refine qf (fun ((x46, _) : (Bool × Unit)) => ([(0, .pointer (some ⟨g1, 0, none⟩)), (5, .pointer (some ⟨g35, 0, none⟩)), (37, .bool x46)], [⟨g1, 62, [.int .i64 x2, .slice a4 x3.length c5, .map (some g7)]⟩, (blkO g7 (mapO .i64 .i64 x6)), ⟨g35, 44, [.int .i64 x36, .int .i64 x37]⟩], [Ro eS44 44 2 (.slice a4 x3.length c5) x3], [], kn F x2 x3 x6 x36 x37 x46)) ?_ ?_
 refine av [29,7] ?_ ?_
 intro h72
 refine q6 mixed [] [⟨g1, 62, [.int .i64 x2, .slice a4 x3.length c5, .map (some g7)]⟩, (blkO g7 (mapO .i64 .i64 x6)), ⟨g35, 44, [.int .i64 x36, .int .i64 x37]⟩] [] (.cons 0 rfl (.cons 0 rfl (.cons 0 rfl .nil))) qn 17 rfl ?_
 refine au [24,8,0,27,8,1,11,2,11,3,24,8,4,25,1,5,11,6,11,7] ?_
 refine qg (d := 45) (v := .bool true) rfl (by rw [h72] <;> rfl) ?_
 refine au [24,14,8,24,14,9,24,14,10,24,14,11,24,14,12,24,14,13,24,14,14,11,15,11,16,24,5] ?_
 exact q9 (qa (true, ())) (by intro c h; cases h)
 intro h72
 refine q6 mixed [] [⟨g1, 62, [.int .i64 x2, .slice a4 x3.length c5, .map (some g7)]⟩, (blkO g7 (mapO .i64 .i64 x6)), ⟨g35, 44, [.int .i64 x36, .int .i64 x37]⟩] [] (.cons 0 rfl (.cons 0 rfl (.cons 0 rfl .nil))) qn 17 rfl ?_
 refine au [24,8,0,27,8,1,11,2,11,3,24,8,4,25,1,5,11,6,11,7] ?_
 refine qg (d := 45) (v := .bool false) rfl (by rw [h72] <;> rfl) ?_
 refine au [24,8,8,27,8,9,11,10,11,11,24,8,12,25,1,13,11,14,11,15,11,16,24,5] ?_
 exact q9 (qa ((decide (x2 ≤ x37)), ())) (by intro c h; cases h)
 rintro ⟨x46, _⟩
 try dsimp only
 refine av [9] ?_ ?_
 intro _
 refine au [2,3,5,0,1,8,22,7] ?_
 exact zp (a4, c5)
 intro _
 refine au [10,24,0,1,2] ?_
 refine qf (fun ((_, _) : (Unit × Unit)) => ([(0, .pointer (some ⟨g1, 0, none⟩)), (5, .pointer (some ⟨g35, 0, none⟩)), (7, .bool (decide (((x36, x37) : Int × Int) ∈ x6)))], [⟨g1, 62, [.int .i64 x2, .slice a4 x3.length c5, .map (some g7)]⟩, (blkO g7 (mapO .i64 .i64 x6)), ⟨g35, 44, [.int .i64 x36, .int .i64 x37]⟩], [Ro eS44 44 2 (.slice a4 x3.length c5) x3], [], ko F x2 x3 x6 x36 x37)) ?_ ?_
 refine q6 mixed [] [⟨g1, 62, [.int .i64 x2, .slice a4 x3.length c5, .map (some g7)]⟩, (blkO g7 (mapO .i64 .i64 x6)), ⟨g35, 44, [.int .i64 x36, .int .i64 x37]⟩] [] (.cons 0 rfl (.cons 0 rfl (.cons 0 rfl .nil))) qn 12 rfl ?_
 refine au [11,0,11,1,24,8,2,25,1,3] ?_
 refine yu 4 (.agg #[.int .i64 x36, .int .i64 x37]) rfl rfl rfl (kS (i := 2) rfl tf44 rfl rfl (by simp) rfl) (yL 5 9 rfl rfl (by kernel_rfl) rfl rfl ?_ ?_)
 refine qau (i := 1) (p := (x36, x37)) rfl Tryz.underlying60 se44 tf82 rfl rfl rfl rfl ?_
 refine au [0] ?_
 refine qs (.cons 0 rfl (.cons 0 rfl (.cons 0 rfl .nil))) qn ?_
 refine au [11,6,11,7,11,8,12,9,14] ?_
 intro g69
 refine au [0,26,13,12,10,19,0,26,13,11,11,24,5] ?_
 refine q9 ?_ (by intro c h; cases h)
 exact az [25,7]
 refine yM (m' := ko F x2 x3 x6 x36 x37) (rfl) ?_
 refine au [14] ?_
 intro g70
 refine au [0,26,13,12,5] ?_
 refine qau (i := 2) (p := (x36, x37)) rfl Tryz.underlying60 se44 tf82 rfl rfl rfl rfl ?_
 refine au [0,26,13,11,6,11,7,11,8,12,10,19,0,26,13,11,11,24,5] ?_
 refine q9 ?_ (by intro c h; cases h)
 exact az [25,7]
 rintro ⟨_, _⟩
 try dsimp only
 refine av [2,3,4,0,1,9] ?_ ?_
 intro _
 refine au [2,3,5,0,1,8,7] ?_
 exact zp (a4, c5)
 intro _
 refine av [10,1,2,2,3,4,27,7,23,24,4,24,1,24,11,0,1,9] ?_ ?_
 intro _
 refine au [2,3,5,0,1,8,7] ?_
 exact zp (a4, c5)
 intro _
 refine au [10,1,2] ?_
 refine q6 mixed [16] [⟨g35, 44, [.int .i64 x36, .int .i64 x37]⟩] [(BlkD.is ⟨g1, 62, [.int .i64 x2, .slice a4 x3.length c5, .map (some g7)]⟩)] (.cons 2 rfl .nil) (qh0 0 rfl qn) 20 rfl ?_
 refine au [11,0,11,1,11,2,24,8,3] ?_
 refine q7 4 (.map (some g7)) [[16]] rfl rfl rfl (qet (j := 0) rfl tf60 rfl rfl (fun _ => rfl) rfl) (yu 5 (.agg #[.int .i64 x36, .int .i64 x37]) rfl rfl rfl (kS (i := 0) rfl tf44 rfl rfl (by simp) rfl) ?_)
 refine au [11,6,11,7,24,8,8] ?_
 refine q7 9 (.slice a4 x3.length c5) [[16]] rfl rfl rfl (qet (j := 0) rfl tf39 rfl rfl (fun _ => rfl) rfl) (yu 10 (.agg #[.int .i64 x36, .int .i64 x37]) rfl rfl rfl (kS (i := 0) rfl tf44 rfl rfl (by simp) rfl) (qo 13 (.agg #[]) rfl rfl rfl (jp (cells := []) st82 rfl (by kernel_rfl)) ?_))
 refine au [12,11] ?_
 refine qE (vs := [.agg #[.int .i64 x36, .int .i64 x37]]) (ys := ([(x36, x37)] : List (Int × Int))) ql (by decide) rfl Tryz.underlying39 tf44 rfl rfl rfl rfl rfl (by decide) (fun a61 c62 => ?_)
 refine au [0,29,8,12,12] ?_
 refine yv 1 ql rfl Tryz.underlying39 tf44 rfl rfl rfl rfl rfl (.inl ⟨0, _, rfl⟩) rfl rfl (fun x63 e63 a64 c65 => ?_)
 refine au [0,29,8,11,14,24,8,15,12,16,19,0,28,8,12,17] ?_
 refine qdH (i := 1) (p := (x36, x37)) rfl Tryz.underlying60 se44 tf82 rfl rfl rfl rfl (fun x66 e66 => ?_)
 refine au [0,28,8,11,18,12,19] ?_
 refine qcj (i := 1) (j := x6.length) rfl rfl rfl rfl rfl (qgd e66) ?_
 refine au [0,28,8,24,5] ?_
 refine q9 ?_ (by intro c h; cases h)
 refine au [1,2,3,5,0,1,8] ?_
 exact zp (a64, c65)
set_option maxHeartbeats 4000000 in
theorem qcy {F : Nat} {x1 : Int} {x2 : List (Int × Int)} {a3 : Option Addr} {c4 : Nat} {r : List (List Int)} (hm : kB F x1 x2 = some r) :
    Pure Tryz.prog 47 [.int .i64 x1, .slice a3 x2.length c4] [Sl eS44 2 (.slice a3 x2.length c4) x2] (Option Addr × (Nat × List (Option Addr × Nat))) (fun g => .agg #[.slice g.1 r.length g.2.1]) (fun g => [RoN eN66 rN66 66 1 (.slice g.1 r.length g.2.1) r g.2.2 []]) (fun _ => []) := by
 refine qM Tryz.func47 rfl Tryz.ntmps47 rfl hm (fun w => ?_)
 refine au [24,15,2,3,14] ?_
 intro g5
 refine au [0,1,2,3,4,29,9] ?_
 intro x6 e6 a7 c8
 refine qh (cells := [.slice a7 x6.length c8]) rfl st24 rfl (by kernel_rfl) rfl ?_
 refine au [14] ?_
 intro g9
 refine au [19,0,1] ?_
 refine qf (fun ((x171, g170) : (List (List Int) × List (Option Addr × Nat))) => ([(4, .pointer (some ⟨g5, 0, none⟩)), (5, .pointer (some ⟨g9, 0, none⟩))], [⟨g9, 24, [.slice a7 x171.length c8]⟩, ⟨g5, 24, [.slice none 0 0]⟩], [RoN eN66 rN66 66 1 (.slice a7 x171.length c8) x171 g170 []], [], jP F x171)) ?_ ?_
 refine au [2,3,4,24,1,4,0,1,13] ?_
 refine qK (fun (((x224, x226), g225) : ((Int × List (List Int)) × List (Option Addr × Nat))) => ([(4, .pointer (some ⟨g5, 0, none⟩)), (5, .pointer (some ⟨g9, 0, none⟩)), (11, .slice a3 x2.length c4), (12, .int .i64 (x2.length : Int)), (13, .int .i64 x224)], [⟨g9, 24, [.slice a7 x226.length c8]⟩, ⟨g5, 24, [.slice none 0 0]⟩], [RoN eN66 rN66 66 1 (.slice a7 x226.length c8) x226 g225 []], [Sl eS44 2 (.slice a3 x2.length c4) x2])) (fun k (s : ((Int × List (List Int)) × List (Option Addr × Nat))) => kd F x2 k s.1) ((0, x6), (List.replicate x6.length ((none, 0) : Option Addr × Nat))) F ?_
 intro k279
 rintro ⟨⟨x224, x226⟩, g225⟩
 try dsimp only
 refine q5 (m' := yl F x2 (kd F x2 k279) x224 x226) rfl ?_
 refine av [2,3,24,2,0,1,2,9] ?_ ?_
 intro _
 refine au [10,1,2,13,2,3,27,9] ?_
 intro x306 e306 b307 o308
 refine au [28,9,14] ?_
 intro g309
 refine au [19,0,1,29,10] ?_
 intro x310 e310 g311 h312 g313 h314
 replace h314 : a7 = some ⟨g313, 0, none⟩ := h314
 have h315 := vp (k := x226.length) (c := c8) h314
 refine qcX (i := 0) rfl h312 (List.not_mem_nil) ?_
 refine au [29,11] ?_
 intro x316 e316 g317 h318 g319 h320
 replace h320 : a7 = some ⟨g319, 0, none⟩ := h320
 have h321 := vp (k := x226.length) (c := c8) h320
 refine q6 mixed [15] [⟨g309, 44, [.int .i64 x306.1, .int .i64 x306.2]⟩, ⟨g9, 24, [.slice a7 x226.length c8]⟩, ⟨g5, 24, [.slice none 0 0]⟩] [qk b307 o308 (eS44 x306), Sl eS44 2 (.slice a3 x2.length c4) x2, qk g313 (x306.1.toNat * 1) (eN66 (x310, g311)), qk g319 (x306.1.toNat * 1) (eN66 (x316, g317))] (.cons 0 rfl (.cons 0 rfl (.cons 0 rfl .nil))) (q4 0 rfl (q4 1 rfl (zt 1 rfl (yK zi h312 h314) (zt 1 rfl (yK zi h318 h320) qn)))) 16 rfl ?_
 refine au [24,8,0,27,10,1,24,8,2,25,1,3,24,8,4,27,10,5,24,8,6,25,1,7] ?_
 refine qg (d := 22) (v := .slice (some ⟨g313, 0, none⟩) x226.length c8) rfl (by rw [h314] <;> rfl) (qo 8 (.pointer (some ⟨g313, x306.1.toNat * 1, none⟩)) rfl rfl rfl (vy Tryz.underlying22 tf66 rfl rfl (qr e310).1 (zZ e310)) (qg (d := 22) (v := .slice a7 x226.length c8) rfl (by rw [h314] <;> rfl) (q7 9 (.slice g311.1 x310.length g311.2) [[15]] rfl rfl rfl (zk (j := 2) rfl tf66 rfl rfl (fun _ => rfl) rfl) ?_)))
 refine au [24,8,10,25,1,11,12,12] ?_
 refine qE (vs := [.int .i64 x306.2]) (ys := ([x306.2] : List Int)) (ky .i64) (by decide) rfl Tryz.underlying66 tf3 rfl rfl rfl rfl rfl (by decide) (fun a322 c323 => ?_)
 refine au [0] ?_
 refine qs (.cons 0 rfl (.cons 0 rfl (.cons 0 rfl .nil))) (q4 0 rfl (q4 1 rfl (zt 2 rfl (yK zi h312 h314) (zt 2 rfl (yK zi h318 h320) qn)))) ?_
 refine au [12,13] ?_
 refine yv 1 (ky .i64) rfl Tryz.underlying66 tf3 rfl rfl rfl rfl rfl (.inl ⟨0, _, rfl⟩) rfl rfl (fun x324 e324 a325 c326 => ?_)
 refine au [0] ?_
 refine qs (.cons 0 rfl (.cons 0 rfl (.cons 0 rfl .nil))) (q4 0 rfl (q4 1 rfl (zt 2 rfl (yK zi h312 h314) (zt 2 rfl (yK zi h318 h320) qn)))) (qg (d := 18) (v := .slice (some ⟨g319, 0, none⟩) x226.length c8) rfl (by rw [h320] <;> rfl) (qo 14 (.pointer (some ⟨g319, x306.1.toNat * 1, none⟩)) rfl rfl rfl (vy Tryz.underlying22 tf66 rfl rfl (qr e316).1 (zZ e316)) (qg (d := 18) (v := .slice a7 x226.length c8) rfl (by rw [h320] <;> rfl) ?_)))
 refine au [12,15] ?_
 refine qcm (j := 2) (kh := 0) (y' := x324) (q' := (a325, c326)) zi rfl rfl rfl tf66 rfl (vp h320) rfl (qr e316).2.1 rfl (.cons 0 rfl .nil) (fun x327 e327 h328 g330 => ?_)
 have h329 : x327.length = x226.length := by rw [← e327, List.length_set]
 refine qc (d := 18) (v := .slice a7 x327.length c8) rfl (by rw [h328] <;> rfl) (qc (d := 22) (v := .slice a7 x327.length c8) rfl (by rw [h328] <;> rfl) (vZ (i := 1) (cs' := [.slice a7 x327.length c8]) rfl (by rw [h328] <;> rfl) ?_))
 refine au [0] ?_
 refine qco 15 rfl (by kernel_rfl) (.cons 0 rfl (.cons 0 (by rw [h329]; rfl) (.cons 0 rfl .nil))) ?_
 refine au [24,5] ?_
 refine q9 ?_ (by intro c h; cases h)
 refine au [24,0,1,3,24,3,4,0] ?_
 exact qw ((iadd .i64 x224 1, x327), g330)
 intro _
 refine au [24,6,15,15,24,7] ?_
 exact qa (x226, g225)
 rintro ⟨x171, g170⟩
 try dsimp only
 refine au [2,3,24,13,24,9,0,1,8] ?_
 exact qO (a7, (c8, g170)) (resL (rs := [.cell 4 24]) rfl (.cell (i := 1) rfl tf24 rfl rfl (by simp) rfl ResOk.nil) rfl) (fun h => by subst h; exact (.cons 0 rfl .nil))
theorem ve {F : Nat} {x1 : List (Int × Int)} {a2 : Option Addr} {c3 : Nat} {r : Unit} (hm : qH F x1 = some r) :
    PureM Tryz.prog 49 [.slice a2 x1.length c3] [] [] [Sl eS44 2 (.slice a2 x1.length c3) x1] Nat (fun g => .func (.func 61) #[] #[.pointer (some ⟨g, 0, none⟩)]) (fun g => [⟨g, 39, [.slice a2 x1.length c3]⟩]) (fun _ => []) := by
 refine yb Tryz.func49 rfl Tryz.ntmps49 rfl hm (fun w => ?_)
 refine au [24,12,2,3,25,0] ?_
 intro g4
 refine au [5,0,1,2,3,29,1,5,0,1,8] ?_
 exact zp g4
theorem qc9 {F : Nat} {x1 : List Int} {a2 : Option Addr} {c3 : Nat} {r : Int} (hm : vS F x1 = some r) :
    Pure Tryz.prog 62 [.slice a2 x1.length c3] [Sl (eI .i64) 1 (.slice a2 x1.length c3) x1] Unit (fun _ => .int .i64 r) (fun _ => []) (fun _ => []) := by
 refine qM Tryz.func62 rfl Tryz.ntmps62 rfl hm (fun w => ?_)
 refine au [24,12,2,3,5,0,1,2,3,5,0,1] ?_
 refine qf (fun ((_, _) : (Unit × Unit)) => ([(3, .int .i64 0)], [], [], [], qai F)) ?_ ?_
 refine au [2,3,4,24,1,4,0,1,13] ?_
 refine qK (fun ((x46, _) : (Int × Unit)) => ([(3, .int .i64 0), (6, .slice a2 x1.length c3), (7, .int .i64 (x1.length : Int)), (8, .int .i64 x46)], [], [], [Sl (eI .i64) 1 (.slice a2 x1.length c3) x1])) (fun k (s : (Int × Unit)) => zW F x1 k s.1) (0, ()) F ?_
 intro k57
 rintro ⟨x46, _⟩
 try dsimp only
 refine q5 (m' := zG F x1 (zW F x1 k57) x46) rfl ?_
 refine av [2,3,24,2,0,1,2,9] ?_ ?_
 intro _
 refine au [10,1,2,13,2,3,29,0] ?_
 intro x63 e63 b64 o65
 refine av [25,11,5,0,1,2,3,4,4,25,3,0,1,9] ?_ ?_
 intro _
 exact az [2,3,4,5,0,1,8,22,7,7,22,7,16]
 intro _
 refine au [10,24,0,1,3,24,3,4,0] ?_
 exact qw (iadd .i64 x46 1, ())
 intro _
 exact az [24,6,15,15,24,7,25,7]
 rintro ⟨_, _⟩
 try dsimp only
 exact az [2,3,4,5,0,1,8,16]
theorem qbE {F : Nat} {x1 : Int} {r : Bool} (hm : yF F x1 = some r) :
    Pure Tryz.prog 83 [.int .i64 x1] [] Unit (fun _ => .bool r) (fun _ => []) (fun _ => []) := by
 refine qM Tryz.func83 rfl Tryz.ntmps83 rfl hm (fun w => ?_)
 exact az [24,12,2,3,5,0,1,2,3,4,4,25,3,5,0,1,8,16]
set_option maxHeartbeats 4000000 in
theorem qaW {F : Nat} {x1 : Int} {x2 : Int} {r : Int} (hm : kw F x1 x2 = some r) :
    Pure Tryz.prog 63 [.int .i64 x1, .int .i64 x2] [] Unit (fun _ => .int .i64 r) (fun _ => []) (fun _ => []) := by
 refine qM Tryz.func63 rfl Tryz.ntmps63 rfl hm (fun w => ?_)
 refine au [24,15,2,3,5,0,1,2,3,4,29,12] ?_
 intro x3 e3 _
 refine au [5,0,1,2,3,4,29,12] ?_
 intro x4 e4 _
 refine av [5,0,1,2,2,3,4,0,1,9] ?_ ?_
 intro _
 refine av [2,2,3,4,0,1,9] ?_ ?_
 intro _
 exact az [2,3,5,0,1,8,7,7,16]
 intro _
 exact az [10,1,2,3,5,0,1,8,7,16]
 intro _
 refine av [10,1,2,2,3,4,0,1,9] ?_ ?_
 intro _
 exact az [2,3,5,0,1,8,7,16]
 intro _
 refine av [10,1,2,2,3,4,4,24,2,0,1,9] ?_ ?_
 intro _
 exact az [2,3,5,0,1,8,7,16]
 intro _
 refine av [10,1,2,2,3,4,4,25,2,0,1,9] ?_ ?_
 intro _
 exact az [2,3,5,0,1,8,7,16]
 intro _
 exact az [10,1,2,3,5,0,1,8,16]
theorem qcA (F : Nat) (x1 : Int) (x2 : Int) (x3 : Int) (x4 : Int) (r : Int) (hm : vw F x1 x2 x3 x4 = some r) :
    Pure Tryz.prog 50 [.agg #[.int .i64 x1, .int .i64 x2], .agg #[.int .i64 x3, .int .i64 x4]] [] Unit (fun _ => .int .i64 r) (fun _ => []) (fun _ => []) := by
 refine qM Tryz.func50 rfl Tryz.ntmps50 rfl hm (fun w => ?_)
 refine au [24,15,2,3,25,0] ?_
 intro g5
 refine au [25,0] ?_
 intro g6
 refine au [5,0,1,2] ?_
 refine q6 mixed [] [⟨g6, 44, [.int .i64 x3, .int .i64 x4]⟩, ⟨g5, 44, [.int .i64 x1, .int .i64 x2]⟩] [] (.cons 0 rfl (.cons 0 rfl .nil)) qn 13 rfl ?_
 refine au [24,8,0,27,10,1,24,8,2,25,1,3,24,8,5,27,10,6,24,8,7,25,1,8,12,4,29,13] ?_
 intro x12 e12 _
 refine au [0,27,11,12,9,29,13] ?_
 intro x13 e13 _
 refine au [0,27,11,12,10] ?_
 refine qE (vs := [.int .i64 x12, .int .i64 x13]) (ys := ([x12, x13] : List Int)) (ky .i64) (by decide) rfl Tryz.underlying66 tf3 rfl rfl rfl rfl rfl (by decide) (fun a14 c15 => ?_)
 refine au [0,27,11,12,11] ?_
 refine qB qc9 ?_
 intro x16 e16 _
 refine au [0,27,11,11,12,24,5] ?_
 refine q9 ?_ (by intro c h; cases h)
 exact az [1,8,16]
set_option maxHeartbeats 4000000 in
theorem yW (F : Nat) {σ τ : Type} {J : Rounds σ τ} {yy : σ → (Int × Int) → Option (σ ⊕ τ)} {L : Nat} (hY : YieldC Tryz.prog L (fun (p : (Int × Int)) => [.agg #[.int .i64 p.1, .int .i64 p.2]]) J yy) (s0 : σ) (gs0 : J.γ) (g1 : Nat) (x2 : List (Int × Int)) (a3 : Option Addr) (c4 : Nat) (r : σ ⊕ τ) (hm : zB F yy x2 s0 = some r) :
    PureM Tryz.prog 61 ([.func (.yield L) #[] #[], .pointer (some ⟨g1, 0, none⟩)]) ([⟨g1, 39, [.slice a3 x2.length c4]⟩] ++ J.IB s0 gs0) (J.IR s0 gs0) [J.F, Sl eS44 2 (.slice a3 x2.length c4) x2] (J.G r) (fun _ => .tuple #[]) (fun g => [⟨g1, 39, [.slice a3 x2.length c4]⟩] ++ J.bs r g) (fun g => J.rs r g) := by
 refine yb Tryz.func61 rfl Tryz.ntmps61 rfl hm (fun w => ?_)
 refine au [24,15,2,3,24,4,24,1,4,0,1,13] ?_
 refine ja (fun (((x23, x24), g25) : ((Int × σ) × J.γ)) => [(0, .func (.yield L) #[] #[]), (5, .slice a3 x2.length c4), (6, .int .i64 (x2.length : Int)), (7, .int .i64 x23)]) (fun (((x23, x24), g25) : ((Int × σ) × J.γ)) => [⟨g1, 39, [.slice a3 x2.length c4]⟩] ++ J.IB x24 g25) (fun (((x23, x24), g25) : ((Int × σ) × J.γ)) => [] ++ J.IR x24 g25) (fun (((x23, x24), g25) : ((Int × σ) × J.γ)) => [Sl eS44 2 (.slice a3 x2.length c4) x2, J.F]) (fun k (s : ((Int × σ) × J.γ)) => qx F yy x2 k s.1) ((0, s0), gs0) F ?_ (hB := (.cons 0 rfl (qZ 0 rfl))) (hR := (qZ 0 rfl)) (hF := (qz 1 rfl (qz 0 rfl yA)))
 intro k44
 rintro ⟨⟨x23, x24⟩, g25⟩
 try dsimp only
 refine q5 (m' := qV F yy x2 (qx F yy x2 k44) x23 x24) rfl ?_
 refine av [2,3,24,2,0,1,2,9] ?_ ?_
 intro _
 refine au [10,1,2,13,2,3,27,9] ?_
 intro x54 e54 b55 o56
 refine au [28,9,14] ?_
 intro g57
 refine au [19,0,1,2,3,4,24,13] ?_
 refine qcZ hY x24 (x54.1, x54.2) g25 (B1 := [⟨g57, 44, [.int .i64 x54.1, .int .i64 x54.2]⟩, ⟨g1, 39, [.slice a3 x2.length c4]⟩]) (R1 := []) (j := 2) rfl rfl rfl rfl rfl rfl rfl (fun x58 _ g60 => ?_) (fun x59 _ g60 => ?_)
 refine au [25,8,0,1] ?_
 refine qas (b := false) rfl (fun h => by cases h) (fun _ => ?_)
 refine au [10,24,0,1,3,24,3,4,0] ?_
 exact j7 ((iadd .i64 x23 1, x58), g60) (hB := (.cons 1 rfl (qZ 1 rfl))) (hR := (qZ 0 rfl)) (hF := (qz 1 rfl (qz 2 rfl yA)))
 refine au [25,8,0,1] ?_
 refine qas (b := true) rfl (fun _ => ?_) (fun h => by cases h)
 refine au [8,22,7,7,22] ?_
 exact qaz (B0 := [⟨g1, 39, [.slice a3 x2.length c4]⟩]) (x := .inr x59) g60 (.inl rfl) (res0 rfl) (.cons 1 rfl (qZ 1 rfl)) (qZ 0 rfl)
 intro _
 refine au [24,6,15,15,24,7] ?_
 exact qaz (B0 := [⟨g1, 39, [.slice a3 x2.length c4]⟩]) (x := .inl x24) g25 (.inr rfl) (res0 rfl) (.cons 0 rfl (qZ 0 rfl)) (qZ 0 rfl)
theorem zu {F : Nat} {x1 : List (Int × Int)} {a2 : Option Addr} {c3 : Nat} {g4 : Nat} {x5 : List (Int × Int)} {a6 : Option Addr} {c7 : Nat} {r : List (Int × Int)} (hm : qu F x1 x5 = some r) :
    PureM Tryz.prog 51 [.slice a2 x1.length c3, .func (.func 61) #[] #[.pointer (some ⟨g4, 0, none⟩)]] [⟨g4, 39, [.slice a6 x5.length c7]⟩] [Ro eS44 44 2 (.slice a2 x1.length c3) x1] [Sl eS44 2 (.slice a6 x5.length c7) x5] (Option Addr × Nat) (fun g => .slice g.1 r.length g.2) (fun _ => [⟨g4, 39, [.slice a6 x5.length c7]⟩]) (fun g => [Ro eS44 44 2 (.slice g.1 r.length g.2) r]) := by
 refine qap Tryz.func51 rfl Tryz.ntmps51 rfl hm (fun w => ?_)
 refine au [24,15,2,3,25,0] ?_
 intro g8
 refine au [5,0,1,2,2,3,4,0,1,13] ?_
 refine jT (encs := (fun (p : (Int × Int)) => [.agg #[.int .i64 p.1, .int .i64 p.2]])) (y := (fun (x46 : List (Int × Int)) ((x55, x56) : (Int × Int)) => qI F x46 x55 x56)) (lb := [.pointer (some ⟨g4, 0, none⟩)]) (fun (x46 : List (Int × Int)) ((a44, c45) : (Option Addr × Nat)) => [⟨g8, 39, [.slice a44 x46.length c45]⟩]) (fun (x46 : List (Int × Int)) ((a44, c45) : (Option Addr × Nat)) => [Ro eS44 44 2 (.slice a44 x46.length c45) x46]) (fun (_ : Empty) (_ : Unit) => []) (fun (_ : Empty) (_ : Unit) => []) (fun _ => .skip) x1 (a2, c3) rfl ent61 (fun _ => rfl) rfl (.cons 1 rfl .nil) (.cons 0 rfl .nil) (.cons 0 rfl .nil) (.consF 0 rfl .nil) (fun z hz _ _ _ hY => yW F hY x1 (a2, c3) g4 x5 a6 c7 z hz) ?_ ?_ ?_
 rintro rc1 L1 D1 x46 ⟨a44, c45⟩ ⟨x55, x56⟩ z w M _
 try dsimp only
 refine qat [(0, .slice a2 x1.length c3), (1, .func (.func 61) #[] #[.pointer (some ⟨g4, 0, none⟩)]), (2, .pointer (some ⟨g8, 0, none⟩)), (4, .slice none 0 0), (6, .func (.func 61) #[] #[.pointer (some ⟨g4, 0, none⟩)]), (7, .agg #[.int .i64 x55, .int .i64 x56])] (qv rfl (qv rfl (qv rfl (qv rfl (qv rfl (qv rfl j4)))))) ?_
 refine au [3,14] ?_
 intro g57
 refine au [19,0,29,14,13,3,26,5,24,13] ?_
 refine qE (vs := [.agg #[.int .i64 x55, .int .i64 x56]]) (ys := ([(x55, x56)] : List (Int × Int))) ql (by decide) rfl Tryz.underlying39 tf44 rfl rfl rfl rfl rfl (by decide) (fun a58 c59 => yv 1 ql rfl Tryz.underlying39 tf44 rfl rfl rfl rfl rfl (.inl ⟨0, _, rfl⟩) rfl rfl (fun x60 e60 a61 c62 => ?_))
 refine au [24,9,0,24,0] ?_
 exact jc (rc := rc1) rfl (.cons 2 rfl .nil) rfl (a61, c62) (.cons 2 rfl (.cons 0 rfl (.cons 1 rfl .nil))) (.cons 0 rfl .nil)
 rintro x46 _ ⟨a44, c45⟩ D1
 try dsimp only
 refine au [24,0,1,2,3,25,12,5,0,1,8] ?_
 exact vr [D1] (a44, c45) (.inl rfl) rfl (.cons 0 rfl .nil) (res1 rfl rfl) (fun h => by subst h; rfl) (fun h => by subst h; exact (.cons 0 rfl .nil)) (fun h => by subst h; exact (.cons 0 rfl .nil))
 intro t; exact t.elim
theorem zP {F : Nat} {g1 : Nat} {x2 : List (Int × Int)} {a3 : Option Addr} {c4 : Nat} {r : List (Int × Int)} (hm : qq F x2 = some r) :
    PureM Tryz.prog 34 [.func (.func 61) #[] #[.pointer (some ⟨g1, 0, none⟩)]] [⟨g1, 39, [.slice a3 x2.length c4]⟩] [] [Sl eS44 2 (.slice a3 x2.length c4) x2] (Option Addr × Nat) (fun g => .slice g.1 r.length g.2) (fun _ => [⟨g1, 39, [.slice a3 x2.length c4]⟩]) (fun g => [Ro eS44 44 2 (.slice g.1 r.length g.2) r]) := by
 refine yb Tryz.func34 rfl Tryz.ntmps34 rfl hm (fun w => ?_)
 refine au [24,12,2,3,5,0,1,2,3,4,29,15] ?_
 refine zU zu ?_
 rintro x5 e5 ⟨a6, c7⟩
 refine au [5,0,1,8] ?_
 exact zp (a6, c7)
theorem kC {F : Nat} {x1 : List (Int × Int)} {a2 : Option Addr} {c3 : Nat} {r : List (Int × Int)} (hm : qt F x1 = some r) :
    PureM Tryz.prog 53 [.slice a2 x1.length c3, .func (.func 50) #[] #[]] [] [Ro eS44 44 2 (.slice a2 x1.length c3) x1] [] Unit (fun _ => .tuple #[]) (fun _ => []) (fun _ => [Ro eS44 44 2 (.slice a2 r.length c3) r]) :=
  qeh (cb := []) (BC := []) (Φ := []) ql (by decide) (qgc _) (fun p cap w => Tryz.sortn53 p cap _ w) (fun a b z h => (qcA F a.1 a.2 b.1 b.2 z h).toM) hm
theorem zj {F : Nat} {g1 : Nat} {x2 : List (Int × Int)} {a3 : Option Addr} {c4 : Nat} {r : List (Int × Int)} (hm : qd F x2 = some r) :
    PureM Tryz.prog 48 [.func (.func 61) #[] #[.pointer (some ⟨g1, 0, none⟩)], .func (.func 50) #[] #[]] [⟨g1, 39, [.slice a3 x2.length c4]⟩] [] [Sl eS44 2 (.slice a3 x2.length c4) x2] (Option Addr × Nat) (fun g => .slice g.1 r.length g.2) (fun _ => [⟨g1, 39, [.slice a3 x2.length c4]⟩]) (fun g => [Ro eS44 44 2 (.slice g.1 r.length g.2) r]) := by
 refine yb Tryz.func48 rfl Tryz.ntmps48 rfl hm (fun w => ?_)
 refine au [24,15,2,3,5,0,1,2,3,4] ?_
 refine zU zP ?_
 rintro x5 e5 ⟨a6, c7⟩
 refine au [5,0,1,2,3,4,4,30,0] ?_
 intro x8 e8 _
 refine au [27,12] ?_
 intro h9
 replace h9 := of_decide_eq_true h9
 refine qc (d := 5) (v := .slice a6 x8.length c7) rfl (by rw [h9] <;> rfl) (qc (d := 7) (v := .slice a6 x8.length c7) rfl (by rw [h9] <;> rfl) (qc (d := 8) (v := .slice a6 x8.length c7) rfl (by rw [h9] <;> rfl) ?_))
 refine au [0,1,2,3,4,5,0,1,8] ?_
 exact zp (a6, c7)
set_option maxHeartbeats 4000000 in
theorem qev {F : Nat} {x1 : Int} {x2 : List (Int × Int)} {a3 : Option Addr} {c4 : Nat} {r : (List (List Int) × Int)} (hm : yU F x1 x2 = some r) :
    Pure Tryz.prog 26 [.int .i64 x1, .slice a3 x2.length c4] [Sl eS44 2 (.slice a3 x2.length c4) x2] (Option Addr × (Nat × List (Option Addr × Nat))) (fun g => .tuple #[.agg #[.slice g.1 r.1.length g.2.1], .int .i64 r.2]) (fun g => [RoN eN66 rN66 66 1 (.slice g.1 r.1.length g.2.1) r.1 g.2.2 []]) (fun _ => []) := by
 refine qM Tryz.func26 rfl Tryz.ntmps26 rfl hm (fun w => ?_)
 refine au [24,15,2,3,14] ?_
 intro g5
 refine au [5,0,1,2,13,2,3,4,24,2,4] ?_
 refine qN 3 (decide (x1 < 0)) [(0, .int .i64 x1), (1, .slice a3 x2.length c4), (4, .pointer (some ⟨g5, 0, none⟩)), (17, .bool ((decide (x1 < 0)) || (decide (100 < x1))))] (fun h9 => ?_) (fun h9 => ?_) ?_
 refine qb (os := _) rfl (qj (k := 14) rfl h9 ?_)
 refine au [6,6,17] ?_
 refine qc (d := 17) (v := .bool ((decide (x1 < 0)) || (decide (100 < x1)))) rfl (by rw [h9]; simp only [Bool.true_or]) ?_
 exact az [0,20]
 refine qb (os := _) rfl (qi (k := 14) rfl h9 ?_)
 refine au [4,25,2,18] ?_
 refine qc (d := 17) (v := .bool ((decide (x1 < 0)) || (decide (100 < x1)))) rfl (by rw [h9]; simp only [Bool.false_or]) ?_
 exact az [0,20]
 refine qb (os := _) rfl ?_
 refine av [5,0,1,9] ?_ ?_
 intro _
 refine au [2,3] ?_
 refine qh (cells := [.slice none 0 0]) rfl st24 rfl (by kernel_rfl) rfl ?_
 refine au [19,5,0,1,8,22,7,25,6] ?_
 exact qO (none, (0, ([] : List (Option Addr × Nat)))) (resL (rs := [.cell 4 24, .tmp 5]) rfl (.cell (i := 0) rfl tf24 rfl rfl (by simp) rfl (.tmp rfl ResOk.nil)) rfl) (fun h => by subst h; exact (.cons 0 rfl .nil))
 intro _
 refine av [2,3,4,24,1,25,2,5,0,1,9] ?_ ?_
 intro _
 refine au [2,3] ?_
 refine qh (cells := [.slice none 0 0]) rfl st24 rfl (by kernel_rfl) rfl ?_
 refine au [19,5,0,1,8,22,7,25,6] ?_
 exact qO (none, (0, ([] : List (Option Addr × Nat)))) (resL (rs := [.cell 4 24, .tmp 5]) rfl (.cell (i := 0) rfl tf24 rfl rfl (by simp) rfl (.tmp rfl ResOk.nil)) rfl) (fun h => by subst h; exact (.cons 0 rfl .nil))
 intro _
 refine au [10,24,0,1,2,3] ?_
 refine qbD (k0 := .i64) (k1 := .i64) rfl rfl (fun g10 => ?_)
 refine au [5,0,1] ?_
 refine qf (fun ((_, _) : (Unit × Unit)) => ([(0, .int .i64 x1), (1, .slice a3 x2.length c4), (4, .pointer (some ⟨g5, 0, none⟩))], [⟨g5, 24, [.slice none 0 0]⟩], [], [Sl eS44 2 (.slice a3 x2.length c4) x2], jD F x1 x2)) ?_ ?_
 refine au [2,3,4,24,1,4,0,1,13] ?_
 refine qK (fun (((x166, x167), _) : ((Int × List (Int × Int)) × Unit)) => ([(0, .int .i64 x1), (1, .slice a3 x2.length c4), (4, .pointer (some ⟨g5, 0, none⟩)), (6, .map (some g10)), (25, .slice a3 x2.length c4), (26, .int .i64 (x2.length : Int)), (27, .int .i64 x166)], [(blkO g10 (mapO .i64 .i64 x167)), ⟨g5, 24, [.slice none 0 0]⟩], [], [Sl eS44 2 (.slice a3 x2.length c4) x2])) (fun k (s : ((Int × List (Int × Int)) × Unit)) => kT F x1 x2 k s.1) ((0, ([] : List (Int × Int))), ()) F ?_
 intro k204
 rintro ⟨⟨x166, x167⟩, _⟩
 try dsimp only
 refine q5 (m' := vv F x1 x2 (kT F x1 x2 k204) x166 x167) rfl ?_
 refine av [2,3,24,2,0,1,2,9] ?_ ?_
 intro _
 refine au [10,1,2,13,2,3,27,9] ?_
 intro x223 e223 b224 o225
 refine au [28,9,14] ?_
 intro g226
 refine au [19,0,1,2,2,3,23,24,4,24,2,4] ?_
 refine qN 5 (decide (x223.1 < 0)) [(0, .int .i64 x1), (1, .slice a3 x2.length c4), (4, .pointer (some ⟨g5, 0, none⟩)), (6, .map (some g10)), (25, .slice a3 x2.length c4), (26, .int .i64 (x2.length : Int)), (27, .int .i64 x166), (8, .pointer (some ⟨g226, 0, none⟩)), (39, .bool ((decide (x223.1 < 0)) || (decide (x1 ≤ x223.1))))] (fun h231 => ?_) (fun h231 => ?_) ?_
 refine qb (os := _) rfl (qj (k := 34) rfl h231 ?_)
 refine au [6,6,6,6,17] ?_
 refine qc (d := 39) (v := .bool ((decide (x223.1 < 0)) || (decide (x1 ≤ x223.1)))) rfl (by rw [h231]; simp only [Bool.true_or]) ?_
 exact az [0,20]
 refine qb (os := _) rfl (qi (k := 34) rfl h231 ?_)
 refine au [23,24,4,4,26,4,18] ?_
 refine qc (d := 39) (v := .bool ((decide (x223.1 < 0)) || (decide (x1 ≤ x223.1)))) rfl (by rw [h231]; simp only [Bool.false_or]) ?_
 exact az [0,20]
 refine qb (os := _) rfl ?_
 refine au [4] ?_
 refine qN 4 ((decide (x223.1 < 0)) || (decide (x1 ≤ x223.1))) [(0, .int .i64 x1), (1, .slice a3 x2.length c4), (4, .pointer (some ⟨g5, 0, none⟩)), (6, .map (some g10)), (25, .slice a3 x2.length c4), (26, .int .i64 (x2.length : Int)), (27, .int .i64 x166), (8, .pointer (some ⟨g226, 0, none⟩)), (44, .bool (((decide (x223.1 < 0)) || (decide (x1 ≤ x223.1))) || (decide (x223.2 < 0))))] (fun h232 => ?_) (fun h232 => ?_) ?_
 refine qb (os := _) rfl (qj (k := 40) rfl h232 ?_)
 refine au [6,6,6,17] ?_
 refine qc (d := 44) (v := .bool (((decide (x223.1 < 0)) || (decide (x1 ≤ x223.1))) || (decide (x223.2 < 0)))) rfl (by rw [h232]; simp only [Bool.true_or]) ?_
 exact az [0,20]
 refine qb (os := _) rfl (qi (k := 40) rfl h232 ?_)
 refine au [23,24,4,24,2,18] ?_
 refine qc (d := 44) (v := .bool (((decide (x223.1 < 0)) || (decide (x1 ≤ x223.1))) || (decide (x223.2 < 0)))) rfl (by rw [h232]; simp only [Bool.false_or]) ?_
 exact az [0,20]
 refine qb (os := _) rfl ?_
 refine au [4] ?_
 refine qN 5 (((decide (x223.1 < 0)) || (decide (x1 ≤ x223.1))) || (decide (x223.2 < 0))) [(0, .int .i64 x1), (1, .slice a3 x2.length c4), (4, .pointer (some ⟨g5, 0, none⟩)), (6, .map (some g10)), (25, .slice a3 x2.length c4), (26, .int .i64 (x2.length : Int)), (27, .int .i64 x166), (8, .pointer (some ⟨g226, 0, none⟩)), (50, .bool ((((decide (x223.1 < 0)) || (decide (x1 ≤ x223.1))) || (decide (x223.2 < 0))) || (decide (x1 ≤ x223.2))))] (fun h233 => ?_) (fun h233 => ?_) ?_
 refine qb (os := _) rfl (qj (k := 45) rfl h233 ?_)
 refine au [6,6,6,6,17] ?_
 refine qc (d := 50) (v := .bool ((((decide (x223.1 < 0)) || (decide (x1 ≤ x223.1))) || (decide (x223.2 < 0))) || (decide (x1 ≤ x223.2)))) rfl (by rw [h233]; simp only [Bool.true_or]) ?_
 exact az [0,20]
 refine qb (os := _) rfl (qi (k := 45) rfl h233 ?_)
 refine au [23,24,4,4,26,4,18] ?_
 refine qc (d := 50) (v := .bool ((((decide (x223.1 < 0)) || (decide (x1 ≤ x223.1))) || (decide (x223.2 < 0))) || (decide (x1 ≤ x223.2)))) rfl (by rw [h233]; simp only [Bool.false_or]) ?_
 exact az [0,20]
 refine qb (os := _) rfl ?_
 refine av [0,1,9] ?_ ?_
 intro _
 refine au [2,3] ?_
 refine qh (cells := [.slice none 0 0]) rfl st24 rfl (by kernel_rfl) rfl ?_
 refine au [26,14,5,0,1,8,7,22,7,7,22,7,25,6] ?_
 exact qO (none, (0, ([] : List (Option Addr × Nat)))) (resL (rs := [.cell 4 24, .tmp 5]) rfl (.cell (i := 2) rfl tf24 rfl rfl (by simp) rfl (.tmp rfl ResOk.nil)) rfl) (fun h => by subst h; exact (.cons 0 rfl .nil))
 intro _
 refine au [10,1,2,2,3,4,24,13] ?_
 refine qau (i := 1) (p := (x223.1, x223.2)) rfl Tryz.underlying60 se44 tf82 rfl rfl rfl rfl ?_
 refine au [4,21,21,14] ?_
 intro g236
 refine av [19,5,0,1,2,3,4,0,1,9] ?_ ?_
 intro _
 refine au [2,3] ?_
 refine qh (cells := [.slice none 0 0]) rfl st24 rfl (by kernel_rfl) rfl ?_
 refine au [27,13,5,0,1,8,7,22,7,7,22,7,25,6] ?_
 exact qO (none, (0, ([] : List (Option Addr × Nat)))) (resL (rs := [.cell 4 24, .tmp 5]) rfl (.cell (i := 3) rfl tf24 rfl rfl (by simp) rfl (.tmp rfl ResOk.nil)) rfl) (fun h => by subst h; exact (.cons 0 rfl .nil))
 intro _
 refine au [10,1,3,4,25,5] ?_
 refine qh (cells := []) rfl inferInstance rfl (by kernel_rfl) rfl (qeP (i := 2) (p := (x223.1, x223.2)) rfl Tryz.underlying60 se44 rfl rfl rfl rfl (fun x237 e237 => ?_))
 refine au [0,24,0,1,3,24,3,4,0] ?_
 exact qw ((iadd .i64 x166 1, x237), ())
 intro _
 exact az [24,6,15,15,24,7,25,7]
 rintro ⟨_, _⟩
 try dsimp only
 refine au [2,3,4,4,30,1] ?_
 intro x122 e122 g123
 refine au [30,2] ?_
 rintro x124 e124 ⟨a125, c126⟩
 refine au [28,10] ?_
 rintro x127 e127 ⟨a128, c129⟩
 refine au [24,9,5,0,1,8] ?_
 exact qO (a128, c129) (resL (rs := [.cell 4 24, .tmp 5]) rfl (.cell (i := 1) rfl tf24 rfl rfl (by simp) rfl (.tmp rfl ResOk.nil)) rfl) (fun h => by subst h; exact (.cons 0 rfl .nil))
set_option maxHeartbeats 4000000 in
theorem qdd {F : Nat} {x1 : List Int} {r : (List (List Int) × Int × Int)} (hm : qP F x1 = some r) :
    Pure Tryz.prog 9 [.string (bstr x1)] [] (Option Addr × (Nat × List (Option Addr × Nat))) (fun g => .tuple #[.agg #[.slice g.1 r.1.length g.2.1], .agg #[.int .i64 r.2.1, .int .i64 r.2.2]]) (fun g => [RoN eN66 rN66 66 1 (.slice g.1 r.1.length g.2.1) r.1 g.2.2 []]) (fun _ => []) := by
 refine qM Tryz.func9 rfl Tryz.ntmps9 rfl hm (fun w => ?_)
 refine au [24,12,2,3,14] ?_
 intro g2
 refine au [14] ?_
 intro g3
 refine au [0,1,2,3,4] ?_
 refine qB qdf ?_
 rintro x4 e4 ⟨a5, c6⟩
 refine au [5,0,1,2,2,3,4] ?_
 refine zw (a := x1) rfl Tryz.underlying9 rfl rfl ?_
 refine au [25,2,4] ?_
 refine qN 4 (decide (20000 < (x1.length : Int))) [(2, .pointer (some ⟨g2, 0, none⟩)), (3, .pointer (some ⟨g3, 0, none⟩)), (4, .slice a5 x4.length c6), (21, .bool ((decide (20000 < (x1.length : Int))) || (decide (1000 < (x4.length : Int)))))] (fun h9 => ?_) (fun h9 => ?_) ?_
 refine qb (os := _) rfl (qj (k := 17) rfl h9 ?_)
 refine au [6,6,6,17] ?_
 refine qc (d := 21) (v := .bool ((decide (20000 < (x1.length : Int))) || (decide (1000 < (x4.length : Int))))) rfl (by rw [h9]; simp only [Bool.true_or]) ?_
 exact az [0,20]
 refine qb (os := _) rfl (qi (k := 17) rfl h9 ?_)
 refine au [4,24,1,25,2,18] ?_
 refine qc (d := 21) (v := .bool ((decide (20000 < (x1.length : Int))) || (decide (1000 < (x4.length : Int))))) rfl (by rw [h9]; simp only [Bool.false_or]) ?_
 exact az [0,20]
 refine qb (os := _) rfl ?_
 refine av [0,1,9] ?_ ?_
 intro _
 refine au [2,3] ?_
 refine qh (cells := [.slice none 0 0]) rfl st24 rfl (by kernel_rfl) rfl (qh (cells := [.int .i64 0, .int .i64 2]) rfl st29 rfl (by kernel_rfl) rfl ?_)
 refine au [24,9,19,0,1,8,7,25,6] ?_
 exact qO (none, (0, ([] : List (Option Addr × Nat)))) (resL (rs := [.cell 2 24, .cell 3 29]) rfl (.cell (i := 1) rfl tf24 rfl rfl (by simp) rfl (.cell (i := 0) rfl tf29 rfl rfl (by simp) rfl ResOk.nil)) rfl) (fun h => by subst h; exact (.cons 0 rfl .nil))
 intro _
 refine au [10,1,2,3] ?_
 refine qbD (k0 := .i64) (k1 := .i64) rfl rfl (fun g10 => qh (cells := [.int .i64 (-1), .slice none 0 0, .map (some g10)]) rfl st62 rfl (by kernel_rfl) rfl ?_)
 refine au [25,0] ?_
 intro g11
 refine au [5,0,1] ?_
 refine qf (fun (((x113, x116, x117), (a114, c115)) : ((Int × List (Int × Int) × List (Int × Int)) × (Option Addr × Nat))) => ([(2, .pointer (some ⟨g2, 0, none⟩)), (3, .pointer (some ⟨g3, 0, none⟩)), (5, .pointer (some ⟨g11, 0, none⟩))], [⟨g11, 62, [.int .i64 x113, .slice a114 x116.length c115, .map (some g10)]⟩, (blkO g10 (mapO .i64 .i64 x117)), ⟨g3, 29, [.int .i64 0, .int .i64 0]⟩, ⟨g2, 24, [.slice none 0 0]⟩], [Ro eS44 44 2 (.slice a114 x116.length c115) x116], [], vN F x113 x116 x117)) ?_ ?_
 refine au [2,3,4,24,1,4,0,1,13,27,14] ?_
 refine qK (fun (((x173, x174, x177, x178), (a175, c176)) : ((Int × Int × List (Int × Int) × List (Int × Int)) × (Option Addr × Nat))) => ([(2, .pointer (some ⟨g2, 0, none⟩)), (3, .pointer (some ⟨g3, 0, none⟩)), (5, .pointer (some ⟨g11, 0, none⟩)), (27, .slice a5 x4.length c6), (28, .int .i64 (x4.length : Int)), (29, .int .i64 x173)], [⟨g11, 62, [.int .i64 x174, .slice a175 x177.length c176, .map (some g10)]⟩, (blkO g10 (mapO .i64 .i64 x178)), ⟨g3, 29, [.int .i64 0, .int .i64 0]⟩, ⟨g2, 24, [.slice none 0 0]⟩], [Ro eT 9 1 (.slice a5 x4.length c6) x4, Ro eS44 44 2 (.slice a175 x177.length c176) x177], [])) (fun k (s : ((Int × Int × List (Int × Int) × List (Int × Int)) × (Option Addr × Nat))) => zX F x4 k s.1) ((0, -1, ([] : List (Int × Int)), ([] : List (Int × Int))), (none, 0)) F ?_
 intro k210
 rintro ⟨⟨x173, x174, x177, x178⟩, ⟨a175, c176⟩⟩
 try dsimp only
 refine q5 (m' := yH F x4 (zX F x4 k210) x173 x174 x177 x178) rfl ?_
 refine av [2,3,24,2,0,1,2,9] ?_ ?_
 intro _
 refine au [10,1] ?_
 refine qf (fun (((x224, x227, x228), (a225, c226)) : ((Int × List (Int × Int) × List (Int × Int)) × (Option Addr × Nat))) => ([(2, .pointer (some ⟨g2, 0, none⟩)), (3, .pointer (some ⟨g3, 0, none⟩)), (5, .pointer (some ⟨g11, 0, none⟩)), (27, .slice a5 x4.length c6), (28, .int .i64 (x4.length : Int)), (29, .int .i64 x173)], [⟨g11, 62, [.int .i64 x224, .slice a225 x227.length c226, .map (some g10)]⟩, (blkO g10 (mapO .i64 .i64 x228)), ⟨g3, 29, [.int .i64 0, .int .i64 0]⟩, ⟨g2, 24, [.slice none 0 0]⟩], [Ro eT 9 1 (.slice a5 x4.length c6) x4, Ro eS44 44 2 (.slice a225 x227.length c226) x227], [], ym F (zX F x4 k210) x173 x224 x227 x228)) ?_ ?_
 refine au [13,2,3,4,26,10] ?_
 intro x229 e229 g230 h231
 refine zV (j := 0) (y := x229) zd rfl rfl tf9 rfl h231 (qr e229).2.2 (fun _ => rfl) rfl rfl ?_
 refine au [5,5,0,1,2,3,4] ?_
 refine qB qdg ?_
 rintro x232 e232 ⟨a233, c234⟩
 refine av [5,0,1,2,2,3,4,24,1,24,11,0,1,9] ?_ ?_
 intro _
 refine au [24,6,15,24,7] ?_
 exact qa ((x174, x177, x178), (a175, c176))
 intro _
 refine au [10,1,2,3,4,4] ?_
 refine zU qaL ?_
 rintro x236 e236 ⟨a237, c238⟩
 refine av [5,0,1,2,3,4,25,3,0,1,9] ?_ ?_
 intro _
 refine au [2,3] ?_
 refine qh (cells := [.slice none 0 0]) rfl st24 rfl (by kernel_rfl) rfl ?_
 refine au [4,24,3,4] ?_
 refine qh (cells := [.int .i64 (iadd .i64 x173 1), .int .i64 x236.1]) rfl st29 rfl (by kernel_rfl) rfl ?_
 refine au [27,13,26,14,0,1,8,22,7,7,22,7,25,6] ?_
 exact qO (none, (0, ([] : List (Option Addr × Nat)))) (resL (rs := [.cell 2 24, .cell 3 29]) rfl (.cell (i := 3) rfl tf24 rfl rfl (by simp) rfl (.cell (i := 2) rfl tf29 rfl rfl (by simp) rfl ResOk.nil)) rfl) (fun h => by subst h; exact (.cons 0 rfl .nil))
 intro _
 refine au [10,24,0] ?_
 exact qa ((x236.2.1, x236.2.2.1, x236.2.2.2), (a237, c238))
 rintro ⟨⟨x224, x227, x228⟩, ⟨a225, c226⟩⟩
 try dsimp only
 refine au [3,24,3,4,0] ?_
 exact qw ((iadd .i64 x173 1, x224, x227, x228), (a225, c226))
 intro _
 refine au [24,6,15,15,24,7] ?_
 exact qa ((x174, x177, x178), (a175, c176))
 rintro ⟨⟨x113, x116, x117⟩, ⟨a114, c115⟩⟩
 try dsimp only
 refine av [2,2,3,4,27,7,23,24,4,24,2,0,1,9] ?_ ?_
 intro _
 refine au [2,3] ?_
 refine qh (cells := [.slice none 0 0]) rfl st24 rfl (by kernel_rfl) rfl (qh (cells := [.int .i64 0, .int .i64 5]) rfl st29 rfl (by kernel_rfl) rfl ?_)
 refine au [27,13,26,14,0,1,8,7,25,6] ?_
 exact qO (none, (0, ([] : List (Option Addr × Nat)))) (resL (rs := [.cell 2 24, .cell 3 29]) rfl (.cell (i := 3) rfl tf24 rfl rfl (by simp) rfl (.cell (i := 2) rfl tf29 rfl rfl (by simp) rfl ResOk.nil)) rfl) (fun h => by subst h; exact (.cons 0 rfl .nil))
 intro _
 refine au [10,1] ?_
 refine qf (fun (((x128, x131), (g127, a129, c130)) : ((Int × List (List Int)) × (Nat × Option Addr × (Nat × List (Option Addr × Nat))))) => ([(2, .pointer (some ⟨g2, 0, none⟩)), (3, .pointer (some ⟨g3, 0, none⟩)), (10, .pointer (some ⟨g127, 0, none⟩)), (11, .int .i64 x128)], [⟨g3, 29, [.int .i64 0, .int .i64 0]⟩, ⟨g2, 24, [.slice none 0 0]⟩, ⟨g127, 24, [.slice a129 x131.length c130.1]⟩], [RoN eN66 rN66 66 1 (.slice a129 x131.length c130.1) x131 c130.2 []], [], yI F x128 x131)) ?_ ?_
 refine q6 mixed [] [⟨g11, 62, [.int .i64 x113, .slice a114 x116.length c115, .map (some g10)]⟩, (blkO g10 (mapO .i64 .i64 x117)), ⟨g3, 29, [.int .i64 0, .int .i64 0]⟩, ⟨g2, 24, [.slice none 0 0]⟩] [] (.cons 0 rfl (.cons 0 rfl (.cons 0 rfl (.cons 0 rfl .nil)))) qn 15 rfl ?_
 refine au [11,0,11,1,24,8,2,25,1,3,11,4,11,5,24,8,6,25,1,7] ?_
 refine yL 8 12 rfl rfl (by kernel_rfl) rfl rfl ?_ ?_
 refine au [27,15] ?_
 rintro x132 e132 ⟨a133, c134⟩
 refine au [0] ?_
 refine qs (.cons 0 rfl (.cons 0 rfl (.cons 0 rfl (.cons 0 rfl .nil)))) qn ?_
 refine au [11,9,11,10,11,11,12,12,14] ?_
 intro g135
 refine au [0,26,15,12,13,19,0,26,15,11,14,24,5] ?_
 exact q9 (qa ((x132.2, x132.1), (g135, a133, c134))) (by intro c h; cases h)
 refine yM (m' := ((yU F x113 x116).bind fun x137 => yI F x137.2 x137.1)) (rfl) ?_
 refine au [14] ?_
 intro g136
 refine au [0,26,15,12,8,27,15] ?_
 rintro x137 e137 ⟨a138, c139⟩
 refine au [0,26,15,11,9,11,10,11,11,12,13,19,0,26,15,11,14,24,5] ?_
 exact q9 (qa ((x137.2, x137.1), (g136, a138, c139))) (by intro c h; cases h)
 rintro ⟨⟨x128, x131⟩, ⟨g127, a129, c130⟩⟩
 try dsimp only
 refine au [2,3,25,13,4] ?_
 refine qh (cells := [.int .i64 0, .int .i64 x128]) rfl st29 rfl (by kernel_rfl) rfl ?_
 refine au [24,9,19,0,1,8] ?_
 exact qO (a129, c130) (resL (rs := [.cell 2 24, .cell 3 29]) rfl (.cell (i := 1) rfl tf24 rfl rfl (by simp) rfl (.cell (i := 0) rfl tf29 rfl rfl (by simp) rfl ResOk.nil)) rfl) (fun h => by subst h; exact (.cons 0 rfl .nil))
theorem qdO {F : Nat} {x1 : Int} {x2 : Int} {x3 : Int} {r : Bool} (hm : vz F x1 x2 x3 = some r) :
    Pure Tryz.prog 27 [.int .i64 x1, .int .i64 x2, .int .i64 x3] [] Unit (fun _ => .bool r) (fun _ => []) (fun _ => []) := by
 refine qM Tryz.func27 rfl Tryz.ntmps27 rfl hm (fun w => qgp ?_)
 refine au [2,3,5,0,1,2,3,4,4,26,4,4] ?_
 refine qN 4 (decide (x2 ≤ x1)) [(14, .bool ((decide (x2 ≤ x1)) && (decide (x1 ≤ x3))))] (fun h4 => ?_) (fun h4 => ?_) ?_
 refine qb (os := _) rfl (qj (k := 10) rfl h4 ?_)
 refine au [4,4,27,5,17] ?_
 refine qc (d := 14) (v := .bool ((decide (x2 ≤ x1)) && (decide (x1 ≤ x3)))) rfl (by rw [h4]; simp only [Bool.true_and]) ?_
 exact az [0,20]
 refine qb (os := _) rfl (qi (k := 10) rfl h4 ?_)
 refine au [6,6,6,18] ?_
 refine qc (d := 14) (v := .bool ((decide (x2 ≤ x1)) && (decide (x1 ≤ x3)))) rfl (by rw [h4]; simp only [Bool.false_and]) ?_
 exact az [0,20]
 refine qb (os := _) rfl ?_
 exact az [5,0,1,8,16]
set_option maxHeartbeats 4000000 in
theorem qbP {F : Nat} {x1 : List (List Int)} {a2 : Option Addr} {c3 : Nat} {s3 : List (Option Addr × Nat)} {r : Int} (hm : qak F x1 = some r) :
    Pure Tryz.prog 10 [.agg #[.slice a2 x1.length c3]] [SlN eN66 iN66 1 (.slice a2 x1.length c3) x1 s3] Unit (fun _ => .int .i64 r) (fun _ => []) (fun _ => []) := by
 refine qM Tryz.func10 rfl Tryz.ntmps10 rfl hm (fun w => ?_)
 refine au [24,12,2,3,25,0] ?_
 intro g4
 refine av [5,0,1,2,3,23,24,4,24,1,5,0,1,2,2,3,4,25,2,0,1,9] ?_ ?_
 intro _
 exact az [2,3,5,0,1,8,7,16]
 intro _
 refine au [10,1,2,3,5,0,1] ?_
 refine qf (fun ((x3744, _) : (Int × Unit)) => ([(4, .int .i64 x3744)], [], [], [], je F x3744)) ?_ ?_
 refine au [2,3,5,0,1,13] ?_
 refine qK (fun (((x4992, x4993), _) : ((Int × Int) × Unit)) => ([(1, .pointer (some ⟨g4, 0, none⟩)), (3, .int .i64 (x1.length : Int)), (4, .int .i64 x4992), (5, .int .i64 x4993)], [⟨g4, 24, [.slice a2 x1.length c3]⟩], [], [SlN eN66 iN66 1 (.slice a2 x1.length c3) x1 s3])) (fun k (s : ((Int × Int) × Unit)) => qT F x1 k s.1) ((0, 0), ()) F ?_
 intro k6239
 rintro ⟨⟨x4992, x4993⟩, _⟩
 try dsimp only
 refine q5 (m' := vO F x1 (qT F x1 k6239) x4992 x4993) rfl ?_
 refine av [2,2,3,4,4,24,2,0,1,9] ?_ ?_
 intro _
 refine au [10,1] ?_
 refine qf (fun ((x6862, _) : (Int × Unit)) => ([(1, .pointer (some ⟨g4, 0, none⟩)), (3, .int .i64 (x1.length : Int)), (4, .int .i64 x6862), (5, .int .i64 x4993)], [⟨g4, 24, [.slice a2 x1.length c3]⟩], [], [SlN eN66 iN66 1 (.slice a2 x1.length c3) x1 s3], vQ F (qT F x1 k6239) x4993 x6862)) ?_ ?_
 refine au [13,2,3,5,0,1,13] ?_
 refine qK (fun (((x7069, x7070), _) : ((Int × Int) × Unit)) => ([(1, .pointer (some ⟨g4, 0, none⟩)), (3, .int .i64 (x1.length : Int)), (4, .int .i64 x7069), (5, .int .i64 x4993), (6, .int .i64 x7070)], [⟨g4, 24, [.slice a2 x1.length c3]⟩], [], [SlN eN66 iN66 1 (.slice a2 x1.length c3) x1 s3])) (fun k (s : ((Int × Int) × Unit)) => zY F (qT F x1 k6239) x1 x4993 k s.1) ((x4992, 0), ()) F ?_
 intro k7277
 rintro ⟨⟨x7069, x7070⟩, _⟩
 try dsimp only
 refine q5 (m' := vP F (qT F x1 k6239) x1 x4993 (zY F (qT F x1 k6239) x1 x4993 k7277) x7069 x7070) rfl ?_
 refine au [2,2,3,4,23,24,4,4,27,4] ?_
 intro x7283 e7283 g7286 b7284 o7285
 refine av [25,11,24,1,24,2,0,1,9] ?_ ?_
 intro _
 refine au [10,1,2,13,2,2,3,23,24,4,4,30,3] ?_
 intro x7394 e7394 g7397 b7395 o7396
 refine au [25,11,4,28,5] ?_
 intro x7398 e7398 b7399 o7400
 refine au [25,11,4,26,9,28,0] ?_
 intro x7401 e7401 _
 refine av [25,8,0,1,9] ?_ ?_
 intro _
 exact az [2,3,5,0,1,8,7,22,7,7,22,22,7,7,22,7,16]
 intro _
 refine au [10,1,2] ?_
 refine qf (fun ((x7461, _) : (Bool × Unit)) => ([(1, .pointer (some ⟨g4, 0, none⟩)), (3, .int .i64 (x1.length : Int)), (4, .int .i64 x7069), (5, .int .i64 x4993), (6, .int .i64 x7070), (60, .bool x7461)], [⟨g4, 24, [.slice a2 x1.length c3]⟩], [], [SlN eN66 iN66 1 (.slice a2 x1.length c3) x1 s3], yz F (zY F (qT F x1 k6239) x1 x4993 k7277) x7069 x7070 x7461)) ?_ ?_
 refine av [29,7] ?_ ?_
 intro h7463
 refine qbc (j := 5) zi (by decide) rfl ?_
 intro x7464 e7464 g7468 b7465 o7466 h7467
 replace h7467 : a2 = some ⟨b7465, o7466, none⟩ := h7467
 refine au [30,4] ?_
 intro x7469 e7469 b7470 o7471 h7472
 replace h7472 : g7468.1 = some ⟨b7470, o7471, none⟩ := h7472
 refine qbc (j := 8) zi (by decide) rfl ?_
 intro x7473 e7473 g7477 b7474 o7475 h7476
 replace h7476 : a2 = some ⟨b7474, o7475, none⟩ := h7476
 refine au [30,4] ?_
 intro x7478 e7478 b7479 o7480 h7481
 replace h7481 : g7477.1 = some ⟨b7479, o7480, none⟩ := h7481
 refine q6 mixed [] [⟨g4, 24, [.slice a2 x1.length c3]⟩] [qk b7479 (o7480 + (isub .i64 x7070 1).toNat * 1) ((eI .i64) x7478), qk b7474 (o7475 + x4993.toNat * 1) (eN66 (x7473, g7477)), Sl (eI .i64) 1 (.slice g7477.1 x7473.length g7477.2) x7473, qk b7470 (o7471 + x7070.toNat * 1) ((eI .i64) x7469), qk b7465 (o7466 + x4993.toNat * 1) (eN66 (x7464, g7468)), Sl (eI .i64) 1 (.slice g7468.1 x7464.length g7468.2) x7464, qk b7399 o7400 ((eI .i64) x7398), qk b7395 o7396 (eN66 (x7394, g7397)), Sl (eI .i64) 1 (.slice g7397.1 x7394.length g7397.2) x7394, qk b7284 o7285 (eN66 (x7283, g7286)), Sl (eI .i64) 1 (.slice g7286.1 x7283.length g7286.2) x7283, SlN eN66 iN66 1 (.slice a2 x1.length c3) x1 s3] (.cons 0 rfl .nil) (q4 0 rfl (q4 1 rfl (q4 2 rfl (q4 3 rfl (q4 4 rfl (q4 5 rfl (q4 6 rfl (q4 7 rfl (q4 8 rfl (q4 9 rfl (q4 10 rfl (q4 11 rfl qn)))))))))))) 22 rfl ?_
 refine au [11,0,11,1,11,2] ?_
 refine qg (d := 41) (v := .bool true) rfl (by rw [h7463] <;> rfl) ?_
 refine au [24,8,3,25,1,4,11,5] ?_
 refine qg (d := 43) (v := .slice (some ⟨b7465, o7466, none⟩) x1.length c3) rfl (by rw [h7467] <;> rfl) (qo 6 (.pointer (some ⟨b7465, (o7466 + x4993.toNat * 1), none⟩)) rfl rfl rfl (yc Tryz.underlying22 tf66 rfl rfl (qr e7464).1 (zZ e7464)) (qg (d := 43) (v := .slice a2 x1.length c3) rfl (by rw [h7467] <;> rfl) (q7 7 (.slice g7468.1 x7464.length g7468.2) [] rfl rfl rfl (zk (j := 4) rfl tf66 rfl rfl (fun _ => rfl) rfl) ?_)))
 refine au [11,8] ?_
 refine qg (d := 46) (v := .slice (some ⟨b7470, o7471, none⟩) x7464.length g7468.2) rfl (by rw [h7472] <;> rfl) (qo 9 (.pointer (some ⟨b7470, (o7471 + x7070.toNat * 1), none⟩)) rfl rfl rfl (yc Tryz.underlying66 tf3 rfl rfl (qr e7469).1 (zZ e7469)) (qg (d := 46) (v := .slice g7468.1 x7464.length g7468.2) rfl (by rw [h7472] <;> rfl) (q7 10 (.int .i64 x7469) [] rfl rfl rfl (zk (j := 3) rfl tf3 rfl rfl (fun _ => rfl) rfl) ?_)))
 refine au [24,8,11,25,1,12,11,13] ?_
 refine qg (d := 51) (v := .slice (some ⟨b7474, o7475, none⟩) x1.length c3) rfl (by rw [h7476] <;> rfl) (qo 14 (.pointer (some ⟨b7474, (o7475 + x4993.toNat * 1), none⟩)) rfl rfl rfl (yc Tryz.underlying22 tf66 rfl rfl (qr e7473).1 (zZ e7473)) (qg (d := 51) (v := .slice a2 x1.length c3) rfl (by rw [h7476] <;> rfl) (q7 15 (.slice g7477.1 x7473.length g7477.2) [] rfl rfl rfl (zk (j := 1) rfl tf66 rfl rfl (fun _ => rfl) rfl) ?_)))
 refine au [11,16,11,17] ?_
 refine qg (d := 54) (v := .slice (some ⟨b7479, o7480, none⟩) x7473.length g7477.2) rfl (by rw [h7481] <;> rfl) (qo 18 (.pointer (some ⟨b7479, (o7480 + (isub .i64 x7070 1).toNat * 1), none⟩)) rfl rfl rfl (yc Tryz.underlying66 tf3 rfl rfl (qr e7478).1 (zZ e7478)) (qg (d := 54) (v := .slice g7477.1 x7473.length g7477.2) rfl (by rw [h7481] <;> rfl) (q7 19 (.int .i64 x7478) [] rfl rfl rfl (zk (j := 0) rfl tf3 rfl rfl (fun _ => rfl) rfl) ?_)))
 refine au [11,20,11,21,24,5] ?_
 exact q9 (qa ((decide (x7469 ≤ x7478)), ())) (by intro c h; cases h)
 intro h7463
 refine q6 mixed [] [⟨g4, 24, [.slice a2 x1.length c3]⟩] [qk b7399 o7400 ((eI .i64) x7398), qk b7395 o7396 (eN66 (x7394, g7397)), Sl (eI .i64) 1 (.slice g7397.1 x7394.length g7397.2) x7394, qk b7284 o7285 (eN66 (x7283, g7286)), Sl (eI .i64) 1 (.slice g7286.1 x7283.length g7286.2) x7283, SlN eN66 iN66 1 (.slice a2 x1.length c3) x1 s3] (.cons 0 rfl .nil) (q4 0 rfl (q4 1 rfl (q4 2 rfl (q4 3 rfl (q4 4 rfl (q4 5 rfl qn)))))) 22 rfl ?_
 refine au [11,0,11,1,11,2] ?_
 refine qg (d := 41) (v := .bool false) rfl (by rw [h7463] <;> rfl) ?_
 refine au [24,14,3,24,14,4,24,14,5,24,14,6,24,14,7,24,14,8,24,14,9,24,14,10,24,14,11,24,14,12,24,14,13,24,14,14,24,14,15,24,14,16,24,14,17,24,14,18,24,14,19,24,14,20,11,21,24,5] ?_
 exact q9 (qa (false, ())) (by intro c h; cases h)
 rintro ⟨x7461, _⟩
 try dsimp only
 refine av [9] ?_ ?_
 intro _
 exact az [2,3,5,0,1,8,7,22,7,7,22,22,7,7,22,7,16]
 intro _
 refine au [10,1,3,4,24,3,5,0,24,0,1,3,4,24,3,5,0] ?_
 exact qw ((iadd .i64 x7069 1, iadd .i64 x7070 1), ())
 intro _
 refine au [24,6,15,15,24,7,24,0] ?_
 exact qa (x7069, ())
 rintro ⟨x6862, _⟩
 try dsimp only
 refine au [3,4,24,3,5,0] ?_
 exact qw ((x6862, iadd .i64 x4993 1), ())
 intro _
 refine au [24,6,15,15,24,7] ?_
 exact qa (x4992, ())
 rintro ⟨x3744, _⟩
 try dsimp only
 refine av [2,2,3,4,25,2,0,1,9] ?_ ?_
 intro _
 exact az [2,3,5,0,1,8,7,16]
 intro _
 exact az [10,1,2,3,5,0,1,8,16]
end Go.Proofs.YtfjkpdlcdceenaaGreatDoor
