/- Proved: for every input the law DeskNodes returns true, and what came in reads as it did. The named variables hold what the row says. -/
import Derived.Test.YthibchijlpflmaaGreatDoorCards
import Derived.Test.YthibchijlpflmaaGreatDoorTie
import Derived.Test.YthibchijlpflmaaGreatDoorWalks6
import Derived.Test.YthibchijlpflmaaGreatDoorPureDesk9p2
import Derived.ProofKit
import Derived.Deep.DeepHandedRow
import Derived.Deep.DeepWitnessRowRef
import Derived.Deep.DeepLaidRun
import Derived.Lib.LaidTab
import Derived.LaidSub
import Derived.ChangeMaps5
import Derived.Stop.LaidErr
set_option maxRecDepth 100000
namespace Go.Proofs.YthibchijlpflmaaGreatDoor
open Go.ChangeShapes Go.WideShapes Go.ChangeAt Go.RowKit SX
theorem errRow (u : TypeId) (h : Tryz.prog.typeName? 3 u = some "*errors.errorString") : u = 279 :=
  typeName_ptr_named (nm := "errors.errorString") (by rw [show "*" ++ "errors.errorString" = "*errors.errorString" from by decide]; kernel_rfl) (by kernel_rfl) (by decide) u (by rw [show "*" ++ "errors.errorString" = "*errors.errorString" from by decide]; exact h)
theorem gfLaid {W : World} {l : List (String × DataW Unit)} (hl : (l.filter fun x => x.1 == "internal/strconv.uint64pow10") = [("internal/strconv.uint64pow10", Lib.tabData .u64 Lib.pow10Tab)]) (hl17 : (l.filter fun x => x.1 == "strconv.ErrSyntax") = [("strconv.ErrSyntax", Rows.laid_strconv_ErrSyntax)]) (hl16 : (l.filter fun x => x.1 == "strconv.ErrRange") = [("strconv.ErrRange", Rows.laid_strconv_ErrRange)]) (h : laidMet Tryz.prog l W) : GF W := by
  have h2 := laidMet.filter (fun x => x.1 == "internal/strconv.uint64pow10") h
  rw [hl] at h2
  have h17 := laidMet.filter (fun x => x.1 == "strconv.ErrSyntax") h
  rw [hl17] at h17
  obtain ⟨a17, s17, v17, -, -, -⟩ := laid_sentinel h17 (by kernel_rfl : Tryz.prog.globalNamed "strconv.ErrSyntax" = some 2) (by kernel_rfl : (Tryz.prog.globals[2]?).map (·.type) = some 50) Tryz.underlying50 errRow Tryz.underlying279 Tryz.underlying281 rfl rfl Tryz.underlying9 (by kernel_rfl) (by kernel_rfl)
  have h16 := laidMet.filter (fun x => x.1 == "strconv.ErrRange") h
  rw [hl16] at h16
  obtain ⟨a16, s16, v16, -, -, -⟩ := laid_sentinel h16 (by kernel_rfl : Tryz.prog.globalNamed "strconv.ErrRange" = some 3) (by kernel_rfl : (Tryz.prog.globals[3]?).map (·.type) = some 50) Tryz.underlying50 errRow Tryz.underlying279 Tryz.underlying281 rfl rfl Tryz.underlying9 (by kernel_rfl) (by kernel_rfl)
  exact ⟨Lib.tabIs_of_head (P := Tryz.prog) (t := 198) (e := 119) (n := 20) (by kernel_rfl : Tryz.prog.globalNamed "internal/strconv.uint64pow10" = some 1) (by kernel_rfl) (by kernel_rfl) (by kernel_rfl) (by kernel_rfl) (by kernel_rfl) h2, ⟨_, _, v17⟩, _, _, v16⟩
theorem gfNec {W : World} (h : GF W) : Nec W [] GF := fun w1 hk => by
  exact gfKeep hk h
def litV : DataW Unit → Value
  | .lit (.int k n) => .int k n
  | _ => .nilIface
def numsV : DataW Unit → List Value
  | .agg l => l.map litV
  | _ => []
def pairsV : DataW Unit → List Value
  | .agg l => l.flatMap numsV
  | _ => []
noncomputable def low : Nat := (World.holding Tryz.prog default ⟨#[], #[], []⟩).heap.size
def lay (cs : List Value) : Obj → Obj
  | .cells _ t frozen => .cells cs.toArray t frozen
  | o => o
noncomputable def laidWorld (os : Os) : World :=
  let w0 := World.holding Tryz.prog os ⟨#[.cells #[.string { data := #[118, 97, 108, 117, 101, 32, 111, 117, 116, 32, 111, 102, 32, 114, 97, 110, 103, 101] }] 281, .cells #[.string { data := #[105, 110, 118, 97, 108, 105, 100, 32, 115, 121, 110, 116, 97, 120] }] 281], #[], []⟩
  { w0 with heap := (((((((w0.heap).modify 6 (lay (numsV Rows.laid_math_bits_deBruijn32tab))).modify 7 (lay (numsV Rows.laid_math_bits_deBruijn64tab))).modify 1 (lay (numsV Rows.laid_internal_strconv_uint64pow10))).modify 5 (lay (pairsV Rows.laid_unicode_utf8_acceptRanges))).modify 3 (lay [.iface 279 (.pointer (some ⟨low + 0, 0, none⟩))])).modify 2 (lay [.iface 279 (.pointer (some ⟨low + 1, 0, none⟩))])).modify 4 (lay (numsV Rows.laid_unicode_utf8_first)) }
theorem deskNodesLaid (os : Os) (args : Array Value) : laidMet Tryz.prog Rows.deskNodesRow.laid ((laidWorld os).forCall (fun _ _ => 0) ⟨#[], args, []⟩).memory :=
  laidMet_of_run3 8 (by kernel_rfl) (by kernel_rfl) (by kernel_rfl)
theorem deskNodesOwn : ownKnob Tryz.prog.godebug = none := by kernel_rfl
theorem deskNodesLaidOut : laidOutB Tryz.prog = true := by kernel_rfl
theorem deskNodes_lifted (os : Os) (started : os.Started) (H : Type) (enc : TypeId × Value → H) (F : Stop.Interp) :
    ReturnsInHanded {} Tryz.checked os 3 .any ((OpenSpec.ofChange Rows.deskNodesSpec).preRow enc Tryz.prog Tryz.f3 Rows.deskNodesRow.domain false Rows.deskNodesRow.laid) (((OpenSpec.ofChange Rows.deskNodesSpec).at F).post enc Tryz.prog Tryz.f3 false true false false) := by
  have hx : ∃ ds places, DataW.whole enc Tryz.prog ((laidWorld os).forCall (fun _ _ => 0) ⟨#[], #[.agg #[.slice none 0 0, .int .i64 0, .int .i64 0, .int .i64 0], .int .i64 0, .int .i64 0], []⟩).memory Tryz.f3.params.toList Rows.deskNodesSpec.vars false (#[.agg #[.slice none 0 0, .int .i64 0, .int .i64 0, .int .i64 0], .int .i64 0, .int .i64 0] : Array Value).toList 8 = some (ds, [], places) := ⟨[.agg [.agg [.nil], .agg [.lit (.int .i64 0), .lit (.int .i64 0), .lit (.int .i64 0)]], .lit (.int .i64 0), .lit (.int .i64 0)], [], by kernel_rfl⟩
  obtain ⟨ds, places, hx⟩ := hx
  refine returnsInHanded_of_row (C := Tryz.checked) (s := OpenSpec.ofChange Rows.deskNodesSpec) deskNodesOwn started (by kernel_rfl) Tryz.func3
    (witness_row_atRef (enc := enc) (C := Tryz.checked) false (laidWorld os) #[.agg #[.slice none 0 0, .int .i64 0, .int .i64 0, .int .i64 0], .int .i64 0, .int .i64 0] rfl (by kernel_rfl) (by kernel_rfl) (by kernel_rfl)
      (OpenSpec.preRow_of_cond 8 hx (by kernel_rfl) (fun k hk => by cases hk) (by kernel_rfl) (deskNodesLaid os _))) ?_
  clear hx ds places
  intro W base args ds gs before hval0 hW _ hcond hsz hL _ _
  have nG : Nec W [] GF := gfNec (gfLaid (l := Rows.deskNodesRow.laid) (by kernel_rfl) (by kernel_rfl) (by kernel_rfl) hL)
  have hval : ∀ (j : Nat) t v, Tryz.f3.params[j]? = some t → args[j]? = some v → Value.okWide Tryz.prog W .any base t v := hval0
  have hW' := hW
  obtain ⟨p, q, hA0, hV, rfl, _, _⟩ := hW
  have hA : DataW.TrodAll enc Tryz.prog W 0 (fun _ => true) true Tryz.f3.params.toList args.toList ds p := hA0
  rw [Tryz.params3] at hA hval
  obtain ⟨args⟩ := args
  obtain ⟨v0, r0, d0, s0, q0, z0, e0, rfl, rfl, h0, k0⟩ := trodAll_cons hA
  obtain ⟨v1, r1, d1, s1, q1, z1, e1, rfl, rfl, h1, k1⟩ := trodAll_cons k0
  obtain ⟨v2, r2, d2, s2, q2, z2, e2, rfl, rfl, h2, k2⟩ := trodAll_cons k1
  obtain ⟨e3, rfl, rfl⟩ := trodAll_nil k2
  subst e3
  subst e2
  subst e1
  obtain rfl : args = _ := e0
  obtain ⟨rfl, rfl⟩ := trodVars_none hV
  have o0 := hval 0 28 v0 rfl rfl
  obtain ⟨cs0, rfl, hz0⟩ := okWide_struct Tryz.underlying28 o0
  obtain ⟨z0_0, z0_1, z0_2, z0_3, rfl⟩ := arr4 (hz0.trans (by kernel_rfl))
  obtain ⟨fu0, t0⟩ := h0
  obtain ⟨_, _, t0_0⟩ := qdG (cs := [z0_0, z0_1, z0_2, z0_3]) (cs' := [z0_0]) Tryz.underlying28 (i := 0) rfl (k := 1) (by kernel_rfl) rfl t0
  obtain ⟨_, _, t0_1⟩ := qdG (cs := [z0_0]) (cs' := [z0_0]) Tryz.underlying24 (i := 0) rfl (k := 1) (by kernel_rfl) rfl t0_0
  obtain ⟨_, _, t0_2⟩ := qdG (cs := [z0_0, z0_1, z0_2, z0_3]) (cs' := [z0_1, z0_2, z0_3]) Tryz.underlying28 (i := 1) rfl (k := 3) (by kernel_rfl) rfl t0
  obtain ⟨_, _, t0_3⟩ := qdG (cs := [z0_1, z0_2, z0_3]) (cs' := [z0_1]) Tryz.underlying26 (i := 0) rfl (k := 1) (by kernel_rfl) rfl t0_2
  obtain ⟨_, _, t0_4⟩ := qdG (cs := [z0_1, z0_2, z0_3]) (cs' := [z0_2]) Tryz.underlying26 (i := 1) rfl (k := 1) (by kernel_rfl) rfl t0_2
  obtain ⟨_, _, t0_5⟩ := qdG (cs := [z0_1, z0_2, z0_3]) (cs' := [z0_3]) Tryz.underlying26 (i := 2) rfl (k := 1) (by kernel_rfl) rfl t0_2
  have lf0 := qti Tryz.underlying28 (ts := [22, 3, 3, 3]) (by kernel_rfl) o0
  obtain ⟨a0_0, c0_0, p0_0, s0_0, rfl, n0_0, w0_0, l0_00⟩ := qqX (en := eN56) (inn := iN56) qn (fun _ => rfl) (fun _ => rfl) Tryz.underlying22 Tryz.underlying56 Tryz.underlying3 (by kernel_rfl) (by kernel_rfl) (lf0 0 _ 22 (by decide) rfl rfl) t0_1
  have b0_0 := fun l hl y hy => qeP ((w0_0 l hl).1 y hy)
  have l0_0 : p0_0.length ≤ 9223372036854775807 := l0_00
  have ll0_0 : ∀ l ∈ p0_0, l.length ≤ 9223372036854775807 := fun l hl => (w0_0 l hl).2
  obtain ⟨m0_1, rfl, u0_1⟩ := qli Tryz.underlying3 (lf0 1 _ 3 (by decide) rfl rfl) t0_3
  have g0_1 := qeP u0_1
  obtain ⟨m0_2, rfl, u0_2⟩ := qli Tryz.underlying3 (lf0 2 _ 3 (by decide) rfl rfl) t0_4
  have g0_2 := qeP u0_2
  obtain ⟨m0_3, rfl, u0_3⟩ := qli Tryz.underlying3 (lf0 3 _ 3 (by decide) rfl rfl) t0_5
  have g0_3 := qeP u0_3
  obtain ⟨p1, rfl, rfl, rfl, w1⟩ := open_int Tryz.underlying3 (hval 1 3 v1 rfl rfl) h1
  have b1 := qeP w1
  obtain ⟨p2, rfl, rfl, rfl, w2⟩ := open_int Tryz.underlying3 (hval 2 3 v2 rfl rfl) h2
  have b2 := qeP w2
  clear hA0 hval0
  refine (qlV (2000200) p0_0 a0_0 (c0_0, s0_0) m0_1 m0_2 m0_3 p1 p2 true (qk5 (Nat.le_refl _)) W (Hp.start (qpu n0_0 (qpu nG qx1)))).mono ?_
  rintro e W' ⟨g, rfl, hr⟩
  exact ⟨_, rfl, qvo deskNodesLaidOut (by kernel_rfl) rfl Tryz.underlying4 rfl hW' rfl hr.keep⟩
end Go.Proofs.YthibchijlpflmaaGreatDoor
