/- What calls of the library of texts answer. -/
import Derived.Test.YtfjkpdlcdceenaaGreatDoorRows
import Derived.Test.YtfjkpdlcdceenaaGreatDoorShelf
import Derived.Test.YtfjkpdlcdceenaaGreatDoorModels
import Derived.Shelf.Strings.Builder1
import Derived.Shelf.Strings.Split
import Derived.Shelf.Strings.SlTrimAscii
set_option maxHeartbeats 1000000
set_option maxRecDepth 100000
namespace Go.Proofs.YtfjkpdlcdceenaaGreatDoor
open Go SX Go.Proofs Go.RowKit Go.Shelf
theorem qgZ (b : Nat) (w : World) (h0 : w.cell? ⟨b, 0, none⟩ = some (.pointer (some ⟨b, 0, none⟩))) :
    Calls Tryz.prog 40 #[.pointer (some ⟨b, 0, none⟩)] w fun e w' => e = .returned (.tuple #[]) ∧ w' = w := by
  have sz : (Tryz.prog.info? 49).map (fun i => i.size) = some 2 := by kernel_rfl
  obtain ⟨j, hj, hjs⟩ := Option.map_eq_some_iff.1 sz
  have mixed : Tryz.prog.follows .mixedOrders = true := by kernel_rfl
  have t46 := Tryz.underlying46; have a46 := Tryz.isAgg46; have z46 := Tryz.sizeOf46; have v46 := Tryz.zeroValue46; have u46 := run_underlying Tryz.underlying46
  have t49 := Tryz.underlying49; have a49 := Tryz.isAgg49; have z49 := Tryz.sizeOf49; have v49 := Tryz.zeroValue49; have u49 := run_underlying Tryz.underlying49
  have t4 := Tryz.underlying4; have a4 := Tryz.isAgg4; have z4 := Tryz.sizeOf4; have v4 := Tryz.zeroValue4; have u4 := run_underlying Tryz.underlying4
  have t92 := Tryz.underlying92; have a92 := Tryz.isAgg92; have z92 := Tryz.sizeOf92; have v92 := Tryz.zeroValue92; have u92 := run_underlying Tryz.underlying92
  go_enter Tryz.func40, Tryz.ntmps40
  go_wp2
  rw [Lib.run_neq_ptr_same w _ Tryz.underlying46 hj]
  go_wp2
  go_end0
  exact ⟨rfl, rfl⟩
theorem qfP (b : Nat) (w : World) (h0 : w.cell? ⟨b, 0, none⟩ = some (.pointer none)) (hsh : w.shape? b = some (49, 2)) (hfz : w.frozen? ⟨b, 0, none⟩ = false) :
    Calls Tryz.prog 40 #[.pointer (some ⟨b, 0, none⟩)] w fun e w' => e = .returned (.tuple #[]) ∧ w' = w.setCell ⟨b, 0, none⟩ (.pointer (some ⟨b, 0, none⟩)) := by
  have lies : liesAt Tryz.prog Tryz.prog.depth 49 (2 / Tryz.prog.cellsOf 49) 0 49 1 = true := by kernel_rfl
  have sz : (Tryz.prog.info? 49).map (fun i => i.size) = some 2 := by kernel_rfl
  obtain ⟨j, hj, hjs⟩ := Option.map_eq_some_iff.1 sz
  have mixed : Tryz.prog.follows .mixedOrders = true := by kernel_rfl
  have t46 := Tryz.underlying46; have a46 := Tryz.isAgg46; have z46 := Tryz.sizeOf46; have v46 := Tryz.zeroValue46; have u46 := run_underlying Tryz.underlying46
  have t49 := Tryz.underlying49; have a49 := Tryz.isAgg49; have z49 := Tryz.sizeOf49; have v49 := Tryz.zeroValue49; have u49 := run_underlying Tryz.underlying49
  have t4 := Tryz.underlying4; have a4 := Tryz.isAgg4; have z4 := Tryz.sizeOf4; have v4 := Tryz.zeroValue4; have u4 := run_underlying Tryz.underlying4
  have t92 := Tryz.underlying92; have a92 := Tryz.isAgg92; have z92 := Tryz.sizeOf92; have v92 := Tryz.zeroValue92; have u92 := run_underlying Tryz.underlying92
  go_enter Tryz.func40, Tryz.ntmps40
  go_wp2
  rw [Lib.run_to_unsafe w ⟨b, 0, none⟩ Tryz.underlying46 Tryz.underlying92 hj (by rw [hjs]; decide) hsh (Nat.zero_lt_succ 1)]
  simp only [Result.andThen]
  rw [Oper.upon_value]
  go_wp2
  rw [run_callFunc_extern Tryz.func55 (by kernel_rfl) (by kernel_rfl) (by kernel_rfl) (e := Extern.AbiNoEscape.same) (by kernel_rfl)]
  rw [Lib.run_noEscape]
  simp only [Result.andThen]
  rw [Oper.upon_value]
  go_wp2
  rw [Lib.run_from_unsafe w ⟨b, 0, none⟩ Tryz.underlying92 Tryz.underlying46 hj hsh lies]
  simp only [Result.andThen]
  rw [Oper.upon_value]
  go_wp2
  go_end0
  exact ⟨rfl, rfl⟩
theorem xent40 : Enters Tryz.prog 40 := qe Tryz.func40 rfl rfl
theorem xtf5 : TyF Tryz.prog 5 false (.int .u8 0) 1 1 := .of (by kernel_rfl) (by kernel_rfl)
theorem xtf47 : TyF Tryz.prog 47 false (.slice none 0 0) 1 24 := .of (by kernel_rfl) (by kernel_rfl)
theorem qfi : FdF Tryz.prog 49 1 1 := .of (by kernel_rfl)
theorem qdP (g : Nat) (u : Bool) (v : Value) : PureM Tryz.prog 40 [.pointer (some ⟨g, 0, none⟩)] [⟨g, 49, [bself g u, v]⟩] [] [] Unit (fun _ => .tuple #[]) (fun _ => [⟨g, 49, [bself g true, v]⟩]) (fun _ => []) :=
  qey qgZ qfP g u v
theorem qew (g1 : Nat) (u : Bool) (x : List Int) (a : Option Addr) (c : Nat) (s y : List Int) (hm : app 140737488355328 x (s.map b8) = some y) :
    PureM Tryz.prog 19 [.pointer (some ⟨g1, 0, none⟩), .string (bstr s)] [⟨g1, 49, [bself g1 u, .slice a x.length c]⟩] [Ro (eI .u8) 5 1 (.slice a x.length c) x] [] (Option Addr × Nat) (fun _ => .tuple #[.int .i64 (s.length : Int), .nilIface]) (fun g => [⟨g1, 49, [bself g1 true, .slice g.1 y.length g.2]⟩]) (fun g => [Ro (eI .u8) 5 1 (.slice g.1 y.length g.2) y]) := by
  have hm2 : (app 140737488355328 x (s.map b8)).bind (fun y => some y) = some y := by rw [hm]; rfl
  refine yb Tryz.func19 rfl Tryz.ntmps19 rfl hm2 (fun w => ?_)
  refine qhh (l' := [(0, .pointer (some ⟨g1, 0, none⟩)), (1, .string (bstr s))]) rfl ?_
  refine qbd ?_
  refine jm ?_
  refine jn rfl rfl rfl ?_
  refine jn rfl rfl rfl ?_
  refine qbf ?_
  refine qav ?_
  refine qbd ?_
  refine jm ?_
  refine jV rfl rfl rfl ?_
  refine jb (mg := some ()) (k := fun _ => (app 140737488355328 x (s.map b8)).bind (fun y => some y)) xent40 rfl rfl rfl (fun _ _ => qdP g1 u (.slice a x.length c)) (.cons 0 rfl .nil) .nil .nil (fun _ _ => ?_)
  intro _
  refine qbf ?_
  refine qav ?_
  refine qbd ?_
  refine jm ?_
  refine jV rfl rfl rfl ?_
  refine jV rfl rfl rfl ?_
  refine j6 rfl rfl rfl ?_
  refine jH rfl rfl qfi rfl ?_
  refine kv (i := 0) rfl rfl xtf47 rfl rfl (fun _ => rfl) rfl rfl ?_
  refine jV rfl rfl rfl ?_
  refine qeK (xs := x) (ys := s) 0 rfl Tryz.underlying47 Tryz.underlying9 xtf5 rfl rfl rfl rfl rfl (fun z e a1 c1 => ?_)
  refine j6 rfl rfl rfl ?_
  refine jH rfl rfl qfi rfl ?_
  refine jo (i := 0) rfl rfl rfl xtf47 rfl rfl rfl rfl rfl ?_
  refine qbf ?_
  refine qav ?_
  refine qbd ?_
  refine jm ?_
  refine jV rfl rfl rfl ?_
  refine zw (a := s) rfl Tryz.underlying9 rfl rfl ?_
  refine jn rfl rfl rfl ?_
  refine jn rfl rfl rfl ?_
  refine qbf ?_
  refine qav ?_
  refine qfb ?_
  exact qc0 (a1, c1) (res2 rfl rfl rfl) (hB := fun h => by subst h; exact (.cons 0 rfl .nil)) (hR := fun h => by subst h; exact (.cons 0 rfl .nil))
theorem qhG (g1 : Nat) (u : Bool) (x : List Int) (a : Option Addr) (c : Nat) (h0 : x ≠ []) (hr : ∀ y ∈ x, 0 ≤ y ∧ y < 256) :
    PureM Tryz.prog 22 [.pointer (some ⟨g1, 0, none⟩)] [⟨g1, 49, [bself g1 u, .slice a x.length c]⟩] [Ro (eI .u8) 5 1 (.slice a x.length c) x] [] Unit (fun _ => .string (bstr x)) (fun _ => []) (fun _ => []) := by
  intro w hp
  have hbk : w.heap[g1]? = some (.cells #[bself g1 u, .slice a x.length c] 49 (0, 0)) := hp.blk ⟨g1, 49, [bself g1 u, .slice a x.length c]⟩ (List.mem_cons_self ..)
  have hown : w.ownsRow 0 5 1 (.slice a x.length c) x.length (x.flatMap (eI .u8)) := hp.row (Ro (eI .u8) 5 1 (.slice a x.length c) x) (List.mem_cons_self ..)
  have hl0 : x.length ≠ 0 := by simpa using h0
  have hb : x.flatMap (eI .u8) = Lib.byteCells (bstr x).data.toList := by
    rw [qbL, za]
    unfold Lib.byteCells
    rw [List.map_map]
    refine List.map_congr_left fun y hy => ?_
    have := qaG (hr y hy).1 (hr y hy).2
    unfold b8 at this
    show Value.int .u8 y = .int .u8 (((UInt8.ofNat y.toNat).toNat : Nat) : Int)
    rw [this]
  have hln : (bstr x).data.toList.length = x.length := by rw [qbJ, zv]
  rw [hb] at hown
  rcases hown.2 with ⟨_, hz⟩ | ⟨g, cap, cur, hv, hbg, hg, hnc, hcm, hcs, htake⟩
  · exact absurd hz hl0
  simp only [Value.slice.injEq] at hv
  obtain ⟨rfl, -, rfl⟩ := hv
  have hSD : (Builtin.unsafeSliceData_ #[47] 79 #[.slice (some ⟨g, 0, none⟩) x.length c]).run Tryz.prog w.drew = .ok (.pointer (some ⟨g, 0, none⟩)) w.drew :=
    Lib.run_unsafeSliceData_row _ _ _ _ _ _ (by omega)
  have hUS : (Builtin.unsafeString_ #[79, 3] 9 #[.pointer (some ⟨g, 0, none⟩), .int .i64 x.length]).run Tryz.prog w.drew = .ok (.string (bstr x)) (w.drew.freeze ⟨g, 0, none⟩ x.length) := by
    have h := Lib.run_unsafeString_row (P := Tryz.prog) w.drew 79 3 9 5 Tryz.underlying79 (by kernel_rfl) g cur.size (by have hg' : w.drew.heap[g]? = some (.cells cur 5 (0, 0)) := hg; simp [World.shape?, hg']) (bstr x).data.toList (by intro e; rw [e] at hln; simp at hln; omega) (by rw [hln]; omega) (by rw [hln]; unfold maxLen at hcm; omega) (fun j y hy => by
      have := hown.cells (g := g) rfl j (.int .u8 y.toNat) (by simp [Lib.byteCells, hy])
      exact this)
    rw [hln] at h
    exact h
  have mixed : Tryz.prog.follows .mixedOrders = true := by kernel_rfl
  have t46 := Tryz.underlying46; have a46 := Tryz.isAgg46; have z46 := Tryz.sizeOf46; have v46 := Tryz.zeroValue46; have u46 := run_underlying Tryz.underlying46
  have t49 := Tryz.underlying49; have a49 := Tryz.isAgg49; have z49 := Tryz.sizeOf49; have v49 := Tryz.zeroValue49; have u49 := run_underlying Tryz.underlying49
  have t47 := Tryz.underlying47; have a47 := Tryz.isAgg47; have z47 := Tryz.sizeOf47; have v47 := Tryz.zeroValue47; have u47 := run_underlying Tryz.underlying47
  have t79 := Tryz.underlying79; have a79 := Tryz.isAgg79; have z79 := Tryz.sizeOf79; have v79 := Tryz.zeroValue79; have u79 := run_underlying Tryz.underlying79
  have t3 := Tryz.underlying3; have a3 := Tryz.isAgg3; have z3 := Tryz.sizeOf3; have v3 := Tryz.zeroValue3; have u3 := run_underlying Tryz.underlying3
  have t9 := Tryz.underlying9; have a9 := Tryz.isAgg9; have z9 := Tryz.sizeOf9; have v9 := Tryz.zeroValue9; have u9 := run_underlying Tryz.underlying9
  have t5 := Tryz.underlying5; have a5 := Tryz.isAgg5; have z5 := Tryz.sizeOf5; have v5 := Tryz.zeroValue5; have u5 := run_underlying Tryz.underlying5
  have c1 : w.drew.cell? ⟨g1, 1, none⟩ = some (.slice (some ⟨g, 0, none⟩) x.length c) := by
    have : w.drew.heap[g1]? = some (.cells #[bself g1 u, .slice (some ⟨g, 0, none⟩) x.length c] 49 (0, 0)) := hbk
    unfold World.cell?; rw [this]; rfl
  have hpost : Hp (muts [⟨g1, 49, [bself g1 u, .slice (some ⟨g, 0, none⟩) x.length c]⟩] [Ro (eI .u8) 5 1 (.slice (some ⟨g, 0, none⟩) x.length c) x]) w (w.drew.freeze ⟨g, 0, none⟩ x.length) [] [] [] := by
    have hn0 : ¬ x.length = 0 := hl0
    have hk : Keeps (muts [⟨g1, 49, [bself g1 u, .slice (some ⟨g, 0, none⟩) x.length c]⟩] [Ro (eI .u8) 5 1 (.slice (some ⟨g, 0, none⟩) x.length c) x]) w (w.drew.freeze ⟨g, 0, none⟩ x.length) := by
      unfold World.freeze
      rw [if_neg hn0]
      refine ⟨rfl, rfl, rfl, by show w.heap.size ≤ (w.heap.modify _ _).size; simp, fun k hk hkm => ?_, Nat.le_succ _⟩
      have hne : g ≠ k := by
        intro e
        subst e
        apply hkm
        simp [muts, Ro, RowD.blocks, Value.ownBlock, RowD.ins]
      show (w.heap.modify g _)[k]? = w.heap[k]?
      rw [Array.getElem?_modify, if_neg hne]
    exact { keep := hk, blk := fun b h => absurd h (List.not_mem_nil), rows := fun r h => absurd h (List.not_mem_nil), nodup := List.nodup_nil, fresh := fun q h => absurd h (List.not_mem_nil), per := fun φ h => absurd h (List.not_mem_nil) }
  show Calls Tryz.prog 22 #[.pointer (some ⟨g1, 0, none⟩)] w _
  go_enter Tryz.func22, Tryz.ntmps22
  go_wp2
  go_region_o
  all_goals (go_wp2; go_ret; exact ⟨(), rfl, hpost⟩)
theorem qgW (g1 : Nat) (u : Bool) (x : List Int) (a : Option Addr) (c : Nat) (y : List Int) (hm : bstrM x = some y) :
    PureM Tryz.prog 22 [.pointer (some ⟨g1, 0, none⟩)] [⟨g1, 49, [bself g1 u, .slice a x.length c]⟩] [Ro (eI .u8) 5 1 (.slice a x.length c) x] [] Unit (fun _ => .string (bstr y)) (fun _ => []) (fun _ => []) := by
  unfold bstrM at hm
  split at hm
  · rename_i h
    simp only [Option.some.injEq] at hm
    subst hm
    exact qhG g1 u x a c h.1 fun y hy => of_decide_eq_true (List.all_eq_true.1 h.2 y hy)
  · simp at hm
theorem qei (s : ByteArray) (c : UInt8) (w : World) (hs : s.size < 4294967281) :
    Calls Tryz.prog 43 #[.string s, .string ⟨#[c]⟩] w fun e w' =>
      e = .returned (.slice (some ⟨w.heap.size, 0, none⟩) (Lib.countB s ⟨#[c]⟩ + 1) (Lib.countB s ⟨#[c]⟩ + 1)) ∧ w' = w.alloc (.cells ((Lib.splitB ⟨#[c]⟩ 0 (Lib.countB s ⟨#[c]⟩) s).map Value.string).toArray 9) := by
  have h1 : 1 ≤ (⟨#[c]⟩ : ByteArray).size := Nat.le_refl 1
  have hle := Lib.countB_le ⟨#[c]⟩ h1 s.size s (Nat.le_refl _)
  have hlen := Lib.splitB_all ⟨#[c]⟩ h1 0 _ s rfl
  have L := Tryz.lays146
  have cc := Any.strings_genSplit_core (ρ := Tryz.lays146_ren) { Tryz.lays146 with } (by kernel_rfl) s ⟨#[c]⟩ 0 (-1) (Lib.countB s ⟨#[c]⟩ + 1) w hs h1 (Nat.zero_le _)
    (fun x cs hx => (Any.strings_Index_one (ρ := Tryz.lays146_ren) { Tryz.lays146 with } x c _).mono fun e w' ⟨he, hw⟩ => ⟨by rw [he]; show _ = Ending.returned (Value.int .i64 (Lib.index x.data.toList [c])); rw [Lib.index_one], hw⟩)
    ((Any.strings_Count_one (ρ := Tryz.lays146_ren) { Tryz.lays146 with } s c w).mono fun e w' ⟨he, hw⟩ => ⟨by rw [he]; show _ = Ending.returned (Value.int .i64 ((Lib.count s.data.toList [c] : Nat) : Int)); rw [Lib.count_one]; rfl, hw⟩) (by decide) (by decide) (by rw [if_pos (by decide)]; omega)
  rw [Nat.add_sub_cancel, hlen] at cc
  have e2 : Lib.cellsOf (Lib.splitB ⟨#[c]⟩ 0 (Lib.countB s ⟨#[c]⟩) s) (Lib.countB s ⟨#[c]⟩ + 1) = ((Lib.splitB ⟨#[c]⟩ 0 (Lib.countB s ⟨#[c]⟩) s).map Value.string).toArray := by rw [← hlen]; exact Lib.cellsOf_full _
  rw [e2] at cc
  have cc' : Calls Tryz.prog 57 #[.string s, .string ⟨#[c]⟩, .int .i64 0, .int .i64 (-1)] w _ := cc
  have t3 := Tryz.underlying3; have a3 := Tryz.isAgg3; have z3 := Tryz.sizeOf3; have v3 := Tryz.zeroValue3
  have t9 := Tryz.underlying9; have a9 := Tryz.isAgg9; have z9 := Tryz.sizeOf9; have v9 := Tryz.zeroValue9
  have t57 := Tryz.underlying57; have a57 := Tryz.isAgg57; have z57 := Tryz.sizeOf57; have v57 := Tryz.zeroValue57
  have e57 : ∀ args w, (callFunc 57 args).run Tryz.prog w = .ok (.enter 57 args) w := qe Tryz.func57 (by kernel_rfl) rfl
  go_enter Tryz.func43, Tryz.ntmps43
  go_wp2_with (go_at_fn 57; refine cc'.mono ?_; rintro e w' ⟨rfl, hw⟩; rw [hw])
  go_ret
  exact ⟨rfl, rfl⟩
theorem qeV (s sep : List Int) (y : List (List Int)) (hm : splitM s sep = some y) :
    Pure Tryz.prog 43 [.string (bstr s), .string (bstr sep)] [] (Option Addr × Nat) (fun g => .slice g.1 y.length g.2) (fun g => [Ro eT 9 1 (.slice g.1 y.length g.2) y]) (fun _ => []) := by
  intro w hp
  unfold splitM at hm
  split at hm
  · rename_i c
    split at hm
    · rename_i hlt
      simp only [Option.some.injEq] at hm
      have h1 : 1 ≤ (bstr [c]).size := Nat.le_refl 1
      have hlen := Lib.splitB_all (bstr [c]) h1 0 _ (bstr s) rfl
      have hy : y.length = Lib.countB (bstr s) (bstr [c]) + 1 := by rw [← hm, List.length_map, hlen]
      have hf : ((Lib.splitB (bstr [c]) 0 (Lib.countB (bstr s) (bstr [c])) (bstr s)).map Value.string).toArray = (y.flatMap eT).toArray := by
        congr 1
        rw [← hm, List.flatMap_map]
        unfold eT
        simp only [qaX]
        exact List.map_eq_flatMap
      refine (qei (bstr s) (UInt8.ofNat c.toNat) w (by rw [zv]; exact hlt)).mono fun e w' ⟨he, hw⟩ => ⟨(some ⟨w.heap.size, 0, none⟩, y.length), ?_, ?_⟩
      · rw [he, hy]; rfl
      · have hw2 : w' = w.alloc (.cells (y.flatMap eT).toArray 9) := by rw [hw]; exact congrArg (fun q => w.alloc (.cells q 9)) hf
        subst hw2
        have hx : y.length ≤ maxLen := by
          have := Lib.countB_le (bstr [c]) h1 (bstr s).size (bstr s) (Nat.le_refl _)
          rw [zv] at this
          simp only [maxLen]; omega
        have hrow := qb8 (e := 9) zd (w := w) (cs := y.flatMap eT) y y.length hx (Nat.le_refl _) (zn zd y) (by rw [← zn zd y, List.take_length])
        have hmu : muts [] [Ro eT 9 1 (.slice (some ⟨w.heap.size, 0, none⟩) y.length y.length) y] = [w.heap.size] := by
          show [] ++ ((Ro eT 9 1 (.slice (some ⟨w.heap.size, 0, none⟩) y.length y.length) y).blocks ++ []) = _
          rw [RowD.blocks_one rfl]
          rfl
        exact { keep := Keeps.alloc _ _ _, rows := fun r hr => by
                  rw [List.mem_singleton] at hr; subst hr; exact RowD.owns_one hrow rfl
                nodup := by rw [hmu]; simp
                fresh := fun q hq => by rw [hmu, List.mem_singleton] at hq; omega
                per := fun φ h => absurd h (List.not_mem_nil) }
    · simp at hm
  · simp at hm
theorem qh6 (x : Int) (y : List Int) (hm : itoaS x = some y) : Pure Tryz.prog 20 [.int .i64 x] [] Unit (fun _ => .string (bstr y)) (fun _ => []) (fun _ => []) := by
  intro w hp
  unfold itoaS at hm
  split at hm
  · rename_i hb
    simp only [Option.some.injEq] at hm
    subst hm
    have h := Tryz.strconv_Itoa_small x.toNat (by omega) w
    rw [Int.toNat_of_nonneg hb.1] at h
    refine h.mono fun e w' ⟨he, hw⟩ => ⟨(), ?_, ?_⟩
    · rw [he, qaX]
    · subst hw
      exact { keep := Keeps.refl _ _, rows := fun r hr => absurd hr (List.not_mem_nil), nodup := List.nodup_nil, fresh := fun q hq => absurd hq (List.not_mem_nil), per := fun φ h => absurd h (List.not_mem_nil) }
  · simp at hm
def GF (w : World) : Prop := Lib.TabIs Tryz.prog w "internal/strconv.uint64pow10" .u64 Lib.pow10Tab
theorem gfKeep {w w' : World} (hk : Keeps [] w w') (h : GF w) : GF w' := by
  unfold GF Lib.TabIs World.var? at *
  obtain ⟨g, h1, h2⟩ := Option.bind_eq_some_iff.1 h
  refine Option.bind_eq_some_iff.2 ⟨g, h1, ?_⟩
  have hlt : g < w.heap.size := by
    by_cases hl : g < w.heap.size
    · exact hl
    · rw [Array.getElem?_eq_none (by omega)] at h2
      simp at h2
  rw [hk.block g hlt (by simp)]
  exact h2
theorem qbI (x : Int) (y : List Int) (hm : itoaB x = some y) : Pure Tryz.prog 20 [.int .i64 x] [GF] Unit (fun _ => .string (bstr y)) (fun _ => []) (fun _ => []) := by
  intro w hp
  unfold itoaB at hm
  split at hm
  · rename_i hb
    simp only [Option.some.injEq] at hm
    subst hm
    have hg : GF w := (hp.per GF (List.mem_cons_self ..)) w (Keeps.refl _ _)
    refine (Tryz.strconv_Itoa x (by omega) (by omega) w hg).mono fun e w' ⟨he, k, os, hw⟩ => ⟨(), ?_, ?_⟩
    · rw [he, qaX]
    · subst hw
      refine { keep := ⟨rfl, rfl, rfl, ?_, fun k hk _ => ?_, Nat.le_add_right _ _⟩, rows := fun r hr => absurd hr (List.not_mem_nil), nodup := List.nodup_nil, fresh := fun q hq => absurd hq (List.not_mem_nil), per := fun φ h => absurd h (List.not_mem_nil) }
      · show w.heap.size ≤ (w.heap ++ os).size
        rw [Array.size_append]; omega
      · show (w.heap ++ os)[k]? = _
        rw [Array.getElem?_append_left hk]
  · simp at hm
theorem qhF (s : List Int) (y : Int) (hm : atoiM s = some y) : Pure Tryz.prog 60 [.string (bstr s)] [] Unit (fun _ => .tuple #[.int .i64 y, .nilIface]) (fun _ => []) (fun _ => []) := by
  intro w hp
  unfold atoiM at hm
  split at hm
  · rename_i hl
    refine (Tryz.strconv_Atoi (bstr s) y (by rw [zv]; exact hl) hm w).mono fun e w' ⟨he, t, hw⟩ => ⟨(), he, ?_⟩
    subst hw
    have hk : Keeps [] w (Lib.bytesWorld w 5 t) := by
      unfold Lib.bytesWorld World.freeze
      rw [if_neg (by decide)]
      refine ⟨rfl, rfl, rfl, ?_, fun k hk _ => ?_, Nat.le_succ _⟩
      · show w.heap.size ≤ ((w.heap.push _).modify _ _).size
        simp
      · show ((w.heap.push _).modify _ _)[k]? = _
        rw [Array.getElem?_modify, if_neg (by show ¬ w.heap.size = k; omega), Array.getElem?_push, if_neg (by omega)]
    exact { keep := hk, rows := fun r hr => absurd hr (List.not_mem_nil), nodup := List.nodup_nil, fresh := fun q hq => absurd hq (List.not_mem_nil), per := fun φ h => absurd h (List.not_mem_nil) }
  · simp at hm
theorem qhH (s cut : List Int) (y : List Int) (hm : trimM s cut = some y) : Pure Tryz.prog 59 [.string (bstr s), .string (bstr cut)] [] Unit (fun _ => .string (bstr y)) (fun _ => []) (fun _ => []) := by
  intro w hp
  unfold trimM at hm
  split at hm
  · rename_i hb
    obtain ⟨ha, h2, h3, h4⟩ := hb
    simp only [Option.some.injEq] at hm
    subst hm
    rw [qaX]
    by_cases h0 : s = []
    · subst h0
      refine (Any.strings_Trim_empty (ρ := Tryz.lays160_ren) Tryz.lays160 (bstr []) (bstr cut) w (Or.inl rfl)).mono fun e w' ⟨he, hw⟩ => ⟨(), ?_, ?_⟩
      · rw [he]; rfl
      · subst hw
        exact { keep := Keeps.refl _ _, rows := fun r hr => absurd hr (List.not_mem_nil), nodup := List.nodup_nil, fresh := fun q hq => absurd hq (List.not_mem_nil), per := fun φ h => absurd h (List.not_mem_nil) }
    · have hl : 0 < s.length := List.length_pos_iff.2 h0
      refine (Any.strings_Trim_set (ρ := Tryz.lays160_ren) Tryz.lays160 (fun w => by exact Tryz.zeroValue111 w) (by kernel_rfl) (bstr s) (bstr cut) w (by rw [zv]; exact h2) (by rw [zv]; exact hl) (by rw [zv]; exact h4) (by rw [zv]; omega) (fun j b hj => by
        rw [za, List.getElem?_map] at hj
        obtain ⟨v, hv, rfl⟩ := Option.map_eq_some_iff.1 hj
        have := List.all_eq_true.1 ha v (List.mem_of_getElem? hv)
        rw [decide_eq_true_eq] at this
        rw [UInt8.toNat_ofNat']
        omega)).mono fun e w' ⟨he, q, hw⟩ => ⟨(), he, ?_⟩
      subst hw
      have hk : Keeps [] w (((w.alloc (.cells (Lib.setCells (bstr cut).data.toList) 111)).alloc (.cells (Lib.setCells (bstr cut).data.toList) 111)).drewN q) :=
        ((Keeps.alloc [] w _).trans (Keeps.alloc [] _ _) (fun _ h => h) (fun k h => absurd h (List.not_mem_nil))).trans ⟨rfl, rfl, rfl, Nat.le_refl _, fun _ _ _ => rfl, Nat.le_add_right _ _⟩ (fun _ h => h) (fun k h => absurd h (List.not_mem_nil))
      exact { keep := hk, rows := fun r hr => absurd hr (List.not_mem_nil), nodup := List.nodup_nil, fresh := fun q hq => absurd hq (List.not_mem_nil), per := fun φ h => absurd h (List.not_mem_nil) }
  · simp at hm
end Go.Proofs.YtfjkpdlcdceenaaGreatDoor
