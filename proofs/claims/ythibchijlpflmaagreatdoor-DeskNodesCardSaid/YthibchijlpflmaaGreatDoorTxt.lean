/- What calls of the library of texts answer. -/
import Derived.Test.YthibchijlpflmaaGreatDoorRows
import Derived.Test.YthibchijlpflmaaGreatDoorShelf
import Derived.Test.YthibchijlpflmaaGreatDoorModels
import Derived.Shelf.Strings.Builder1
import Derived.Shelf.Strings.Split
import Derived.Shelf.Strings.SlTrimAscii
open List renaming mem_cons_self→qBv, not_mem_nil→qBB, mem_singleton→qBD, length_map→qBJ, nodup_nil→qCu
open Nat renaming le_refl→qBw
open Option renaming bind_eq_some_iff→qBR, map_eq_some_iff→qCD
open Option.some renaming injEq→qBs
set_option maxHeartbeats 1000000
set_option maxRecDepth 100000
namespace Go.Proofs.YthibchijlpflmaaGreatDoor
open Go SX Go.Proofs Go.RowKit Go.Shelf
theorem qxq (b:Nat)(w:World)(h0:w.cell? ⟨b,0,none⟩=some (qD4 b)) :
  Calls Tryz.prog 48 #[qD4 b] w fun e w'=>e=.returned (.tuple #[])∧w'=w:=by
 have sz:(Tryz.prog.info? 48).map (fun i=>i.size)=some 2:=by kernel_rfl
 obtain ⟨j,hj,hjs⟩:=qCD.1 sz
 have mixed:Tryz.prog.follows .mixedOrders=true:=by kernel_rfl
 have t_PB:=Tryz.underlying46;have a_PB:=Tryz.isAgg46;have z_PB:=Tryz.sizeOf46;have v_PB:=Tryz.zeroValue46;have u_PB:=run_underlying Tryz.underlying46
 have t_B:=Tryz.underlying48;have a_B:=Tryz.isAgg48;have z_B:=Tryz.sizeOf48;have v_B:=Tryz.zeroValue48;have u_B:=run_underlying Tryz.underlying48
 have t4:=Tryz.underlying4;have a4:=Tryz.isAgg4;have z4:=Tryz.sizeOf4;have v4:=Tryz.zeroValue4;have u4:=run_underlying Tryz.underlying4
 have t_UP:=Tryz.underlying111;have a_UP:=Tryz.isAgg111;have z_UP:=Tryz.sizeOf111;have v_UP:=Tryz.zeroValue111;have u_UP:=run_underlying Tryz.underlying111
 go_enter Tryz.func48,Tryz.ntmps48
 go_wp2
 rw[Lib.run_neq_ptr_same w _ Tryz.underlying46 hj]
 go_wp2
 go_end0
 exact ⟨rfl,rfl⟩
theorem quD (b:Nat)(w:World)(h0:w.cell? ⟨b,0,none⟩=some (.pointer none))(hsh:w.shape? b=some (48,2))(hfz:w.frozen? ⟨b,0,none⟩=false) :
  Calls Tryz.prog 48 #[qD4 b] w fun e w'=>e=.returned (.tuple #[])∧w'=w.setCell ⟨b,0,none⟩ (qD4 b):=by
 have lies:liesAt Tryz.prog Tryz.prog.depth 48 (2/Tryz.prog.cellsOf 48) 0 48 1=true:=by kernel_rfl
 have sz:(Tryz.prog.info? 48).map (fun i=>i.size)=some 2:=by kernel_rfl
 obtain ⟨j,hj,hjs⟩:=qCD.1 sz
 have mixed:Tryz.prog.follows .mixedOrders=true:=by kernel_rfl
 have t_PB:=Tryz.underlying46;have a_PB:=Tryz.isAgg46;have z_PB:=Tryz.sizeOf46;have v_PB:=Tryz.zeroValue46;have u_PB:=run_underlying Tryz.underlying46
 have t_B:=Tryz.underlying48;have a_B:=Tryz.isAgg48;have z_B:=Tryz.sizeOf48;have v_B:=Tryz.zeroValue48;have u_B:=run_underlying Tryz.underlying48
 have t4:=Tryz.underlying4;have a4:=Tryz.isAgg4;have z4:=Tryz.sizeOf4;have v4:=Tryz.zeroValue4;have u4:=run_underlying Tryz.underlying4
 have t_UP:=Tryz.underlying111;have a_UP:=Tryz.isAgg111;have z_UP:=Tryz.sizeOf111;have v_UP:=Tryz.zeroValue111;have u_UP:=run_underlying Tryz.underlying111
 go_enter Tryz.func48,Tryz.ntmps48
 go_wp2
 rw[Lib.run_to_unsafe w ⟨b,0,none⟩ Tryz.underlying46 Tryz.underlying111 hj (by rw[hjs];decide) hsh (Nat.zero_lt_succ 1)]
 simp only[Result.andThen]
 rw[Oper.upon_value]
 go_wp2
 rw[run_callFunc_extern Tryz.func76 (by kernel_rfl) (by kernel_rfl) (by kernel_rfl) (e:=Extern.AbiNoEscape.same) (by kernel_rfl)]
 rw[Lib.run_noEscape]
 simp only[Result.andThen]
 rw[Oper.upon_value]
 go_wp2
 rw[Lib.run_from_unsafe w ⟨b,0,none⟩ Tryz.underlying111 Tryz.underlying46 hj hsh lies]
 simp only[Result.andThen]
 rw[Oper.upon_value]
 go_wp2
 go_end0
 exact ⟨rfl,rfl⟩
theorem xentC:Enters Tryz.prog 48:=qjE Tryz.func48 rfl rfl
theorem xtf5:TyF Tryz.prog 5 false (.int .u8 0) 1 1:=.of (by kernel_rfl) (by kernel_rfl)
theorem xtf41:TyF Tryz.prog 41 false (.slice none 0 0) 1 24:=.of (by kernel_rfl) (by kernel_rfl)
theorem qxb:FdF Tryz.prog 48 1 1:=.of (by kernel_rfl)
theorem qoJ (g:Nat)(u:Bool)(v:Value):PureM Tryz.prog 48 [qD4 g] [⟨g,48,[bself g u,v]⟩] [] [] Unit (fun _=>.tuple #[]) (fun _=>[⟨g,48,[bself g true,v]⟩]) (fun _=>[]) :=
 qqF qxq quD g u v
theorem qzt (g1:Nat)(u:Bool)(x:qD0)(a:qD1)(c:Nat)(s y:qD0)(hm:app 140737488355328 x (s.map b8)=some y) :
  PureM Tryz.prog 25 [qD4 g1,.string (bstr s)] [⟨g1,48,[bself g1 u,qD3 a x c]⟩] [qD8 a x c] [] (qD1×Nat) (fun _=>.tuple #[qD2 (s.length:Int),.nilIface]) (fun g=>[⟨g1,48,[bself g1 true,qD3 g.1 y g.2]⟩]) (fun g=>[qD8 g.1 y g.2]):=by
 have hm2:(app 140737488355328 x (s.map b8)).bind (fun y=>some y)=some y:=by rw[hm];rfl
 refine qjc Tryz.func25 rfl Tryz.ntmps25 rfl hm2 (fun w=>?_)
 refine qog (l':=[(0,qD4 g1),(1,.string (bstr s))]) rfl ?_
 refine kj ?_
 refine qP ?_
 refine kz rfl rfl rfl ?_
 refine kz rfl rfl rfl ?_
 refine zC ?_
 refine zx ?_
 refine kj ?_
 refine qP ?_
 refine qU rfl rfl rfl ?_
 refine qcB (mg:=some ()) (k:=fun _=>(app 140737488355328 x (s.map b8)).bind (fun y=>some y)) xentC rfl rfl rfl (fun _ _=>qoJ g1 u (qD3 a x c)) (.cons 0 rfl .nil) .nil .nil (fun _ _=>?_)
 intro _
 refine zC ?_
 refine zx ?_
 refine kj ?_
 refine qP ?_
 refine qU rfl rfl rfl ?_
 refine qU rfl rfl rfl ?_
 refine zT rfl rfl rfl ?_
 refine qR rfl rfl qxb rfl ?_
 refine zO (i:=0) rfl rfl xtf41 rfl rfl (fun _=>rfl) rfl rfl ?_
 refine qU rfl rfl rfl ?_
 refine qrk (xs:=x) (ys:=s) 0 rfl Tryz.underlying41 Tryz.underlying9 xtf5 rfl rfl rfl rfl rfl (fun z e a1 c1=>?_)
 refine zT rfl rfl rfl ?_
 refine qR rfl rfl qxb rfl ?_
 refine kA (i:=0) rfl rfl rfl xtf41 rfl rfl rfl rfl rfl ?_
 refine zC ?_
 refine zx ?_
 refine kj ?_
 refine qP ?_
 refine qU rfl rfl rfl ?_
 refine qp4 (a:=s) rfl Tryz.underlying9 rfl rfl ?_
 refine kz rfl rfl rfl ?_
 refine kz rfl rfl rfl ?_
 refine zC ?_
 refine zx ?_
 refine qoh ?_
 exact yr (a1,c1) (res2 rfl rfl rfl) (hB:=fun h=>by subst h;exact (.cons 0 rfl .nil)) (hR:=fun h=>by subst h;exact (.cons 0 rfl .nil))
theorem qzr (g1:Nat)(u:Bool)(x:qD0)(a:qD1)(c:Nat)(h0:x≠[])(hr:∀ y∈x,0≤y∧y<256) :
  PureM Tryz.prog 26 [qD4 g1] [⟨g1,48,[bself g1 u,qD3 a x c]⟩] [qD8 a x c] [] Unit (fun _=>.string (bstr x)) (fun _=>[]) (fun _=>[]):=by
 intro w hp
 have hbk:w.heap[g1]?=some (.cells #[bself g1 u,qD3 a x c] 48 (0,0)):=hp.blk ⟨g1,48,[bself g1 u,qD3 a x c]⟩ (qBv ..)
 have hown:w.ownsRow 0 5 1 (qD3 a x c) x.length (x.flatMap (eI .u8)):=hp.row (qD8 a x c) (qBv ..)
 have hl0:x.length≠0:=by simpa using h0
 have hb:x.flatMap (eI .u8)=Lib.byteCells (bstr x).data.toList:=by
  rw[qkv,qaa]
  unfold Lib.byteCells
  rw[List.map_map]
  refine List.map_congr_left fun y hy=>?_
  have:=quw (hr y hy).1 (hr y hy).2
  unfold b8 at this
  show Value.int .u8 y=.int .u8 (((UInt8.ofNat y.toNat).toNat:Nat):Int)
  rw[this]
 have hln:(bstr x).data.toList.length=x.length:=by rw[qkt,vx]
 rw[hb] at hown
 rcases hown.2 with ⟨_,hz⟩ | ⟨g,cap,cur,hv,hbg,hg,hnc,hcm,hcs,htake⟩
 ·exact absurd hz hl0
 simp only[Value.slice.injEq] at hv
 obtain ⟨rfl,-,rfl⟩:=hv
 have hSD:(Builtin.unsafeSliceData_ #[41] 95 #[qD3 (some ⟨g,0,none⟩) x c]).run Tryz.prog w.drew=.ok (qD4 g) w.drew :=
  Lib.run_unsafeSliceData_row _ _ _ _ _ _ (by omega)
 have hUS:(Builtin.unsafeString_ #[95,3] 9 #[qD4 g,qD2 x.length]).run Tryz.prog w.drew=.ok (.string (bstr x)) (w.drew.freeze ⟨g,0,none⟩ x.length):=by
  have h:=Lib.run_unsafeString_row (P:=Tryz.prog) w.drew 95 3 9 5 Tryz.underlying95 (by kernel_rfl) g cur.size (by have hg':w.drew.heap[g]?=some (.cells cur 5 (0,0)):=hg;simp[World.shape?,hg']) (bstr x).data.toList (by intro e;rw[e] at hln;simp at hln;omega) (by rw[hln];omega) (by rw[hln];unfold maxLen at hcm;omega) (fun j y hy=>by
   have:=hown.cells (g:=g) rfl j (.int .u8 y.toNat) (by simp[Lib.byteCells,hy])
   exact this)
  rw[hln] at h
  exact h
 have mixed:Tryz.prog.follows .mixedOrders=true:=by kernel_rfl
 have t_PB:=Tryz.underlying46;have a_PB:=Tryz.isAgg46;have z_PB:=Tryz.sizeOf46;have v_PB:=Tryz.zeroValue46;have u_PB:=run_underlying Tryz.underlying46
 have t_B:=Tryz.underlying48;have a_B:=Tryz.isAgg48;have z_B:=Tryz.sizeOf48;have v_B:=Tryz.zeroValue48;have u_B:=run_underlying Tryz.underlying48
 have t_BS:=Tryz.underlying41;have a_BS:=Tryz.isAgg41;have z_BS:=Tryz.sizeOf41;have v_BS:=Tryz.zeroValue41;have u_BS:=run_underlying Tryz.underlying41
 have t_PU8:=Tryz.underlying95;have a_PU8:=Tryz.isAgg95;have z_PU8:=Tryz.sizeOf95;have v_PU8:=Tryz.zeroValue95;have u_PU8:=run_underlying Tryz.underlying95
 have t3:=Tryz.underlying3;have a3:=Tryz.isAgg3;have z3:=Tryz.sizeOf3;have v3:=Tryz.zeroValue3;have u3:=run_underlying Tryz.underlying3
 have t9:=Tryz.underlying9;have a9:=Tryz.isAgg9;have z9:=Tryz.sizeOf9;have v9:=Tryz.zeroValue9;have u9:=run_underlying Tryz.underlying9
 have t5:=Tryz.underlying5;have a5:=Tryz.isAgg5;have z5:=Tryz.sizeOf5;have v5:=Tryz.zeroValue5;have u5:=run_underlying Tryz.underlying5
 have c1:w.drew.cell? ⟨g1,1,none⟩=some (qD3 (some ⟨g,0,none⟩) x c):=by
  have:w.drew.heap[g1]?=some (.cells #[bself g1 u,qD3 (some ⟨g,0,none⟩) x c] 48 (0,0)):=hbk
  unfold World.cell?;rw[this];rfl
 have hpost:Hp (muts [⟨g1,48,[bself g1 u,qD3 (some ⟨g,0,none⟩) x c]⟩] [qD8 (some ⟨g,0,none⟩) x c]) w (w.drew.freeze ⟨g,0,none⟩ x.length) [] [] []:=by
  have hn0:¬ x.length=0:=hl0
  have hk:Keeps (muts [⟨g1,48,[bself g1 u,qD3 (some ⟨g,0,none⟩) x c]⟩] [qD8 (some ⟨g,0,none⟩) x c]) w (w.drew.freeze ⟨g,0,none⟩ x.length):=by
   unfold World.freeze
   rw[if_neg hn0]
   refine ⟨rfl,rfl,rfl,by show w.heap.size≤(w.heap.modify _ _).size;simp,fun k hk hkm=>?_,fun _=>Nat.le_succ _⟩
   have hne:g≠k:=by
    intro e
    subst e
    apply hkm
    simp[muts,Ro,RowD.blocks,Value.ownBlock,RowD.ins]
   show (w.heap.modify g _)[k]?=w.heap[k]?
   rw[Array.getElem?_modify,if_neg hne]
  exact { keep:=hk,blk:=fun b h=>absurd h (qBB),rows:=fun r h=>absurd h (qBB),nodup:=qCu,fresh:=fun q h=>absurd h (qBB),per:=fun φ h=>absurd h (qBB) }
 show Calls Tryz.prog 26 #[qD4 g1] w _
 go_enter Tryz.func26,Tryz.ntmps26
 go_wp2
 go_region_o
 all_goals (go_wp2;go_ret;exact ⟨(),rfl,hpost⟩)
theorem qtl (g1:Nat)(u:Bool)(a:qD1)(c:Nat) :
  PureM Tryz.prog 26 [qD4 g1] [⟨g1,48,[bself g1 u,.slice a 0 c]⟩] [Ro (eI .u8) 5 1 (.slice a 0 c) ([]:qD0)] [] Unit (fun _=>.string (bstr [])) (fun _=>[]) (fun _=>[]):=by
 intro w hp
 have hbk:w.heap[g1]?=some (.cells #[bself g1 u,.slice a 0 c] 48 (0,0)):=hp.blk ⟨g1,48,[bself g1 u,.slice a 0 c]⟩ (qBv ..)
 have hown:w.ownsRow 0 5 1 (.slice a 0 c) 0 []:=hp.row (Ro (eI .u8) 5 1 (.slice a 0 c) ([]:qD0)) (qBv ..)
 have key:Calls Tryz.prog 26 #[qD4 g1] w fun e w'=>e=.returned (.string ⟨#[]⟩)∧RowKit.Below w.heap.size w w':=by
  rcases hown.2 with ⟨hv,_⟩ | ⟨g,cap,cur,hv,hbg,hg,_,_,_,_⟩
  ·simp only[Value.slice.injEq] at hv
   obtain ⟨rfl,-,rfl⟩:=hv
   exact Any.Builder_String_nil Tryz.lays169 Tryz.Builder_Extra_169 w.heap.size g1 _ w hbk
  ·simp only[Value.slice.injEq] at hv
   obtain ⟨rfl,-,rfl⟩:=hv
   by_cases hc0:c=0
   ·subst hc0
    exact Any.Builder_String_noroom Tryz.lays169 Tryz.Builder_Extra_169 w.heap.size g1 g _ cur w (qBw _) hbk hg
   ·exact Any.Builder_String_room Tryz.lays169 Tryz.Builder_Extra_169 w.heap.size g1 g c _ w hc0 hbk
 exact key.mono fun e w' ⟨he,hw⟩=>⟨(),he,{ keep:=⟨hw.os,hw.tape,hw.output,hw.size,fun k hk _=>hw.block k hk,fun h=>by cases h⟩,blk:=fun b h=>absurd h (qBB),rows:=fun r h=>absurd h (qBB),nodup:=qCu,fresh:=fun q h=>absurd h (qBB),per:=fun φ h=>absurd h (qBB) }⟩
theorem qxh (g1:Nat)(u:Bool)(x:qD0)(a:qD1)(c:Nat)(y:qD0)(hm:bstrM x=some y) :
  PureM Tryz.prog 26 [qD4 g1] [⟨g1,48,[bself g1 u,qD3 a x c]⟩] [qD8 a x c] [] Unit (fun _=>.string (bstr y)) (fun _=>[]) (fun _=>[]):=by
 unfold bstrM at hm
 split at hm
 ·rename_i h
  simp only[qBs] at hm
  subst hm
  by_cases h0:x=[]
  ·subst h0
   exact qtl g1 u a c
  ·exact qzr g1 u x a c h0 fun y hy=>of_decide_eq_true (List.all_eq_true.1 h y hy)
 ·simp at hm
theorem qpV (s:ByteArray)(c:UInt8)(w:World)(hs:s.size<4294967281) :
  Calls Tryz.prog 22 #[.string s,.string ⟨#[c]⟩] w fun e w' =>
   e=.returned (.slice (some ⟨w.heap.size,0,none⟩) (Lib.countB s ⟨#[c]⟩+1) (Lib.countB s ⟨#[c]⟩+1))∧w'=w.alloc (.cells ((Lib.splitB ⟨#[c]⟩ 0 (Lib.countB s ⟨#[c]⟩) s).map Value.string).toArray 9):=by
 have h1:1≤(⟨#[c]⟩:ByteArray).size:=qBw 1
 have hle:=Lib.countB_le ⟨#[c]⟩ h1 s.size s (qBw _)
 have hlen:=Lib.splitB_all ⟨#[c]⟩ h1 0 _ s rfl
 have L:=Tryz.lays146
 have cc:=Any.strings_genSplit_core (ρ:=Tryz.lays146_ren) { Tryz.lays146 with } (by kernel_rfl) s ⟨#[c]⟩ 0 (-1) (Lib.countB s ⟨#[c]⟩+1) w hs h1 (Nat.zero_le _)
  (fun x cs hx=>(Any.strings_Index_one (ρ:=Tryz.lays146_ren) { Tryz.lays146 with } x c _).mono fun e w' ⟨he,hw⟩=>⟨by rw[he];show _=Ending.returned (qD2 (Lib.index x.data.toList [c]));rw[Lib.index_one],hw⟩)
  ((Any.strings_Count_one (ρ:=Tryz.lays146_ren) { Tryz.lays146 with } s c w).mono fun e w' ⟨he,hw⟩=>⟨by rw[he];show _=Ending.returned (qD2 ((Lib.count s.data.toList [c]:Nat):Int));rw[Lib.count_one];rfl,hw⟩) (by decide) (by decide) (by rw[if_pos (by decide)];omega)
 rw[Nat.add_sub_cancel,hlen] at cc
 have e2:Lib.cellsOf (Lib.splitB ⟨#[c]⟩ 0 (Lib.countB s ⟨#[c]⟩) s) (Lib.countB s ⟨#[c]⟩+1)=((Lib.splitB ⟨#[c]⟩ 0 (Lib.countB s ⟨#[c]⟩) s).map Value.string).toArray:=by rw[← hlen];exact Lib.cellsOf_full _
 rw[e2] at cc
 have cc':Calls Tryz.prog 45 #[.string s,.string ⟨#[c]⟩,qD2 0,qD2 (-1)] w _:=cc
 have t3:=Tryz.underlying3;have a3:=Tryz.isAgg3;have z3:=Tryz.sizeOf3;have v3:=Tryz.zeroValue3
 have t9:=Tryz.underlying9;have a9:=Tryz.isAgg9;have z9:=Tryz.sizeOf9;have v9:=Tryz.zeroValue9
 have t_SS:=Tryz.underlying39;have a_SS:=Tryz.isAgg39;have z_SS:=Tryz.sizeOf39;have v_SS:=Tryz.zeroValue39
 have e57:∀ args w,(callFunc 45 args).run Tryz.prog w=.ok (.enter 45 args) w:=qjE Tryz.func45 (by kernel_rfl) rfl
 go_enter Tryz.func22,Tryz.ntmps22
 go_wp2_with (go_at_fn 45;refine cc'.mono ?_;rintro e w' ⟨rfl,hw⟩;rw[hw])
 go_ret
 exact ⟨rfl,rfl⟩
theorem qrM (s sep : qD0) (y : List (qD0)) (hm : splitM s sep = some y) :
    Pure Tryz.prog 22 [.string (bstr s), .string (bstr sep)] [] (qD1 × Nat) (fun g => qD3 g.1 y g.2) (fun g => [Ro eT 9 1 (qD3 g.1 y g.2) y]) (fun _ => []) := by
  intro w hp
  unfold splitM at hm
  split at hm
  · rename_i c
    split at hm
    · rename_i hlt
      simp only [qBs] at hm
      have h1 : 1 ≤ (bstr [c]).size := qBw 1
      have hlen := Lib.splitB_all (bstr [c]) h1 0 _ (bstr s) rfl
      have hy : y.length = Lib.countB (bstr s) (bstr [c]) + 1 := by rw [← hm, qBJ, hlen]
      have hf : ((Lib.splitB (bstr [c]) 0 (Lib.countB (bstr s) (bstr [c])) (bstr s)).map Value.string).toArray = (y.flatMap eT).toArray := by
        congr 1
        rw [← hm, List.flatMap_map]
        unfold eT
        simp only [qku]
        exact List.map_eq_flatMap
      refine (qpV (bstr s) (UInt8.ofNat c.toNat) w (by rw [vx]; exact hlt)).mono fun e w' ⟨he, hw⟩ => ⟨(some ⟨w.heap.size, 0, none⟩, y.length), ?_, ?_⟩
      · rw [he]; exact congrArg (fun k => Ending.returned (Value.slice (some ⟨w.heap.size, 0, none⟩) k k)) hy.symm
      · have hw2 : w' = w.alloc (.cells (y.flatMap eT).toArray 9) := by rw [hw]; exact congrArg (fun q => w.alloc (.cells q 9)) hf
        subst hw2
        have hx : y.length ≤ maxLen := by
          have := Lib.countB_le (bstr [c]) h1 (bstr s).size (bstr s) (qBw _)
          rw [vx] at this
          simp only [maxLen]; omega
        have hrow := qlw (e := 9) qD (w := w) (cs := y.flatMap eT) y y.length hx (qBw _) (qQ qD y) (by rw [← qQ qD y, List.take_length])
        have hmu : muts [] [Ro eT 9 1 (.slice (some ⟨w.heap.size, 0, none⟩) y.length y.length) y] = [w.heap.size] := by
          show [] ++ ((Ro eT 9 1 (.slice (some ⟨w.heap.size, 0, none⟩) y.length y.length) y).blocks ++ []) = _
          rw [RowD.blocks_one rfl]
          rfl
        exact { keep := Keeps.alloc _ _ _, rows := fun r hr => by
                  rw [qBD] at hr; subst hr; exact RowD.owns_one hrow rfl
                nodup := by rw [hmu]; simp
                fresh := fun q hq => by rw [hmu, qBD] at hq; omega
                per := fun φ h => absurd h (qBB) }
    · simp at hm
  · simp at hm
def GF (w : World) : Prop := Lib.TabIs Tryz.prog w "internal/strconv.uint64pow10" .u64 Lib.pow10Tab ∧ (∃ t p, w.var? Tryz.prog "strconv.ErrSyntax" = some #[.iface t p]) ∧ ∃ t p, w.var? Tryz.prog "strconv.ErrRange" = some #[.iface t p]
theorem qoB {w w':World}{x:String}{cs:Array Value}(hk:Keeps [] w w')(h:w.var? Tryz.prog x=some cs):w'.var? Tryz.prog x=some cs:=by
 unfold World.var? at *
 obtain ⟨g,h1,h2⟩:=qBR.1 h
 refine qBR.2 ⟨g,h1,?_⟩
 have hlt:g<w.heap.size:=by
  by_cases hl:g<w.heap.size
  ·exact hl
  ·rw[Array.getElem?_eq_none (by omega)] at h2
   simp at h2
 rw[hk.block g hlt (by simp)]
 exact h2
theorem gfKeep {w w':World}(hk:Keeps [] w w')(h:GF w):GF w' :=
 ⟨qoB hk h.1,h.2.1.imp fun _=>Exists.imp fun _=>qoB hk,h.2.2.imp fun _=>Exists.imp fun _=>qoB hk⟩
theorem retB {w w':World}(h:RowKit.Below w.heap.size w w'):Ret w w' [] [] :=
 { keep:=⟨h.os,h.tape,h.output,h.size,fun k hk _=>h.block k hk,fun h=>by cases h⟩,rows:=fun r hr=>absurd hr (qBB),nodup:=qCu,fresh:=fun q hq=>absurd hq (qBB),per:=fun φ h=>absurd h (qBB) }
theorem qfq (x:Int)(y:qD0)(hm:itoaC x=some y):Pure Tryz.prog 24 [qD2 x] [GF] Unit (fun _=>.string (bstr y)) (fun _=>[]) (fun _=>[]):=by
 intro w hp
 unfold itoaC at hm
 split at hm
 ·rename_i hb
  simp only[qBs] at hm
  subst hm
  have hg:GF w:=(hp.per GF (qBv ..)) w (Keeps.refl _ _)
  refine (Tryz.strconv_Itoa x (by omega) (by omega) w hg.1).mono fun e w' ⟨he,k,os,hw⟩=>⟨(),?_,?_⟩
  ·rw[he,qku]
  ·subst hw
   refine { keep:=⟨rfl,rfl,rfl,?_,fun k hk _=>?_,fun _=>Nat.le_add_right _ _⟩,rows:=fun r hr=>absurd hr (qBB),nodup:=qCu,fresh:=fun q hq=>absurd hq (qBB),per:=fun φ h=>absurd h (qBB) }
   ·show w.heap.size≤(w.heap++os).size
    rw[Array.size_append];omega
   ·show (w.heap++os)[k]?=_
    rw[Array.getElem?_append_left hk]
 ·simp at hm
theorem qv9 (w:World)(t:ByteArray):Ret w (Lib.bytesWorld w 5 t) [] []:=by
 have hk:Keeps [] w (Lib.bytesWorld w 5 t):=by
  unfold Lib.bytesWorld World.freeze
  rw[if_neg (by decide)]
  refine ⟨rfl,rfl,rfl,?_,fun k hk _=>?_,fun _=>Nat.le_succ _⟩
  ·show w.heap.size≤((w.heap.push _).modify _ _).size
   simp
  ·show ((w.heap.push _).modify _ _)[k]?=_
   rw[Array.getElem?_modify,if_neg (by show ¬ w.heap.size=k;omega),Array.getElem?_push,if_neg (by omega)]
 exact { keep:=hk,rows:=fun r hr=>absurd hr (qBB),nodup:=qCu,fresh:=fun q hq=>absurd hq (qBB),per:=fun φ h=>absurd h (qBB) }
theorem qxg (s:qD0)(y:Int×Bool)(hm:atoiE s=some y):Pure Tryz.prog 71 [.string (bstr s)] [GF] (TypeId×Value) (fun g=>.tuple #[qD2 y.1,errV y.2 g]) (fun _=>[]) (fun _=>[]):=by
 intro w hp
 unfold atoiE at hm
 split at hm
 ·rename_i hl
  have hg:GF w:=(hp.per GF (qBv ..)) w (Keeps.refl _ _)
  obtain ⟨-,⟨t1,p1,h1⟩,t2,p2,h2⟩:=hg
  rcases hv:Lib.atoiAll (bstr s).data.toList with v | _ | _
  ·rw[hv] at hm
   cases hm
   refine (Tryz.strconv_Atoi_ok (bstr s) (by rw[vx];omega) v hv w).mono fun e w' ⟨he,hw⟩=>⟨(0,undef),he,?_⟩
   rcases hw with rfl | ⟨t,rfl⟩
   ·exact retB (RowKit.Below.refl _ _)
   ·exact qv9 w t
  ·rw[hv] at hm
   cases hm
   exact (Tryz.strconv_Atoi_syntax_var (bstr s) (by rw[vx];omega) hv t1 p1 w h1).mono fun e w' ⟨N,he,_,_,hb⟩=>⟨(_,.pointer (some ⟨N,0,none⟩)),he,retB hb⟩
  ·rw[hv] at hm
   cases hm
   exact (Tryz.strconv_Atoi_range_var (bstr s) (by rw[vx];omega) hv t2 p2 w h2).mono fun e w' ⟨N,he,_,_,hb⟩=>⟨(_,.pointer (some ⟨N,0,none⟩)),he,retB hb⟩
 ·simp at hm
theorem qzs (xs:List (qD0))(a:qD1)(c:Nat)(s:qD0)(y:qD0)(hm:joinM xs s=some y):Pure Tryz.prog 125 [qD3 a xs c,.string (bstr s)] [Sl eT 1 (qD3 a xs c) xs] Unit (fun _=>.string (bstr y)) (fun _=>[]) (fun _=>[]):=by
 intro w hp
 unfold joinM at hm
 split at hm
 ·rename_i hl
  simp only[qBs] at hm
  subst hm
  obtain ⟨⟨a',cap,hv,hn,hmx,hsp,hc⟩,hlen⟩:Sl eT 1 (qD3 a xs c) xs w:=(hp.per _ (qBv ..)) w (Keeps.refl _ _)
  simp only[Value.slice.injEq,true_and] at hv
  obtain ⟨rfl,rfl⟩:=hv
  have hmm:xs.map (fun x=>(bstr x).data.toList)=(xs.map bstr).map (·.data.toList):=by rw[List.map_map];rfl
  rw[hmm] at hl ⊢
  by_cases h0:xs=[]
  ·subst h0
   exact (Tryz.strings_Join_none a c (bstr s) w).mono fun e w' ⟨he,hw⟩=>⟨(),by rw[he,qku];rfl,by subst hw;exact retB (RowKit.Below.refl _ _)⟩
  ·have hx:∀ (j:Nat) (x:qD0),xs[j]?=some x→(xs.flatMap eT)[j]?=some (.string (bstr x)):=fun j x h=>by
    have:=yX qD xs j x 0 (.string (bstr x)) h rfl
    rwa [Nat.mul_one,Nat.add_zero] at this
   obtain ⟨x0,hx0⟩:∃ x0,xs[0]?=some x0:=⟨_,List.getElem?_eq_getElem (List.length_pos_iff.2 h0)⟩
   obtain ⟨ad,rfl,had⟩:=hc 0 _ (hx 0 x0 hx0)
   have hsn:ad.spot=none:=(hsp ad rfl).resolve_left fun e=>by
    have:=hx 0 x0 hx0
    rw[e] at this;cases this
   obtain ⟨bk,o,sp⟩:=ad
   simp only at hsn
   subst hsn
   have hb:=World.block_lt_of_cell? w _ had
   have h:=Tryz.strings_Join bk o c (xs.map bstr) (bstr s) w (fun j x hj=>by
    rw[List.getElem?_map] at hj
    obtain ⟨z,hz,rfl⟩:=qCD.1 hj
    obtain ⟨ad,e,hu⟩:=hc j _ (hx j z hz)
    cases e
    exact hu) hb (by rw[qBJ];exact hl.1) (by rw[qBJ];exact hn) hl.2
   rw[qBJ] at h
   exact h.mono fun e w' ⟨he,hw⟩=>⟨(),by rw[he,qku],retB hw⟩
 ·simp at hm
end Go.Proofs.YthibchijlpflmaaGreatDoor
