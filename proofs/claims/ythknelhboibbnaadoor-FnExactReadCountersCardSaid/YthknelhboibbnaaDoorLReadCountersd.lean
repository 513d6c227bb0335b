/- What the proof of FnExactReadCounters needs: contracts of the functions that it reaches, each once. -/
import Derived.Test.YthknelhboibbnaaDoorProg
import Derived.Test.YthknelhboibbnaaDoorQMem
import Derived.Test.YthknelhboibbnaaDoorQOpen
import Derived.Test.YthknelhboibbnaaDoorLReadCountersa
import Derived.Test.YthknelhboibbnaaDoorLReadCountersb
import Derived.Test.YthknelhboibbnaaDoorLReadCountersc
import Derived.WalkKit
import Derived.WalkSpells
import Derived.Below
import Derived.LoopTactic
import Derived.Outline
import Derived.Deep.QuietTactic
import Derived.BigQuiet
import Derived.Deep.LoopGhost
import Derived.Handy
import Derived.Lib.Hide
import Derived.Shelf.Abstract
import Derived.StillTailTactics
import Derived.OwnWalk
import Derived.Maps.AppendAt
import Derived.RegionTactic
import Derived.Deep.RegionHeld3
import Derived.IntWalk
import Derived.Deep.Upon
import Derived.Laws.OwnMore
import Derived.Maps.AppendAt
import Derived.Laws.BytesString
import Derived.Laws.Strings
import Derived.Lib.Bytes
import Derived.Lib.Strings
import Derived.Lib.FrozenHead
import Derived.Lib.RuneBytes
import Derived.Lib.LaidTab
import Derived.Laws.StructEq
import Derived.Lib.ItoaLen
import Derived.Lib.Join
import Derived.Shelf.Strconv.Itoa4
import Derived.Shelf.Strings.OnBuilder
import Derived.Shelf.Strings.BuilderK
import Derived.Shelf.Strings.BuilderRune
import Derived.Shelf.LaysM
import Derived.Ground.NamesProg
import Derived.Lib.ParseIntBTie
import Derived.Lib.SplitLaws
import Derived.Lib.Replace
import Derived.Shelf.LaysC
import Derived.Shelf.Strconv.ErrVarParseInt
import Derived.Shelf.Strconv.ParseIntPublic10
import Derived.Shelf.Strings.Prefix
import Derived.Shelf.Strings.Cut
import Derived.Shelf.Strings.Split
import Derived.Shelf.Strings.Replace
import Derived.Shelf.Small.Wraps
import Derived.Stop.IfaceNil
namespace Go.Proofs.YthknelhboibbnaaDoor
open Go.RowKit

open Go.Lib in
set_option maxRecDepth 100000 in
set_option maxHeartbeats 4000000 in
theorem impl_ReadCounters (a0 : List UInt8) (w : World) (hG : Glob2 w) (s0 : a0.length ≤ 2000000) :
    Calls Tryd.prog 13 #[.string (bs a0)] w fun e w' => ∃ (es0' : List Value), e = .returned (.tuple #[.agg es0'.toArray, .bool (rdCntI a0).2]) ∧ eCounters.O w' (Fr w w') es0' (rdCntI a0).1 ∧ Below w.heap.size w w' := by
  have HH1 := Held.start Nob w
  refine enter (n := 37) Tryd.func13 rfl rfl rfl fun a_2 HE3 => ?_
  refine wp_seq ?_
  refine rg ?_
  refine pl fun K_4 hK5 => ?_
  refine st_alloc HE3 HH1 tv_29 (wt0 rfl) rfl fun q21 a_6 w' HE7 HH8 => hK5 _ _ ?_
  refine pl_x HE7 HH8 (wt0 rfl) (x_assign rfl) rfl rfl fun a_9 HE10 => ?_
  refine wpList_nil ?_
  clear a_2 HE3 HH1 a_6 HE7 hK5 K_4
  refine nrm ?_
  refine wp_seq ?_
  refine rg ?_
  refine pl_x HE10 HH8 (wt0 rfl) (x_move rfl) rfl rfl fun a_11 HE12 => ?_
  refine pl fun K_13 hK14 => ?_
  refine st_call HE12 (wt0 rfl) rfl rfl rfl en_31 rfl rfl (ReplaceAll_1 a0 ([58]) ([44]) 58 44 _ (HH8.glob2 hG) (by omega) (by rfl) (by rfl) (by decide)) fun e w' hr => ?_
  have hAr22_0 := subB_len 58 44 a0
  obtain ⟨rfl, hbr22⟩ := hr
  have HH15 := HH8.on hbr22
  refine ⟨_, rfl, fun a_16 HE17 => hK14 _ _ ?_⟩
  refine pl fun K_18 hK19 => ?_
  refine st_call HE17 (wt0 rfl) rfl rfl rfl en_30 rfl rfl (impl_readDecimals (subB 58 44 a0) _ (HH15.glob2 hG) (by omega)) fun e w' hr => ?_
  obtain ⟨Ar23_0, cr23_0, rfl, hor23_0, hbr23⟩ := hr
  obtain ⟨Sr23, HH20⟩ := HH15.newS hbr23 hor23_0
  refine ⟨_, rfl, fun a_21 HE22 => hK19 _ _ ?_⟩
  refine pl_x HE22 HH20 (wt0 rfl) (x_move rfl) rfl rfl fun a_23 HE24 => ?_
  refine pl_x HE24 HH20 (wt0 rfl) (x_extract rfl rfl) rfl rfl fun a_25 HE26 => ?_
  refine pl_x HE26 HH20 (wt0 rfl) (x_extract rfl rfl) rfl rfl fun a_27 HE28 => ?_
  refine pl_x HE28 HH20 (wt0 rfl) (x_assign rfl) rfl rfl fun a_29 HE30 => ?_
  refine pl_x HE30 HH20 (wt0 rfl) (x_assign rfl) rfl rfl fun a_31 HE32 => ?_
  refine wpList_nil ?_
  clear a_9 HE10 HH8 a_11 HE12 K_13 hK14 HH15 a_16 HE17 a_21 HE22 a_23 HE24 a_25 HE26 a_27 HE28 a_29 HE30 hK19 K_18
  refine nrm ?_
  refine wp_seq ?_
  refine wp_seq ?_
  refine rg ?_
  refine pl_x HE32 HH20 (wt0 rfl) (x_move rfl) rfl rfl fun a_33 HE34 => ?_
  refine pl_x HE34 HH20 (wt0 rfl) (x_not rfl) rfl rfl fun a_35 HE36 => ?_
  refine pl_x HE36 HH20 (wt0 rfl) (x_move rfl) rfl rfl fun a_37 HE38 => ?_
  rcases Bool.eq_false_or_eq_true ((decsR (subB 58 44 a0)).2) with hc24 | hc24
  · refine pl_x HE38 HH20 (wtT HE38 rfl rfl rfl (not_f hc24)) (x_move rfl) rfl rfl fun a_39 HE40 => ?_
    refine pl_x HE40 HH20 (wtT HE40 rfl rfl rfl (not_f hc24)) (x_len Tryd.underlying52 rfl) rfl rfl fun a_41 HE42 => ?_
    refine pl_x HE42 HH20 (wtT HE42 rfl rfl rfl (not_f hc24)) (x_neq rfl rfl) rfl rfl fun a_43 HE44 => ?_
    refine pl_x HE44 HH20 (wt0 rfl) (x_pickF rfl (not_f hc24) rfl) rfl rfl fun a_45 HE46 => ?_
    refine wpList_nil ?_
    clear a_31 HE32 a_33 HE34 a_35 HE36 a_37 HE38 a_39 HE40 a_41 HE42 a_43 HE44
    refine nrm ?_
    refine cnd_ne HE46 rfl (fun hc25 => ?_) (fun hc25 => ?_)
    · refine wp_seq ?_
      refine rg ?_
      refine pl_x HE46 HH20 (wt0 rfl) (show XS _ _ _ _ (.agg #[.int .i64 (0), .int .i64 (0), .int .i64 (0)]) from x_build (vs := []) tb_29 rfl (by simp [Value.oneCell'])) rfl rfl fun a_47 HE48 => ?_
      refine pl fun K_49 hK50 => ?_
      refine st_store (vs := [.int .i64 (0), .int .i64 (0), .int .i64 (0)]) 1 HE48 HH20 tv_29 rfl rfl rfl rfl rfl rfl (by simp [Value.oneCell']) (wt0 rfl) fun w' HH51 => hK50 _ _ ?_
      refine pl_x HE48 HH51 (wt0 rfl) (x_assign rfl) rfl rfl fun a_52 HE53 => ?_
      refine wpList_nil ?_
      clear a_45 HE46 HH20 a_47 HE48 hK50 K_49
      refine nrm ?_
      refine wp_ret ?_
      refine (thn_ret ?_)
      refine ret2 HE53 rfl (rv_cell rfl (tv_29.loadN (cs := [.int .i64 (0), .int .i64 (0), .int .i64 (0)]) rfl (c_blkN 1 rfl _ HH51))) (rv_tmp rfl) ?_
      have HH54 := HH51.flatO (E := eCounters) (cs := [.int .i64 (0), .int .i64 (0), .int .i64 (0)]) (x := (0, 0, 0)) (fun _ => (oPrN (oI (by exact ⟨by omega, by omega⟩)) (oPrN (oI (by exact ⟨by omega, by omega⟩)) (oI (by exact ⟨by omega, by omega⟩)))))
      have hF : (rdCntI a0) = ((0, 0, 0), false) := by
        first | (rw [rdCntI_eq rfl (by assumption) (by omega) (by omega) hz0 hz1 hz2]; first | (rw [if_pos (by assumption)]; done) | (rw [if_neg (by assumption)]; done)) | (unfold rdCntI; rw [if_neg (fun hh => by omega)]; done) | (unfold rdCntI; simp [hc24, hc25]; done)
      exact ⟨_, by first | (rw [hF] <;> rfl) | rfl | (rw [hF]; simp only [Ending.returned.injEq, Value.slice.injEq, true_and, and_true]; first | omega | (simp; done)) | (rw [hF]; simp; omega), by rw [hF]; exact (HH54.o (i := 0) rfl), HH54.below⟩
    · refine wp_skip ?_
      refine nrm ?_
      refine wp_seq ?_
      refine dr_start (Held Nob w [rSo eInt Sr23 Ar23_0 cr23_0 ((decsR (subB 58 44 a0)).1), rBlk q21 29 [.int .i64 (0), .int .i64 (0), .int .i64 (0)]]) 12 #[false, false, false, false, false, false, false, false, false, false, false, false] hmix rfl rfl HH20 (fun _ h => h.sel [0, 1] (by decide) rfl) fun w' HH55 => ?_
      have HS56 := HH55
      refine dr_take (i := 0) (ls' := #[true, false, false, false, false, false, false, false, false, false, false, false]) HE46 HS56 rfl (by kernel_rfl) (by kernel_rfl) (by kernel_rfl) (fun _ _ _ h => h) rfl (wt0 rfl) (x_move rfl) rfl rfl fun a_57 HE58 => ?_
      have ke26 : 0 < (decsR (subB 58 44 a0)).1.length := by omega
      obtain ⟨be26, fe26, rfl⟩ := el_own HH55 (i := 0) rfl ke26
      refine dr_take (i := 1) (ls' := #[true, true, false, false, false, false, false, false, false, false, false, false]) HE58 HS56 rfl (by kernel_rfl) (by kernel_rfl) (by kernel_rfl) (fun _ _ _ h => h) rfl (wt0 rfl) (x_indexAddr ts_52 rfl rfl rfl rfl ke26) rfl rfl fun a_59 HE60 => ?_
      obtain ⟨y27, xy27⟩ : ∃ y_, y_ = ((decsR (subB 58 44 a0)).1)[0]'(by first | exact ke26 | (simp only [List.length_set]; exact ke26) | omega | (simp only [List.length_set]; omega) | (simp; omega)) := ⟨_, rfl⟩
      have iy27 : I64 y27 := by rw [xy27]; exact i_ownI HH55 0 rfl _
      have jy27 := iy27; unfold I64 at jy27
      have hz0 := xy27
      refine dr_take (i := 2) (ls' := #[true, true, true, false, false, false, false, false, false, false, false, false]) HE60 HS56 rfl (by kernel_rfl) (by kernel_rfl) (by kernel_rfl) (fun _ _ _ h => h) rfl (wt0 rfl) (x_load1 tv_2 rfl (c_ownV 0 rfl (by first | exact ke26 | (simp only [List.length_set]; exact ke26) | omega | (simp only [List.length_set]; omega) | (simp; omega)) xy27.symm)) rfl rfl fun a_61 HE62 => ?_
      refine dr_take (i := 3) (ls' := #[true, true, true, true, false, false, false, false, false, false, false, false]) HE62 HS56 rfl (by kernel_rfl) (by kernel_rfl) (by kernel_rfl) (fun _ _ _ h => h) rfl (wt0 rfl) (x_move rfl) rfl rfl fun a_63 HE64 => ?_
      have ke28 : 1 < (decsR (subB 58 44 a0)).1.length := by omega
      refine dr_take (i := 4) (ls' := #[true, true, true, true, true, false, false, false, false, false, false, false]) HE64 HS56 rfl (by kernel_rfl) (by kernel_rfl) (by kernel_rfl) (fun _ _ _ h => h) rfl (wt0 rfl) (x_indexAddr ts_52 rfl rfl rfl rfl ke28) rfl rfl fun a_65 HE66 => ?_
      obtain ⟨y29, xy29⟩ : ∃ y_, y_ = ((decsR (subB 58 44 a0)).1)[1]'(by first | exact ke28 | (simp only [List.length_set]; exact ke28) | omega | (simp only [List.length_set]; omega) | (simp; omega)) := ⟨_, rfl⟩
      have iy29 : I64 y29 := by rw [xy29]; exact i_ownI HH55 0 rfl _
      have jy29 := iy29; unfold I64 at jy29
      have hz1 := xy29
      refine dr_take (i := 5) (ls' := #[true, true, true, true, true, true, false, false, false, false, false, false]) HE66 HS56 rfl (by kernel_rfl) (by kernel_rfl) (by kernel_rfl) (fun _ _ _ h => h) rfl (wt0 rfl) (x_load1 tv_2 rfl (c_ownV 0 rfl (by first | exact ke28 | (simp only [List.length_set]; exact ke28) | omega | (simp only [List.length_set]; omega) | (simp; omega)) xy29.symm)) rfl rfl fun a_67 HE68 => ?_
      refine dr_take (i := 6) (ls' := #[true, true, true, true, true, true, true, false, false, false, false, false]) HE68 HS56 rfl (by kernel_rfl) (by kernel_rfl) (by kernel_rfl) (fun _ _ _ h => h) rfl (wt0 rfl) (x_move rfl) rfl rfl fun a_69 HE70 => ?_
      have ke30 : 2 < (decsR (subB 58 44 a0)).1.length := by omega
      refine dr_take (i := 7) (ls' := #[true, true, true, true, true, true, true, true, false, false, false, false]) HE70 HS56 rfl (by kernel_rfl) (by kernel_rfl) (by kernel_rfl) (fun _ _ _ h => h) rfl (wt0 rfl) (x_indexAddr ts_52 rfl rfl rfl rfl ke30) rfl rfl fun a_71 HE72 => ?_
      obtain ⟨y31, xy31⟩ : ∃ y_, y_ = ((decsR (subB 58 44 a0)).1)[2]'(by first | exact ke30 | (simp only [List.length_set]; exact ke30) | omega | (simp only [List.length_set]; omega) | (simp; omega)) := ⟨_, rfl⟩
      have iy31 : I64 y31 := by rw [xy31]; exact i_ownI HH55 0 rfl _
      have jy31 := iy31; unfold I64 at jy31
      have hz2 := xy31
      refine dr_take (i := 8) (ls' := #[true, true, true, true, true, true, true, true, true, false, false, false]) HE72 HS56 rfl (by kernel_rfl) (by kernel_rfl) (by kernel_rfl) (fun _ _ _ h => h) rfl (wt0 rfl) (x_load1 tv_2 rfl (c_ownV 0 rfl (by first | exact ke30 | (simp only [List.length_set]; exact ke30) | omega | (simp only [List.length_set]; omega) | (simp; omega)) xy31.symm)) rfl rfl fun a_73 HE74 => ?_
      refine dr_take (i := 9) (ls' := #[true, true, true, true, true, true, true, true, true, true, false, false]) HE74 HS56 rfl (by kernel_rfl) (by kernel_rfl) (by kernel_rfl) (fun _ _ _ h => h) rfl (wt0 rfl) (show XS _ _ _ _ (.agg #[.int .i64 (y27), .int .i64 (y29), .int .i64 (y31)]) from x_build (vs := [(0, .int .i64 (y27)), (1, .int .i64 (y29)), (2, .int .i64 (y31))]) tb_29 rfl (by simp [Value.oneCell'])) rfl rfl fun a_75 HE76 => ?_
      refine dr_one (i := 10) (ls' := #[true, true, true, true, true, true, true, true, true, true, true, false]) rfl (by kernel_rfl) rfl fun K_77 hK78 => ?_
      refine st_alloc HE76 HH55 tv_29 (wt0 rfl) rfl fun q32 a_79 w' HE80 HH81 => hK78 _ _ (by exact HH81.sel [1, 2] (by decide) rfl) ?_
      have HS82 := HH81.sel [1, 2] (by decide) rfl
      refine dr_one (i := 11) (ls' := #[true, true, true, true, true, true, true, true, true, true, true, true]) rfl (by kernel_rfl) rfl fun K_83 hK84 => ?_
      refine st_store (vs := [.int .i64 (y27), .int .i64 (y29), .int .i64 (y31)]) 0 HE80 HH81 tv_29 rfl rfl rfl rfl rfl rfl (by simp [Value.oneCell']) (wt0 rfl) fun w' HH85 => hK84 _ _ (by exact HH85.sel [1, 2] (by decide) rfl) ?_
      have HS86 := HH85.sel [1, 2] (by decide) rfl
      refine dr_done (by kernel_rfl) ?_
      clear HH20 a_45 HE46 a_57 HE58 a_59 HE60 a_61 HE62 a_63 HE64 a_65 HE66 a_67 HE68 a_69 HE70 a_71 HE72 a_73 HE74 a_75 HE76 HH55 HS56 K_77 hK78 HH81 HS82 hK84 K_83
      refine nrm ?_
      refine wp_seq ?_
      refine wp_seq ?_
      refine rg ?_
      refine pl_x HE80 HH85 (wt0 rfl) (x_loadN (cs := [.int .i64 (y27), .int .i64 (y29), .int .i64 (y31)]) tv_29 rfl rfl (c_blkN 0 rfl)) rfl rfl fun a_87 HE88 => ?_
      refine pl fun K_89 hK90 => ?_
      refine st_call HE88 (wt0 rfl) rfl rfl rfl en_32 rfl rfl (impl_CountersText [.int .i64 (y27), .int .i64 (y29), .int .i64 (y31)] (y27, y29, y31) _ (rep_Counters (x := (y27, y29, y31)) (by first | exact ⟨by omega, by omega⟩ | (dsimp only; exact ⟨by omega, by omega⟩)) (by first | exact ⟨by omega, by omega⟩ | (dsimp only; exact ⟨by omega, by omega⟩)) (by first | exact ⟨by omega, by omega⟩ | (dsimp only; exact ⟨by omega, by omega⟩))) (HH85.glob hG.1)) fun e w' hr => ?_
      obtain ⟨rfl, hbr33⟩ := hr
      have HH91 := HH85.on hbr33
      refine ⟨_, rfl, fun a_92 HE93 => hK90 _ _ ?_⟩
      refine pl_x HE93 HH91 (wt0 rfl) (x_move rfl) rfl rfl fun a_94 HE95 => ?_
      refine pl_x HE95 HH91 (wt0 rfl) (x_sneqB rfl rfl) rfl rfl fun a_96 HE97 => ?_
      refine wpList_nil ?_
      clear a_79 HE80 HH85 a_87 HE88 a_92 HE93 a_94 HE95 hK90 K_89
      refine nrm ?_
      refine cnd_nd HE97 rfl (fun hc34 => ?_) (fun hc34 => ?_)
      · refine wp_seq ?_
        refine rg ?_
        refine pl_x HE97 HH91 (wt0 rfl) (show XS _ _ _ _ (.agg #[.int .i64 (0), .int .i64 (0), .int .i64 (0)]) from x_build (vs := []) tb_29 rfl (by simp [Value.oneCell'])) rfl rfl fun a_98 HE99 => ?_
        refine pl fun K_100 hK101 => ?_
        refine st_store (vs := [.int .i64 (0), .int .i64 (0), .int .i64 (0)]) 2 HE99 HH91 tv_29 rfl rfl rfl rfl rfl rfl (by simp [Value.oneCell']) (wt0 rfl) fun w' HH102 => hK101 _ _ ?_
        refine pl_x HE99 HH102 (wt0 rfl) (x_assign rfl) rfl rfl fun a_103 HE104 => ?_
        refine wpList_nil ?_
        clear a_96 HE97 HH91 a_98 HE99 hK101 K_100
        refine nrm ?_
        refine wp_ret ?_
        refine (thn_ret ?_)
        refine ret2 HE104 rfl (rv_cell rfl (tv_29.loadN (cs := [.int .i64 (0), .int .i64 (0), .int .i64 (0)]) rfl (c_blkN 2 rfl _ HH102))) (rv_tmp rfl) ?_
        have HH105 := HH102.flatO (E := eCounters) (cs := [.int .i64 (0), .int .i64 (0), .int .i64 (0)]) (x := (0, 0, 0)) (fun _ => (oPrN (oI (by exact ⟨by omega, by omega⟩)) (oPrN (oI (by exact ⟨by omega, by omega⟩)) (oI (by exact ⟨by omega, by omega⟩)))))
        have hF : (rdCntI a0) = ((0, 0, 0), false) := by
          first | (rw [rdCntI_eq rfl (by assumption) (by omega) (by omega) hz0 hz1 hz2]; first | (rw [if_pos (by assumption)]; done) | (rw [if_neg (by assumption)]; done)) | (unfold rdCntI; rw [if_neg (fun hh => by omega)]; done) | (unfold rdCntI; simp [hc24, hc25, xy27, xy29, xy31, hc34]; done)
        exact ⟨_, by first | (rw [hF] <;> rfl) | rfl | (rw [hF]; simp only [Ending.returned.injEq, Value.slice.injEq, true_and, and_true]; first | omega | (simp; done)) | (rw [hF]; simp; omega), by rw [hF]; exact (HH105.o (i := 0) rfl), HH105.below⟩
      · refine wp_skip ?_
        refine nrm ?_
        refine wp_seq ?_
        refine rg ?_
        refine pl_x HE97 HH91 (wt0 rfl) (x_loadN (cs := [.int .i64 (y27), .int .i64 (y29), .int .i64 (y31)]) tv_29 rfl rfl (c_blkN 0 rfl)) rfl rfl fun a_106 HE107 => ?_
        refine pl fun K_108 hK109 => ?_
        refine st_store (vs := [.int .i64 (y27), .int .i64 (y29), .int .i64 (y31)]) 2 HE107 HH91 tv_29 rfl rfl rfl rfl rfl rfl (by simp [Value.oneCell']) (wt0 rfl) fun w' HH110 => hK109 _ _ ?_
        refine pl_x HE107 HH110 (wt0 rfl) (x_assign rfl) rfl rfl fun a_111 HE112 => ?_
        refine wpList_nil ?_
        clear a_96 HE97 HH91 a_106 HE107 hK109 K_108
        refine nrm ?_
        refine wp_ret ?_
        refine ret2 HE112 rfl (rv_cell rfl (tv_29.loadN (cs := [.int .i64 (y27), .int .i64 (y29), .int .i64 (y31)]) rfl (c_blkN 2 rfl _ HH110))) (rv_tmp rfl) ?_
        have HH113 := HH110.flatO (E := eCounters) (cs := [.int .i64 (y27), .int .i64 (y29), .int .i64 (y31)]) (x := (y27, y29, y31)) (fun _ => (oPrN (oI (by exact ⟨by omega, by omega⟩)) (oPrN (oI (by exact ⟨by omega, by omega⟩)) (oI (by exact ⟨by omega, by omega⟩)))))
        have hF : (rdCntI a0) = ((y27, y29, y31), true) := by
          first | (rw [rdCntI_eq rfl (by assumption) (by omega) (by omega) hz0 hz1 hz2]; first | (rw [if_pos (by assumption)]; done) | (rw [if_neg (by assumption)]; done)) | (unfold rdCntI; rw [if_neg (fun hh => by omega)]; done) | (unfold rdCntI; simp [hc24, hc25, xy27, xy29, xy31, hc34]; done)
        exact ⟨_, by first | (rw [hF] <;> rfl) | rfl | (rw [hF]; simp only [Ending.returned.injEq, Value.slice.injEq, true_and, and_true]; first | omega | (simp; done)) | (rw [hF]; simp; omega), by rw [hF]; exact (HH113.o (i := 0) rfl), HH113.below⟩
  · refine pl_no HE38 (wtF HE38 rfl rfl rfl (not_t hc24)) rfl rfl fun a_114 HE115 => ?_
    refine pl_no HE115 (wtF HE115 rfl rfl rfl (not_t hc24)) rfl rfl fun a_116 HE117 => ?_
    refine pl_no HE117 (wtF HE117 rfl rfl rfl (not_t hc24)) rfl rfl fun a_118 HE119 => ?_
    refine pl_x HE119 HH20 (wt0 rfl) (x_pickT rfl (not_t hc24) rfl) rfl rfl fun a_120 HE121 => ?_
    refine wpList_nil ?_
    clear a_31 HE32 a_33 HE34 a_35 HE36 a_37 HE38 a_114 HE115 a_116 HE117 a_118 HE119
    refine nrm ?_
    refine cndT HE121 rfl rfl ?_
    refine wp_seq ?_
    refine rg ?_
    refine pl_x HE121 HH20 (wt0 rfl) (show XS _ _ _ _ (.agg #[.int .i64 (0), .int .i64 (0), .int .i64 (0)]) from x_build (vs := []) tb_29 rfl (by simp [Value.oneCell'])) rfl rfl fun a_122 HE123 => ?_
    refine pl fun K_124 hK125 => ?_
    refine st_store (vs := [.int .i64 (0), .int .i64 (0), .int .i64 (0)]) 1 HE123 HH20 tv_29 rfl rfl rfl rfl rfl rfl (by simp [Value.oneCell']) (wt0 rfl) fun w' HH126 => hK125 _ _ ?_
    refine pl_x HE123 HH126 (wt0 rfl) (x_assign rfl) rfl rfl fun a_127 HE128 => ?_
    refine wpList_nil ?_
    clear a_120 HE121 HH20 a_122 HE123 hK125 K_124
    refine nrm ?_
    refine wp_ret ?_
    refine (thn_ret ?_)
    refine ret2 HE128 rfl (rv_cell rfl (tv_29.loadN (cs := [.int .i64 (0), .int .i64 (0), .int .i64 (0)]) rfl (c_blkN 1 rfl _ HH126))) (rv_tmp rfl) ?_
    have HH129 := HH126.flatO (E := eCounters) (cs := [.int .i64 (0), .int .i64 (0), .int .i64 (0)]) (x := (0, 0, 0)) (fun _ => (oPrN (oI (by exact ⟨by omega, by omega⟩)) (oPrN (oI (by exact ⟨by omega, by omega⟩)) (oI (by exact ⟨by omega, by omega⟩)))))
    have hF : (rdCntI a0) = ((0, 0, 0), false) := by
      first | (rw [rdCntI_eq rfl (by assumption) (by omega) (by omega) hz0 hz1 hz2]; first | (rw [if_pos (by assumption)]; done) | (rw [if_neg (by assumption)]; done)) | (unfold rdCntI; rw [if_neg (fun hh => by omega)]; done) | (unfold rdCntI; simp [hc24]; done)
    exact ⟨_, by first | (rw [hF] <;> rfl) | rfl | (rw [hF]; simp only [Ending.returned.injEq, Value.slice.injEq, true_and, and_true]; first | omega | (simp; done)) | (rw [hF]; simp; omega), by rw [hF]; exact (HH129.o (i := 0) rfl), HH129.below⟩

open Go.Lib in
set_option maxRecDepth 100000 in
set_option maxHeartbeats 4000000 in
theorem spec_ReadCounters (a0 : List UInt8) (w : World) (s0 : a0.length ≤ 2000000) :
    Calls Tryd.prog 12 #[.string (bs a0)] w fun e w' => ∃ (es0' : List Value), e = .returned (.tuple #[.agg es0'.toArray, .bool (rdCntI a0).2]) ∧ eCounters.O w' (Fr w w') es0' (rdCntI a0).1 ∧ Below w.heap.size w w' := by
  have HH1 := Held.start Nob w
  refine enter (n := 61) Tryd.func12 rfl rfl rfl fun a_2 HE3 => ?_
  refine wp_seq ?_
  refine rg ?_
  refine pl fun K_4 hK5 => ?_
  refine st_alloc HE3 HH1 tv_29 (wt0 rfl) rfl fun q21 a_6 w' HE7 HH8 => hK5 _ _ ?_
  refine pl_x HE7 HH8 (wt0 rfl) (x_assign rfl) rfl rfl fun a_9 HE10 => ?_
  refine wpList_nil ?_
  clear a_2 HE3 HH1 a_6 HE7 hK5 K_4
  refine nrm ?_
  refine wp_seq ?_
  refine rg ?_
  refine pl_x HE10 HH8 (wt0 rfl) (x_move rfl) rfl rfl fun a_11 HE12 => ?_
  refine pl fun K_13 hK14 => ?_
  refine st_call HE12 (wt0 rfl) rfl rfl rfl en_27 rfl rfl (spec_l01Split a0 _ 58 _ (by omega) (by rfl)) fun e w' hr => ?_
  have hAr22_0 := splitR_len 58 a0
  have hAr22_1 := splitR_piece 58 a0
  obtain ⟨Ar22_0, cr22_0, rfl, hor22_0, hbr22⟩ := hr
  obtain ⟨Sr22, HH15⟩ := HH8.newS hbr22 hor22_0
  refine ⟨_, rfl, fun a_16 HE17 => hK14 _ _ ?_⟩
  refine pl_x HE17 HH15 (wt0 rfl) (x_assign rfl) rfl rfl fun a_18 HE19 => ?_
  refine wpList_nil ?_
  clear a_9 HE10 HH8 a_11 HE12 a_16 HE17 hK14 K_13
  refine nrm ?_
  refine wp_seq ?_
  refine wp_seq ?_
  refine rg ?_
  refine pl_x HE19 HH15 (wt0 rfl) (x_move rfl) rfl rfl fun a_20 HE21 => ?_
  refine pl_x HE21 HH15 (wt0 rfl) (x_len Tryd.underlying43 rfl) rfl rfl fun a_22 HE23 => ?_
  refine pl_x HE23 HH15 (wt0 rfl) (x_neq rfl rfl) rfl rfl fun a_24 HE25 => ?_
  refine wpList_nil ?_
  clear a_18 HE19 a_20 HE21 a_22 HE23
  refine nrm ?_
  refine cnd_ne HE25 rfl (fun hc23 => ?_) (fun hc23 => ?_)
  · refine wp_seq ?_
    refine rg ?_
    refine pl_x HE25 HH15 (wt0 rfl) (show XS _ _ _ _ (.agg #[.int .i64 (0), .int .i64 (0), .int .i64 (0)]) from x_build (vs := []) tb_29 rfl (by simp [Value.oneCell'])) rfl rfl fun a_26 HE27 => ?_
    refine pl fun K_28 hK29 => ?_
    refine st_store (vs := [.int .i64 (0), .int .i64 (0), .int .i64 (0)]) 1 HE27 HH15 tv_29 rfl rfl rfl rfl rfl rfl (by simp [Value.oneCell']) (wt0 rfl) fun w' HH30 => hK29 _ _ ?_
    refine pl_x HE27 HH30 (wt0 rfl) (x_assign rfl) rfl rfl fun a_31 HE32 => ?_
    refine wpList_nil ?_
    clear a_24 HE25 HH15 a_26 HE27 hK29 K_28
    refine nrm ?_
    refine wp_ret ?_
    refine (thn_ret ?_)
    refine ret2 HE32 rfl (rv_cell rfl (tv_29.loadN (cs := [.int .i64 (0), .int .i64 (0), .int .i64 (0)]) rfl (c_blkN 1 rfl _ HH30))) (rv_tmp rfl) ?_
    have HH33 := HH30.flatO (E := eCounters) (cs := [.int .i64 (0), .int .i64 (0), .int .i64 (0)]) (x := (0, 0, 0)) (fun _ => (oPrN (oI (by exact ⟨by omega, by omega⟩)) (oPrN (oI (by exact ⟨by omega, by omega⟩)) (oI (by exact ⟨by omega, by omega⟩)))))
    have hF : (rdCntI a0) = ((0, 0, 0), false) := by
      rw [← rdCnt_eq]; first | (rw [rdCntS_eq rfl (by omega) (by omega) hz0 hz1 hz2]; first | (rw [if_pos ⟨⟨by assumption, by assumption, by assumption⟩, by assumption⟩]; done) | (rw [if_neg (fun hh => ff hh.1.1 (by assumption))]; done) | (rw [if_neg (fun hh => ff hh.1.2.1 (by assumption))]; done) | (rw [if_neg (fun hh => ff hh.1.2.2 (by assumption))]; done) | (rw [if_neg (fun hh => absurd hh.2 (by assumption))]; done)) | (unfold rdCntS; rw [if_neg (fun hh => by omega)]; done)
    exact ⟨_, by first | (rw [hF] <;> rfl) | rfl | (rw [hF]; simp only [Ending.returned.injEq, Value.slice.injEq, true_and, and_true]; first | omega | (simp; done)) | (rw [hF]; simp; omega), by rw [hF]; exact (HH33.o (i := 0) rfl), HH33.below⟩
  · refine wp_skip ?_
    refine nrm ?_
    refine wp_seq ?_
    refine rg ?_
    refine pl_x HE25 HH15 (wt0 rfl) (x_move rfl) rfl rfl fun a_34 HE35 => ?_
    have ke24 : 0 < (splitR 58 a0).length := by omega
    obtain ⟨be24, fe24, rfl⟩ := el_own HH15 (i := 0) rfl ke24
    refine pl_x HE35 HH15 (wt0 rfl) (x_indexAddr ts_43 rfl rfl rfl rfl ke24) rfl rfl fun a_36 HE37 => ?_
    obtain ⟨y25, xy25⟩ : ∃ y_, y_ = (splitR 58 a0)[0]'(by first | exact ke24 | (simp only [List.length_set]; exact ke24) | omega | (simp only [List.length_set]; omega) | (simp; omega)) := ⟨_, rfl⟩
    have jy25 : List.length y25 ≤ 9223372036854775807 := by rw [xy25]; exact i_ownS HH15 0 rfl _
    have hz0 := xy25
    have hpy25 := splitR_piece 58 a0 y25 (by rw [xy25]; exact List.getElem_mem _)
    refine pl_x HE37 HH15 (wt0 rfl) (x_load1 tv_9 rfl (c_ownS 0 rfl (by first | exact ke24 | (simp only [List.length_set]; exact ke24) | omega | (simp only [List.length_set]; omega) | (simp; omega)) xy25.symm)) rfl rfl fun a_38 HE39 => ?_
    refine pl fun K_40 hK41 => ?_
    refine st_call HE39 (wt0 rfl) rfl rfl rfl en_28 rfl rfl (spec_l01Number y25 _ (by omega)) fun e w' hr => ?_
    have hAr26_0 := numC_bd y25
    obtain ⟨rfl, hbr26⟩ := hr
    have HH42 := HH15.on hbr26
    refine ⟨_, rfl, fun a_43 HE44 => hK41 _ _ ?_⟩
    refine pl_x HE44 HH42 (wt0 rfl) (x_move rfl) rfl rfl fun a_45 HE46 => ?_
    refine pl_x HE46 HH42 (wt0 rfl) (x_extract rfl rfl) rfl rfl fun a_47 HE48 => ?_
    refine pl_x HE48 HH42 (wt0 rfl) (x_extract rfl rfl) rfl rfl fun a_49 HE50 => ?_
    refine pl_x HE50 HH42 (wt0 rfl) (x_assign rfl) rfl rfl fun a_51 HE52 => ?_
    refine pl_x HE52 HH42 (wt0 rfl) (x_assign rfl) rfl rfl fun a_53 HE54 => ?_
    refine wpList_nil ?_
    clear a_24 HE25 a_34 HE35 a_36 HE37 HH15 a_38 HE39 a_43 HE44 a_45 HE46 a_47 HE48 a_49 HE50 a_51 HE52 hK41 K_40
    refine nrm ?_
    refine wp_seq ?_
    refine rg ?_
    refine pl_x HE54 HH42 (wt0 rfl) (x_move rfl) rfl rfl fun a_55 HE56 => ?_
    have ke27 : 1 < (splitR 58 a0).length := by omega
    refine pl_x HE56 HH42 (wt0 rfl) (x_indexAddr ts_43 rfl rfl rfl rfl ke27) rfl rfl fun a_57 HE58 => ?_
    obtain ⟨y28, xy28⟩ : ∃ y_, y_ = (splitR 58 a0)[1]'(by first | exact ke27 | (simp only [List.length_set]; exact ke27) | omega | (simp only [List.length_set]; omega) | (simp; omega)) := ⟨_, rfl⟩
    have jy28 : List.length y28 ≤ 9223372036854775807 := by rw [xy28]; exact i_ownS HH42 0 rfl _
    have hz1 := xy28
    have hpy28 := splitR_piece 58 a0 y28 (by rw [xy28]; exact List.getElem_mem _)
    refine pl_x HE58 HH42 (wt0 rfl) (x_load1 tv_9 rfl (c_ownS 0 rfl (by first | exact ke27 | (simp only [List.length_set]; exact ke27) | omega | (simp only [List.length_set]; omega) | (simp; omega)) xy28.symm)) rfl rfl fun a_59 HE60 => ?_
    refine pl fun K_61 hK62 => ?_
    refine st_call HE60 (wt0 rfl) rfl rfl rfl en_28 rfl rfl (spec_l01Number y28 _ (by omega)) fun e w' hr => ?_
    have hAr29_0 := numC_bd y28
    obtain ⟨rfl, hbr29⟩ := hr
    have HH63 := HH42.on hbr29
    refine ⟨_, rfl, fun a_64 HE65 => hK62 _ _ ?_⟩
    refine pl_x HE65 HH63 (wt0 rfl) (x_move rfl) rfl rfl fun a_66 HE67 => ?_
    refine pl_x HE67 HH63 (wt0 rfl) (x_extract rfl rfl) rfl rfl fun a_68 HE69 => ?_
    refine pl_x HE69 HH63 (wt0 rfl) (x_extract rfl rfl) rfl rfl fun a_70 HE71 => ?_
    refine pl_x HE71 HH63 (wt0 rfl) (x_assign rfl) rfl rfl fun a_72 HE73 => ?_
    refine pl_x HE73 HH63 (wt0 rfl) (x_assign rfl) rfl rfl fun a_74 HE75 => ?_
    refine wpList_nil ?_
    clear a_53 HE54 a_55 HE56 a_57 HE58 HH42 a_59 HE60 a_64 HE65 a_66 HE67 a_68 HE69 a_70 HE71 a_72 HE73 hK62 K_61
    refine nrm ?_
    refine wp_seq ?_
    refine rg ?_
    refine pl_x HE75 HH63 (wt0 rfl) (x_move rfl) rfl rfl fun a_76 HE77 => ?_
    have ke30 : 2 < (splitR 58 a0).length := by omega
    refine pl_x HE77 HH63 (wt0 rfl) (x_indexAddr ts_43 rfl rfl rfl rfl ke30) rfl rfl fun a_78 HE79 => ?_
    obtain ⟨y31, xy31⟩ : ∃ y_, y_ = (splitR 58 a0)[2]'(by first | exact ke30 | (simp only [List.length_set]; exact ke30) | omega | (simp only [List.length_set]; omega) | (simp; omega)) := ⟨_, rfl⟩
    have jy31 : List.length y31 ≤ 9223372036854775807 := by rw [xy31]; exact i_ownS HH63 0 rfl _
    have hz2 := xy31
    have hpy31 := splitR_piece 58 a0 y31 (by rw [xy31]; exact List.getElem_mem _)
    refine pl_x HE79 HH63 (wt0 rfl) (x_load1 tv_9 rfl (c_ownS 0 rfl (by first | exact ke30 | (simp only [List.length_set]; exact ke30) | omega | (simp only [List.length_set]; omega) | (simp; omega)) xy31.symm)) rfl rfl fun a_80 HE81 => ?_
    refine pl fun K_82 hK83 => ?_
    refine st_call HE81 (wt0 rfl) rfl rfl rfl en_28 rfl rfl (spec_l01Number y31 _ (by omega)) fun e w' hr => ?_
    have hAr32_0 := numC_bd y31
    obtain ⟨rfl, hbr32⟩ := hr
    have HH84 := HH63.on hbr32
    refine ⟨_, rfl, fun a_85 HE86 => hK83 _ _ ?_⟩
    refine pl_x HE86 HH84 (wt0 rfl) (x_move rfl) rfl rfl fun a_87 HE88 => ?_
    refine pl_x HE88 HH84 (wt0 rfl) (x_extract rfl rfl) rfl rfl fun a_89 HE90 => ?_
    refine pl_x HE90 HH84 (wt0 rfl) (x_extract rfl rfl) rfl rfl fun a_91 HE92 => ?_
    refine pl_x HE92 HH84 (wt0 rfl) (x_assign rfl) rfl rfl fun a_93 HE94 => ?_
    refine pl_x HE94 HH84 (wt0 rfl) (x_assign rfl) rfl rfl fun a_95 HE96 => ?_
    refine wpList_nil ?_
    clear a_74 HE75 a_76 HE77 a_78 HE79 HH63 a_80 HE81 a_85 HE86 a_87 HE88 a_89 HE90 a_91 HE92 a_93 HE94 hK83 K_82
    refine nrm ?_
    refine wp_seq ?_
    refine rg ?_
    refine pl_x HE96 HH84 (wt0 rfl) (x_move rfl) rfl rfl fun a_97 HE98 => ?_
    refine pl_x HE98 HH84 (wt0 rfl) (x_move rfl) rfl rfl fun a_99 HE100 => ?_
    refine pl_x HE100 HH84 (wt0 rfl) (x_move rfl) rfl rfl fun a_101 HE102 => ?_
    refine pl_x HE102 HH84 (wt0 rfl) (show XS _ _ _ _ (.agg #[.int .i64 ((numC y25).1), .int .i64 ((numC y28).1), .int .i64 ((numC y31).1)]) from x_build (vs := [(0, .int .i64 ((numC y25).1)), (1, .int .i64 ((numC y28).1)), (2, .int .i64 ((numC y31).1))]) tb_29 rfl (by simp [Value.oneCell'])) rfl rfl fun a_103 HE104 => ?_
    refine pl fun K_105 hK106 => ?_
    refine st_alloc HE104 HH84 tv_29 (wt0 rfl) rfl fun q33 a_107 w' HE108 HH109 => hK106 _ _ ?_
    refine pl fun K_110 hK111 => ?_
    refine st_store (vs := [.int .i64 ((numC y25).1), .int .i64 ((numC y28).1), .int .i64 ((numC y31).1)]) 0 HE108 HH109 tv_29 rfl rfl rfl rfl rfl rfl (by simp [Value.oneCell']) (wt0 rfl) fun w' HH112 => hK111 _ _ ?_
    refine wpList_nil ?_
    clear a_95 HE96 a_97 HE98 a_99 HE100 a_101 HE102 a_103 HE104 HH84 K_105 hK106 HH109 hK111 K_110
    refine nrm ?_
    refine wp_seq ?_
    refine wp_seq ?_
    refine rg ?_
    refine pl_x HE108 HH112 (wt0 rfl) (x_move rfl) rfl rfl fun a_113 HE114 => ?_
    refine pl_x HE114 HH112 (wt0 rfl) (x_not rfl) rfl rfl fun a_115 HE116 => ?_
    refine pl_x HE116 HH112 (wt0 rfl) (x_move rfl) rfl rfl fun a_117 HE118 => ?_
    rcases Bool.eq_false_or_eq_true ((numC y25).2) with hc34 | hc34
    · refine pl_x HE118 HH112 (wtT HE118 rfl rfl rfl (not_f hc34)) (x_move rfl) rfl rfl fun a_119 HE120 => ?_
      refine pl_x HE120 HH112 (wtT HE120 rfl rfl rfl (not_f hc34)) (x_not rfl) rfl rfl fun a_121 HE122 => ?_
      refine pl_x HE122 HH112 (wt0 rfl) (x_pickF rfl (not_f hc34) rfl) rfl rfl fun a_123 HE124 => ?_
      refine pl_x HE124 HH112 (wt0 rfl) (x_move rfl) rfl rfl fun a_125 HE126 => ?_
      rcases Bool.eq_false_or_eq_true ((numC y28).2) with hc35 | hc35
      · refine pl_x HE126 HH112 (wtT HE126 rfl rfl rfl (not_f hc35)) (x_move rfl) rfl rfl fun a_127 HE128 => ?_
        refine pl_x HE128 HH112 (wtT HE128 rfl rfl rfl (not_f hc35)) (x_not rfl) rfl rfl fun a_129 HE130 => ?_
        refine pl_x HE130 HH112 (wt0 rfl) (x_pickF rfl (not_f hc35) rfl) rfl rfl fun a_131 HE132 => ?_
        refine pl_x HE132 HH112 (wt0 rfl) (x_move rfl) rfl rfl fun a_133 HE134 => ?_
        rcases Bool.eq_false_or_eq_true ((numC y31).2) with hc36 | hc36
        · refine pl_x HE134 HH112 (wtT HE134 rfl rfl rfl (not_f hc36)) (x_loadN (cs := [.int .i64 ((numC y25).1), .int .i64 ((numC y28).1), .int .i64 ((numC y31).1)]) tv_29 rfl rfl (c_blkN 0 rfl)) rfl rfl fun a_135 HE136 => ?_
          refine pl fun K_137 hK138 => ?_
          refine st_call HE136 (wtT HE136 rfl rfl rfl (not_f hc36)) rfl rfl rfl en_29 rfl rfl (spec_CountersText [.int .i64 ((numC y25).1), .int .i64 ((numC y28).1), .int .i64 ((numC y31).1)] ((numC y25).1, (numC y28).1, (numC y31).1) _ (rep_Counters (x := ((numC y25).1, (numC y28).1, (numC y31).1)) (by first | exact ⟨by omega, by omega⟩ | (dsimp only; exact ⟨by omega, by omega⟩)) (by first | exact ⟨by omega, by omega⟩ | (dsimp only; exact ⟨by omega, by omega⟩)) (by first | exact ⟨by omega, by omega⟩ | (dsimp only; exact ⟨by omega, by omega⟩)))) fun e w' hr => ?_
          obtain ⟨rfl, hbr37⟩ := hr
          have HH139 := HH112.on hbr37
          refine ⟨_, rfl, fun a_140 HE141 => hK138 _ _ ?_⟩
          refine pl_x HE141 HH139 (wtT HE141 rfl rfl rfl (not_f hc36)) (x_move rfl) rfl rfl fun a_142 HE143 => ?_
          refine pl_x HE143 HH139 (wtT HE143 rfl rfl rfl (not_f hc36)) (x_sneqB rfl rfl) rfl rfl fun a_144 HE145 => ?_
          refine pl_x HE145 HH139 (wt0 rfl) (x_pickF rfl (not_f hc36) rfl) rfl rfl fun a_146 HE147 => ?_
          refine wpList_nil ?_
          clear a_107 HE108 a_113 HE114 a_115 HE116 a_117 HE118 a_119 HE120 a_121 HE122 a_123 HE124 a_125 HE126 a_127 HE128 a_129 HE130 a_131 HE132 a_133 HE134 HH112 a_135 HE136 a_140 HE141 a_142 HE143 a_144 HE145 hK138 K_137
          refine nrm ?_
          refine cnd_nd HE147 rfl (fun hc38 => ?_) (fun hc38 => ?_)
          · refine wp_seq ?_
            refine rg ?_
            refine pl_x HE147 HH139 (wt0 rfl) (show XS _ _ _ _ (.agg #[.int .i64 (0), .int .i64 (0), .int .i64 (0)]) from x_build (vs := []) tb_29 rfl (by simp [Value.oneCell'])) rfl rfl fun a_148 HE149 => ?_
            refine pl fun K_150 hK151 => ?_
            refine st_store (vs := [.int .i64 (0), .int .i64 (0), .int .i64 (0)]) 2 HE149 HH139 tv_29 rfl rfl rfl rfl rfl rfl (by simp [Value.oneCell']) (wt0 rfl) fun w' HH152 => hK151 _ _ ?_
            refine pl_x HE149 HH152 (wt0 rfl) (x_assign rfl) rfl rfl fun a_153 HE154 => ?_
            refine wpList_nil ?_
            clear a_146 HE147 HH139 a_148 HE149 hK151 K_150
            refine nrm ?_
            refine wp_ret ?_
            refine (thn_ret ?_)
            refine ret2 HE154 rfl (rv_cell rfl (tv_29.loadN (cs := [.int .i64 (0), .int .i64 (0), .int .i64 (0)]) rfl (c_blkN 2 rfl _ HH152))) (rv_tmp rfl) ?_
            have HH155 := HH152.flatO (E := eCounters) (cs := [.int .i64 (0), .int .i64 (0), .int .i64 (0)]) (x := (0, 0, 0)) (fun _ => (oPrN (oI (by exact ⟨by omega, by omega⟩)) (oPrN (oI (by exact ⟨by omega, by omega⟩)) (oI (by exact ⟨by omega, by omega⟩)))))
            have hF : (rdCntI a0) = ((0, 0, 0), false) := by
              rw [← rdCnt_eq]; first | (rw [rdCntS_eq rfl (by omega) (by omega) hz0 hz1 hz2]; first | (rw [if_pos ⟨⟨by assumption, by assumption, by assumption⟩, by assumption⟩]; done) | (rw [if_neg (fun hh => ff hh.1.1 (by assumption))]; done) | (rw [if_neg (fun hh => ff hh.1.2.1 (by assumption))]; done) | (rw [if_neg (fun hh => ff hh.1.2.2 (by assumption))]; done) | (rw [if_neg (fun hh => absurd hh.2 (by assumption))]; done)) | (unfold rdCntS; rw [if_neg (fun hh => by omega)]; done)
            exact ⟨_, by first | (rw [hF] <;> rfl) | rfl | (rw [hF]; simp only [Ending.returned.injEq, Value.slice.injEq, true_and, and_true]; first | omega | (simp; done)) | (rw [hF]; simp; omega), by rw [hF]; exact (HH155.o (i := 0) rfl), HH155.below⟩
          · refine wp_skip ?_
            refine nrm ?_
            refine wp_seq ?_
            refine rg ?_
            refine pl_x HE147 HH139 (wt0 rfl) (x_loadN (cs := [.int .i64 ((numC y25).1), .int .i64 ((numC y28).1), .int .i64 ((numC y31).1)]) tv_29 rfl rfl (c_blkN 0 rfl)) rfl rfl fun a_156 HE157 => ?_
            refine pl fun K_158 hK159 => ?_
            refine st_store (vs := [.int .i64 ((numC y25).1), .int .i64 ((numC y28).1), .int .i64 ((numC y31).1)]) 2 HE157 HH139 tv_29 rfl rfl rfl rfl rfl rfl (by simp [Value.oneCell']) (wt0 rfl) fun w' HH160 => hK159 _ _ ?_
            refine pl_x HE157 HH160 (wt0 rfl) (x_assign rfl) rfl rfl fun a_161 HE162 => ?_
            refine wpList_nil ?_
            clear a_146 HE147 HH139 a_156 HE157 hK159 K_158
            refine nrm ?_
            refine wp_ret ?_
            refine ret2 HE162 rfl (rv_cell rfl (tv_29.loadN (cs := [.int .i64 ((numC y25).1), .int .i64 ((numC y28).1), .int .i64 ((numC y31).1)]) rfl (c_blkN 2 rfl _ HH160))) (rv_tmp rfl) ?_
            have HH163 := HH160.flatO (E := eCounters) (cs := [.int .i64 ((numC y25).1), .int .i64 ((numC y28).1), .int .i64 ((numC y31).1)]) (x := ((numC y25).1, (numC y28).1, (numC y31).1)) (fun _ => (oPrN (oI (by exact ⟨by omega, by omega⟩)) (oPrN (oI (by exact ⟨by omega, by omega⟩)) (oI (by exact ⟨by omega, by omega⟩)))))
            have hF : (rdCntI a0) = (((numC y25).1, (numC y28).1, (numC y31).1), true) := by
              rw [← rdCnt_eq]; first | (rw [rdCntS_eq rfl (by omega) (by omega) hz0 hz1 hz2]; first | (rw [if_pos ⟨⟨by assumption, by assumption, by assumption⟩, by assumption⟩]; done) | (rw [if_neg (fun hh => ff hh.1.1 (by assumption))]; done) | (rw [if_neg (fun hh => ff hh.1.2.1 (by assumption))]; done) | (rw [if_neg (fun hh => ff hh.1.2.2 (by assumption))]; done) | (rw [if_neg (fun hh => absurd hh.2 (by assumption))]; done)) | (unfold rdCntS; rw [if_neg (fun hh => by omega)]; done)
            exact ⟨_, by first | (rw [hF] <;> rfl) | rfl | (rw [hF]; simp only [Ending.returned.injEq, Value.slice.injEq, true_and, and_true]; first | omega | (simp; done)) | (rw [hF]; simp; omega), by rw [hF]; exact (HH163.o (i := 0) rfl), HH163.below⟩
        · refine pl_no HE134 (wtF HE134 rfl rfl rfl (not_t hc36)) rfl rfl fun a_164 HE165 => ?_
          refine pl_no HE165 (wtF HE165 rfl rfl rfl (not_t hc36)) rfl rfl fun a_166 HE167 => ?_
          refine pl_no HE167 (wtF HE167 rfl rfl rfl (not_t hc36)) rfl rfl fun a_168 HE169 => ?_
          refine pl_no HE169 (wtF HE169 rfl rfl rfl (not_t hc36)) rfl rfl fun a_170 HE171 => ?_
          refine pl_x HE171 HH112 (wt0 rfl) (x_pickT rfl (not_t hc36) rfl) rfl rfl fun a_172 HE173 => ?_
          refine wpList_nil ?_
          clear a_107 HE108 a_113 HE114 a_115 HE116 a_117 HE118 a_119 HE120 a_121 HE122 a_123 HE124 a_125 HE126 a_127 HE128 a_129 HE130 a_131 HE132 a_133 HE134 a_164 HE165 a_166 HE167 a_168 HE169 a_170 HE171
          refine nrm ?_
          refine cndT HE173 rfl rfl ?_
          refine wp_seq ?_
          refine rg ?_
          refine pl_x HE173 HH112 (wt0 rfl) (show XS _ _ _ _ (.agg #[.int .i64 (0), .int .i64 (0), .int .i64 (0)]) from x_build (vs := []) tb_29 rfl (by simp [Value.oneCell'])) rfl rfl fun a_174 HE175 => ?_
          refine pl fun K_176 hK177 => ?_
          refine st_store (vs := [.int .i64 (0), .int .i64 (0), .int .i64 (0)]) 2 HE175 HH112 tv_29 rfl rfl rfl rfl rfl rfl (by simp [Value.oneCell']) (wt0 rfl) fun w' HH178 => hK177 _ _ ?_
          refine pl_x HE175 HH178 (wt0 rfl) (x_assign rfl) rfl rfl fun a_179 HE180 => ?_
          refine wpList_nil ?_
          clear a_172 HE173 HH112 a_174 HE175 hK177 K_176
          refine nrm ?_
          refine wp_ret ?_
          refine (thn_ret ?_)
          refine ret2 HE180 rfl (rv_cell rfl (tv_29.loadN (cs := [.int .i64 (0), .int .i64 (0), .int .i64 (0)]) rfl (c_blkN 2 rfl _ HH178))) (rv_tmp rfl) ?_
          have HH181 := HH178.flatO (E := eCounters) (cs := [.int .i64 (0), .int .i64 (0), .int .i64 (0)]) (x := (0, 0, 0)) (fun _ => (oPrN (oI (by exact ⟨by omega, by omega⟩)) (oPrN (oI (by exact ⟨by omega, by omega⟩)) (oI (by exact ⟨by omega, by omega⟩)))))
          have hF : (rdCntI a0) = ((0, 0, 0), false) := by
            rw [← rdCnt_eq]; first | (rw [rdCntS_eq rfl (by omega) (by omega) hz0 hz1 hz2]; first | (rw [if_pos ⟨⟨by assumption, by assumption, by assumption⟩, by assumption⟩]; done) | (rw [if_neg (fun hh => ff hh.1.1 (by assumption))]; done) | (rw [if_neg (fun hh => ff hh.1.2.1 (by assumption))]; done) | (rw [if_neg (fun hh => ff hh.1.2.2 (by assumption))]; done) | (rw [if_neg (fun hh => absurd hh.2 (by assumption))]; done)) | (unfold rdCntS; rw [if_neg (fun hh => by omega)]; done)
          exact ⟨_, by first | (rw [hF] <;> rfl) | rfl | (rw [hF]; simp only [Ending.returned.injEq, Value.slice.injEq, true_and, and_true]; first | omega | (simp; done)) | (rw [hF]; simp; omega), by rw [hF]; exact (HH181.o (i := 0) rfl), HH181.below⟩
      · refine pl_no HE126 (wtF HE126 rfl rfl rfl (not_t hc35)) rfl rfl fun a_182 HE183 => ?_
        refine pl_no HE183 (wtF HE183 rfl rfl rfl (not_t hc35)) rfl rfl fun a_184 HE185 => ?_
        refine pl_x HE185 HH112 (wt0 rfl) (x_pickT rfl (not_t hc35) rfl) rfl rfl fun a_186 HE187 => ?_
        refine pl_x HE187 HH112 (wt0 rfl) (x_move rfl) rfl rfl fun a_188 HE189 => ?_
        refine pl_no HE189 (wtF HE189 rfl rfl rfl rfl) rfl rfl fun a_190 HE191 => ?_
        refine pl_no HE191 (wtF HE191 rfl rfl rfl rfl) rfl rfl fun a_192 HE193 => ?_
        refine pl_no HE193 (wtF HE193 rfl rfl rfl rfl) rfl rfl fun a_194 HE195 => ?_
        refine pl_no HE195 (wtF HE195 rfl rfl rfl rfl) rfl rfl fun a_196 HE197 => ?_
        refine pl_x HE197 HH112 (wt0 rfl) (x_pickT rfl rfl rfl) rfl rfl fun a_198 HE199 => ?_
        refine wpList_nil ?_
        clear a_107 HE108 a_113 HE114 a_115 HE116 a_117 HE118 a_119 HE120 a_121 HE122 a_123 HE124 a_125 HE126 a_182 HE183 a_184 HE185 a_186 HE187 a_188 HE189 a_190 HE191 a_192 HE193 a_194 HE195 a_196 HE197
        refine nrm ?_
        refine cndT HE199 rfl rfl ?_
        refine wp_seq ?_
        refine rg ?_
        refine pl_x HE199 HH112 (wt0 rfl) (show XS _ _ _ _ (.agg #[.int .i64 (0), .int .i64 (0), .int .i64 (0)]) from x_build (vs := []) tb_29 rfl (by simp [Value.oneCell'])) rfl rfl fun a_200 HE201 => ?_
        refine pl fun K_202 hK203 => ?_
        refine st_store (vs := [.int .i64 (0), .int .i64 (0), .int .i64 (0)]) 2 HE201 HH112 tv_29 rfl rfl rfl rfl rfl rfl (by simp [Value.oneCell']) (wt0 rfl) fun w' HH204 => hK203 _ _ ?_
        refine pl_x HE201 HH204 (wt0 rfl) (x_assign rfl) rfl rfl fun a_205 HE206 => ?_
        refine wpList_nil ?_
        clear a_198 HE199 HH112 a_200 HE201 hK203 K_202
        refine nrm ?_
        refine wp_ret ?_
        refine (thn_ret ?_)
        refine ret2 HE206 rfl (rv_cell rfl (tv_29.loadN (cs := [.int .i64 (0), .int .i64 (0), .int .i64 (0)]) rfl (c_blkN 2 rfl _ HH204))) (rv_tmp rfl) ?_
        have HH207 := HH204.flatO (E := eCounters) (cs := [.int .i64 (0), .int .i64 (0), .int .i64 (0)]) (x := (0, 0, 0)) (fun _ => (oPrN (oI (by exact ⟨by omega, by omega⟩)) (oPrN (oI (by exact ⟨by omega, by omega⟩)) (oI (by exact ⟨by omega, by omega⟩)))))
        have hF : (rdCntI a0) = ((0, 0, 0), false) := by
          rw [← rdCnt_eq]; first | (rw [rdCntS_eq rfl (by omega) (by omega) hz0 hz1 hz2]; first | (rw [if_pos ⟨⟨by assumption, by assumption, by assumption⟩, by assumption⟩]; done) | (rw [if_neg (fun hh => ff hh.1.1 (by assumption))]; done) | (rw [if_neg (fun hh => ff hh.1.2.1 (by assumption))]; done) | (rw [if_neg (fun hh => ff hh.1.2.2 (by assumption))]; done) | (rw [if_neg (fun hh => absurd hh.2 (by assumption))]; done)) | (unfold rdCntS; rw [if_neg (fun hh => by omega)]; done)
        exact ⟨_, by first | (rw [hF] <;> rfl) | rfl | (rw [hF]; simp only [Ending.returned.injEq, Value.slice.injEq, true_and, and_true]; first | omega | (simp; done)) | (rw [hF]; simp; omega), by rw [hF]; exact (HH207.o (i := 0) rfl), HH207.below⟩
    · refine pl_no HE118 (wtF HE118 rfl rfl rfl (not_t hc34)) rfl rfl fun a_208 HE209 => ?_
      refine pl_no HE209 (wtF HE209 rfl rfl rfl (not_t hc34)) rfl rfl fun a_210 HE211 => ?_
      refine pl_x HE211 HH112 (wt0 rfl) (x_pickT rfl (not_t hc34) rfl) rfl rfl fun a_212 HE213 => ?_
      refine pl_x HE213 HH112 (wt0 rfl) (x_move rfl) rfl rfl fun a_214 HE215 => ?_
      refine pl_no HE215 (wtF HE215 rfl rfl rfl rfl) rfl rfl fun a_216 HE217 => ?_
      refine pl_no HE217 (wtF HE217 rfl rfl rfl rfl) rfl rfl fun a_218 HE219 => ?_
      refine pl_x HE219 HH112 (wt0 rfl) (x_pickT rfl rfl rfl) rfl rfl fun a_220 HE221 => ?_
      refine pl_x HE221 HH112 (wt0 rfl) (x_move rfl) rfl rfl fun a_222 HE223 => ?_
      refine pl_no HE223 (wtF HE223 rfl rfl rfl rfl) rfl rfl fun a_224 HE225 => ?_
      refine pl_no HE225 (wtF HE225 rfl rfl rfl rfl) rfl rfl fun a_226 HE227 => ?_
      refine pl_no HE227 (wtF HE227 rfl rfl rfl rfl) rfl rfl fun a_228 HE229 => ?_
      refine pl_no HE229 (wtF HE229 rfl rfl rfl rfl) rfl rfl fun a_230 HE231 => ?_
      refine pl_x HE231 HH112 (wt0 rfl) (x_pickT rfl rfl rfl) rfl rfl fun a_232 HE233 => ?_
      refine wpList_nil ?_
      clear a_107 HE108 a_113 HE114 a_115 HE116 a_117 HE118 a_208 HE209 a_210 HE211 a_212 HE213 a_214 HE215 a_216 HE217 a_218 HE219 a_220 HE221 a_222 HE223 a_224 HE225 a_226 HE227 a_228 HE229 a_230 HE231
      refine nrm ?_
      refine cndT HE233 rfl rfl ?_
      refine wp_seq ?_
      refine rg ?_
      refine pl_x HE233 HH112 (wt0 rfl) (show XS _ _ _ _ (.agg #[.int .i64 (0), .int .i64 (0), .int .i64 (0)]) from x_build (vs := []) tb_29 rfl (by simp [Value.oneCell'])) rfl rfl fun a_234 HE235 => ?_
      refine pl fun K_236 hK237 => ?_
      refine st_store (vs := [.int .i64 (0), .int .i64 (0), .int .i64 (0)]) 2 HE235 HH112 tv_29 rfl rfl rfl rfl rfl rfl (by simp [Value.oneCell']) (wt0 rfl) fun w' HH238 => hK237 _ _ ?_
      refine pl_x HE235 HH238 (wt0 rfl) (x_assign rfl) rfl rfl fun a_239 HE240 => ?_
      refine wpList_nil ?_
      clear a_232 HE233 HH112 a_234 HE235 hK237 K_236
      refine nrm ?_
      refine wp_ret ?_
      refine (thn_ret ?_)
      refine ret2 HE240 rfl (rv_cell rfl (tv_29.loadN (cs := [.int .i64 (0), .int .i64 (0), .int .i64 (0)]) rfl (c_blkN 2 rfl _ HH238))) (rv_tmp rfl) ?_
      have HH241 := HH238.flatO (E := eCounters) (cs := [.int .i64 (0), .int .i64 (0), .int .i64 (0)]) (x := (0, 0, 0)) (fun _ => (oPrN (oI (by exact ⟨by omega, by omega⟩)) (oPrN (oI (by exact ⟨by omega, by omega⟩)) (oI (by exact ⟨by omega, by omega⟩)))))
      have hF : (rdCntI a0) = ((0, 0, 0), false) := by
        rw [← rdCnt_eq]; first | (rw [rdCntS_eq rfl (by omega) (by omega) hz0 hz1 hz2]; first | (rw [if_pos ⟨⟨by assumption, by assumption, by assumption⟩, by assumption⟩]; done) | (rw [if_neg (fun hh => ff hh.1.1 (by assumption))]; done) | (rw [if_neg (fun hh => ff hh.1.2.1 (by assumption))]; done) | (rw [if_neg (fun hh => ff hh.1.2.2 (by assumption))]; done) | (rw [if_neg (fun hh => absurd hh.2 (by assumption))]; done)) | (unfold rdCntS; rw [if_neg (fun hh => by omega)]; done)
      exact ⟨_, by first | (rw [hF] <;> rfl) | rfl | (rw [hF]; simp only [Ending.returned.injEq, Value.slice.injEq, true_and, and_true]; first | omega | (simp; done)) | (rw [hF]; simp; omega), by rw [hF]; exact (HH241.o (i := 0) rfl), HH241.below⟩

open Go.Lib in
set_option maxRecDepth 100000 in
set_option maxHeartbeats 4000000 in
theorem law_ReadCounters (a0 : List UInt8) (w : World) (h0 : a0.length ≤ 9223372036854775807) (hG : Glob2 w) :
    Calls Tryd.prog 4 #[.string (bs a0)] w fun e w' => e = .returned (.bool true) ∧ Below w.heap.size w w' := by
  have HH1 := Held.start Nob w
  refine enter (n := 29) Tryd.func4 rfl rfl rfl fun a_2 HE3 => ?_
  refine wp_seq ?_
  refine rg ?_
  refine pl_x HE3 HH1 (wt0 rfl) (x_assign rfl) rfl rfl fun a_4 HE5 => ?_
  refine wpList_nil ?_
  clear a_2 HE3
  refine nrm ?_
  refine wp_seq ?_
  refine wp_seq ?_
  refine rg ?_
  refine pl_x HE5 HH1 (wt0 rfl) (x_move rfl) rfl rfl fun a_6 HE7 => ?_
  refine pl_x HE7 HH1 (wt0 rfl) (x_lenB Tryd.underlying9 rfl) rfl rfl fun a_8 HE9 => ?_
  refine pl_x HE9 HH1 (wt0 rfl) (x_gtr rfl rfl) rfl rfl fun a_10 HE11 => ?_
  refine wpList_nil ?_
  clear a_4 HE5 a_6 HE7 a_8 HE9
  refine nrm ?_
  refine cnd_d HE11 rfl (fun hc21 => ?_) (fun hc21 => ?_)
  · refine wp_seq ?_
    refine rg ?_
    refine pl_x HE11 HH1 (wt0 rfl) (x_assign rfl) rfl rfl fun a_12 HE13 => ?_
    refine wpList_nil ?_
    clear a_10 HE11
    refine nrm ?_
    refine wp_ret ?_
    refine (thn_ret ?_)
    refine ret1 HE13 rfl (rv_tmp rfl) ?_
    have hF : true = true := by
      first | rfl | (exfalso; omega)
    exact ⟨by first | (rw [hF] <;> rfl) | rfl | (rw [hF]; simp only [Ending.returned.injEq, Value.slice.injEq, true_and, and_true]; first | omega | (simp; done)) | (rw [hF]; simp; omega), HH1.below⟩
  · refine wp_skip ?_
    refine nrm ?_
    refine wp_seq ?_
    refine rg ?_
    refine pl_x HE11 HH1 (wt0 rfl) (x_move rfl) rfl rfl fun a_14 HE15 => ?_
    refine pl fun K_16 hK17 => ?_
    refine st_call HE15 (wt0 rfl) rfl rfl rfl en_12 rfl rfl (spec_ReadCounters a0 _ (by omega)) fun e w' hr => ?_
    obtain ⟨esr22_0, rfl, hor22_0, hbr22⟩ := hr
    have hr := eCounters.read hor22_0
    obtain ⟨Sr22, HH18⟩ := HH1.newO hbr22 hor22_0
    obtain ⟨rfl, gr22_0_0, gr22_0_1, gr22_0_2⟩ := shape_Counters hr
    have jr22_0_0 := gr22_0_0; unfold I64 at jr22_0_0
    have jr22_0_1 := gr22_0_1; unfold I64 at jr22_0_1
    have jr22_0_2 := gr22_0_2; unfold I64 at jr22_0_2
    refine ⟨_, rfl, fun a_19 HE20 => hK17 _ _ ?_⟩
    refine pl_x HE20 HH18 (wt0 rfl) (x_move rfl) rfl rfl fun a_21 HE22 => ?_
    refine pl_x HE22 HH18 (wt0 rfl) (x_extract rfl rfl) rfl rfl fun a_23 HE24 => ?_
    refine pl_x HE24 HH18 (wt0 rfl) (x_extract rfl rfl) rfl rfl fun a_25 HE26 => ?_
    refine pl fun K_27 hK28 => ?_
    refine st_alloc HE26 HH18 tv_29 (wt0 rfl) rfl fun q23 a_29 w' HE30 HH31 => hK28 _ _ ?_
    refine pl fun K_32 hK33 => ?_
    refine st_store (vs := [.int .i64 ((rdCntI a0).1.1), .int .i64 ((rdCntI a0).1.2.1), .int .i64 ((rdCntI a0).1.2.2)]) 0 HE30 HH31 tv_29 rfl rfl rfl rfl rfl rfl (by simp [Value.oneCell']) (wt0 rfl) fun w' HH34 => hK33 _ _ ?_
    refine pl_x HE30 HH34 (wt0 rfl) (x_assign rfl) rfl rfl fun a_35 HE36 => ?_
    refine wpList_nil ?_
    clear a_10 HE11 HH1 a_14 HE15 a_19 HE20 a_21 HE22 a_23 HE24 K_16 hK17 a_25 HE26 HH18 K_27 hK28 HH31 a_29 HE30 hK33 K_32
    refine nrm ?_
    refine wp_seq ?_
    refine rg ?_
    refine pl_x HE36 HH34 (wt0 rfl) (x_move rfl) rfl rfl fun a_37 HE38 => ?_
    refine pl fun K_39 hK40 => ?_
    refine st_call HE38 (wt0 rfl) rfl rfl rfl en_13 rfl rfl (impl_ReadCounters a0 _ (HH34.glob2 hG) (by omega)) fun e w' hr => ?_
    obtain ⟨esr24_0, rfl, hor24_0, hbr24⟩ := hr
    have hr := eCounters.read hor24_0
    obtain ⟨Sr24, HH41⟩ := HH34.newO hbr24 hor24_0
    obtain ⟨rfl, gr24_0_0, gr24_0_1, gr24_0_2⟩ := shape_Counters hr
    have jr24_0_0 := gr24_0_0; unfold I64 at jr24_0_0
    have jr24_0_1 := gr24_0_1; unfold I64 at jr24_0_1
    have jr24_0_2 := gr24_0_2; unfold I64 at jr24_0_2
    refine ⟨_, rfl, fun a_42 HE43 => hK40 _ _ ?_⟩
    refine pl_x HE43 HH41 (wt0 rfl) (x_move rfl) rfl rfl fun a_44 HE45 => ?_
    refine pl_x HE45 HH41 (wt0 rfl) (x_extract rfl rfl) rfl rfl fun a_46 HE47 => ?_
    refine pl_x HE47 HH41 (wt0 rfl) (x_extract rfl rfl) rfl rfl fun a_48 HE49 => ?_
    refine pl fun K_50 hK51 => ?_
    refine st_alloc HE49 HH41 tv_29 (wt0 rfl) rfl fun q25 a_52 w' HE53 HH54 => hK51 _ _ ?_
    refine pl fun K_55 hK56 => ?_
    refine st_store (vs := [.int .i64 ((rdCntI a0).1.1), .int .i64 ((rdCntI a0).1.2.1), .int .i64 ((rdCntI a0).1.2.2)]) 0 HE53 HH54 tv_29 rfl rfl rfl rfl rfl rfl (by simp [Value.oneCell']) (wt0 rfl) fun w' HH57 => hK56 _ _ ?_
    refine pl_x HE53 HH57 (wt0 rfl) (x_assign rfl) rfl rfl fun a_58 HE59 => ?_
    refine wpList_nil ?_
    clear a_35 HE36 HH34 a_37 HE38 a_42 HE43 a_44 HE45 a_46 HE47 K_39 hK40 a_48 HE49 HH41 K_50 hK51 HH54 a_52 HE53 hK56 K_55
    refine nrm ?_
    refine wp_seq ?_
    refine wp_seq ?_
    refine rg ?_
    refine pl_x HE59 HH57 (wt0 rfl) (x_loadN (cs := [.int .i64 ((rdCntI a0).1.1), .int .i64 ((rdCntI a0).1.2.1), .int .i64 ((rdCntI a0).1.2.2)]) tv_29 rfl rfl (c_blkN 0 rfl)) rfl rfl fun a_60 HE61 => ?_
    refine pl_x HE61 HH57 (wt0 rfl) (x_loadN (cs := [.int .i64 ((rdCntI a0).1.1), .int .i64 ((rdCntI a0).1.2.1), .int .i64 ((rdCntI a0).1.2.2)]) tv_29 rfl rfl (c_blkN 2 rfl)) rfl rfl fun a_62 HE63 => ?_
    refine pl fun K_64 hK65 => ?_
    refine st_call HE63 (wt0 rfl) rfl rfl rfl en_14 rfl rfl (eq_Counters_c [.int .i64 ((rdCntI a0).1.1), .int .i64 ((rdCntI a0).1.2.1), .int .i64 ((rdCntI a0).1.2.2)] [.int .i64 ((rdCntI a0).1.1), .int .i64 ((rdCntI a0).1.2.1), .int .i64 ((rdCntI a0).1.2.2)] ((rdCntI a0).1) ((rdCntI a0).1) _ (HH57.rd (i := 1) rfl) (HH57.rd (i := 3) rfl)) fun e w' hr => ?_
    obtain ⟨rfl, hbr26⟩ := hr
    have HH66 := HH57.on hbr26
    clear hbr26
    refine ⟨_, rfl, fun a_67 HE68 => hK65 _ _ ?_⟩
    refine pl_x HE68 HH66 (wt0 rfl) (x_not rfl) rfl rfl fun a_69 HE70 => ?_
    refine pl_x HE70 HH66 (wt0 rfl) (x_move rfl) rfl rfl fun a_71 HE72 => ?_
    refine pl_x HE72 HH66 (wtT HE72 rfl rfl rfl (not_f (eq_Counters_refl _))) (x_move rfl) rfl rfl fun a_73 HE74 => ?_
    refine pl_x HE74 HH66 (wtT HE74 rfl rfl rfl (not_f (eq_Counters_refl _))) (x_move rfl) rfl rfl fun a_75 HE76 => ?_
    refine pl_x HE76 HH66 (wtT HE76 rfl rfl rfl (not_f (eq_Counters_refl _))) (x_bneq Tryd.underlying4 rfl rfl) rfl rfl fun a_77 HE78 => ?_
    refine pl_x HE78 HH66 (wt0 rfl) (x_pickF rfl (not_f (eq_Counters_refl _)) rfl) rfl rfl fun a_79 HE80 => ?_
    refine wpList_nil ?_
    clear a_58 HE59 a_60 HE61 HH57 a_62 HE63 a_67 HE68 a_69 HE70 a_71 HE72 a_73 HE74 a_75 HE76 a_77 HE78 hK65 K_64
    refine nrm ?_
    refine cndF HE80 rfl (not_f (beq_self_eq_true _)) ?_
    refine wp_skip ?_
    refine nrm ?_
    refine wp_seq ?_
    refine rg ?_
    refine pl_x HE80 HH66 (wt0 rfl) (x_assign rfl) rfl rfl fun a_81 HE82 => ?_
    refine wpList_nil ?_
    clear a_79 HE80
    refine nrm ?_
    refine wp_ret ?_
    refine ret1 HE82 rfl (rv_tmp rfl) ?_
    have hF : true = true := by
      first | rfl | (exfalso; omega)
    exact ⟨by first | (rw [hF] <;> rfl) | rfl | (rw [hF]; simp only [Ending.returned.injEq, Value.slice.injEq, true_and, and_true]; first | omega | (simp; done)) | (rw [hF]; simp; omega), HH66.below⟩

end Go.Proofs.YthknelhboibbnaaDoor
