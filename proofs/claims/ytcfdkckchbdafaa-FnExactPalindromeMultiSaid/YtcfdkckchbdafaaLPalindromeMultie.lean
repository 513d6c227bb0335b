/- What the proof of FnExactPalindromeMulti needs: contracts of the functions that it reaches, each once. -/
import Derived.Test.YtcfdkckchbdafaaProg
import Derived.Test.YtcfdkckchbdafaaQMem
import Derived.Test.YtcfdkckchbdafaaQOpen
import Derived.Test.YtcfdkckchbdafaaLPalindromeMultia
import Derived.Test.YtcfdkckchbdafaaLPalindromeMultib
import Derived.Test.YtcfdkckchbdafaaLPalindromeMultic
import Derived.Test.YtcfdkckchbdafaaLPalindromeMultid
import Derived.WalkKit
import Derived.WalkSpells
import Derived.Below
import Derived.LoopTactic
import Derived.Outline
import Derived.Deep.QuietTactic
import Derived.BigQuiet
import Derived.Deep.LoopGhost
import Derived.Handy
import Derived.Lib.Hide
import Derived.Shelf.Abstract
import Derived.StillTailTactics
import Derived.OwnWalk
import Derived.Maps.AppendAt
import Derived.RegionTactic
import Derived.Deep.RegionHeld3
import Derived.IntWalk
import Derived.Deep.Upon
import Derived.Laws.OwnMore
import Derived.Maps.AppendAt
import Derived.Lib.FrozenHead
import Derived.Lib.RuneBytes
import Derived.Lib.LaidTab
import Derived.Laws.StructEq
import Derived.Lib.ItoaLen
import Derived.Lib.Join
import Derived.Shelf.Strconv.Itoa4
import Derived.Shelf.Strings.OnBuilder
import Derived.Shelf.Strings.BuilderK
import Derived.Shelf.Strings.BuilderRune
import Derived.Shelf.LaysM
import Derived.Ground.NamesProg
import Derived.Shelf.SlSortCmp.WholeK
import Derived.Shelf.SlSortCmp.NoneTotal
import Derived.Lib.RowBridge
namespace Go.Proofs.Ytcfdkckchbdafaa
open Go.RowKit

set_option maxRecDepth 100000 in
set_option maxHeartbeats 4000000 in
theorem impl_PalindromeMulti (a0 : Int) (w : World)  :
    Calls Try.prog 38 #[.int .i64 a0] w fun e w' => ∃ (es0' : List Value), e = .returned (.tuple #[.agg es0'.toArray, .int .i64 (palMulti a0).2]) ∧ eMulti.O w' (Fr w w') es0' (palMulti a0).1 ∧ Below w.heap.size w w' := by
  have hcr : (copyRls a0).length = (a0 - 1).toNat := copyTo_len _
  have HH1 := Held.start Nob w
  refine enter (n := 39) Try.func38 rfl rfl rfl fun a_2 HE3 => ?_
  refine wp_seq ?_
  refine rg ?_
  refine pl fun K_4 hK5 => ?_
  refine st_alloc HE3 HH1 tv_55 (wt0 rfl) rfl fun q21 a_6 w' HE7 HH8 => hK5 _ _ ?_
  refine pl_x HE7 HH8 (wt0 rfl) (x_assign rfl) rfl rfl fun a_9 HE10 => ?_
  refine wpList_nil ?_
  clear a_2 HE3 HH1 a_6 HE7 hK5 K_4
  refine nrm ?_
  refine wp_seq ?_
  refine wp_seq ?_
  refine rg ?_
  refine pl_x HE10 HH8 (wt0 rfl) (x_move rfl) rfl rfl fun a_11 HE12 => ?_
  refine pl fun K_13 hK14 => ?_
  refine st_call HE12 (wt0 rfl) rfl rfl rfl en_72 rfl rfl (impl_within a0 2 3 _ ) fun e w' hr => ?_
  obtain ⟨rfl, rfl⟩ := hr
  refine ⟨_, rfl, fun a_15 HE16 => hK14 _ _ ?_⟩
  refine pl_x HE16 HH8 (wt0 rfl) (x_not rfl) rfl rfl fun a_17 HE18 => ?_
  refine wpList_nil ?_
  clear a_9 HE10 a_11 HE12 a_15 HE16 hK14 K_13
  refine nrm ?_
  refine cnd_nb HE18 rfl (fun hc23 => ?_) (fun hc23 => ?_)
  · refine wp_seq ?_
    refine rg ?_
    refine pl_x HE18 HH8 (wt0 rfl) (show XS _ _ _ _ (.agg #[.int .i64 (0), .int .i64 (0), .int .i64 (0), .slice none (0) 0]) from x_build (vs := []) tb_55 rfl (by simp [Value.oneCell'])) rfl rfl fun a_19 HE20 => ?_
    refine pl fun K_21 hK22 => ?_
    refine st_store (vs := [.int .i64 (0), .int .i64 (0), .int .i64 (0), .slice none (0) 0]) 0 HE20 HH8 tv_55 rfl rfl rfl rfl rfl rfl (by simp [Value.oneCell']) (wt0 rfl) fun w' HH23 => hK22 _ _ ?_
    refine pl_x HE20 HH23 (wt0 rfl) (x_assign rfl) rfl rfl fun a_24 HE25 => ?_
    refine wpList_nil ?_
    clear a_17 HE18 HH8 a_19 HE20 hK22 K_21
    refine nrm ?_
    refine wp_ret ?_
    refine (thn_ret ?_)
    refine ret2 HE25 rfl (rv_cell rfl (tv_55.loadN (cs := [.int .i64 (0), .int .i64 (0), .int .i64 (0), .slice none (0) 0]) rfl (c_blkN 0 rfl _ HH23))) (rv_tmp rfl) ?_
    have HH26 := HH23.flatO (E := eMulti) (cs := [.int .i64 (0), .int .i64 (0), .int .i64 (0), .slice none (0) 0]) (x := (0, 0, 0, [])) (fun _ => (oPrN (oI (by exact ⟨by omega, by omega⟩)) (oPrN (oI (by exact ⟨by omega, by omega⟩)) (oPrN (oI (by exact ⟨by omega, by omega⟩)) (oSl (So.nil (Nat.zero_le _)))))))
    have hF : (palMulti a0) = ((0, 0, 0, []), 2) := by
      first | (simp [palMulti, hc23]; done) | (unfold palMulti; rw [if_pos ‹_›, palS_sort (k := k) (by omega) (by omega)]; rfl)
    exact ⟨_, by first | (rw [hF] <;> rfl) | rfl | (rw [hF]; simp only [Ending.returned.injEq, Value.slice.injEq, true_and, and_true]; first | omega | (simp; done)) | (rw [hF]; simp; omega), by rw [hF]; exact (HH26.o (i := 0) rfl), HH26.below⟩
  · have v0 := withinB_true.1 hc23
    refine wp_skip ?_
    refine nrm ?_
    refine wp_seq ?_
    refine rg ?_
    refine pl_x HE18 HH8 (wt0 rfl) (x_move rfl) rfl rfl fun a_27 HE28 => ?_
    refine pl_x HE28 HH8 (wt0 rfl) (x_move rfl) rfl rfl fun a_29 HE30 => ?_
    refine pl fun K_31 hK32 => ?_
    refine st_call HE30 (wt0 rfl) rfl rfl rfl en_78 rfl rfl (impl_copyRules a0 _ (by omega)) fun e w' hr => ?_
    obtain ⟨Ar24_0, cr24_0, Sr24_0, rfl, hbr24⟩ := hr
    have HH33 := HH8.app hbr24
    clear hbr24
    have HH34 : Held Nob w ([rVec eMultiRule 108 Sr24_0 Ar24_0 cr24_0 (copyRls a0), rBlk q21 55 [.int .i64 (0), .int .i64 (0), .int .i64 (0), .slice none (0) 0]]) _ := HH33
    refine ⟨_, rfl, fun a_35 HE36 => hK32 _ _ ?_⟩
    refine pl_x HE36 HH34 (wt0 rfl) (show XS _ _ _ _ (.agg #[.int .i64 (2), .int .i64 (a0), .int .i64 (4), .slice Ar24_0 ((copyRls a0).length) cr24_0]) from x_build (vs := [(0, .int .i64 (2)), (1, .int .i64 (a0)), (2, .int .i64 (4)), (3, .slice Ar24_0 ((copyRls a0).length) cr24_0)]) tb_55 rfl (by simp [Value.oneCell'])) rfl rfl fun a_37 HE38 => ?_
    refine pl fun K_39 hK40 => ?_
    refine st_alloc HE38 HH34 tv_55 (wt0 rfl) rfl fun q25 a_41 w' HE42 HH43 => hK40 _ _ ?_
    refine pl fun K_44 hK45 => ?_
    refine st_store (vs := [.int .i64 (2), .int .i64 (a0), .int .i64 (4), .slice Ar24_0 ((copyRls a0).length) cr24_0]) 0 HE42 HH43 tv_55 rfl rfl rfl rfl rfl rfl (by simp [Value.oneCell']) (wt0 rfl) fun w' HH46 => hK45 _ _ ?_
    refine wpList_nil ?_
    clear a_17 HE18 a_27 HE28 HH8 HH33 a_29 HE30 a_35 HE36 K_31 hK32 a_37 HE38 HH34 K_39 hK40 HH43 hK45 K_44
    refine nrm ?_
    refine wp_seq ?_
    refine wp_join (fun a w' => ∃ (S50 : Nat → Prop), ∃ (A48 : Option Addr), ∃ (c49 : Nat), Env 39 [(0, .int .i64 (a0)), (2, .pointer (some ⟨q21, 0, none⟩)), (4, .pointer (some ⟨q25, 0, none⟩))] a ∧ Held Nob w [rVec eMultiRule 108 S50 A48 c49 ((copyRls a0) ++ ([(two6 0 0 0 (-1) 0 1), (two6 1 0 0 1 (-1) 2), (two6 2 0 0 0 0 3)] : List tMultiRule)), rBlk q25 55 [.int .i64 (2), .int .i64 (a0), .int .i64 (4), .slice A48 (((copyRls a0) ++ ([(two6 0 0 0 (-1) 0 1), (two6 1 0 0 1 (-1) 2), (two6 2 0 0 0 0 3)] : List tMultiRule)).length) c49], rBlk q21 55 [.int .i64 (0), .int .i64 (0), .int .i64 (0), .slice none (0) 0]] w') ?_ ?_
    · refine dr_start (Held Nob w [rBlk q21 55 [.int .i64 (0), .int .i64 (0), .int .i64 (0), .slice none (0) 0]]) 9 #[false, false, false, false, false, false, false, false, false] hmix rfl rfl HH46 (fun _ h => h.sel [2] (by decide) rfl) fun w' HH47 => ?_
      have HS48 := HH47.sel [2] (by decide) rfl
      refine dr_take (i := 0) (ls' := #[true, false, false, false, false, false, false, false, false]) HE42 HS48 rfl (by kernel_rfl) (by kernel_rfl) (by kernel_rfl) (fun _ _ _ h => h) rfl (wt0 rfl) (x_fieldAddr fa_55_3 rfl) rfl rfl fun a_49 HE50 => ?_
      refine dr_two (i := 1) (j := 2) (ls' := #[true, true, false, false, false, false, false, false, false]) (ls'' := #[true, false, true, false, false, false, false, false, false]) rfl rfl (by kernel_rfl) rfl rfl (fun K_51 hK52 => ?_) (fun K_51 hK52 => ?_)
      · refine st_x HE50 HH47 (wt0 rfl) (x_load1 tv_53 rfl (c_blk 0 rfl rfl)) rfl rfl fun a_53 HE54 => hK52 _ _ HS48 ?_
        refine dr_one (i := 2) (ls' := #[true, true, true, false, false, false, false, false, false]) rfl (by kernel_rfl) rfl fun K_55 hK56 => ?_
        refine st_call HE54 (wt0 rfl) rfl rfl rfl en_79 rfl rfl (impl_twoTapes 0 0 0 (-1) 0 1 _ (by omega) (by omega) (by omega) (by omega) (by omega) (by omega)) fun e w' hr => ?_
        obtain ⟨esr26_0, rfl, hor26_0, hbr26⟩ := hr
        have hr := eMultiRule.read hor26_0
        obtain ⟨Sr26, HH57⟩ := HH47.newO hbr26 hor26_0
        obtain ⟨Ar26_0_1, cr26_0_1, Ar26_0_2, cr26_0_2, Ar26_0_3, cr26_0_3, rfl, gr26_0_0, gr26_0_1, gr26_0_2, gr26_0_3, gr26_0_4⟩ := shape_MultiRule hr
        have jr26_0_0 := gr26_0_0; unfold I64 at jr26_0_0
        have jr26_0_4 := gr26_0_4; unfold I64 at jr26_0_4
        have HH58 := HH57.unF rfl
        obtain ⟨S27, S28, HH59⟩ := HH58.unP rfl
        have HH60 := HH59.sel [1, 0, 2, 3, 4] (by decide) rfl
        obtain ⟨S29, S30, HH61⟩ := HH60.unP rfl
        have HH62 := HH61.sel [1, 0, 2, 3, 4, 5] (by decide) rfl
        obtain ⟨S31, S32, HH63⟩ := HH62.unP rfl
        have HH64 := HH63.sel [1, 0, 2, 3, 4, 5, 6] (by decide) rfl
        have HH65 := HH64.sel [1, 2, 3, 4, 5, 6] (by decide) rfl
        refine ⟨_, rfl, fun a_66 HE67 => hK56 _ _ (by exact HH65.sel [5] (by decide) rfl) ?_⟩
        have HS68 := HH65.sel [5] (by decide) rfl
        refine dr_one (i := 3) (ls' := #[true, true, true, true, false, false, false, false, false]) rfl (by kernel_rfl) rfl fun K_69 hK70 => ?_
        refine st_call HE67 (wt0 rfl) rfl rfl rfl en_79 rfl rfl (impl_twoTapes 1 0 0 1 (-1) 2 _ (by omega) (by omega) (by omega) (by omega) (by omega) (by omega)) fun e w' hr => ?_
        obtain ⟨esr33_0, rfl, hor33_0, hbr33⟩ := hr
        have hr := eMultiRule.read hor33_0
        obtain ⟨Sr33, HH71⟩ := HH65.newO hbr33 hor33_0
        obtain ⟨Ar33_0_1, cr33_0_1, Ar33_0_2, cr33_0_2, Ar33_0_3, cr33_0_3, rfl, gr33_0_0, gr33_0_1, gr33_0_2, gr33_0_3, gr33_0_4⟩ := shape_MultiRule hr
        have jr33_0_0 := gr33_0_0; unfold I64 at jr33_0_0
        have jr33_0_4 := gr33_0_4; unfold I64 at jr33_0_4
        have HH72 := HH71.unF rfl
        obtain ⟨S34, S35, HH73⟩ := HH72.unP rfl
        have HH74 := HH73.sel [1, 0, 2, 3, 4, 5, 6, 7] (by decide) rfl
        obtain ⟨S36, S37, HH75⟩ := HH74.unP rfl
        have HH76 := HH75.sel [1, 0, 2, 3, 4, 5, 6, 7, 8] (by decide) rfl
        obtain ⟨S38, S39, HH77⟩ := HH76.unP rfl
        have HH78 := HH77.sel [1, 0, 2, 3, 4, 5, 6, 7, 8, 9] (by decide) rfl
        have HH79 := HH78.sel [1, 2, 3, 4, 5, 6, 7, 8, 9] (by decide) rfl
        refine ⟨_, rfl, fun a_80 HE81 => hK70 _ _ (by exact HH79.sel [8] (by decide) rfl) ?_⟩
        have HS82 := HH79.sel [8] (by decide) rfl
        refine dr_one (i := 4) (ls' := #[true, true, true, true, true, false, false, false, false]) rfl (by kernel_rfl) rfl fun K_83 hK84 => ?_
        refine st_call HE81 (wt0 rfl) rfl rfl rfl en_79 rfl rfl (impl_twoTapes 2 0 0 0 0 3 _ (by omega) (by omega) (by omega) (by omega) (by omega) (by omega)) fun e w' hr => ?_
        obtain ⟨esr40_0, rfl, hor40_0, hbr40⟩ := hr
        have hr := eMultiRule.read hor40_0
        obtain ⟨Sr40, HH85⟩ := HH79.newO hbr40 hor40_0
        obtain ⟨Ar40_0_1, cr40_0_1, Ar40_0_2, cr40_0_2, Ar40_0_3, cr40_0_3, rfl, gr40_0_0, gr40_0_1, gr40_0_2, gr40_0_3, gr40_0_4⟩ := shape_MultiRule hr
        have jr40_0_0 := gr40_0_0; unfold I64 at jr40_0_0
        have jr40_0_4 := gr40_0_4; unfold I64 at jr40_0_4
        have HH86 := HH85.unF rfl
        obtain ⟨S41, S42, HH87⟩ := HH86.unP rfl
        have HH88 := HH87.sel [1, 0, 2, 3, 4, 5, 6, 7, 8, 9, 10] (by decide) rfl
        obtain ⟨S43, S44, HH89⟩ := HH88.unP rfl
        have HH90 := HH89.sel [1, 0, 2, 3, 4, 5, 6, 7, 8, 9, 10, 11] (by decide) rfl
        obtain ⟨S45, S46, HH91⟩ := HH90.unP rfl
        have HH92 := HH91.sel [1, 0, 2, 3, 4, 5, 6, 7, 8, 9, 10, 11, 12] (by decide) rfl
        have HH93 := HH92.sel [1, 2, 3, 4, 5, 6, 7, 8, 9, 10, 11, 12] (by decide) rfl
        refine ⟨_, rfl, fun a_94 HE95 => hK84 _ _ (by exact HH93.sel [11] (by decide) rfl) ?_⟩
        have HS96 := HH93.sel [11] (by decide) rfl
        refine dr_one (i := 5) (ls' := #[true, true, true, true, true, true, false, false, false]) rfl (by kernel_rfl) rfl fun K_97 hK98 => ?_
        refine st_lit (m := 3) (cs := [.int .i64 ((two6 0 0 0 (-1) 0 1).1), .slice Ar26_0_1 ((two6 0 0 0 (-1) 0 1).2.1.length) cr26_0_1, .slice Ar26_0_2 ((two6 0 0 0 (-1) 0 1).2.2.1.length) cr26_0_2, .slice Ar26_0_3 ((two6 0 0 0 (-1) 0 1).2.2.2.1.length) cr26_0_3, .int .i64 ((two6 0 0 0 (-1) 0 1).2.2.2.2), .int .i64 ((two6 1 0 0 1 (-1) 2).1), .slice Ar33_0_1 ((two6 1 0 0 1 (-1) 2).2.1.length) cr33_0_1, .slice Ar33_0_2 ((two6 1 0 0 1 (-1) 2).2.2.1.length) cr33_0_2, .slice Ar33_0_3 ((two6 1 0 0 1 (-1) 2).2.2.2.1.length) cr33_0_3, .int .i64 ((two6 1 0 0 1 (-1) 2).2.2.2.2), .int .i64 ((two6 2 0 0 0 0 3).1), .slice Ar40_0_1 ((two6 2 0 0 0 0 3).2.1.length) cr40_0_1, .slice Ar40_0_2 ((two6 2 0 0 0 0 3).2.2.1.length) cr40_0_2, .slice Ar40_0_3 ((two6 2 0 0 0 0 3).2.2.2.1.length) cr40_0_3, .int .i64 ((two6 2 0 0 0 0 3).2.2.2.2)]) (e := 108) HE95 HH93 (run_lit ts_53 HE95 (vs := [.agg #[.int .i64 ((two6 0 0 0 (-1) 0 1).1), .slice Ar26_0_1 ((two6 0 0 0 (-1) 0 1).2.1.length) cr26_0_1, .slice Ar26_0_2 ((two6 0 0 0 (-1) 0 1).2.2.1.length) cr26_0_2, .slice Ar26_0_3 ((two6 0 0 0 (-1) 0 1).2.2.2.1.length) cr26_0_3, .int .i64 ((two6 0 0 0 (-1) 0 1).2.2.2.2)], .agg #[.int .i64 ((two6 1 0 0 1 (-1) 2).1), .slice Ar33_0_1 ((two6 1 0 0 1 (-1) 2).2.1.length) cr33_0_1, .slice Ar33_0_2 ((two6 1 0 0 1 (-1) 2).2.2.1.length) cr33_0_2, .slice Ar33_0_3 ((two6 1 0 0 1 (-1) 2).2.2.2.1.length) cr33_0_3, .int .i64 ((two6 1 0 0 1 (-1) 2).2.2.2.2)], .agg #[.int .i64 ((two6 2 0 0 0 0 3).1), .slice Ar40_0_1 ((two6 2 0 0 0 0 3).2.1.length) cr40_0_1, .slice Ar40_0_2 ((two6 2 0 0 0 0 3).2.2.1.length) cr40_0_2, .slice Ar40_0_3 ((two6 2 0 0 0 0 3).2.2.2.1.length) cr40_0_3, .int .i64 ((two6 2 0 0 0 0 3).2.2.2.2)]]) rfl rfl (by simp [Value.cells]) rfl (by decide)) (wt0 rfl) rfl rfl fun q47 a_99 w' HE100 HH101 => hK98 _ _ (by exact HH101.sel [12] (by decide) rfl) ?_
        have HS102 := HH101.sel [12] (by decide) rfl
        refine dr_one (i := 6) (ls' := #[true, true, true, true, true, true, true, false, false]) rfl (by kernel_rfl) rfl fun K_103 hK104 => ?_
        have HH105 := HH101.sel [9, 8, 7, 0, 1, 2, 3, 4, 5, 6, 10, 11, 12] (by decide) rfl
        have HH106 := HH105.sel [2, 0, 1, 3, 4, 5, 6, 7, 8, 9, 10, 11, 12] (by decide) rfl
        have HH107 := HH106.pairB (F := eInt) (c2 := [.int .i64 ((two6 0 0 0 (-1) 0 1).2.2.2.2)]) (y := (two6 0 0 0 (-1) 0 1).2.2.2.2) (oI (by exact ⟨by omega, by omega⟩))
        have HH108 := HH107.sel [2, 0, 1, 3, 4, 5, 6, 7, 8, 9, 10, 11, 12] (by decide) rfl
        have HH109 := HH108.pair
        have HH110 := HH109.sel [1, 0, 2, 3, 4, 5, 6, 7, 8, 9, 10, 11] (by decide) rfl
        have HH111 := HH110.pair
        have HH112 := HH111.pairF (E := eInt) (c1 := [.int .i64 ((two6 0 0 0 (-1) 0 1).1)]) (x := (two6 0 0 0 (-1) 0 1).1) (oI (by exact ⟨by omega, by omega⟩))
        obtain ⟨S51, HH113⟩ : ∃ S, Held Nob w (rO eMultiRule S [.int .i64 ((two6 0 0 0 (-1) 0 1).1), .slice Ar26_0_1 ((two6 0 0 0 (-1) 0 1).2.1.length) cr26_0_1, .slice Ar26_0_2 ((two6 0 0 0 (-1) 0 1).2.2.1.length) cr26_0_2, .slice Ar26_0_3 ((two6 0 0 0 (-1) 0 1).2.2.2.1.length) cr26_0_3, .int .i64 ((two6 0 0 0 (-1) 0 1).2.2.2.2)] (two6 0 0 0 (-1) 0 1) :: _) _ := ⟨_, HH112⟩
        have HH114 := HH113.sel [7, 6, 5, 0, 1, 2, 3, 4, 8, 9, 10] (by decide) rfl
        have HH115 := HH114.sel [2, 0, 1, 3, 4, 5, 6, 7, 8, 9, 10] (by decide) rfl
        have HH116 := HH115.pairB (F := eInt) (c2 := [.int .i64 ((two6 1 0 0 1 (-1) 2).2.2.2.2)]) (y := (two6 1 0 0 1 (-1) 2).2.2.2.2) (oI (by exact ⟨by omega, by omega⟩))
        have HH117 := HH116.sel [2, 0, 1, 3, 4, 5, 6, 7, 8, 9, 10] (by decide) rfl
        have HH118 := HH117.pair
        have HH119 := HH118.sel [1, 0, 2, 3, 4, 5, 6, 7, 8, 9] (by decide) rfl
        have HH120 := HH119.pair
        have HH121 := HH120.pairF (E := eInt) (c1 := [.int .i64 ((two6 1 0 0 1 (-1) 2).1)]) (x := (two6 1 0 0 1 (-1) 2).1) (oI (by exact ⟨by omega, by omega⟩))
        obtain ⟨S52, HH122⟩ : ∃ S, Held Nob w (rO eMultiRule S [.int .i64 ((two6 1 0 0 1 (-1) 2).1), .slice Ar33_0_1 ((two6 1 0 0 1 (-1) 2).2.1.length) cr33_0_1, .slice Ar33_0_2 ((two6 1 0 0 1 (-1) 2).2.2.1.length) cr33_0_2, .slice Ar33_0_3 ((two6 1 0 0 1 (-1) 2).2.2.2.1.length) cr33_0_3, .int .i64 ((two6 1 0 0 1 (-1) 2).2.2.2.2)] (two6 1 0 0 1 (-1) 2) :: _) _ := ⟨_, HH121⟩
        have HH123 := HH122.sel [5, 4, 3, 0, 1, 2, 6, 7, 8] (by decide) rfl
        have HH124 := HH123.sel [2, 0, 1, 3, 4, 5, 6, 7, 8] (by decide) rfl
        have HH125 := HH124.pairB (F := eInt) (c2 := [.int .i64 ((two6 2 0 0 0 0 3).2.2.2.2)]) (y := (two6 2 0 0 0 0 3).2.2.2.2) (oI (by exact ⟨by omega, by omega⟩))
        have HH126 := HH125.sel [2, 0, 1, 3, 4, 5, 6, 7, 8] (by decide) rfl
        have HH127 := HH126.pair
        have HH128 := HH127.sel [1, 0, 2, 3, 4, 5, 6, 7] (by decide) rfl
        have HH129 := HH128.pair
        have HH130 := HH129.pairF (E := eInt) (c1 := [.int .i64 ((two6 2 0 0 0 0 3).1)]) (x := (two6 2 0 0 0 0 3).1) (oI (by exact ⟨by omega, by omega⟩))
        obtain ⟨S53, HH131⟩ : ∃ S, Held Nob w (rO eMultiRule S [.int .i64 ((two6 2 0 0 0 0 3).1), .slice Ar40_0_1 ((two6 2 0 0 0 0 3).2.1.length) cr40_0_1, .slice Ar40_0_2 ((two6 2 0 0 0 0 3).2.2.1.length) cr40_0_2, .slice Ar40_0_3 ((two6 2 0 0 0 0 3).2.2.2.1.length) cr40_0_3, .int .i64 ((two6 2 0 0 0 0 3).2.2.2.2)] (two6 2 0 0 0 0 3) :: _) _ := ⟨_, HH130⟩
        have HH132 := HH131.sel [2, 1, 0, 3, 4, 5, 6] (by decide) rfl
        obtain ⟨S54, HH133⟩ := Held.vecLit (E := eMultiRule) (g := q47) (t := 108) (ps := [(S51, [.int .i64 ((two6 0 0 0 (-1) 0 1).1), .slice Ar26_0_1 ((two6 0 0 0 (-1) 0 1).2.1.length) cr26_0_1, .slice Ar26_0_2 ((two6 0 0 0 (-1) 0 1).2.2.1.length) cr26_0_2, .slice Ar26_0_3 ((two6 0 0 0 (-1) 0 1).2.2.2.1.length) cr26_0_3, .int .i64 ((two6 0 0 0 (-1) 0 1).2.2.2.2)], (two6 0 0 0 (-1) 0 1)), (S52, [.int .i64 ((two6 1 0 0 1 (-1) 2).1), .slice Ar33_0_1 ((two6 1 0 0 1 (-1) 2).2.1.length) cr33_0_1, .slice Ar33_0_2 ((two6 1 0 0 1 (-1) 2).2.2.1.length) cr33_0_2, .slice Ar33_0_3 ((two6 1 0 0 1 (-1) 2).2.2.2.1.length) cr33_0_3, .int .i64 ((two6 1 0 0 1 (-1) 2).2.2.2.2)], (two6 1 0 0 1 (-1) 2)), (S53, [.int .i64 ((two6 2 0 0 0 0 3).1), .slice Ar40_0_1 ((two6 2 0 0 0 0 3).2.1.length) cr40_0_1, .slice Ar40_0_2 ((two6 2 0 0 0 0 3).2.2.1.length) cr40_0_2, .slice Ar40_0_3 ((two6 2 0 0 0 0 3).2.2.2.1.length) cr40_0_3, .int .i64 ((two6 2 0 0 0 0 3).2.2.2.2)], (two6 2 0 0 0 0 3))]) HH132 (by unfold maxLen; simp)
        have HH134 : Held Nob w (rVec eMultiRule 108 S54 (some ⟨q47, 0, none⟩) 3 ([(two6 0 0 0 (-1) 0 1), (two6 1 0 0 1 (-1) 2), (two6 2 0 0 0 0 3)] : List tMultiRule) :: [rBlk q25 55 [.int .i64 (2), .int .i64 (a0), .int .i64 (4), .slice Ar24_0 ((copyRls a0).length) cr24_0], rVec eMultiRule 108 Sr24_0 Ar24_0 cr24_0 (copyRls a0), rBlk q21 55 [.int .i64 (0), .int .i64 (0), .int .i64 (0), .slice none (0) 0]]) _ := HH133
        refine st_appV (g := q47) one_MultiRule HE100 HH134 ts_53 [2, 0, 1, 3] (by decide) rfl rfl rfl (by unfold maxLen; first | omega | (simp; done) | (simp; omega)) (by first | omega | (simp; done) | (simp; omega)) (wt0 rfl) rfl fun A48 c49 S50 a_135 w' HE136 HH137 => hK104 _ _ (by exact HH137.sel [2] (by decide) rfl) ?_
        have lA48 : ((copyRls a0) ++ ([(two6 0 0 0 (-1) 0 1), (two6 1 0 0 1 (-1) 2), (two6 2 0 0 0 0 3)] : List tMultiRule)).length = List.length (copyRls a0) + List.length ([(two6 0 0 0 (-1) 0 1), (two6 1 0 0 1 (-1) 2), (two6 2 0 0 0 0 3)] : List tMultiRule) := List.length_append
        have HS138 := HH137.sel [2] (by decide) rfl
        refine dr_take (i := 7) (ls' := #[true, true, true, true, true, true, true, true, false]) HE136 HS138 rfl (by kernel_rfl) (by kernel_rfl) (by kernel_rfl) (fun _ _ _ h => h) rfl (wt0 rfl) (x_fieldAddr fa_55_3 rfl) rfl rfl fun a_139 HE140 => ?_
        refine dr_one (i := 8) (ls' := #[true, true, true, true, true, true, true, true, true]) rfl (by kernel_rfl) rfl fun K_141 hK142 => ?_
        refine st_store (vs := [.slice A48 (((copyRls a0) ++ ([(two6 0 0 0 (-1) 0 1), (two6 1 0 0 1 (-1) 2), (two6 2 0 0 0 0 3)] : List tMultiRule)).length) c49]) 1 HE140 HH137 tv_53 rfl rfl rfl rfl rfl rfl (by simp [Value.oneCell']) (wt0 rfl) fun w' HH143 => hK142 _ _ (by exact HH143.sel [2] (by decide) rfl) ?_
        have HS144 := HH143.sel [2] (by decide) rfl
        refine dr_done (by kernel_rfl) ?_
        clear HH46 a_41 HE42 a_49 HE50 K_51 hK52 HH47 HH57 HH58 HH59 HH60 HH61 HH62 HH63 HH64 a_53 HE54 HS48 K_55 hK56 HH65 HH71 HH72 HH73 HH74 HH75 HH76 HH77 HH78 a_66 HE67 HS68 K_69 hK70 HH79 HH85 HH86 HH87 HH88 HH89 HH90 HH91 HH92 a_80 HE81 HS82 K_83 hK84 a_94 HE95 HH93 HS96 K_97 hK98 HH101 HH105 HH106 HH107 HH108 HH109 HH110 HH111 HH112 HH113 HH114 HH115 HH116 HH117 HH118 HH119 HH120 HH121 HH122 HH123 HH124 HH125 HH126 HH127 HH128 HH129 HH130 HH131 HH132 HH133 a_99 HE100 HH134 HS102 a_135 HE136 K_103 hK104 HH137 HS138 hK142 K_141
        exact nrm ⟨_, _, _, HE140.sub ⟨rfl, rfl, rfl, trivial⟩, HH143.sel [0, 1, 2] (by decide) rfl⟩
      · refine st_call HE50 (wt0 rfl) rfl rfl rfl en_79 rfl rfl (impl_twoTapes 0 0 0 (-1) 0 1 _ (by omega) (by omega) (by omega) (by omega) (by omega) (by omega)) fun e w' hr => ?_
        obtain ⟨esr55_0, rfl, hor55_0, hbr55⟩ := hr
        have hr := eMultiRule.read hor55_0
        obtain ⟨Sr55, HH145⟩ := HH47.newO hbr55 hor55_0
        obtain ⟨Ar55_0_1, cr55_0_1, Ar55_0_2, cr55_0_2, Ar55_0_3, cr55_0_3, rfl, gr55_0_0, gr55_0_1, gr55_0_2, gr55_0_3, gr55_0_4⟩ := shape_MultiRule hr
        have jr55_0_0 := gr55_0_0; unfold I64 at jr55_0_0
        have jr55_0_4 := gr55_0_4; unfold I64 at jr55_0_4
        have HH146 := HH145.unF rfl
        obtain ⟨S56, S57, HH147⟩ := HH146.unP rfl
        have HH148 := HH147.sel [1, 0, 2, 3, 4] (by decide) rfl
        obtain ⟨S58, S59, HH149⟩ := HH148.unP rfl
        have HH150 := HH149.sel [1, 0, 2, 3, 4, 5] (by decide) rfl
        obtain ⟨S60, S61, HH151⟩ := HH150.unP rfl
        have HH152 := HH151.sel [1, 0, 2, 3, 4, 5, 6] (by decide) rfl
        have HH153 := HH152.sel [1, 2, 3, 4, 5, 6] (by decide) rfl
        refine ⟨_, rfl, fun a_154 HE155 => hK52 _ _ (by exact HH153.sel [5] (by decide) rfl) ?_⟩
        have HS156 := HH153.sel [5] (by decide) rfl
        refine dr_two (i := 1) (j := 3) (ls' := #[true, true, true, false, false, false, false, false, false]) (ls'' := #[true, false, true, true, false, false, false, false, false]) rfl rfl (by kernel_rfl) rfl rfl (fun K_157 hK158 => ?_) (fun K_157 hK158 => ?_)
        · refine st_x HE155 HH153 (wt0 rfl) (x_load1 tv_53 rfl (c_blk 3 rfl rfl)) rfl rfl fun a_159 HE160 => hK158 _ _ HS156 ?_
          refine dr_one (i := 3) (ls' := #[true, true, true, true, false, false, false, false, false]) rfl (by kernel_rfl) rfl fun K_161 hK162 => ?_
          refine st_call HE160 (wt0 rfl) rfl rfl rfl en_79 rfl rfl (impl_twoTapes 1 0 0 1 (-1) 2 _ (by omega) (by omega) (by omega) (by omega) (by omega) (by omega)) fun e w' hr => ?_
          obtain ⟨esr62_0, rfl, hor62_0, hbr62⟩ := hr
          have hr := eMultiRule.read hor62_0
          obtain ⟨Sr62, HH163⟩ := HH153.newO hbr62 hor62_0
          obtain ⟨Ar62_0_1, cr62_0_1, Ar62_0_2, cr62_0_2, Ar62_0_3, cr62_0_3, rfl, gr62_0_0, gr62_0_1, gr62_0_2, gr62_0_3, gr62_0_4⟩ := shape_MultiRule hr
          have jr62_0_0 := gr62_0_0; unfold I64 at jr62_0_0
          have jr62_0_4 := gr62_0_4; unfold I64 at jr62_0_4
          have HH164 := HH163.unF rfl
          obtain ⟨S63, S64, HH165⟩ := HH164.unP rfl
          have HH166 := HH165.sel [1, 0, 2, 3, 4, 5, 6, 7] (by decide) rfl
          obtain ⟨S65, S66, HH167⟩ := HH166.unP rfl
          have HH168 := HH167.sel [1, 0, 2, 3, 4, 5, 6, 7, 8] (by decide) rfl
          obtain ⟨S67, S68, HH169⟩ := HH168.unP rfl
          have HH170 := HH169.sel [1, 0, 2, 3, 4, 5, 6, 7, 8, 9] (by decide) rfl
          have HH171 := HH170.sel [1, 2, 3, 4, 5, 6, 7, 8, 9] (by decide) rfl
          refine ⟨_, rfl, fun a_172 HE173 => hK162 _ _ (by exact HH171.sel [8] (by decide) rfl) ?_⟩
          have HS174 := HH171.sel [8] (by decide) rfl
          refine dr_one (i := 4) (ls' := #[true, true, true, true, true, false, false, false, false]) rfl (by kernel_rfl) rfl fun K_175 hK176 => ?_
          refine st_call HE173 (wt0 rfl) rfl rfl rfl en_79 rfl rfl (impl_twoTapes 2 0 0 0 0 3 _ (by omega) (by omega) (by omega) (by omega) (by omega) (by omega)) fun e w' hr => ?_
          obtain ⟨esr69_0, rfl, hor69_0, hbr69⟩ := hr
          have hr := eMultiRule.read hor69_0
          obtain ⟨Sr69, HH177⟩ := HH171.newO hbr69 hor69_0
          obtain ⟨Ar69_0_1, cr69_0_1, Ar69_0_2, cr69_0_2, Ar69_0_3, cr69_0_3, rfl, gr69_0_0, gr69_0_1, gr69_0_2, gr69_0_3, gr69_0_4⟩ := shape_MultiRule hr
          have jr69_0_0 := gr69_0_0; unfold I64 at jr69_0_0
          have jr69_0_4 := gr69_0_4; unfold I64 at jr69_0_4
          have HH178 := HH177.unF rfl
          obtain ⟨S70, S71, HH179⟩ := HH178.unP rfl
          have HH180 := HH179.sel [1, 0, 2, 3, 4, 5, 6, 7, 8, 9, 10] (by decide) rfl
          obtain ⟨S72, S73, HH181⟩ := HH180.unP rfl
          have HH182 := HH181.sel [1, 0, 2, 3, 4, 5, 6, 7, 8, 9, 10, 11] (by decide) rfl
          obtain ⟨S74, S75, HH183⟩ := HH182.unP rfl
          have HH184 := HH183.sel [1, 0, 2, 3, 4, 5, 6, 7, 8, 9, 10, 11, 12] (by decide) rfl
          have HH185 := HH184.sel [1, 2, 3, 4, 5, 6, 7, 8, 9, 10, 11, 12] (by decide) rfl
          refine ⟨_, rfl, fun a_186 HE187 => hK176 _ _ (by exact HH185.sel [11] (by decide) rfl) ?_⟩
          have HS188 := HH185.sel [11] (by decide) rfl
          refine dr_one (i := 5) (ls' := #[true, true, true, true, true, true, false, false, false]) rfl (by kernel_rfl) rfl fun K_189 hK190 => ?_
          refine st_lit (m := 3) (cs := [.int .i64 ((two6 0 0 0 (-1) 0 1).1), .slice Ar55_0_1 ((two6 0 0 0 (-1) 0 1).2.1.length) cr55_0_1, .slice Ar55_0_2 ((two6 0 0 0 (-1) 0 1).2.2.1.length) cr55_0_2, .slice Ar55_0_3 ((two6 0 0 0 (-1) 0 1).2.2.2.1.length) cr55_0_3, .int .i64 ((two6 0 0 0 (-1) 0 1).2.2.2.2), .int .i64 ((two6 1 0 0 1 (-1) 2).1), .slice Ar62_0_1 ((two6 1 0 0 1 (-1) 2).2.1.length) cr62_0_1, .slice Ar62_0_2 ((two6 1 0 0 1 (-1) 2).2.2.1.length) cr62_0_2, .slice Ar62_0_3 ((two6 1 0 0 1 (-1) 2).2.2.2.1.length) cr62_0_3, .int .i64 ((two6 1 0 0 1 (-1) 2).2.2.2.2), .int .i64 ((two6 2 0 0 0 0 3).1), .slice Ar69_0_1 ((two6 2 0 0 0 0 3).2.1.length) cr69_0_1, .slice Ar69_0_2 ((two6 2 0 0 0 0 3).2.2.1.length) cr69_0_2, .slice Ar69_0_3 ((two6 2 0 0 0 0 3).2.2.2.1.length) cr69_0_3, .int .i64 ((two6 2 0 0 0 0 3).2.2.2.2)]) (e := 108) HE187 HH185 (run_lit ts_53 HE187 (vs := [.agg #[.int .i64 ((two6 0 0 0 (-1) 0 1).1), .slice Ar55_0_1 ((two6 0 0 0 (-1) 0 1).2.1.length) cr55_0_1, .slice Ar55_0_2 ((two6 0 0 0 (-1) 0 1).2.2.1.length) cr55_0_2, .slice Ar55_0_3 ((two6 0 0 0 (-1) 0 1).2.2.2.1.length) cr55_0_3, .int .i64 ((two6 0 0 0 (-1) 0 1).2.2.2.2)], .agg #[.int .i64 ((two6 1 0 0 1 (-1) 2).1), .slice Ar62_0_1 ((two6 1 0 0 1 (-1) 2).2.1.length) cr62_0_1, .slice Ar62_0_2 ((two6 1 0 0 1 (-1) 2).2.2.1.length) cr62_0_2, .slice Ar62_0_3 ((two6 1 0 0 1 (-1) 2).2.2.2.1.length) cr62_0_3, .int .i64 ((two6 1 0 0 1 (-1) 2).2.2.2.2)], .agg #[.int .i64 ((two6 2 0 0 0 0 3).1), .slice Ar69_0_1 ((two6 2 0 0 0 0 3).2.1.length) cr69_0_1, .slice Ar69_0_2 ((two6 2 0 0 0 0 3).2.2.1.length) cr69_0_2, .slice Ar69_0_3 ((two6 2 0 0 0 0 3).2.2.2.1.length) cr69_0_3, .int .i64 ((two6 2 0 0 0 0 3).2.2.2.2)]]) rfl rfl (by simp [Value.cells]) rfl (by decide)) (wt0 rfl) rfl rfl fun q76 a_191 w' HE192 HH193 => hK190 _ _ (by exact HH193.sel [12] (by decide) rfl) ?_
          have HS194 := HH193.sel [12] (by decide) rfl
          refine dr_one (i := 6) (ls' := #[true, true, true, true, true, true, true, false, false]) rfl (by kernel_rfl) rfl fun K_195 hK196 => ?_
          have HH197 := HH193.sel [9, 8, 7, 0, 1, 2, 3, 4, 5, 6, 10, 11, 12] (by decide) rfl
          have HH198 := HH197.sel [2, 0, 1, 3, 4, 5, 6, 7, 8, 9, 10, 11, 12] (by decide) rfl
          have HH199 := HH198.pairB (F := eInt) (c2 := [.int .i64 ((two6 0 0 0 (-1) 0 1).2.2.2.2)]) (y := (two6 0 0 0 (-1) 0 1).2.2.2.2) (oI (by exact ⟨by omega, by omega⟩))
          have HH200 := HH199.sel [2, 0, 1, 3, 4, 5, 6, 7, 8, 9, 10, 11, 12] (by decide) rfl
          have HH201 := HH200.pair
          have HH202 := HH201.sel [1, 0, 2, 3, 4, 5, 6, 7, 8, 9, 10, 11] (by decide) rfl
          have HH203 := HH202.pair
          have HH204 := HH203.pairF (E := eInt) (c1 := [.int .i64 ((two6 0 0 0 (-1) 0 1).1)]) (x := (two6 0 0 0 (-1) 0 1).1) (oI (by exact ⟨by omega, by omega⟩))
          obtain ⟨S80, HH205⟩ : ∃ S, Held Nob w (rO eMultiRule S [.int .i64 ((two6 0 0 0 (-1) 0 1).1), .slice Ar55_0_1 ((two6 0 0 0 (-1) 0 1).2.1.length) cr55_0_1, .slice Ar55_0_2 ((two6 0 0 0 (-1) 0 1).2.2.1.length) cr55_0_2, .slice Ar55_0_3 ((two6 0 0 0 (-1) 0 1).2.2.2.1.length) cr55_0_3, .int .i64 ((two6 0 0 0 (-1) 0 1).2.2.2.2)] (two6 0 0 0 (-1) 0 1) :: _) _ := ⟨_, HH204⟩
          have HH206 := HH205.sel [7, 6, 5, 0, 1, 2, 3, 4, 8, 9, 10] (by decide) rfl
          have HH207 := HH206.sel [2, 0, 1, 3, 4, 5, 6, 7, 8, 9, 10] (by decide) rfl
          have HH208 := HH207.pairB (F := eInt) (c2 := [.int .i64 ((two6 1 0 0 1 (-1) 2).2.2.2.2)]) (y := (two6 1 0 0 1 (-1) 2).2.2.2.2) (oI (by exact ⟨by omega, by omega⟩))
          have HH209 := HH208.sel [2, 0, 1, 3, 4, 5, 6, 7, 8, 9, 10] (by decide) rfl
          have HH210 := HH209.pair
          have HH211 := HH210.sel [1, 0, 2, 3, 4, 5, 6, 7, 8, 9] (by decide) rfl
          have HH212 := HH211.pair
          have HH213 := HH212.pairF (E := eInt) (c1 := [.int .i64 ((two6 1 0 0 1 (-1) 2).1)]) (x := (two6 1 0 0 1 (-1) 2).1) (oI (by exact ⟨by omega, by omega⟩))
          obtain ⟨S81, HH214⟩ : ∃ S, Held Nob w (rO eMultiRule S [.int .i64 ((two6 1 0 0 1 (-1) 2).1), .slice Ar62_0_1 ((two6 1 0 0 1 (-1) 2).2.1.length) cr62_0_1, .slice Ar62_0_2 ((two6 1 0 0 1 (-1) 2).2.2.1.length) cr62_0_2, .slice Ar62_0_3 ((two6 1 0 0 1 (-1) 2).2.2.2.1.length) cr62_0_3, .int .i64 ((two6 1 0 0 1 (-1) 2).2.2.2.2)] (two6 1 0 0 1 (-1) 2) :: _) _ := ⟨_, HH213⟩
          have HH215 := HH214.sel [5, 4, 3, 0, 1, 2, 6, 7, 8] (by decide) rfl
          have HH216 := HH215.sel [2, 0, 1, 3, 4, 5, 6, 7, 8] (by decide) rfl
          have HH217 := HH216.pairB (F := eInt) (c2 := [.int .i64 ((two6 2 0 0 0 0 3).2.2.2.2)]) (y := (two6 2 0 0 0 0 3).2.2.2.2) (oI (by exact ⟨by omega, by omega⟩))
          have HH218 := HH217.sel [2, 0, 1, 3, 4, 5, 6, 7, 8] (by decide) rfl
          have HH219 := HH218.pair
          have HH220 := HH219.sel [1, 0, 2, 3, 4, 5, 6, 7] (by decide) rfl
          have HH221 := HH220.pair
          have HH222 := HH221.pairF (E := eInt) (c1 := [.int .i64 ((two6 2 0 0 0 0 3).1)]) (x := (two6 2 0 0 0 0 3).1) (oI (by exact ⟨by omega, by omega⟩))
          obtain ⟨S82, HH223⟩ : ∃ S, Held Nob w (rO eMultiRule S [.int .i64 ((two6 2 0 0 0 0 3).1), .slice Ar69_0_1 ((two6 2 0 0 0 0 3).2.1.length) cr69_0_1, .slice Ar69_0_2 ((two6 2 0 0 0 0 3).2.2.1.length) cr69_0_2, .slice Ar69_0_3 ((two6 2 0 0 0 0 3).2.2.2.1.length) cr69_0_3, .int .i64 ((two6 2 0 0 0 0 3).2.2.2.2)] (two6 2 0 0 0 0 3) :: _) _ := ⟨_, HH222⟩
          have HH224 := HH223.sel [2, 1, 0, 3, 4, 5, 6] (by decide) rfl
          obtain ⟨S83, HH225⟩ := Held.vecLit (E := eMultiRule) (g := q76) (t := 108) (ps := [(S80, [.int .i64 ((two6 0 0 0 (-1) 0 1).1), .slice Ar55_0_1 ((two6 0 0 0 (-1) 0 1).2.1.length) cr55_0_1, .slice Ar55_0_2 ((two6 0 0 0 (-1) 0 1).2.2.1.length) cr55_0_2, .slice Ar55_0_3 ((two6 0 0 0 (-1) 0 1).2.2.2.1.length) cr55_0_3, .int .i64 ((two6 0 0 0 (-1) 0 1).2.2.2.2)], (two6 0 0 0 (-1) 0 1)), (S81, [.int .i64 ((two6 1 0 0 1 (-1) 2).1), .slice Ar62_0_1 ((two6 1 0 0 1 (-1) 2).2.1.length) cr62_0_1, .slice Ar62_0_2 ((two6 1 0 0 1 (-1) 2).2.2.1.length) cr62_0_2, .slice Ar62_0_3 ((two6 1 0 0 1 (-1) 2).2.2.2.1.length) cr62_0_3, .int .i64 ((two6 1 0 0 1 (-1) 2).2.2.2.2)], (two6 1 0 0 1 (-1) 2)), (S82, [.int .i64 ((two6 2 0 0 0 0 3).1), .slice Ar69_0_1 ((two6 2 0 0 0 0 3).2.1.length) cr69_0_1, .slice Ar69_0_2 ((two6 2 0 0 0 0 3).2.2.1.length) cr69_0_2, .slice Ar69_0_3 ((two6 2 0 0 0 0 3).2.2.2.1.length) cr69_0_3, .int .i64 ((two6 2 0 0 0 0 3).2.2.2.2)], (two6 2 0 0 0 0 3))]) HH224 (by unfold maxLen; simp)
          have HH226 : Held Nob w (rVec eMultiRule 108 S83 (some ⟨q76, 0, none⟩) 3 ([(two6 0 0 0 (-1) 0 1), (two6 1 0 0 1 (-1) 2), (two6 2 0 0 0 0 3)] : List tMultiRule) :: [rBlk q25 55 [.int .i64 (2), .int .i64 (a0), .int .i64 (4), .slice Ar24_0 ((copyRls a0).length) cr24_0], rVec eMultiRule 108 Sr24_0 Ar24_0 cr24_0 (copyRls a0), rBlk q21 55 [.int .i64 (0), .int .i64 (0), .int .i64 (0), .slice none (0) 0]]) _ := HH225
          refine st_appV (g := q76) one_MultiRule HE192 HH226 ts_53 [2, 0, 1, 3] (by decide) rfl rfl rfl (by unfold maxLen; first | omega | (simp; done) | (simp; omega)) (by first | omega | (simp; done) | (simp; omega)) (wt0 rfl) rfl fun A77 c78 S79 a_227 w' HE228 HH229 => hK196 _ _ (by exact HH229.sel [2] (by decide) rfl) ?_
          have lA77 : ((copyRls a0) ++ ([(two6 0 0 0 (-1) 0 1), (two6 1 0 0 1 (-1) 2), (two6 2 0 0 0 0 3)] : List tMultiRule)).length = List.length (copyRls a0) + List.length ([(two6 0 0 0 (-1) 0 1), (two6 1 0 0 1 (-1) 2), (two6 2 0 0 0 0 3)] : List tMultiRule) := List.length_append
          have HS230 := HH229.sel [2] (by decide) rfl
          refine dr_take (i := 7) (ls' := #[true, true, true, true, true, true, true, true, false]) HE228 HS230 rfl (by kernel_rfl) (by kernel_rfl) (by kernel_rfl) (fun _ _ _ h => h) rfl (wt0 rfl) (x_fieldAddr fa_55_3 rfl) rfl rfl fun a_231 HE232 => ?_
          refine dr_one (i := 8) (ls' := #[true, true, true, true, true, true, true, true, true]) rfl (by kernel_rfl) rfl fun K_233 hK234 => ?_
          refine st_store (vs := [.slice A77 (((copyRls a0) ++ ([(two6 0 0 0 (-1) 0 1), (two6 1 0 0 1 (-1) 2), (two6 2 0 0 0 0 3)] : List tMultiRule)).length) c78]) 1 HE232 HH229 tv_53 rfl rfl rfl rfl rfl rfl (by simp [Value.oneCell']) (wt0 rfl) fun w' HH235 => hK234 _ _ (by exact HH235.sel [2] (by decide) rfl) ?_
          have HS236 := HH235.sel [2] (by decide) rfl
          refine dr_done (by kernel_rfl) ?_
          clear HH46 a_41 HE42 HH47 HH145 HH146 HH147 HH148 HH149 HH150 HH151 HH152 a_49 HE50 HS48 K_51 hK52 a_154 HE155 K_157 hK158 HH153 HH163 HH164 HH165 HH166 HH167 HH168 HH169 HH170 a_159 HE160 HS156 K_161 hK162 HH171 HH177 HH178 HH179 HH180 HH181 HH182 HH183 HH184 a_172 HE173 HS174 K_175 hK176 a_186 HE187 HH185 HS188 K_189 hK190 HH193 HH197 HH198 HH199 HH200 HH201 HH202 HH203 HH204 HH205 HH206 HH207 HH208 HH209 HH210 HH211 HH212 HH213 HH214 HH215 HH216 HH217 HH218 HH219 HH220 HH221 HH222 HH223 HH224 HH225 a_191 HE192 HH226 HS194 a_227 HE228 K_195 hK196 HH229 HS230 hK234 K_233
          exact nrm ⟨_, _, _, HE232.sub ⟨rfl, rfl, rfl, trivial⟩, HH235.sel [0, 1, 2] (by decide) rfl⟩
        · refine st_call HE155 (wt0 rfl) rfl rfl rfl en_79 rfl rfl (impl_twoTapes 1 0 0 1 (-1) 2 _ (by omega) (by omega) (by omega) (by omega) (by omega) (by omega)) fun e w' hr => ?_
          obtain ⟨esr84_0, rfl, hor84_0, hbr84⟩ := hr
          have hr := eMultiRule.read hor84_0
          obtain ⟨Sr84, HH237⟩ := HH153.newO hbr84 hor84_0
          obtain ⟨Ar84_0_1, cr84_0_1, Ar84_0_2, cr84_0_2, Ar84_0_3, cr84_0_3, rfl, gr84_0_0, gr84_0_1, gr84_0_2, gr84_0_3, gr84_0_4⟩ := shape_MultiRule hr
          have jr84_0_0 := gr84_0_0; unfold I64 at jr84_0_0
          have jr84_0_4 := gr84_0_4; unfold I64 at jr84_0_4
          have HH238 := HH237.unF rfl
          obtain ⟨S85, S86, HH239⟩ := HH238.unP rfl
          have HH240 := HH239.sel [1, 0, 2, 3, 4, 5, 6, 7] (by decide) rfl
          obtain ⟨S87, S88, HH241⟩ := HH240.unP rfl
          have HH242 := HH241.sel [1, 0, 2, 3, 4, 5, 6, 7, 8] (by decide) rfl
          obtain ⟨S89, S90, HH243⟩ := HH242.unP rfl
          have HH244 := HH243.sel [1, 0, 2, 3, 4, 5, 6, 7, 8, 9] (by decide) rfl
          have HH245 := HH244.sel [1, 2, 3, 4, 5, 6, 7, 8, 9] (by decide) rfl
          refine ⟨_, rfl, fun a_246 HE247 => hK158 _ _ (by exact HH245.sel [8] (by decide) rfl) ?_⟩
          have HS248 := HH245.sel [8] (by decide) rfl
          refine dr_two (i := 1) (j := 4) (ls' := #[true, true, true, true, false, false, false, false, false]) (ls'' := #[true, false, true, true, true, false, false, false, false]) rfl rfl (by kernel_rfl) rfl rfl (fun K_249 hK250 => ?_) (fun K_249 hK250 => ?_)
          · refine st_x HE247 HH245 (wt0 rfl) (x_load1 tv_53 rfl (c_blk 6 rfl rfl)) rfl rfl fun a_251 HE252 => hK250 _ _ HS248 ?_
            refine dr_one (i := 4) (ls' := #[true, true, true, true, true, false, false, false, false]) rfl (by kernel_rfl) rfl fun K_253 hK254 => ?_
            refine st_call HE252 (wt0 rfl) rfl rfl rfl en_79 rfl rfl (impl_twoTapes 2 0 0 0 0 3 _ (by omega) (by omega) (by omega) (by omega) (by omega) (by omega)) fun e w' hr => ?_
            obtain ⟨esr91_0, rfl, hor91_0, hbr91⟩ := hr
            have hr := eMultiRule.read hor91_0
            obtain ⟨Sr91, HH255⟩ := HH245.newO hbr91 hor91_0
            obtain ⟨Ar91_0_1, cr91_0_1, Ar91_0_2, cr91_0_2, Ar91_0_3, cr91_0_3, rfl, gr91_0_0, gr91_0_1, gr91_0_2, gr91_0_3, gr91_0_4⟩ := shape_MultiRule hr
            have jr91_0_0 := gr91_0_0; unfold I64 at jr91_0_0
            have jr91_0_4 := gr91_0_4; unfold I64 at jr91_0_4
            have HH256 := HH255.unF rfl
            obtain ⟨S92, S93, HH257⟩ := HH256.unP rfl
            have HH258 := HH257.sel [1, 0, 2, 3, 4, 5, 6, 7, 8, 9, 10] (by decide) rfl
            obtain ⟨S94, S95, HH259⟩ := HH258.unP rfl
            have HH260 := HH259.sel [1, 0, 2, 3, 4, 5, 6, 7, 8, 9, 10, 11] (by decide) rfl
            obtain ⟨S96, S97, HH261⟩ := HH260.unP rfl
            have HH262 := HH261.sel [1, 0, 2, 3, 4, 5, 6, 7, 8, 9, 10, 11, 12] (by decide) rfl
            have HH263 := HH262.sel [1, 2, 3, 4, 5, 6, 7, 8, 9, 10, 11, 12] (by decide) rfl
            refine ⟨_, rfl, fun a_264 HE265 => hK254 _ _ (by exact HH263.sel [11] (by decide) rfl) ?_⟩
            have HS266 := HH263.sel [11] (by decide) rfl
            refine dr_one (i := 5) (ls' := #[true, true, true, true, true, true, false, false, false]) rfl (by kernel_rfl) rfl fun K_267 hK268 => ?_
            refine st_lit (m := 3) (cs := [.int .i64 ((two6 0 0 0 (-1) 0 1).1), .slice Ar55_0_1 ((two6 0 0 0 (-1) 0 1).2.1.length) cr55_0_1, .slice Ar55_0_2 ((two6 0 0 0 (-1) 0 1).2.2.1.length) cr55_0_2, .slice Ar55_0_3 ((two6 0 0 0 (-1) 0 1).2.2.2.1.length) cr55_0_3, .int .i64 ((two6 0 0 0 (-1) 0 1).2.2.2.2), .int .i64 ((two6 1 0 0 1 (-1) 2).1), .slice Ar84_0_1 ((two6 1 0 0 1 (-1) 2).2.1.length) cr84_0_1, .slice Ar84_0_2 ((two6 1 0 0 1 (-1) 2).2.2.1.length) cr84_0_2, .slice Ar84_0_3 ((two6 1 0 0 1 (-1) 2).2.2.2.1.length) cr84_0_3, .int .i64 ((two6 1 0 0 1 (-1) 2).2.2.2.2), .int .i64 ((two6 2 0 0 0 0 3).1), .slice Ar91_0_1 ((two6 2 0 0 0 0 3).2.1.length) cr91_0_1, .slice Ar91_0_2 ((two6 2 0 0 0 0 3).2.2.1.length) cr91_0_2, .slice Ar91_0_3 ((two6 2 0 0 0 0 3).2.2.2.1.length) cr91_0_3, .int .i64 ((two6 2 0 0 0 0 3).2.2.2.2)]) (e := 108) HE265 HH263 (run_lit ts_53 HE265 (vs := [.agg #[.int .i64 ((two6 0 0 0 (-1) 0 1).1), .slice Ar55_0_1 ((two6 0 0 0 (-1) 0 1).2.1.length) cr55_0_1, .slice Ar55_0_2 ((two6 0 0 0 (-1) 0 1).2.2.1.length) cr55_0_2, .slice Ar55_0_3 ((two6 0 0 0 (-1) 0 1).2.2.2.1.length) cr55_0_3, .int .i64 ((two6 0 0 0 (-1) 0 1).2.2.2.2)], .agg #[.int .i64 ((two6 1 0 0 1 (-1) 2).1), .slice Ar84_0_1 ((two6 1 0 0 1 (-1) 2).2.1.length) cr84_0_1, .slice Ar84_0_2 ((two6 1 0 0 1 (-1) 2).2.2.1.length) cr84_0_2, .slice Ar84_0_3 ((two6 1 0 0 1 (-1) 2).2.2.2.1.length) cr84_0_3, .int .i64 ((two6 1 0 0 1 (-1) 2).2.2.2.2)], .agg #[.int .i64 ((two6 2 0 0 0 0 3).1), .slice Ar91_0_1 ((two6 2 0 0 0 0 3).2.1.length) cr91_0_1, .slice Ar91_0_2 ((two6 2 0 0 0 0 3).2.2.1.length) cr91_0_2, .slice Ar91_0_3 ((two6 2 0 0 0 0 3).2.2.2.1.length) cr91_0_3, .int .i64 ((two6 2 0 0 0 0 3).2.2.2.2)]]) rfl rfl (by simp [Value.cells]) rfl (by decide)) (wt0 rfl) rfl rfl fun q98 a_269 w' HE270 HH271 => hK268 _ _ (by exact HH271.sel [12] (by decide) rfl) ?_
            have HS272 := HH271.sel [12] (by decide) rfl
            refine dr_one (i := 6) (ls' := #[true, true, true, true, true, true, true, false, false]) rfl (by kernel_rfl) rfl fun K_273 hK274 => ?_
            have HH275 := HH271.sel [9, 8, 7, 0, 1, 2, 3, 4, 5, 6, 10, 11, 12] (by decide) rfl
            have HH276 := HH275.sel [2, 0, 1, 3, 4, 5, 6, 7, 8, 9, 10, 11, 12] (by decide) rfl
            have HH277 := HH276.pairB (F := eInt) (c2 := [.int .i64 ((two6 0 0 0 (-1) 0 1).2.2.2.2)]) (y := (two6 0 0 0 (-1) 0 1).2.2.2.2) (oI (by exact ⟨by omega, by omega⟩))
            have HH278 := HH277.sel [2, 0, 1, 3, 4, 5, 6, 7, 8, 9, 10, 11, 12] (by decide) rfl
            have HH279 := HH278.pair
            have HH280 := HH279.sel [1, 0, 2, 3, 4, 5, 6, 7, 8, 9, 10, 11] (by decide) rfl
            have HH281 := HH280.pair
            have HH282 := HH281.pairF (E := eInt) (c1 := [.int .i64 ((two6 0 0 0 (-1) 0 1).1)]) (x := (two6 0 0 0 (-1) 0 1).1) (oI (by exact ⟨by omega, by omega⟩))
            obtain ⟨S102, HH283⟩ : ∃ S, Held Nob w (rO eMultiRule S [.int .i64 ((two6 0 0 0 (-1) 0 1).1), .slice Ar55_0_1 ((two6 0 0 0 (-1) 0 1).2.1.length) cr55_0_1, .slice Ar55_0_2 ((two6 0 0 0 (-1) 0 1).2.2.1.length) cr55_0_2, .slice Ar55_0_3 ((two6 0 0 0 (-1) 0 1).2.2.2.1.length) cr55_0_3, .int .i64 ((two6 0 0 0 (-1) 0 1).2.2.2.2)] (two6 0 0 0 (-1) 0 1) :: _) _ := ⟨_, HH282⟩
            have HH284 := HH283.sel [7, 6, 5, 0, 1, 2, 3, 4, 8, 9, 10] (by decide) rfl
            have HH285 := HH284.sel [2, 0, 1, 3, 4, 5, 6, 7, 8, 9, 10] (by decide) rfl
            have HH286 := HH285.pairB (F := eInt) (c2 := [.int .i64 ((two6 1 0 0 1 (-1) 2).2.2.2.2)]) (y := (two6 1 0 0 1 (-1) 2).2.2.2.2) (oI (by exact ⟨by omega, by omega⟩))
            have HH287 := HH286.sel [2, 0, 1, 3, 4, 5, 6, 7, 8, 9, 10] (by decide) rfl
            have HH288 := HH287.pair
            have HH289 := HH288.sel [1, 0, 2, 3, 4, 5, 6, 7, 8, 9] (by decide) rfl
            have HH290 := HH289.pair
            have HH291 := HH290.pairF (E := eInt) (c1 := [.int .i64 ((two6 1 0 0 1 (-1) 2).1)]) (x := (two6 1 0 0 1 (-1) 2).1) (oI (by exact ⟨by omega, by omega⟩))
            obtain ⟨S103, HH292⟩ : ∃ S, Held Nob w (rO eMultiRule S [.int .i64 ((two6 1 0 0 1 (-1) 2).1), .slice Ar84_0_1 ((two6 1 0 0 1 (-1) 2).2.1.length) cr84_0_1, .slice Ar84_0_2 ((two6 1 0 0 1 (-1) 2).2.2.1.length) cr84_0_2, .slice Ar84_0_3 ((two6 1 0 0 1 (-1) 2).2.2.2.1.length) cr84_0_3, .int .i64 ((two6 1 0 0 1 (-1) 2).2.2.2.2)] (two6 1 0 0 1 (-1) 2) :: _) _ := ⟨_, HH291⟩
            have HH293 := HH292.sel [5, 4, 3, 0, 1, 2, 6, 7, 8] (by decide) rfl
            have HH294 := HH293.sel [2, 0, 1, 3, 4, 5, 6, 7, 8] (by decide) rfl
            have HH295 := HH294.pairB (F := eInt) (c2 := [.int .i64 ((two6 2 0 0 0 0 3).2.2.2.2)]) (y := (two6 2 0 0 0 0 3).2.2.2.2) (oI (by exact ⟨by omega, by omega⟩))
            have HH296 := HH295.sel [2, 0, 1, 3, 4, 5, 6, 7, 8] (by decide) rfl
            have HH297 := HH296.pair
            have HH298 := HH297.sel [1, 0, 2, 3, 4, 5, 6, 7] (by decide) rfl
            have HH299 := HH298.pair
            have HH300 := HH299.pairF (E := eInt) (c1 := [.int .i64 ((two6 2 0 0 0 0 3).1)]) (x := (two6 2 0 0 0 0 3).1) (oI (by exact ⟨by omega, by omega⟩))
            obtain ⟨S104, HH301⟩ : ∃ S, Held Nob w (rO eMultiRule S [.int .i64 ((two6 2 0 0 0 0 3).1), .slice Ar91_0_1 ((two6 2 0 0 0 0 3).2.1.length) cr91_0_1, .slice Ar91_0_2 ((two6 2 0 0 0 0 3).2.2.1.length) cr91_0_2, .slice Ar91_0_3 ((two6 2 0 0 0 0 3).2.2.2.1.length) cr91_0_3, .int .i64 ((two6 2 0 0 0 0 3).2.2.2.2)] (two6 2 0 0 0 0 3) :: _) _ := ⟨_, HH300⟩
            have HH302 := HH301.sel [2, 1, 0, 3, 4, 5, 6] (by decide) rfl
            obtain ⟨S105, HH303⟩ := Held.vecLit (E := eMultiRule) (g := q98) (t := 108) (ps := [(S102, [.int .i64 ((two6 0 0 0 (-1) 0 1).1), .slice Ar55_0_1 ((two6 0 0 0 (-1) 0 1).2.1.length) cr55_0_1, .slice Ar55_0_2 ((two6 0 0 0 (-1) 0 1).2.2.1.length) cr55_0_2, .slice Ar55_0_3 ((two6 0 0 0 (-1) 0 1).2.2.2.1.length) cr55_0_3, .int .i64 ((two6 0 0 0 (-1) 0 1).2.2.2.2)], (two6 0 0 0 (-1) 0 1)), (S103, [.int .i64 ((two6 1 0 0 1 (-1) 2).1), .slice Ar84_0_1 ((two6 1 0 0 1 (-1) 2).2.1.length) cr84_0_1, .slice Ar84_0_2 ((two6 1 0 0 1 (-1) 2).2.2.1.length) cr84_0_2, .slice Ar84_0_3 ((two6 1 0 0 1 (-1) 2).2.2.2.1.length) cr84_0_3, .int .i64 ((two6 1 0 0 1 (-1) 2).2.2.2.2)], (two6 1 0 0 1 (-1) 2)), (S104, [.int .i64 ((two6 2 0 0 0 0 3).1), .slice Ar91_0_1 ((two6 2 0 0 0 0 3).2.1.length) cr91_0_1, .slice Ar91_0_2 ((two6 2 0 0 0 0 3).2.2.1.length) cr91_0_2, .slice Ar91_0_3 ((two6 2 0 0 0 0 3).2.2.2.1.length) cr91_0_3, .int .i64 ((two6 2 0 0 0 0 3).2.2.2.2)], (two6 2 0 0 0 0 3))]) HH302 (by unfold maxLen; simp)
            have HH304 : Held Nob w (rVec eMultiRule 108 S105 (some ⟨q98, 0, none⟩) 3 ([(two6 0 0 0 (-1) 0 1), (two6 1 0 0 1 (-1) 2), (two6 2 0 0 0 0 3)] : List tMultiRule) :: [rBlk q25 55 [.int .i64 (2), .int .i64 (a0), .int .i64 (4), .slice Ar24_0 ((copyRls a0).length) cr24_0], rVec eMultiRule 108 Sr24_0 Ar24_0 cr24_0 (copyRls a0), rBlk q21 55 [.int .i64 (0), .int .i64 (0), .int .i64 (0), .slice none (0) 0]]) _ := HH303
            refine st_appV (g := q98) one_MultiRule HE270 HH304 ts_53 [2, 0, 1, 3] (by decide) rfl rfl rfl (by unfold maxLen; first | omega | (simp; done) | (simp; omega)) (by first | omega | (simp; done) | (simp; omega)) (wt0 rfl) rfl fun A99 c100 S101 a_305 w' HE306 HH307 => hK274 _ _ (by exact HH307.sel [2] (by decide) rfl) ?_
            have lA99 : ((copyRls a0) ++ ([(two6 0 0 0 (-1) 0 1), (two6 1 0 0 1 (-1) 2), (two6 2 0 0 0 0 3)] : List tMultiRule)).length = List.length (copyRls a0) + List.length ([(two6 0 0 0 (-1) 0 1), (two6 1 0 0 1 (-1) 2), (two6 2 0 0 0 0 3)] : List tMultiRule) := List.length_append
            have HS308 := HH307.sel [2] (by decide) rfl
            refine dr_take (i := 7) (ls' := #[true, true, true, true, true, true, true, true, false]) HE306 HS308 rfl (by kernel_rfl) (by kernel_rfl) (by kernel_rfl) (fun _ _ _ h => h) rfl (wt0 rfl) (x_fieldAddr fa_55_3 rfl) rfl rfl fun a_309 HE310 => ?_
            refine dr_one (i := 8) (ls' := #[true, true, true, true, true, true, true, true, true]) rfl (by kernel_rfl) rfl fun K_311 hK312 => ?_
            refine st_store (vs := [.slice A99 (((copyRls a0) ++ ([(two6 0 0 0 (-1) 0 1), (two6 1 0 0 1 (-1) 2), (two6 2 0 0 0 0 3)] : List tMultiRule)).length) c100]) 1 HE310 HH307 tv_53 rfl rfl rfl rfl rfl rfl (by simp [Value.oneCell']) (wt0 rfl) fun w' HH313 => hK312 _ _ (by exact HH313.sel [2] (by decide) rfl) ?_
            have HS314 := HH313.sel [2] (by decide) rfl
            refine dr_done (by kernel_rfl) ?_
            clear HH46 a_41 HE42 HH47 HH145 HH146 HH147 HH148 HH149 HH150 HH151 HH152 a_49 HE50 HS48 K_51 hK52 HH153 HH237 HH238 HH239 HH240 HH241 HH242 HH243 HH244 a_154 HE155 HS156 K_157 hK158 a_246 HE247 K_249 hK250 HH245 HH255 HH256 HH257 HH258 HH259 HH260 HH261 HH262 a_251 HE252 HS248 K_253 hK254 a_264 HE265 HH263 HS266 K_267 hK268 HH271 HH275 HH276 HH277 HH278 HH279 HH280 HH281 HH282 HH283 HH284 HH285 HH286 HH287 HH288 HH289 HH290 HH291 HH292 HH293 HH294 HH295 HH296 HH297 HH298 HH299 HH300 HH301 HH302 HH303 a_269 HE270 HH304 HS272 a_305 HE306 K_273 hK274 HH307 HS308 hK312 K_311
            exact nrm ⟨_, _, _, HE310.sub ⟨rfl, rfl, rfl, trivial⟩, HH313.sel [0, 1, 2] (by decide) rfl⟩
          · refine st_call HE247 (wt0 rfl) rfl rfl rfl en_79 rfl rfl (impl_twoTapes 2 0 0 0 0 3 _ (by omega) (by omega) (by omega) (by omega) (by omega) (by omega)) fun e w' hr => ?_
            obtain ⟨esr106_0, rfl, hor106_0, hbr106⟩ := hr
            have hr := eMultiRule.read hor106_0
            obtain ⟨Sr106, HH315⟩ := HH245.newO hbr106 hor106_0
            obtain ⟨Ar106_0_1, cr106_0_1, Ar106_0_2, cr106_0_2, Ar106_0_3, cr106_0_3, rfl, gr106_0_0, gr106_0_1, gr106_0_2, gr106_0_3, gr106_0_4⟩ := shape_MultiRule hr
            have jr106_0_0 := gr106_0_0; unfold I64 at jr106_0_0
            have jr106_0_4 := gr106_0_4; unfold I64 at jr106_0_4
            have HH316 := HH315.unF rfl
            obtain ⟨S107, S108, HH317⟩ := HH316.unP rfl
            have HH318 := HH317.sel [1, 0, 2, 3, 4, 5, 6, 7, 8, 9, 10] (by decide) rfl
            obtain ⟨S109, S110, HH319⟩ := HH318.unP rfl
            have HH320 := HH319.sel [1, 0, 2, 3, 4, 5, 6, 7, 8, 9, 10, 11] (by decide) rfl
            obtain ⟨S111, S112, HH321⟩ := HH320.unP rfl
            have HH322 := HH321.sel [1, 0, 2, 3, 4, 5, 6, 7, 8, 9, 10, 11, 12] (by decide) rfl
            have HH323 := HH322.sel [1, 2, 3, 4, 5, 6, 7, 8, 9, 10, 11, 12] (by decide) rfl
            refine ⟨_, rfl, fun a_324 HE325 => hK250 _ _ (by exact HH323.sel [11] (by decide) rfl) ?_⟩
            have HS326 := HH323.sel [11] (by decide) rfl
            refine dr_two (i := 1) (j := 5) (ls' := #[true, true, true, true, true, false, false, false, false]) (ls'' := #[true, false, true, true, true, true, false, false, false]) rfl rfl (by kernel_rfl) rfl rfl (fun K_327 hK328 => ?_) (fun K_327 hK328 => ?_)
            · refine st_x HE325 HH323 (wt0 rfl) (x_load1 tv_53 rfl (c_blk 9 rfl rfl)) rfl rfl fun a_329 HE330 => hK328 _ _ HS326 ?_
              refine dr_one (i := 5) (ls' := #[true, true, true, true, true, true, false, false, false]) rfl (by kernel_rfl) rfl fun K_331 hK332 => ?_
              refine st_lit (m := 3) (cs := [.int .i64 ((two6 0 0 0 (-1) 0 1).1), .slice Ar55_0_1 ((two6 0 0 0 (-1) 0 1).2.1.length) cr55_0_1, .slice Ar55_0_2 ((two6 0 0 0 (-1) 0 1).2.2.1.length) cr55_0_2, .slice Ar55_0_3 ((two6 0 0 0 (-1) 0 1).2.2.2.1.length) cr55_0_3, .int .i64 ((two6 0 0 0 (-1) 0 1).2.2.2.2), .int .i64 ((two6 1 0 0 1 (-1) 2).1), .slice Ar84_0_1 ((two6 1 0 0 1 (-1) 2).2.1.length) cr84_0_1, .slice Ar84_0_2 ((two6 1 0 0 1 (-1) 2).2.2.1.length) cr84_0_2, .slice Ar84_0_3 ((two6 1 0 0 1 (-1) 2).2.2.2.1.length) cr84_0_3, .int .i64 ((two6 1 0 0 1 (-1) 2).2.2.2.2), .int .i64 ((two6 2 0 0 0 0 3).1), .slice Ar106_0_1 ((two6 2 0 0 0 0 3).2.1.length) cr106_0_1, .slice Ar106_0_2 ((two6 2 0 0 0 0 3).2.2.1.length) cr106_0_2, .slice Ar106_0_3 ((two6 2 0 0 0 0 3).2.2.2.1.length) cr106_0_3, .int .i64 ((two6 2 0 0 0 0 3).2.2.2.2)]) (e := 108) HE330 HH323 (run_lit ts_53 HE330 (vs := [.agg #[.int .i64 ((two6 0 0 0 (-1) 0 1).1), .slice Ar55_0_1 ((two6 0 0 0 (-1) 0 1).2.1.length) cr55_0_1, .slice Ar55_0_2 ((two6 0 0 0 (-1) 0 1).2.2.1.length) cr55_0_2, .slice Ar55_0_3 ((two6 0 0 0 (-1) 0 1).2.2.2.1.length) cr55_0_3, .int .i64 ((two6 0 0 0 (-1) 0 1).2.2.2.2)], .agg #[.int .i64 ((two6 1 0 0 1 (-1) 2).1), .slice Ar84_0_1 ((two6 1 0 0 1 (-1) 2).2.1.length) cr84_0_1, .slice Ar84_0_2 ((two6 1 0 0 1 (-1) 2).2.2.1.length) cr84_0_2, .slice Ar84_0_3 ((two6 1 0 0 1 (-1) 2).2.2.2.1.length) cr84_0_3, .int .i64 ((two6 1 0 0 1 (-1) 2).2.2.2.2)], .agg #[.int .i64 ((two6 2 0 0 0 0 3).1), .slice Ar106_0_1 ((two6 2 0 0 0 0 3).2.1.length) cr106_0_1, .slice Ar106_0_2 ((two6 2 0 0 0 0 3).2.2.1.length) cr106_0_2, .slice Ar106_0_3 ((two6 2 0 0 0 0 3).2.2.2.1.length) cr106_0_3, .int .i64 ((two6 2 0 0 0 0 3).2.2.2.2)]]) rfl rfl (by simp [Value.cells]) rfl (by decide)) (wt0 rfl) rfl rfl fun q113 a_333 w' HE334 HH335 => hK332 _ _ (by exact HH335.sel [12] (by decide) rfl) ?_
              have HS336 := HH335.sel [12] (by decide) rfl
              refine dr_one (i := 6) (ls' := #[true, true, true, true, true, true, true, false, false]) rfl (by kernel_rfl) rfl fun K_337 hK338 => ?_
              have HH339 := HH335.sel [9, 8, 7, 0, 1, 2, 3, 4, 5, 6, 10, 11, 12] (by decide) rfl
              have HH340 := HH339.sel [2, 0, 1, 3, 4, 5, 6, 7, 8, 9, 10, 11, 12] (by decide) rfl
              have HH341 := HH340.pairB (F := eInt) (c2 := [.int .i64 ((two6 0 0 0 (-1) 0 1).2.2.2.2)]) (y := (two6 0 0 0 (-1) 0 1).2.2.2.2) (oI (by exact ⟨by omega, by omega⟩))
              have HH342 := HH341.sel [2, 0, 1, 3, 4, 5, 6, 7, 8, 9, 10, 11, 12] (by decide) rfl
              have HH343 := HH342.pair
              have HH344 := HH343.sel [1, 0, 2, 3, 4, 5, 6, 7, 8, 9, 10, 11] (by decide) rfl
              have HH345 := HH344.pair
              have HH346 := HH345.pairF (E := eInt) (c1 := [.int .i64 ((two6 0 0 0 (-1) 0 1).1)]) (x := (two6 0 0 0 (-1) 0 1).1) (oI (by exact ⟨by omega, by omega⟩))
              obtain ⟨S117, HH347⟩ : ∃ S, Held Nob w (rO eMultiRule S [.int .i64 ((two6 0 0 0 (-1) 0 1).1), .slice Ar55_0_1 ((two6 0 0 0 (-1) 0 1).2.1.length) cr55_0_1, .slice Ar55_0_2 ((two6 0 0 0 (-1) 0 1).2.2.1.length) cr55_0_2, .slice Ar55_0_3 ((two6 0 0 0 (-1) 0 1).2.2.2.1.length) cr55_0_3, .int .i64 ((two6 0 0 0 (-1) 0 1).2.2.2.2)] (two6 0 0 0 (-1) 0 1) :: _) _ := ⟨_, HH346⟩
              have HH348 := HH347.sel [7, 6, 5, 0, 1, 2, 3, 4, 8, 9, 10] (by decide) rfl
              have HH349 := HH348.sel [2, 0, 1, 3, 4, 5, 6, 7, 8, 9, 10] (by decide) rfl
              have HH350 := HH349.pairB (F := eInt) (c2 := [.int .i64 ((two6 1 0 0 1 (-1) 2).2.2.2.2)]) (y := (two6 1 0 0 1 (-1) 2).2.2.2.2) (oI (by exact ⟨by omega, by omega⟩))
              have HH351 := HH350.sel [2, 0, 1, 3, 4, 5, 6, 7, 8, 9, 10] (by decide) rfl
              have HH352 := HH351.pair
              have HH353 := HH352.sel [1, 0, 2, 3, 4, 5, 6, 7, 8, 9] (by decide) rfl
              have HH354 := HH353.pair
              have HH355 := HH354.pairF (E := eInt) (c1 := [.int .i64 ((two6 1 0 0 1 (-1) 2).1)]) (x := (two6 1 0 0 1 (-1) 2).1) (oI (by exact ⟨by omega, by omega⟩))
              obtain ⟨S118, HH356⟩ : ∃ S, Held Nob w (rO eMultiRule S [.int .i64 ((two6 1 0 0 1 (-1) 2).1), .slice Ar84_0_1 ((two6 1 0 0 1 (-1) 2).2.1.length) cr84_0_1, .slice Ar84_0_2 ((two6 1 0 0 1 (-1) 2).2.2.1.length) cr84_0_2, .slice Ar84_0_3 ((two6 1 0 0 1 (-1) 2).2.2.2.1.length) cr84_0_3, .int .i64 ((two6 1 0 0 1 (-1) 2).2.2.2.2)] (two6 1 0 0 1 (-1) 2) :: _) _ := ⟨_, HH355⟩
              have HH357 := HH356.sel [5, 4, 3, 0, 1, 2, 6, 7, 8] (by decide) rfl
              have HH358 := HH357.sel [2, 0, 1, 3, 4, 5, 6, 7, 8] (by decide) rfl
              have HH359 := HH358.pairB (F := eInt) (c2 := [.int .i64 ((two6 2 0 0 0 0 3).2.2.2.2)]) (y := (two6 2 0 0 0 0 3).2.2.2.2) (oI (by exact ⟨by omega, by omega⟩))
              have HH360 := HH359.sel [2, 0, 1, 3, 4, 5, 6, 7, 8] (by decide) rfl
              have HH361 := HH360.pair
              have HH362 := HH361.sel [1, 0, 2, 3, 4, 5, 6, 7] (by decide) rfl
              have HH363 := HH362.pair
              have HH364 := HH363.pairF (E := eInt) (c1 := [.int .i64 ((two6 2 0 0 0 0 3).1)]) (x := (two6 2 0 0 0 0 3).1) (oI (by exact ⟨by omega, by omega⟩))
              obtain ⟨S119, HH365⟩ : ∃ S, Held Nob w (rO eMultiRule S [.int .i64 ((two6 2 0 0 0 0 3).1), .slice Ar106_0_1 ((two6 2 0 0 0 0 3).2.1.length) cr106_0_1, .slice Ar106_0_2 ((two6 2 0 0 0 0 3).2.2.1.length) cr106_0_2, .slice Ar106_0_3 ((two6 2 0 0 0 0 3).2.2.2.1.length) cr106_0_3, .int .i64 ((two6 2 0 0 0 0 3).2.2.2.2)] (two6 2 0 0 0 0 3) :: _) _ := ⟨_, HH364⟩
              have HH366 := HH365.sel [2, 1, 0, 3, 4, 5, 6] (by decide) rfl
              obtain ⟨S120, HH367⟩ := Held.vecLit (E := eMultiRule) (g := q113) (t := 108) (ps := [(S117, [.int .i64 ((two6 0 0 0 (-1) 0 1).1), .slice Ar55_0_1 ((two6 0 0 0 (-1) 0 1).2.1.length) cr55_0_1, .slice Ar55_0_2 ((two6 0 0 0 (-1) 0 1).2.2.1.length) cr55_0_2, .slice Ar55_0_3 ((two6 0 0 0 (-1) 0 1).2.2.2.1.length) cr55_0_3, .int .i64 ((two6 0 0 0 (-1) 0 1).2.2.2.2)], (two6 0 0 0 (-1) 0 1)), (S118, [.int .i64 ((two6 1 0 0 1 (-1) 2).1), .slice Ar84_0_1 ((two6 1 0 0 1 (-1) 2).2.1.length) cr84_0_1, .slice Ar84_0_2 ((two6 1 0 0 1 (-1) 2).2.2.1.length) cr84_0_2, .slice Ar84_0_3 ((two6 1 0 0 1 (-1) 2).2.2.2.1.length) cr84_0_3, .int .i64 ((two6 1 0 0 1 (-1) 2).2.2.2.2)], (two6 1 0 0 1 (-1) 2)), (S119, [.int .i64 ((two6 2 0 0 0 0 3).1), .slice Ar106_0_1 ((two6 2 0 0 0 0 3).2.1.length) cr106_0_1, .slice Ar106_0_2 ((two6 2 0 0 0 0 3).2.2.1.length) cr106_0_2, .slice Ar106_0_3 ((two6 2 0 0 0 0 3).2.2.2.1.length) cr106_0_3, .int .i64 ((two6 2 0 0 0 0 3).2.2.2.2)], (two6 2 0 0 0 0 3))]) HH366 (by unfold maxLen; simp)
              have HH368 : Held Nob w (rVec eMultiRule 108 S120 (some ⟨q113, 0, none⟩) 3 ([(two6 0 0 0 (-1) 0 1), (two6 1 0 0 1 (-1) 2), (two6 2 0 0 0 0 3)] : List tMultiRule) :: [rBlk q25 55 [.int .i64 (2), .int .i64 (a0), .int .i64 (4), .slice Ar24_0 ((copyRls a0).length) cr24_0], rVec eMultiRule 108 Sr24_0 Ar24_0 cr24_0 (copyRls a0), rBlk q21 55 [.int .i64 (0), .int .i64 (0), .int .i64 (0), .slice none (0) 0]]) _ := HH367
              refine st_appV (g := q113) one_MultiRule HE334 HH368 ts_53 [2, 0, 1, 3] (by decide) rfl rfl rfl (by unfold maxLen; first | omega | (simp; done) | (simp; omega)) (by first | omega | (simp; done) | (simp; omega)) (wt0 rfl) rfl fun A114 c115 S116 a_369 w' HE370 HH371 => hK338 _ _ (by exact HH371.sel [2] (by decide) rfl) ?_
              have lA114 : ((copyRls a0) ++ ([(two6 0 0 0 (-1) 0 1), (two6 1 0 0 1 (-1) 2), (two6 2 0 0 0 0 3)] : List tMultiRule)).length = List.length (copyRls a0) + List.length ([(two6 0 0 0 (-1) 0 1), (two6 1 0 0 1 (-1) 2), (two6 2 0 0 0 0 3)] : List tMultiRule) := List.length_append
              have HS372 := HH371.sel [2] (by decide) rfl
              refine dr_take (i := 7) (ls' := #[true, true, true, true, true, true, true, true, false]) HE370 HS372 rfl (by kernel_rfl) (by kernel_rfl) (by kernel_rfl) (fun _ _ _ h => h) rfl (wt0 rfl) (x_fieldAddr fa_55_3 rfl) rfl rfl fun a_373 HE374 => ?_
              refine dr_one (i := 8) (ls' := #[true, true, true, true, true, true, true, true, true]) rfl (by kernel_rfl) rfl fun K_375 hK376 => ?_
              refine st_store (vs := [.slice A114 (((copyRls a0) ++ ([(two6 0 0 0 (-1) 0 1), (two6 1 0 0 1 (-1) 2), (two6 2 0 0 0 0 3)] : List tMultiRule)).length) c115]) 1 HE374 HH371 tv_53 rfl rfl rfl rfl rfl rfl (by simp [Value.oneCell']) (wt0 rfl) fun w' HH377 => hK376 _ _ (by exact HH377.sel [2] (by decide) rfl) ?_
              have HS378 := HH377.sel [2] (by decide) rfl
              refine dr_done (by kernel_rfl) ?_
              clear HH46 a_41 HE42 HH47 HH145 HH146 HH147 HH148 HH149 HH150 HH151 HH152 a_49 HE50 HS48 K_51 hK52 HH153 HH237 HH238 HH239 HH240 HH241 HH242 HH243 HH244 a_154 HE155 HS156 K_157 hK158 HH245 HH315 HH316 HH317 HH318 HH319 HH320 HH321 HH322 a_246 HE247 HS248 K_249 hK250 a_324 HE325 K_327 hK328 a_329 HE330 HH323 HS326 K_331 hK332 HH335 HH339 HH340 HH341 HH342 HH343 HH344 HH345 HH346 HH347 HH348 HH349 HH350 HH351 HH352 HH353 HH354 HH355 HH356 HH357 HH358 HH359 HH360 HH361 HH362 HH363 HH364 HH365 HH366 HH367 a_333 HE334 HH368 HS336 a_369 HE370 K_337 hK338 HH371 HS372 hK376 K_375
              exact nrm ⟨_, _, _, HE374.sub ⟨rfl, rfl, rfl, trivial⟩, HH377.sel [0, 1, 2] (by decide) rfl⟩
            · refine st_lit (m := 3) (cs := [.int .i64 ((two6 0 0 0 (-1) 0 1).1), .slice Ar55_0_1 ((two6 0 0 0 (-1) 0 1).2.1.length) cr55_0_1, .slice Ar55_0_2 ((two6 0 0 0 (-1) 0 1).2.2.1.length) cr55_0_2, .slice Ar55_0_3 ((two6 0 0 0 (-1) 0 1).2.2.2.1.length) cr55_0_3, .int .i64 ((two6 0 0 0 (-1) 0 1).2.2.2.2), .int .i64 ((two6 1 0 0 1 (-1) 2).1), .slice Ar84_0_1 ((two6 1 0 0 1 (-1) 2).2.1.length) cr84_0_1, .slice Ar84_0_2 ((two6 1 0 0 1 (-1) 2).2.2.1.length) cr84_0_2, .slice Ar84_0_3 ((two6 1 0 0 1 (-1) 2).2.2.2.1.length) cr84_0_3, .int .i64 ((two6 1 0 0 1 (-1) 2).2.2.2.2), .int .i64 ((two6 2 0 0 0 0 3).1), .slice Ar106_0_1 ((two6 2 0 0 0 0 3).2.1.length) cr106_0_1, .slice Ar106_0_2 ((two6 2 0 0 0 0 3).2.2.1.length) cr106_0_2, .slice Ar106_0_3 ((two6 2 0 0 0 0 3).2.2.2.1.length) cr106_0_3, .int .i64 ((two6 2 0 0 0 0 3).2.2.2.2)]) (e := 108) HE325 HH323 (run_lit ts_53 HE325 (vs := [.agg #[.int .i64 ((two6 0 0 0 (-1) 0 1).1), .slice Ar55_0_1 ((two6 0 0 0 (-1) 0 1).2.1.length) cr55_0_1, .slice Ar55_0_2 ((two6 0 0 0 (-1) 0 1).2.2.1.length) cr55_0_2, .slice Ar55_0_3 ((two6 0 0 0 (-1) 0 1).2.2.2.1.length) cr55_0_3, .int .i64 ((two6 0 0 0 (-1) 0 1).2.2.2.2)], .agg #[.int .i64 ((two6 1 0 0 1 (-1) 2).1), .slice Ar84_0_1 ((two6 1 0 0 1 (-1) 2).2.1.length) cr84_0_1, .slice Ar84_0_2 ((two6 1 0 0 1 (-1) 2).2.2.1.length) cr84_0_2, .slice Ar84_0_3 ((two6 1 0 0 1 (-1) 2).2.2.2.1.length) cr84_0_3, .int .i64 ((two6 1 0 0 1 (-1) 2).2.2.2.2)], .agg #[.int .i64 ((two6 2 0 0 0 0 3).1), .slice Ar106_0_1 ((two6 2 0 0 0 0 3).2.1.length) cr106_0_1, .slice Ar106_0_2 ((two6 2 0 0 0 0 3).2.2.1.length) cr106_0_2, .slice Ar106_0_3 ((two6 2 0 0 0 0 3).2.2.2.1.length) cr106_0_3, .int .i64 ((two6 2 0 0 0 0 3).2.2.2.2)]]) rfl rfl (by simp [Value.cells]) rfl (by decide)) (wt0 rfl) rfl rfl fun q121 a_379 w' HE380 HH381 => hK328 _ _ (by exact HH381.sel [12] (by decide) rfl) ?_
              have HS382 := HH381.sel [12] (by decide) rfl
              refine dr_one (i := 1) (ls' := #[true, true, true, true, true, true, false, false, false]) rfl (by kernel_rfl) rfl fun K_383 hK384 => ?_
              refine st_x HE380 HH381 (wt0 rfl) (x_load1 tv_53 rfl (c_blk 10 rfl rfl)) rfl rfl fun a_385 HE386 => hK384 _ _ HS382 ?_
              refine dr_one (i := 6) (ls' := #[true, true, true, true, true, true, true, false, false]) rfl (by kernel_rfl) rfl fun K_387 hK388 => ?_
              have HH389 := HH381.sel [9, 8, 7, 0, 1, 2, 3, 4, 5, 6, 10, 11, 12] (by decide) rfl
              have HH390 := HH389.sel [2, 0, 1, 3, 4, 5, 6, 7, 8, 9, 10, 11, 12] (by decide) rfl
              have HH391 := HH390.pairB (F := eInt) (c2 := [.int .i64 ((two6 0 0 0 (-1) 0 1).2.2.2.2)]) (y := (two6 0 0 0 (-1) 0 1).2.2.2.2) (oI (by exact ⟨by omega, by omega⟩))
              have HH392 := HH391.sel [2, 0, 1, 3, 4, 5, 6, 7, 8, 9, 10, 11, 12] (by decide) rfl
              have HH393 := HH392.pair
              have HH394 := HH393.sel [1, 0, 2, 3, 4, 5, 6, 7, 8, 9, 10, 11] (by decide) rfl
              have HH395 := HH394.pair
              have HH396 := HH395.pairF (E := eInt) (c1 := [.int .i64 ((two6 0 0 0 (-1) 0 1).1)]) (x := (two6 0 0 0 (-1) 0 1).1) (oI (by exact ⟨by omega, by omega⟩))
              obtain ⟨S125, HH397⟩ : ∃ S, Held Nob w (rO eMultiRule S [.int .i64 ((two6 0 0 0 (-1) 0 1).1), .slice Ar55_0_1 ((two6 0 0 0 (-1) 0 1).2.1.length) cr55_0_1, .slice Ar55_0_2 ((two6 0 0 0 (-1) 0 1).2.2.1.length) cr55_0_2, .slice Ar55_0_3 ((two6 0 0 0 (-1) 0 1).2.2.2.1.length) cr55_0_3, .int .i64 ((two6 0 0 0 (-1) 0 1).2.2.2.2)] (two6 0 0 0 (-1) 0 1) :: _) _ := ⟨_, HH396⟩
              have HH398 := HH397.sel [7, 6, 5, 0, 1, 2, 3, 4, 8, 9, 10] (by decide) rfl
              have HH399 := HH398.sel [2, 0, 1, 3, 4, 5, 6, 7, 8, 9, 10] (by decide) rfl
              have HH400 := HH399.pairB (F := eInt) (c2 := [.int .i64 ((two6 1 0 0 1 (-1) 2).2.2.2.2)]) (y := (two6 1 0 0 1 (-1) 2).2.2.2.2) (oI (by exact ⟨by omega, by omega⟩))
              have HH401 := HH400.sel [2, 0, 1, 3, 4, 5, 6, 7, 8, 9, 10] (by decide) rfl
              have HH402 := HH401.pair
              have HH403 := HH402.sel [1, 0, 2, 3, 4, 5, 6, 7, 8, 9] (by decide) rfl
              have HH404 := HH403.pair
              have HH405 := HH404.pairF (E := eInt) (c1 := [.int .i64 ((two6 1 0 0 1 (-1) 2).1)]) (x := (two6 1 0 0 1 (-1) 2).1) (oI (by exact ⟨by omega, by omega⟩))
              obtain ⟨S126, HH406⟩ : ∃ S, Held Nob w (rO eMultiRule S [.int .i64 ((two6 1 0 0 1 (-1) 2).1), .slice Ar84_0_1 ((two6 1 0 0 1 (-1) 2).2.1.length) cr84_0_1, .slice Ar84_0_2 ((two6 1 0 0 1 (-1) 2).2.2.1.length) cr84_0_2, .slice Ar84_0_3 ((two6 1 0 0 1 (-1) 2).2.2.2.1.length) cr84_0_3, .int .i64 ((two6 1 0 0 1 (-1) 2).2.2.2.2)] (two6 1 0 0 1 (-1) 2) :: _) _ := ⟨_, HH405⟩
              have HH407 := HH406.sel [5, 4, 3, 0, 1, 2, 6, 7, 8] (by decide) rfl
              have HH408 := HH407.sel [2, 0, 1, 3, 4, 5, 6, 7, 8] (by decide) rfl
              have HH409 := HH408.pairB (F := eInt) (c2 := [.int .i64 ((two6 2 0 0 0 0 3).2.2.2.2)]) (y := (two6 2 0 0 0 0 3).2.2.2.2) (oI (by exact ⟨by omega, by omega⟩))
              have HH410 := HH409.sel [2, 0, 1, 3, 4, 5, 6, 7, 8] (by decide) rfl
              have HH411 := HH410.pair
              have HH412 := HH411.sel [1, 0, 2, 3, 4, 5, 6, 7] (by decide) rfl
              have HH413 := HH412.pair
              have HH414 := HH413.pairF (E := eInt) (c1 := [.int .i64 ((two6 2 0 0 0 0 3).1)]) (x := (two6 2 0 0 0 0 3).1) (oI (by exact ⟨by omega, by omega⟩))
              obtain ⟨S127, HH415⟩ : ∃ S, Held Nob w (rO eMultiRule S [.int .i64 ((two6 2 0 0 0 0 3).1), .slice Ar106_0_1 ((two6 2 0 0 0 0 3).2.1.length) cr106_0_1, .slice Ar106_0_2 ((two6 2 0 0 0 0 3).2.2.1.length) cr106_0_2, .slice Ar106_0_3 ((two6 2 0 0 0 0 3).2.2.2.1.length) cr106_0_3, .int .i64 ((two6 2 0 0 0 0 3).2.2.2.2)] (two6 2 0 0 0 0 3) :: _) _ := ⟨_, HH414⟩
              have HH416 := HH415.sel [2, 1, 0, 3, 4, 5, 6] (by decide) rfl
              obtain ⟨S128, HH417⟩ := Held.vecLit (E := eMultiRule) (g := q121) (t := 108) (ps := [(S125, [.int .i64 ((two6 0 0 0 (-1) 0 1).1), .slice Ar55_0_1 ((two6 0 0 0 (-1) 0 1).2.1.length) cr55_0_1, .slice Ar55_0_2 ((two6 0 0 0 (-1) 0 1).2.2.1.length) cr55_0_2, .slice Ar55_0_3 ((two6 0 0 0 (-1) 0 1).2.2.2.1.length) cr55_0_3, .int .i64 ((two6 0 0 0 (-1) 0 1).2.2.2.2)], (two6 0 0 0 (-1) 0 1)), (S126, [.int .i64 ((two6 1 0 0 1 (-1) 2).1), .slice Ar84_0_1 ((two6 1 0 0 1 (-1) 2).2.1.length) cr84_0_1, .slice Ar84_0_2 ((two6 1 0 0 1 (-1) 2).2.2.1.length) cr84_0_2, .slice Ar84_0_3 ((two6 1 0 0 1 (-1) 2).2.2.2.1.length) cr84_0_3, .int .i64 ((two6 1 0 0 1 (-1) 2).2.2.2.2)], (two6 1 0 0 1 (-1) 2)), (S127, [.int .i64 ((two6 2 0 0 0 0 3).1), .slice Ar106_0_1 ((two6 2 0 0 0 0 3).2.1.length) cr106_0_1, .slice Ar106_0_2 ((two6 2 0 0 0 0 3).2.2.1.length) cr106_0_2, .slice Ar106_0_3 ((two6 2 0 0 0 0 3).2.2.2.1.length) cr106_0_3, .int .i64 ((two6 2 0 0 0 0 3).2.2.2.2)], (two6 2 0 0 0 0 3))]) HH416 (by unfold maxLen; simp)
              have HH418 : Held Nob w (rVec eMultiRule 108 S128 (some ⟨q121, 0, none⟩) 3 ([(two6 0 0 0 (-1) 0 1), (two6 1 0 0 1 (-1) 2), (two6 2 0 0 0 0 3)] : List tMultiRule) :: [rBlk q25 55 [.int .i64 (2), .int .i64 (a0), .int .i64 (4), .slice Ar24_0 ((copyRls a0).length) cr24_0], rVec eMultiRule 108 Sr24_0 Ar24_0 cr24_0 (copyRls a0), rBlk q21 55 [.int .i64 (0), .int .i64 (0), .int .i64 (0), .slice none (0) 0]]) _ := HH417
              refine st_appV (g := q121) one_MultiRule HE386 HH418 ts_53 [2, 0, 1, 3] (by decide) rfl rfl rfl (by unfold maxLen; first | omega | (simp; done) | (simp; omega)) (by first | omega | (simp; done) | (simp; omega)) (wt0 rfl) rfl fun A122 c123 S124 a_419 w' HE420 HH421 => hK388 _ _ (by exact HH421.sel [2] (by decide) rfl) ?_
              have lA122 : ((copyRls a0) ++ ([(two6 0 0 0 (-1) 0 1), (two6 1 0 0 1 (-1) 2), (two6 2 0 0 0 0 3)] : List tMultiRule)).length = List.length (copyRls a0) + List.length ([(two6 0 0 0 (-1) 0 1), (two6 1 0 0 1 (-1) 2), (two6 2 0 0 0 0 3)] : List tMultiRule) := List.length_append
              have HS422 := HH421.sel [2] (by decide) rfl
              refine dr_take (i := 7) (ls' := #[true, true, true, true, true, true, true, true, false]) HE420 HS422 rfl (by kernel_rfl) (by kernel_rfl) (by kernel_rfl) (fun _ _ _ h => h) rfl (wt0 rfl) (x_fieldAddr fa_55_3 rfl) rfl rfl fun a_423 HE424 => ?_
              refine dr_one (i := 8) (ls' := #[true, true, true, true, true, true, true, true, true]) rfl (by kernel_rfl) rfl fun K_425 hK426 => ?_
              refine st_store (vs := [.slice A122 (((copyRls a0) ++ ([(two6 0 0 0 (-1) 0 1), (two6 1 0 0 1 (-1) 2), (two6 2 0 0 0 0 3)] : List tMultiRule)).length) c123]) 1 HE424 HH421 tv_53 rfl rfl rfl rfl rfl rfl (by simp [Value.oneCell']) (wt0 rfl) fun w' HH427 => hK426 _ _ (by exact HH427.sel [2] (by decide) rfl) ?_
              have HS428 := HH427.sel [2] (by decide) rfl
              refine dr_done (by kernel_rfl) ?_
              clear HH46 a_41 HE42 HH47 HH145 HH146 HH147 HH148 HH149 HH150 HH151 HH152 a_49 HE50 HS48 K_51 hK52 HH153 HH237 HH238 HH239 HH240 HH241 HH242 HH243 HH244 a_154 HE155 HS156 K_157 hK158 HH245 HH315 HH316 HH317 HH318 HH319 HH320 HH321 HH322 a_246 HE247 HS248 K_249 hK250 a_324 HE325 HH323 HS326 K_327 hK328 a_379 HE380 K_383 hK384 HH381 HH389 HH390 HH391 HH392 HH393 HH394 HH395 HH396 HH397 HH398 HH399 HH400 HH401 HH402 HH403 HH404 HH405 HH406 HH407 HH408 HH409 HH410 HH411 HH412 HH413 HH414 HH415 HH416 HH417 a_385 HE386 HH418 HS382 a_419 HE420 K_387 hK388 HH421 HS422 hK426 K_425
              exact nrm ⟨_, _, _, HE424.sub ⟨rfl, rfl, rfl, trivial⟩, HH427.sel [0, 1, 2] (by decide) rfl⟩
    · rintro a_429 w' ⟨S50, A48, c49, HE430, HH431⟩
      refine nrm ?_
      refine wp_seq ?_
      refine wp_seq ?_
      refine rg ?_
      refine pl_x HE430 HH431 (wt0 rfl) (x_assign rfl) rfl rfl fun a_432 HE433 => ?_
      refine wpList_nil ?_
      clear a_41 HE42 HH46 a_429 HE430
      refine nrm ?_
      refine wp_block ?_
      refine lp (fun m a w' => ∃ (k : Nat) (A_4_3 : Option Addr) (c_4_3 : Nat) (S_4_3 : Nat → Prop), m = (a0 - (k : Int)).toNat ∧ Env 39 [(5, .int .i64 ((k : Int) + 1)), (0, .int .i64 (a0)), (2, .pointer (some ⟨q21, 0, none⟩)), (4, .pointer (some ⟨q25, 0, none⟩))] a ∧ Held Nob w [rVec eMultiRule 108 S_4_3 A_4_3 c_4_3 (palI a0 k), rBlk q25 55 [.int .i64 2, .int .i64 a0, .int .i64 4, .slice A_4_3 (List.length (palI a0 k)) c_4_3], rBlk q21 55 [.int .i64 (0), .int .i64 (0), .int .i64 (0), .slice none (0) 0]] w' ∧ ((k : Int) + 1 ≤ a0)) ((a0 - ((0) : Int)).toNat) ?_ ?_
      · have E129 : palI a0 0 = ((copyRls a0) ++ ([(two6 0 0 0 (-1) 0 1), (two6 1 0 0 1 (-1) 2), (two6 2 0 0 0 0 3)] : List tMultiRule)) := by
          rfl
        exact ⟨0, A48, c49, S50, rfl, HE433.sub ⟨(lkI rfl (by first | rfl | omega | (simp [hc23]; done))), rfl, rfl, rfl, trivial⟩, ((HH431.sel [0, 1, 2] (by decide) rfl).to (by first | rfl | (rw [E129]; done) | (rw [E129]; rfl) | (simp only [E129]; done) | (simp only [E129]; rfl) | (rw [E129]; simp only [List.length_set]; done))), (by first | omega | assumption | (simp; done) | simp_all)⟩
      · rintro m a_434 w' ⟨k, A_4_3, c_4_3, S_4_3, rfl, HE435, HH436, p130_0⟩
        have ol := palI_len a0 k
        refine wp_seq ?_
        refine wp_seq ?_
        refine rg ?_
        refine pl_x HE435 HH436 (wt0 rfl) (x_move rfl) rfl rfl fun a_437 HE438 => ?_
        refine pl_x HE438 HH436 (wt0 rfl) (x_move rfl) rfl rfl fun a_439 HE440 => ?_
        refine pl_x HE440 HH436 (wt0 rfl) (x_lss rfl rfl) rfl rfl fun a_441 HE442 => ?_
        refine wpList_nil ?_
        clear a_432 HE433 HH431 a_434 HE435 a_437 HE438 a_439 HE440
        refine nrm ?_
        refine cnd_d HE442 rfl (fun hc131 => ?_) (fun hc131 => ?_)
        · refine wp_skip ?_
          refine nrm ?_
          refine wp_seq ?_
          refine wp_block ?_
          refine wp_join (fun a w' => ∃ (S149 : Nat → Prop), ∃ (A147 : Option Addr), ∃ (c148 : Nat), Env 39 [(0, .int .i64 (a0)), (2, .pointer (some ⟨q21, 0, none⟩)), (4, .pointer (some ⟨q25, 0, none⟩)), (5, .int .i64 (((k : Int) + 1)))] a ∧ Held Nob w [rVec eMultiRule 108 S149 A147 c148 (palI a0 k ++ ([(two6 1 ((k : Int) + 1) 0 (-1) 0 1), (two6 2 ((k : Int) + 1) ((k : Int) + 1) 1 (-1) 2)] : List tMultiRule)), rBlk q25 55 [.int .i64 (2), .int .i64 (a0), .int .i64 (4), .slice A147 ((palI a0 k ++ ([(two6 1 ((k : Int) + 1) 0 (-1) 0 1), (two6 2 ((k : Int) + 1) ((k : Int) + 1) 1 (-1) 2)] : List tMultiRule)).length) c148], rBlk q21 55 [.int .i64 (0), .int .i64 (0), .int .i64 (0), .slice none (0) 0]] w') ?_ ?_
          · refine dr_start (Held Nob w [rBlk q21 55 [.int .i64 (0), .int .i64 (0), .int .i64 (0), .slice none (0) 0]]) 11 #[false, false, false, false, false, false, false, false, false, false, false] hmix rfl rfl HH436 (fun _ h => h.sel [2] (by decide) rfl) fun w' HH443 => ?_
            have HS444 := HH443.sel [2] (by decide) rfl
            refine dr_take (i := 0) (ls' := #[true, false, false, false, false, false, false, false, false, false, false]) HE442 HS444 rfl (by kernel_rfl) (by kernel_rfl) (by kernel_rfl) (fun _ _ _ h => h) rfl (wt0 rfl) (x_fieldAddr fa_55_3 rfl) rfl rfl fun a_445 HE446 => ?_
            refine dr_take (i := 2) (ls' := #[true, false, true, false, false, false, false, false, false, false, false]) HE446 HS444 rfl (by kernel_rfl) (by kernel_rfl) (by kernel_rfl) (fun _ _ _ h => h) rfl (wt0 rfl) (x_move rfl) rfl rfl fun a_447 HE448 => ?_
            refine dr_take (i := 4) (ls' := #[true, false, true, false, true, false, false, false, false, false, false]) HE448 HS444 rfl (by kernel_rfl) (by kernel_rfl) (by kernel_rfl) (fun _ _ _ h => h) rfl (wt0 rfl) (x_move rfl) rfl rfl fun a_449 HE450 => ?_
            refine dr_take (i := 5) (ls' := #[true, false, true, false, true, true, false, false, false, false, false]) HE450 HS444 rfl (by kernel_rfl) (by kernel_rfl) (by kernel_rfl) (fun _ _ _ h => h) rfl (wt0 rfl) (x_move rfl) rfl rfl fun a_451 HE452 => ?_
            refine dr_two (i := 1) (j := 3) (ls' := #[true, true, true, false, true, true, false, false, false, false, false]) (ls'' := #[true, false, true, true, true, true, false, false, false, false, false]) rfl rfl (by kernel_rfl) rfl rfl (fun K_453 hK454 => ?_) (fun K_453 hK454 => ?_)
            · refine st_x HE452 HH443 (wt0 rfl) (x_load1 tv_53 rfl (c_blk 1 rfl rfl)) rfl rfl fun a_455 HE456 => hK454 _ _ HS444 ?_
              refine dr_one (i := 3) (ls' := #[true, true, true, true, true, true, false, false, false, false, false]) rfl (by kernel_rfl) rfl fun K_457 hK458 => ?_
              refine st_call HE456 (wt0 rfl) rfl rfl rfl en_79 rfl rfl (impl_twoTapes 1 ((k : Int) + 1) 0 (-1) 0 1 _ (by omega) (by omega) (by omega) (by omega) (by omega) (by omega)) fun e w' hr => ?_
              obtain ⟨esr132_0, rfl, hor132_0, hbr132⟩ := hr
              have hr := eMultiRule.read hor132_0
              obtain ⟨Sr132, HH459⟩ := HH443.newO hbr132 hor132_0
              obtain ⟨Ar132_0_1, cr132_0_1, Ar132_0_2, cr132_0_2, Ar132_0_3, cr132_0_3, rfl, gr132_0_0, gr132_0_1, gr132_0_2, gr132_0_3, gr132_0_4⟩ := shape_MultiRule hr
              have jr132_0_0 := gr132_0_0; unfold I64 at jr132_0_0
              have jr132_0_4 := gr132_0_4; unfold I64 at jr132_0_4
              have HH460 := HH459.unF rfl
              obtain ⟨S133, S134, HH461⟩ := HH460.unP rfl
              have HH462 := HH461.sel [1, 0, 2, 3, 4] (by decide) rfl
              obtain ⟨S135, S136, HH463⟩ := HH462.unP rfl
              have HH464 := HH463.sel [1, 0, 2, 3, 4, 5] (by decide) rfl
              obtain ⟨S137, S138, HH465⟩ := HH464.unP rfl
              have HH466 := HH465.sel [1, 0, 2, 3, 4, 5, 6] (by decide) rfl
              have HH467 := HH466.sel [1, 2, 3, 4, 5, 6] (by decide) rfl
              refine ⟨_, rfl, fun a_468 HE469 => hK458 _ _ (by exact HH467.sel [5] (by decide) rfl) ?_⟩
              have HS470 := HH467.sel [5] (by decide) rfl
              refine dr_one (i := 6) (ls' := #[true, true, true, true, true, true, true, false, false, false, false]) rfl (by kernel_rfl) rfl fun K_471 hK472 => ?_
              refine st_call HE469 (wt0 rfl) rfl rfl rfl en_79 rfl rfl (impl_twoTapes 2 ((k : Int) + 1) ((k : Int) + 1) 1 (-1) 2 _ (by omega) (by omega) (by omega) (by omega) (by omega) (by omega)) fun e w' hr => ?_
              obtain ⟨esr139_0, rfl, hor139_0, hbr139⟩ := hr
              have hr := eMultiRule.read hor139_0
              obtain ⟨Sr139, HH473⟩ := HH467.newO hbr139 hor139_0
              obtain ⟨Ar139_0_1, cr139_0_1, Ar139_0_2, cr139_0_2, Ar139_0_3, cr139_0_3, rfl, gr139_0_0, gr139_0_1, gr139_0_2, gr139_0_3, gr139_0_4⟩ := shape_MultiRule hr
              have jr139_0_0 := gr139_0_0; unfold I64 at jr139_0_0
              have jr139_0_4 := gr139_0_4; unfold I64 at jr139_0_4
              have HH474 := HH473.unF rfl
              obtain ⟨S140, S141, HH475⟩ := HH474.unP rfl
              have HH476 := HH475.sel [1, 0, 2, 3, 4, 5, 6, 7] (by decide) rfl
              obtain ⟨S142, S143, HH477⟩ := HH476.unP rfl
              have HH478 := HH477.sel [1, 0, 2, 3, 4, 5, 6, 7, 8] (by decide) rfl
              obtain ⟨S144, S145, HH479⟩ := HH478.unP rfl
              have HH480 := HH479.sel [1, 0, 2, 3, 4, 5, 6, 7, 8, 9] (by decide) rfl
              have HH481 := HH480.sel [1, 2, 3, 4, 5, 6, 7, 8, 9] (by decide) rfl
              refine ⟨_, rfl, fun a_482 HE483 => hK472 _ _ (by exact HH481.sel [8] (by decide) rfl) ?_⟩
              have HS484 := HH481.sel [8] (by decide) rfl
              refine dr_one (i := 7) (ls' := #[true, true, true, true, true, true, true, true, false, false, false]) rfl (by kernel_rfl) rfl fun K_485 hK486 => ?_
              refine st_lit (m := 2) (cs := [.int .i64 ((two6 1 ((k : Int) + 1) 0 (-1) 0 1).1), .slice Ar132_0_1 ((two6 1 ((k : Int) + 1) 0 (-1) 0 1).2.1.length) cr132_0_1, .slice Ar132_0_2 ((two6 1 ((k : Int) + 1) 0 (-1) 0 1).2.2.1.length) cr132_0_2, .slice Ar132_0_3 ((two6 1 ((k : Int) + 1) 0 (-1) 0 1).2.2.2.1.length) cr132_0_3, .int .i64 ((two6 1 ((k : Int) + 1) 0 (-1) 0 1).2.2.2.2), .int .i64 ((two6 2 ((k : Int) + 1) ((k : Int) + 1) 1 (-1) 2).1), .slice Ar139_0_1 ((two6 2 ((k : Int) + 1) ((k : Int) + 1) 1 (-1) 2).2.1.length) cr139_0_1, .slice Ar139_0_2 ((two6 2 ((k : Int) + 1) ((k : Int) + 1) 1 (-1) 2).2.2.1.length) cr139_0_2, .slice Ar139_0_3 ((two6 2 ((k : Int) + 1) ((k : Int) + 1) 1 (-1) 2).2.2.2.1.length) cr139_0_3, .int .i64 ((two6 2 ((k : Int) + 1) ((k : Int) + 1) 1 (-1) 2).2.2.2.2)]) (e := 108) HE483 HH481 (run_lit ts_53 HE483 (vs := [.agg #[.int .i64 ((two6 1 ((k : Int) + 1) 0 (-1) 0 1).1), .slice Ar132_0_1 ((two6 1 ((k : Int) + 1) 0 (-1) 0 1).2.1.length) cr132_0_1, .slice Ar132_0_2 ((two6 1 ((k : Int) + 1) 0 (-1) 0 1).2.2.1.length) cr132_0_2, .slice Ar132_0_3 ((two6 1 ((k : Int) + 1) 0 (-1) 0 1).2.2.2.1.length) cr132_0_3, .int .i64 ((two6 1 ((k : Int) + 1) 0 (-1) 0 1).2.2.2.2)], .agg #[.int .i64 ((two6 2 ((k : Int) + 1) ((k : Int) + 1) 1 (-1) 2).1), .slice Ar139_0_1 ((two6 2 ((k : Int) + 1) ((k : Int) + 1) 1 (-1) 2).2.1.length) cr139_0_1, .slice Ar139_0_2 ((two6 2 ((k : Int) + 1) ((k : Int) + 1) 1 (-1) 2).2.2.1.length) cr139_0_2, .slice Ar139_0_3 ((two6 2 ((k : Int) + 1) ((k : Int) + 1) 1 (-1) 2).2.2.2.1.length) cr139_0_3, .int .i64 ((two6 2 ((k : Int) + 1) ((k : Int) + 1) 1 (-1) 2).2.2.2.2)]]) rfl rfl (by simp [Value.cells]) rfl (by decide)) (wt0 rfl) rfl rfl fun q146 a_487 w' HE488 HH489 => hK486 _ _ (by exact HH489.sel [9] (by decide) rfl) ?_
              have HS490 := HH489.sel [9] (by decide) rfl
              refine dr_one (i := 8) (ls' := #[true, true, true, true, true, true, true, true, true, false, false]) rfl (by kernel_rfl) rfl fun K_491 hK492 => ?_
              have HH493 := HH489.sel [6, 5, 4, 0, 1, 2, 3, 7, 8, 9] (by decide) rfl
              have HH494 := HH493.sel [2, 0, 1, 3, 4, 5, 6, 7, 8, 9] (by decide) rfl
              have HH495 := HH494.pairB (F := eInt) (c2 := [.int .i64 ((two6 1 ((k : Int) + 1) 0 (-1) 0 1).2.2.2.2)]) (y := (two6 1 ((k : Int) + 1) 0 (-1) 0 1).2.2.2.2) (oI (by exact ⟨by omega, by omega⟩))
              have HH496 := HH495.sel [2, 0, 1, 3, 4, 5, 6, 7, 8, 9] (by decide) rfl
              have HH497 := HH496.pair
              have HH498 := HH497.sel [1, 0, 2, 3, 4, 5, 6, 7, 8] (by decide) rfl
              have HH499 := HH498.pair
              have HH500 := HH499.pairF (E := eInt) (c1 := [.int .i64 ((two6 1 ((k : Int) + 1) 0 (-1) 0 1).1)]) (x := (two6 1 ((k : Int) + 1) 0 (-1) 0 1).1) (oI (by exact ⟨by omega, by omega⟩))
              obtain ⟨S150, HH501⟩ : ∃ S, Held Nob w (rO eMultiRule S [.int .i64 ((two6 1 ((k : Int) + 1) 0 (-1) 0 1).1), .slice Ar132_0_1 ((two6 1 ((k : Int) + 1) 0 (-1) 0 1).2.1.length) cr132_0_1, .slice Ar132_0_2 ((two6 1 ((k : Int) + 1) 0 (-1) 0 1).2.2.1.length) cr132_0_2, .slice Ar132_0_3 ((two6 1 ((k : Int) + 1) 0 (-1) 0 1).2.2.2.1.length) cr132_0_3, .int .i64 ((two6 1 ((k : Int) + 1) 0 (-1) 0 1).2.2.2.2)] (two6 1 ((k : Int) + 1) 0 (-1) 0 1) :: _) _ := ⟨_, HH500⟩
              have HH502 := HH501.sel [4, 3, 2, 0, 1, 5, 6, 7] (by decide) rfl
              have HH503 := HH502.sel [2, 0, 1, 3, 4, 5, 6, 7] (by decide) rfl
              have HH504 := HH503.pairB (F := eInt) (c2 := [.int .i64 ((two6 2 ((k : Int) + 1) ((k : Int) + 1) 1 (-1) 2).2.2.2.2)]) (y := (two6 2 ((k : Int) + 1) ((k : Int) + 1) 1 (-1) 2).2.2.2.2) (oI (by exact ⟨by omega, by omega⟩))
              have HH505 := HH504.sel [2, 0, 1, 3, 4, 5, 6, 7] (by decide) rfl
              have HH506 := HH505.pair
              have HH507 := HH506.sel [1, 0, 2, 3, 4, 5, 6] (by decide) rfl
              have HH508 := HH507.pair
              have HH509 := HH508.pairF (E := eInt) (c1 := [.int .i64 ((two6 2 ((k : Int) + 1) ((k : Int) + 1) 1 (-1) 2).1)]) (x := (two6 2 ((k : Int) + 1) ((k : Int) + 1) 1 (-1) 2).1) (oI (by exact ⟨by omega, by omega⟩))
              obtain ⟨S151, HH510⟩ : ∃ S, Held Nob w (rO eMultiRule S [.int .i64 ((two6 2 ((k : Int) + 1) ((k : Int) + 1) 1 (-1) 2).1), .slice Ar139_0_1 ((two6 2 ((k : Int) + 1) ((k : Int) + 1) 1 (-1) 2).2.1.length) cr139_0_1, .slice Ar139_0_2 ((two6 2 ((k : Int) + 1) ((k : Int) + 1) 1 (-1) 2).2.2.1.length) cr139_0_2, .slice Ar139_0_3 ((two6 2 ((k : Int) + 1) ((k : Int) + 1) 1 (-1) 2).2.2.2.1.length) cr139_0_3, .int .i64 ((two6 2 ((k : Int) + 1) ((k : Int) + 1) 1 (-1) 2).2.2.2.2)] (two6 2 ((k : Int) + 1) ((k : Int) + 1) 1 (-1) 2) :: _) _ := ⟨_, HH509⟩
              have HH511 := HH510.sel [1, 0, 2, 3, 4, 5] (by decide) rfl
              obtain ⟨S152, HH512⟩ := Held.vecLit (E := eMultiRule) (g := q146) (t := 108) (ps := [(S150, [.int .i64 ((two6 1 ((k : Int) + 1) 0 (-1) 0 1).1), .slice Ar132_0_1 ((two6 1 ((k : Int) + 1) 0 (-1) 0 1).2.1.length) cr132_0_1, .slice Ar132_0_2 ((two6 1 ((k : Int) + 1) 0 (-1) 0 1).2.2.1.length) cr132_0_2, .slice Ar132_0_3 ((two6 1 ((k : Int) + 1) 0 (-1) 0 1).2.2.2.1.length) cr132_0_3, .int .i64 ((two6 1 ((k : Int) + 1) 0 (-1) 0 1).2.2.2.2)], (two6 1 ((k : Int) + 1) 0 (-1) 0 1)), (S151, [.int .i64 ((two6 2 ((k : Int) + 1) ((k : Int) + 1) 1 (-1) 2).1), .slice Ar139_0_1 ((two6 2 ((k : Int) + 1) ((k : Int) + 1) 1 (-1) 2).2.1.length) cr139_0_1, .slice Ar139_0_2 ((two6 2 ((k : Int) + 1) ((k : Int) + 1) 1 (-1) 2).2.2.1.length) cr139_0_2, .slice Ar139_0_3 ((two6 2 ((k : Int) + 1) ((k : Int) + 1) 1 (-1) 2).2.2.2.1.length) cr139_0_3, .int .i64 ((two6 2 ((k : Int) + 1) ((k : Int) + 1) 1 (-1) 2).2.2.2.2)], (two6 2 ((k : Int) + 1) ((k : Int) + 1) 1 (-1) 2))]) HH511 (by unfold maxLen; simp)
              have HH513 : Held Nob w (rVec eMultiRule 108 S152 (some ⟨q146, 0, none⟩) 2 ([(two6 1 ((k : Int) + 1) 0 (-1) 0 1), (two6 2 ((k : Int) + 1) ((k : Int) + 1) 1 (-1) 2)] : List tMultiRule) :: [rVec eMultiRule 108 S_4_3 A_4_3 c_4_3 (palI a0 k), rBlk q25 55 [.int .i64 (2), .int .i64 (a0), .int .i64 (4), .slice A_4_3 ((List.length (palI a0 k))) c_4_3], rBlk q21 55 [.int .i64 (0), .int .i64 (0), .int .i64 (0), .slice none (0) 0]]) _ := HH512
              refine st_appV (g := q146) one_MultiRule HE488 HH513 ts_53 [1, 0, 2, 3] (by decide) rfl rfl rfl (by unfold maxLen; first | omega | (simp; done) | (simp; omega)) (by first | omega | (simp; done) | (simp; omega)) (wt0 rfl) rfl fun A147 c148 S149 a_514 w' HE515 HH516 => hK492 _ _ (by exact HH516.sel [2] (by decide) rfl) ?_
              have lA147 : (palI a0 k ++ ([(two6 1 ((k : Int) + 1) 0 (-1) 0 1), (two6 2 ((k : Int) + 1) ((k : Int) + 1) 1 (-1) 2)] : List tMultiRule)).length = List.length (palI a0 k) + List.length ([(two6 1 ((k : Int) + 1) 0 (-1) 0 1), (two6 2 ((k : Int) + 1) ((k : Int) + 1) 1 (-1) 2)] : List tMultiRule) := List.length_append
              have HS517 := HH516.sel [2] (by decide) rfl
              refine dr_take (i := 9) (ls' := #[true, true, true, true, true, true, true, true, true, true, false]) HE515 HS517 rfl (by kernel_rfl) (by kernel_rfl) (by kernel_rfl) (fun _ _ _ h => h) rfl (wt0 rfl) (x_fieldAddr fa_55_3 rfl) rfl rfl fun a_518 HE519 => ?_
              refine dr_one (i := 10) (ls' := #[true, true, true, true, true, true, true, true, true, true, true]) rfl (by kernel_rfl) rfl fun K_520 hK521 => ?_
              refine st_store (vs := [.slice A147 ((palI a0 k ++ ([(two6 1 ((k : Int) + 1) 0 (-1) 0 1), (two6 2 ((k : Int) + 1) ((k : Int) + 1) 1 (-1) 2)] : List tMultiRule)).length) c148]) 1 HE519 HH516 tv_53 rfl rfl rfl rfl rfl rfl (by simp [Value.oneCell']) (wt0 rfl) fun w' HH522 => hK521 _ _ (by exact HH522.sel [2] (by decide) rfl) ?_
              have HS523 := HH522.sel [2] (by decide) rfl
              refine dr_done (by kernel_rfl) ?_
              clear HH436 a_441 HE442 a_445 HE446 a_447 HE448 a_449 HE450 a_451 HE452 K_453 hK454 HH443 HH459 HH460 HH461 HH462 HH463 HH464 HH465 HH466 a_455 HE456 HS444 K_457 hK458 HH467 HH473 HH474 HH475 HH476 HH477 HH478 HH479 HH480 a_468 HE469 HS470 K_471 hK472 a_482 HE483 HH481 HS484 K_485 hK486 HH489 HH493 HH494 HH495 HH496 HH497 HH498 HH499 HH500 HH501 HH502 HH503 HH504 HH505 HH506 HH507 HH508 HH509 HH510 HH511 HH512 a_487 HE488 HH513 HS490 a_514 HE515 K_491 hK492 HH516 HS517 hK521 K_520
              exact nrm ⟨_, _, _, HE519.sub ⟨rfl, rfl, rfl, rfl, trivial⟩, HH522.sel [0, 1, 2] (by decide) rfl⟩
            · refine st_call HE452 (wt0 rfl) rfl rfl rfl en_79 rfl rfl (impl_twoTapes 1 ((k : Int) + 1) 0 (-1) 0 1 _ (by omega) (by omega) (by omega) (by omega) (by omega) (by omega)) fun e w' hr => ?_
              obtain ⟨esr153_0, rfl, hor153_0, hbr153⟩ := hr
              have hr := eMultiRule.read hor153_0
              obtain ⟨Sr153, HH524⟩ := HH443.newO hbr153 hor153_0
              obtain ⟨Ar153_0_1, cr153_0_1, Ar153_0_2, cr153_0_2, Ar153_0_3, cr153_0_3, rfl, gr153_0_0, gr153_0_1, gr153_0_2, gr153_0_3, gr153_0_4⟩ := shape_MultiRule hr
              have jr153_0_0 := gr153_0_0; unfold I64 at jr153_0_0
              have jr153_0_4 := gr153_0_4; unfold I64 at jr153_0_4
              have HH525 := HH524.unF rfl
              obtain ⟨S154, S155, HH526⟩ := HH525.unP rfl
              have HH527 := HH526.sel [1, 0, 2, 3, 4] (by decide) rfl
              obtain ⟨S156, S157, HH528⟩ := HH527.unP rfl
              have HH529 := HH528.sel [1, 0, 2, 3, 4, 5] (by decide) rfl
              obtain ⟨S158, S159, HH530⟩ := HH529.unP rfl
              have HH531 := HH530.sel [1, 0, 2, 3, 4, 5, 6] (by decide) rfl
              have HH532 := HH531.sel [1, 2, 3, 4, 5, 6] (by decide) rfl
              refine ⟨_, rfl, fun a_533 HE534 => hK454 _ _ (by exact HH532.sel [5] (by decide) rfl) ?_⟩
              have HS535 := HH532.sel [5] (by decide) rfl
              refine dr_two (i := 1) (j := 6) (ls' := #[true, true, true, true, true, true, false, false, false, false, false]) (ls'' := #[true, false, true, true, true, true, true, false, false, false, false]) rfl rfl (by kernel_rfl) rfl rfl (fun K_536 hK537 => ?_) (fun K_536 hK537 => ?_)
              · refine st_x HE534 HH532 (wt0 rfl) (x_load1 tv_53 rfl (c_blk 4 rfl rfl)) rfl rfl fun a_538 HE539 => hK537 _ _ HS535 ?_
                refine dr_one (i := 6) (ls' := #[true, true, true, true, true, true, true, false, false, false, false]) rfl (by kernel_rfl) rfl fun K_540 hK541 => ?_
                refine st_call HE539 (wt0 rfl) rfl rfl rfl en_79 rfl rfl (impl_twoTapes 2 ((k : Int) + 1) ((k : Int) + 1) 1 (-1) 2 _ (by omega) (by omega) (by omega) (by omega) (by omega) (by omega)) fun e w' hr => ?_
                obtain ⟨esr160_0, rfl, hor160_0, hbr160⟩ := hr
                have hr := eMultiRule.read hor160_0
                obtain ⟨Sr160, HH542⟩ := HH532.newO hbr160 hor160_0
                obtain ⟨Ar160_0_1, cr160_0_1, Ar160_0_2, cr160_0_2, Ar160_0_3, cr160_0_3, rfl, gr160_0_0, gr160_0_1, gr160_0_2, gr160_0_3, gr160_0_4⟩ := shape_MultiRule hr
                have jr160_0_0 := gr160_0_0; unfold I64 at jr160_0_0
                have jr160_0_4 := gr160_0_4; unfold I64 at jr160_0_4
                have HH543 := HH542.unF rfl
                obtain ⟨S161, S162, HH544⟩ := HH543.unP rfl
                have HH545 := HH544.sel [1, 0, 2, 3, 4, 5, 6, 7] (by decide) rfl
                obtain ⟨S163, S164, HH546⟩ := HH545.unP rfl
                have HH547 := HH546.sel [1, 0, 2, 3, 4, 5, 6, 7, 8] (by decide) rfl
                obtain ⟨S165, S166, HH548⟩ := HH547.unP rfl
                have HH549 := HH548.sel [1, 0, 2, 3, 4, 5, 6, 7, 8, 9] (by decide) rfl
                have HH550 := HH549.sel [1, 2, 3, 4, 5, 6, 7, 8, 9] (by decide) rfl
                refine ⟨_, rfl, fun a_551 HE552 => hK541 _ _ (by exact HH550.sel [8] (by decide) rfl) ?_⟩
                have HS553 := HH550.sel [8] (by decide) rfl
                refine dr_one (i := 7) (ls' := #[true, true, true, true, true, true, true, true, false, false, false]) rfl (by kernel_rfl) rfl fun K_554 hK555 => ?_
                refine st_lit (m := 2) (cs := [.int .i64 ((two6 1 ((k : Int) + 1) 0 (-1) 0 1).1), .slice Ar153_0_1 ((two6 1 ((k : Int) + 1) 0 (-1) 0 1).2.1.length) cr153_0_1, .slice Ar153_0_2 ((two6 1 ((k : Int) + 1) 0 (-1) 0 1).2.2.1.length) cr153_0_2, .slice Ar153_0_3 ((two6 1 ((k : Int) + 1) 0 (-1) 0 1).2.2.2.1.length) cr153_0_3, .int .i64 ((two6 1 ((k : Int) + 1) 0 (-1) 0 1).2.2.2.2), .int .i64 ((two6 2 ((k : Int) + 1) ((k : Int) + 1) 1 (-1) 2).1), .slice Ar160_0_1 ((two6 2 ((k : Int) + 1) ((k : Int) + 1) 1 (-1) 2).2.1.length) cr160_0_1, .slice Ar160_0_2 ((two6 2 ((k : Int) + 1) ((k : Int) + 1) 1 (-1) 2).2.2.1.length) cr160_0_2, .slice Ar160_0_3 ((two6 2 ((k : Int) + 1) ((k : Int) + 1) 1 (-1) 2).2.2.2.1.length) cr160_0_3, .int .i64 ((two6 2 ((k : Int) + 1) ((k : Int) + 1) 1 (-1) 2).2.2.2.2)]) (e := 108) HE552 HH550 (run_lit ts_53 HE552 (vs := [.agg #[.int .i64 ((two6 1 ((k : Int) + 1) 0 (-1) 0 1).1), .slice Ar153_0_1 ((two6 1 ((k : Int) + 1) 0 (-1) 0 1).2.1.length) cr153_0_1, .slice Ar153_0_2 ((two6 1 ((k : Int) + 1) 0 (-1) 0 1).2.2.1.length) cr153_0_2, .slice Ar153_0_3 ((two6 1 ((k : Int) + 1) 0 (-1) 0 1).2.2.2.1.length) cr153_0_3, .int .i64 ((two6 1 ((k : Int) + 1) 0 (-1) 0 1).2.2.2.2)], .agg #[.int .i64 ((two6 2 ((k : Int) + 1) ((k : Int) + 1) 1 (-1) 2).1), .slice Ar160_0_1 ((two6 2 ((k : Int) + 1) ((k : Int) + 1) 1 (-1) 2).2.1.length) cr160_0_1, .slice Ar160_0_2 ((two6 2 ((k : Int) + 1) ((k : Int) + 1) 1 (-1) 2).2.2.1.length) cr160_0_2, .slice Ar160_0_3 ((two6 2 ((k : Int) + 1) ((k : Int) + 1) 1 (-1) 2).2.2.2.1.length) cr160_0_3, .int .i64 ((two6 2 ((k : Int) + 1) ((k : Int) + 1) 1 (-1) 2).2.2.2.2)]]) rfl rfl (by simp [Value.cells]) rfl (by decide)) (wt0 rfl) rfl rfl fun q167 a_556 w' HE557 HH558 => hK555 _ _ (by exact HH558.sel [9] (by decide) rfl) ?_
                have HS559 := HH558.sel [9] (by decide) rfl
                refine dr_one (i := 8) (ls' := #[true, true, true, true, true, true, true, true, true, false, false]) rfl (by kernel_rfl) rfl fun K_560 hK561 => ?_
                have HH562 := HH558.sel [6, 5, 4, 0, 1, 2, 3, 7, 8, 9] (by decide) rfl
                have HH563 := HH562.sel [2, 0, 1, 3, 4, 5, 6, 7, 8, 9] (by decide) rfl
                have HH564 := HH563.pairB (F := eInt) (c2 := [.int .i64 ((two6 1 ((k : Int) + 1) 0 (-1) 0 1).2.2.2.2)]) (y := (two6 1 ((k : Int) + 1) 0 (-1) 0 1).2.2.2.2) (oI (by exact ⟨by omega, by omega⟩))
                have HH565 := HH564.sel [2, 0, 1, 3, 4, 5, 6, 7, 8, 9] (by decide) rfl
                have HH566 := HH565.pair
                have HH567 := HH566.sel [1, 0, 2, 3, 4, 5, 6, 7, 8] (by decide) rfl
                have HH568 := HH567.pair
                have HH569 := HH568.pairF (E := eInt) (c1 := [.int .i64 ((two6 1 ((k : Int) + 1) 0 (-1) 0 1).1)]) (x := (two6 1 ((k : Int) + 1) 0 (-1) 0 1).1) (oI (by exact ⟨by omega, by omega⟩))
                obtain ⟨S171, HH570⟩ : ∃ S, Held Nob w (rO eMultiRule S [.int .i64 ((two6 1 ((k : Int) + 1) 0 (-1) 0 1).1), .slice Ar153_0_1 ((two6 1 ((k : Int) + 1) 0 (-1) 0 1).2.1.length) cr153_0_1, .slice Ar153_0_2 ((two6 1 ((k : Int) + 1) 0 (-1) 0 1).2.2.1.length) cr153_0_2, .slice Ar153_0_3 ((two6 1 ((k : Int) + 1) 0 (-1) 0 1).2.2.2.1.length) cr153_0_3, .int .i64 ((two6 1 ((k : Int) + 1) 0 (-1) 0 1).2.2.2.2)] (two6 1 ((k : Int) + 1) 0 (-1) 0 1) :: _) _ := ⟨_, HH569⟩
                have HH571 := HH570.sel [4, 3, 2, 0, 1, 5, 6, 7] (by decide) rfl
                have HH572 := HH571.sel [2, 0, 1, 3, 4, 5, 6, 7] (by decide) rfl
                have HH573 := HH572.pairB (F := eInt) (c2 := [.int .i64 ((two6 2 ((k : Int) + 1) ((k : Int) + 1) 1 (-1) 2).2.2.2.2)]) (y := (two6 2 ((k : Int) + 1) ((k : Int) + 1) 1 (-1) 2).2.2.2.2) (oI (by exact ⟨by omega, by omega⟩))
                have HH574 := HH573.sel [2, 0, 1, 3, 4, 5, 6, 7] (by decide) rfl
                have HH575 := HH574.pair
                have HH576 := HH575.sel [1, 0, 2, 3, 4, 5, 6] (by decide) rfl
                have HH577 := HH576.pair
                have HH578 := HH577.pairF (E := eInt) (c1 := [.int .i64 ((two6 2 ((k : Int) + 1) ((k : Int) + 1) 1 (-1) 2).1)]) (x := (two6 2 ((k : Int) + 1) ((k : Int) + 1) 1 (-1) 2).1) (oI (by exact ⟨by omega, by omega⟩))
                obtain ⟨S172, HH579⟩ : ∃ S, Held Nob w (rO eMultiRule S [.int .i64 ((two6 2 ((k : Int) + 1) ((k : Int) + 1) 1 (-1) 2).1), .slice Ar160_0_1 ((two6 2 ((k : Int) + 1) ((k : Int) + 1) 1 (-1) 2).2.1.length) cr160_0_1, .slice Ar160_0_2 ((two6 2 ((k : Int) + 1) ((k : Int) + 1) 1 (-1) 2).2.2.1.length) cr160_0_2, .slice Ar160_0_3 ((two6 2 ((k : Int) + 1) ((k : Int) + 1) 1 (-1) 2).2.2.2.1.length) cr160_0_3, .int .i64 ((two6 2 ((k : Int) + 1) ((k : Int) + 1) 1 (-1) 2).2.2.2.2)] (two6 2 ((k : Int) + 1) ((k : Int) + 1) 1 (-1) 2) :: _) _ := ⟨_, HH578⟩
                have HH580 := HH579.sel [1, 0, 2, 3, 4, 5] (by decide) rfl
                obtain ⟨S173, HH581⟩ := Held.vecLit (E := eMultiRule) (g := q167) (t := 108) (ps := [(S171, [.int .i64 ((two6 1 ((k : Int) + 1) 0 (-1) 0 1).1), .slice Ar153_0_1 ((two6 1 ((k : Int) + 1) 0 (-1) 0 1).2.1.length) cr153_0_1, .slice Ar153_0_2 ((two6 1 ((k : Int) + 1) 0 (-1) 0 1).2.2.1.length) cr153_0_2, .slice Ar153_0_3 ((two6 1 ((k : Int) + 1) 0 (-1) 0 1).2.2.2.1.length) cr153_0_3, .int .i64 ((two6 1 ((k : Int) + 1) 0 (-1) 0 1).2.2.2.2)], (two6 1 ((k : Int) + 1) 0 (-1) 0 1)), (S172, [.int .i64 ((two6 2 ((k : Int) + 1) ((k : Int) + 1) 1 (-1) 2).1), .slice Ar160_0_1 ((two6 2 ((k : Int) + 1) ((k : Int) + 1) 1 (-1) 2).2.1.length) cr160_0_1, .slice Ar160_0_2 ((two6 2 ((k : Int) + 1) ((k : Int) + 1) 1 (-1) 2).2.2.1.length) cr160_0_2, .slice Ar160_0_3 ((two6 2 ((k : Int) + 1) ((k : Int) + 1) 1 (-1) 2).2.2.2.1.length) cr160_0_3, .int .i64 ((two6 2 ((k : Int) + 1) ((k : Int) + 1) 1 (-1) 2).2.2.2.2)], (two6 2 ((k : Int) + 1) ((k : Int) + 1) 1 (-1) 2))]) HH580 (by unfold maxLen; simp)
                have HH582 : Held Nob w (rVec eMultiRule 108 S173 (some ⟨q167, 0, none⟩) 2 ([(two6 1 ((k : Int) + 1) 0 (-1) 0 1), (two6 2 ((k : Int) + 1) ((k : Int) + 1) 1 (-1) 2)] : List tMultiRule) :: [rVec eMultiRule 108 S_4_3 A_4_3 c_4_3 (palI a0 k), rBlk q25 55 [.int .i64 (2), .int .i64 (a0), .int .i64 (4), .slice A_4_3 ((List.length (palI a0 k))) c_4_3], rBlk q21 55 [.int .i64 (0), .int .i64 (0), .int .i64 (0), .slice none (0) 0]]) _ := HH581
                refine st_appV (g := q167) one_MultiRule HE557 HH582 ts_53 [1, 0, 2, 3] (by decide) rfl rfl rfl (by unfold maxLen; first | omega | (simp; done) | (simp; omega)) (by first | omega | (simp; done) | (simp; omega)) (wt0 rfl) rfl fun A168 c169 S170 a_583 w' HE584 HH585 => hK561 _ _ (by exact HH585.sel [2] (by decide) rfl) ?_
                have lA168 : (palI a0 k ++ ([(two6 1 ((k : Int) + 1) 0 (-1) 0 1), (two6 2 ((k : Int) + 1) ((k : Int) + 1) 1 (-1) 2)] : List tMultiRule)).length = List.length (palI a0 k) + List.length ([(two6 1 ((k : Int) + 1) 0 (-1) 0 1), (two6 2 ((k : Int) + 1) ((k : Int) + 1) 1 (-1) 2)] : List tMultiRule) := List.length_append
                have HS586 := HH585.sel [2] (by decide) rfl
                refine dr_take (i := 9) (ls' := #[true, true, true, true, true, true, true, true, true, true, false]) HE584 HS586 rfl (by kernel_rfl) (by kernel_rfl) (by kernel_rfl) (fun _ _ _ h => h) rfl (wt0 rfl) (x_fieldAddr fa_55_3 rfl) rfl rfl fun a_587 HE588 => ?_
                refine dr_one (i := 10) (ls' := #[true, true, true, true, true, true, true, true, true, true, true]) rfl (by kernel_rfl) rfl fun K_589 hK590 => ?_
                refine st_store (vs := [.slice A168 ((palI a0 k ++ ([(two6 1 ((k : Int) + 1) 0 (-1) 0 1), (two6 2 ((k : Int) + 1) ((k : Int) + 1) 1 (-1) 2)] : List tMultiRule)).length) c169]) 1 HE588 HH585 tv_53 rfl rfl rfl rfl rfl rfl (by simp [Value.oneCell']) (wt0 rfl) fun w' HH591 => hK590 _ _ (by exact HH591.sel [2] (by decide) rfl) ?_
                have HS592 := HH591.sel [2] (by decide) rfl
                refine dr_done (by kernel_rfl) ?_
                clear HH436 a_441 HE442 a_445 HE446 a_447 HE448 a_449 HE450 HH443 HH524 HH525 HH526 HH527 HH528 HH529 HH530 HH531 a_451 HE452 HS444 K_453 hK454 a_533 HE534 K_536 hK537 HH532 HH542 HH543 HH544 HH545 HH546 HH547 HH548 HH549 a_538 HE539 HS535 K_540 hK541 a_551 HE552 HH550 HS553 K_554 hK555 HH558 HH562 HH563 HH564 HH565 HH566 HH567 HH568 HH569 HH570 HH571 HH572 HH573 HH574 HH575 HH576 HH577 HH578 HH579 HH580 HH581 a_556 HE557 HH582 HS559 a_583 HE584 K_560 hK561 HH585 HS586 hK590 K_589
                exact nrm ⟨_, _, _, HE588.sub ⟨rfl, rfl, rfl, rfl, trivial⟩, HH591.sel [0, 1, 2] (by decide) rfl⟩
              · refine st_call HE534 (wt0 rfl) rfl rfl rfl en_79 rfl rfl (impl_twoTapes 2 ((k : Int) + 1) ((k : Int) + 1) 1 (-1) 2 _ (by omega) (by omega) (by omega) (by omega) (by omega) (by omega)) fun e w' hr => ?_
                obtain ⟨esr174_0, rfl, hor174_0, hbr174⟩ := hr
                have hr := eMultiRule.read hor174_0
                obtain ⟨Sr174, HH593⟩ := HH532.newO hbr174 hor174_0
                obtain ⟨Ar174_0_1, cr174_0_1, Ar174_0_2, cr174_0_2, Ar174_0_3, cr174_0_3, rfl, gr174_0_0, gr174_0_1, gr174_0_2, gr174_0_3, gr174_0_4⟩ := shape_MultiRule hr
                have jr174_0_0 := gr174_0_0; unfold I64 at jr174_0_0
                have jr174_0_4 := gr174_0_4; unfold I64 at jr174_0_4
                have HH594 := HH593.unF rfl
                obtain ⟨S175, S176, HH595⟩ := HH594.unP rfl
                have HH596 := HH595.sel [1, 0, 2, 3, 4, 5, 6, 7] (by decide) rfl
                obtain ⟨S177, S178, HH597⟩ := HH596.unP rfl
                have HH598 := HH597.sel [1, 0, 2, 3, 4, 5, 6, 7, 8] (by decide) rfl
                obtain ⟨S179, S180, HH599⟩ := HH598.unP rfl
                have HH600 := HH599.sel [1, 0, 2, 3, 4, 5, 6, 7, 8, 9] (by decide) rfl
                have HH601 := HH600.sel [1, 2, 3, 4, 5, 6, 7, 8, 9] (by decide) rfl
                refine ⟨_, rfl, fun a_602 HE603 => hK537 _ _ (by exact HH601.sel [8] (by decide) rfl) ?_⟩
                have HS604 := HH601.sel [8] (by decide) rfl
                refine dr_two (i := 1) (j := 7) (ls' := #[true, true, true, true, true, true, true, false, false, false, false]) (ls'' := #[true, false, true, true, true, true, true, true, false, false, false]) rfl rfl (by kernel_rfl) rfl rfl (fun K_605 hK606 => ?_) (fun K_605 hK606 => ?_)
                · refine st_x HE603 HH601 (wt0 rfl) (x_load1 tv_53 rfl (c_blk 7 rfl rfl)) rfl rfl fun a_607 HE608 => hK606 _ _ HS604 ?_
                  refine dr_one (i := 7) (ls' := #[true, true, true, true, true, true, true, true, false, false, false]) rfl (by kernel_rfl) rfl fun K_609 hK610 => ?_
                  refine st_lit (m := 2) (cs := [.int .i64 ((two6 1 ((k : Int) + 1) 0 (-1) 0 1).1), .slice Ar153_0_1 ((two6 1 ((k : Int) + 1) 0 (-1) 0 1).2.1.length) cr153_0_1, .slice Ar153_0_2 ((two6 1 ((k : Int) + 1) 0 (-1) 0 1).2.2.1.length) cr153_0_2, .slice Ar153_0_3 ((two6 1 ((k : Int) + 1) 0 (-1) 0 1).2.2.2.1.length) cr153_0_3, .int .i64 ((two6 1 ((k : Int) + 1) 0 (-1) 0 1).2.2.2.2), .int .i64 ((two6 2 ((k : Int) + 1) ((k : Int) + 1) 1 (-1) 2).1), .slice Ar174_0_1 ((two6 2 ((k : Int) + 1) ((k : Int) + 1) 1 (-1) 2).2.1.length) cr174_0_1, .slice Ar174_0_2 ((two6 2 ((k : Int) + 1) ((k : Int) + 1) 1 (-1) 2).2.2.1.length) cr174_0_2, .slice Ar174_0_3 ((two6 2 ((k : Int) + 1) ((k : Int) + 1) 1 (-1) 2).2.2.2.1.length) cr174_0_3, .int .i64 ((two6 2 ((k : Int) + 1) ((k : Int) + 1) 1 (-1) 2).2.2.2.2)]) (e := 108) HE608 HH601 (run_lit ts_53 HE608 (vs := [.agg #[.int .i64 ((two6 1 ((k : Int) + 1) 0 (-1) 0 1).1), .slice Ar153_0_1 ((two6 1 ((k : Int) + 1) 0 (-1) 0 1).2.1.length) cr153_0_1, .slice Ar153_0_2 ((two6 1 ((k : Int) + 1) 0 (-1) 0 1).2.2.1.length) cr153_0_2, .slice Ar153_0_3 ((two6 1 ((k : Int) + 1) 0 (-1) 0 1).2.2.2.1.length) cr153_0_3, .int .i64 ((two6 1 ((k : Int) + 1) 0 (-1) 0 1).2.2.2.2)], .agg #[.int .i64 ((two6 2 ((k : Int) + 1) ((k : Int) + 1) 1 (-1) 2).1), .slice Ar174_0_1 ((two6 2 ((k : Int) + 1) ((k : Int) + 1) 1 (-1) 2).2.1.length) cr174_0_1, .slice Ar174_0_2 ((two6 2 ((k : Int) + 1) ((k : Int) + 1) 1 (-1) 2).2.2.1.length) cr174_0_2, .slice Ar174_0_3 ((two6 2 ((k : Int) + 1) ((k : Int) + 1) 1 (-1) 2).2.2.2.1.length) cr174_0_3, .int .i64 ((two6 2 ((k : Int) + 1) ((k : Int) + 1) 1 (-1) 2).2.2.2.2)]]) rfl rfl (by simp [Value.cells]) rfl (by decide)) (wt0 rfl) rfl rfl fun q181 a_611 w' HE612 HH613 => hK610 _ _ (by exact HH613.sel [9] (by decide) rfl) ?_
                  have HS614 := HH613.sel [9] (by decide) rfl
                  refine dr_one (i := 8) (ls' := #[true, true, true, true, true, true, true, true, true, false, false]) rfl (by kernel_rfl) rfl fun K_615 hK616 => ?_
                  have HH617 := HH613.sel [6, 5, 4, 0, 1, 2, 3, 7, 8, 9] (by decide) rfl
                  have HH618 := HH617.sel [2, 0, 1, 3, 4, 5, 6, 7, 8, 9] (by decide) rfl
                  have HH619 := HH618.pairB (F := eInt) (c2 := [.int .i64 ((two6 1 ((k : Int) + 1) 0 (-1) 0 1).2.2.2.2)]) (y := (two6 1 ((k : Int) + 1) 0 (-1) 0 1).2.2.2.2) (oI (by exact ⟨by omega, by omega⟩))
                  have HH620 := HH619.sel [2, 0, 1, 3, 4, 5, 6, 7, 8, 9] (by decide) rfl
                  have HH621 := HH620.pair
                  have HH622 := HH621.sel [1, 0, 2, 3, 4, 5, 6, 7, 8] (by decide) rfl
                  have HH623 := HH622.pair
                  have HH624 := HH623.pairF (E := eInt) (c1 := [.int .i64 ((two6 1 ((k : Int) + 1) 0 (-1) 0 1).1)]) (x := (two6 1 ((k : Int) + 1) 0 (-1) 0 1).1) (oI (by exact ⟨by omega, by omega⟩))
                  obtain ⟨S185, HH625⟩ : ∃ S, Held Nob w (rO eMultiRule S [.int .i64 ((two6 1 ((k : Int) + 1) 0 (-1) 0 1).1), .slice Ar153_0_1 ((two6 1 ((k : Int) + 1) 0 (-1) 0 1).2.1.length) cr153_0_1, .slice Ar153_0_2 ((two6 1 ((k : Int) + 1) 0 (-1) 0 1).2.2.1.length) cr153_0_2, .slice Ar153_0_3 ((two6 1 ((k : Int) + 1) 0 (-1) 0 1).2.2.2.1.length) cr153_0_3, .int .i64 ((two6 1 ((k : Int) + 1) 0 (-1) 0 1).2.2.2.2)] (two6 1 ((k : Int) + 1) 0 (-1) 0 1) :: _) _ := ⟨_, HH624⟩
                  have HH626 := HH625.sel [4, 3, 2, 0, 1, 5, 6, 7] (by decide) rfl
                  have HH627 := HH626.sel [2, 0, 1, 3, 4, 5, 6, 7] (by decide) rfl
                  have HH628 := HH627.pairB (F := eInt) (c2 := [.int .i64 ((two6 2 ((k : Int) + 1) ((k : Int) + 1) 1 (-1) 2).2.2.2.2)]) (y := (two6 2 ((k : Int) + 1) ((k : Int) + 1) 1 (-1) 2).2.2.2.2) (oI (by exact ⟨by omega, by omega⟩))
                  have HH629 := HH628.sel [2, 0, 1, 3, 4, 5, 6, 7] (by decide) rfl
                  have HH630 := HH629.pair
                  have HH631 := HH630.sel [1, 0, 2, 3, 4, 5, 6] (by decide) rfl
                  have HH632 := HH631.pair
                  have HH633 := HH632.pairF (E := eInt) (c1 := [.int .i64 ((two6 2 ((k : Int) + 1) ((k : Int) + 1) 1 (-1) 2).1)]) (x := (two6 2 ((k : Int) + 1) ((k : Int) + 1) 1 (-1) 2).1) (oI (by exact ⟨by omega, by omega⟩))
                  obtain ⟨S186, HH634⟩ : ∃ S, Held Nob w (rO eMultiRule S [.int .i64 ((two6 2 ((k : Int) + 1) ((k : Int) + 1) 1 (-1) 2).1), .slice Ar174_0_1 ((two6 2 ((k : Int) + 1) ((k : Int) + 1) 1 (-1) 2).2.1.length) cr174_0_1, .slice Ar174_0_2 ((two6 2 ((k : Int) + 1) ((k : Int) + 1) 1 (-1) 2).2.2.1.length) cr174_0_2, .slice Ar174_0_3 ((two6 2 ((k : Int) + 1) ((k : Int) + 1) 1 (-1) 2).2.2.2.1.length) cr174_0_3, .int .i64 ((two6 2 ((k : Int) + 1) ((k : Int) + 1) 1 (-1) 2).2.2.2.2)] (two6 2 ((k : Int) + 1) ((k : Int) + 1) 1 (-1) 2) :: _) _ := ⟨_, HH633⟩
                  have HH635 := HH634.sel [1, 0, 2, 3, 4, 5] (by decide) rfl
                  obtain ⟨S187, HH636⟩ := Held.vecLit (E := eMultiRule) (g := q181) (t := 108) (ps := [(S185, [.int .i64 ((two6 1 ((k : Int) + 1) 0 (-1) 0 1).1), .slice Ar153_0_1 ((two6 1 ((k : Int) + 1) 0 (-1) 0 1).2.1.length) cr153_0_1, .slice Ar153_0_2 ((two6 1 ((k : Int) + 1) 0 (-1) 0 1).2.2.1.length) cr153_0_2, .slice Ar153_0_3 ((two6 1 ((k : Int) + 1) 0 (-1) 0 1).2.2.2.1.length) cr153_0_3, .int .i64 ((two6 1 ((k : Int) + 1) 0 (-1) 0 1).2.2.2.2)], (two6 1 ((k : Int) + 1) 0 (-1) 0 1)), (S186, [.int .i64 ((two6 2 ((k : Int) + 1) ((k : Int) + 1) 1 (-1) 2).1), .slice Ar174_0_1 ((two6 2 ((k : Int) + 1) ((k : Int) + 1) 1 (-1) 2).2.1.length) cr174_0_1, .slice Ar174_0_2 ((two6 2 ((k : Int) + 1) ((k : Int) + 1) 1 (-1) 2).2.2.1.length) cr174_0_2, .slice Ar174_0_3 ((two6 2 ((k : Int) + 1) ((k : Int) + 1) 1 (-1) 2).2.2.2.1.length) cr174_0_3, .int .i64 ((two6 2 ((k : Int) + 1) ((k : Int) + 1) 1 (-1) 2).2.2.2.2)], (two6 2 ((k : Int) + 1) ((k : Int) + 1) 1 (-1) 2))]) HH635 (by unfold maxLen; simp)
                  have HH637 : Held Nob w (rVec eMultiRule 108 S187 (some ⟨q181, 0, none⟩) 2 ([(two6 1 ((k : Int) + 1) 0 (-1) 0 1), (two6 2 ((k : Int) + 1) ((k : Int) + 1) 1 (-1) 2)] : List tMultiRule) :: [rVec eMultiRule 108 S_4_3 A_4_3 c_4_3 (palI a0 k), rBlk q25 55 [.int .i64 (2), .int .i64 (a0), .int .i64 (4), .slice A_4_3 ((List.length (palI a0 k))) c_4_3], rBlk q21 55 [.int .i64 (0), .int .i64 (0), .int .i64 (0), .slice none (0) 0]]) _ := HH636
                  refine st_appV (g := q181) one_MultiRule HE612 HH637 ts_53 [1, 0, 2, 3] (by decide) rfl rfl rfl (by unfold maxLen; first | omega | (simp; done) | (simp; omega)) (by first | omega | (simp; done) | (simp; omega)) (wt0 rfl) rfl fun A182 c183 S184 a_638 w' HE639 HH640 => hK616 _ _ (by exact HH640.sel [2] (by decide) rfl) ?_
                  have lA182 : (palI a0 k ++ ([(two6 1 ((k : Int) + 1) 0 (-1) 0 1), (two6 2 ((k : Int) + 1) ((k : Int) + 1) 1 (-1) 2)] : List tMultiRule)).length = List.length (palI a0 k) + List.length ([(two6 1 ((k : Int) + 1) 0 (-1) 0 1), (two6 2 ((k : Int) + 1) ((k : Int) + 1) 1 (-1) 2)] : List tMultiRule) := List.length_append
                  have HS641 := HH640.sel [2] (by decide) rfl
                  refine dr_take (i := 9) (ls' := #[true, true, true, true, true, true, true, true, true, true, false]) HE639 HS641 rfl (by kernel_rfl) (by kernel_rfl) (by kernel_rfl) (fun _ _ _ h => h) rfl (wt0 rfl) (x_fieldAddr fa_55_3 rfl) rfl rfl fun a_642 HE643 => ?_
                  refine dr_one (i := 10) (ls' := #[true, true, true, true, true, true, true, true, true, true, true]) rfl (by kernel_rfl) rfl fun K_644 hK645 => ?_
                  refine st_store (vs := [.slice A182 ((palI a0 k ++ ([(two6 1 ((k : Int) + 1) 0 (-1) 0 1), (two6 2 ((k : Int) + 1) ((k : Int) + 1) 1 (-1) 2)] : List tMultiRule)).length) c183]) 1 HE643 HH640 tv_53 rfl rfl rfl rfl rfl rfl (by simp [Value.oneCell']) (wt0 rfl) fun w' HH646 => hK645 _ _ (by exact HH646.sel [2] (by decide) rfl) ?_
                  have HS647 := HH646.sel [2] (by decide) rfl
                  refine dr_done (by kernel_rfl) ?_
                  clear HH436 a_441 HE442 a_445 HE446 a_447 HE448 a_449 HE450 HH443 HH524 HH525 HH526 HH527 HH528 HH529 HH530 HH531 a_451 HE452 HS444 K_453 hK454 HH532 HH593 HH594 HH595 HH596 HH597 HH598 HH599 HH600 a_533 HE534 HS535 K_536 hK537 a_602 HE603 K_605 hK606 a_607 HE608 HH601 HS604 K_609 hK610 HH613 HH617 HH618 HH619 HH620 HH621 HH622 HH623 HH624 HH625 HH626 HH627 HH628 HH629 HH630 HH631 HH632 HH633 HH634 HH635 HH636 a_611 HE612 HH637 HS614 a_638 HE639 K_615 hK616 HH640 HS641 hK645 K_644
                  exact nrm ⟨_, _, _, HE643.sub ⟨rfl, rfl, rfl, rfl, trivial⟩, HH646.sel [0, 1, 2] (by decide) rfl⟩
                · refine st_lit (m := 2) (cs := [.int .i64 ((two6 1 ((k : Int) + 1) 0 (-1) 0 1).1), .slice Ar153_0_1 ((two6 1 ((k : Int) + 1) 0 (-1) 0 1).2.1.length) cr153_0_1, .slice Ar153_0_2 ((two6 1 ((k : Int) + 1) 0 (-1) 0 1).2.2.1.length) cr153_0_2, .slice Ar153_0_3 ((two6 1 ((k : Int) + 1) 0 (-1) 0 1).2.2.2.1.length) cr153_0_3, .int .i64 ((two6 1 ((k : Int) + 1) 0 (-1) 0 1).2.2.2.2), .int .i64 ((two6 2 ((k : Int) + 1) ((k : Int) + 1) 1 (-1) 2).1), .slice Ar174_0_1 ((two6 2 ((k : Int) + 1) ((k : Int) + 1) 1 (-1) 2).2.1.length) cr174_0_1, .slice Ar174_0_2 ((two6 2 ((k : Int) + 1) ((k : Int) + 1) 1 (-1) 2).2.2.1.length) cr174_0_2, .slice Ar174_0_3 ((two6 2 ((k : Int) + 1) ((k : Int) + 1) 1 (-1) 2).2.2.2.1.length) cr174_0_3, .int .i64 ((two6 2 ((k : Int) + 1) ((k : Int) + 1) 1 (-1) 2).2.2.2.2)]) (e := 108) HE603 HH601 (run_lit ts_53 HE603 (vs := [.agg #[.int .i64 ((two6 1 ((k : Int) + 1) 0 (-1) 0 1).1), .slice Ar153_0_1 ((two6 1 ((k : Int) + 1) 0 (-1) 0 1).2.1.length) cr153_0_1, .slice Ar153_0_2 ((two6 1 ((k : Int) + 1) 0 (-1) 0 1).2.2.1.length) cr153_0_2, .slice Ar153_0_3 ((two6 1 ((k : Int) + 1) 0 (-1) 0 1).2.2.2.1.length) cr153_0_3, .int .i64 ((two6 1 ((k : Int) + 1) 0 (-1) 0 1).2.2.2.2)], .agg #[.int .i64 ((two6 2 ((k : Int) + 1) ((k : Int) + 1) 1 (-1) 2).1), .slice Ar174_0_1 ((two6 2 ((k : Int) + 1) ((k : Int) + 1) 1 (-1) 2).2.1.length) cr174_0_1, .slice Ar174_0_2 ((two6 2 ((k : Int) + 1) ((k : Int) + 1) 1 (-1) 2).2.2.1.length) cr174_0_2, .slice Ar174_0_3 ((two6 2 ((k : Int) + 1) ((k : Int) + 1) 1 (-1) 2).2.2.2.1.length) cr174_0_3, .int .i64 ((two6 2 ((k : Int) + 1) ((k : Int) + 1) 1 (-1) 2).2.2.2.2)]]) rfl rfl (by simp [Value.cells]) rfl (by decide)) (wt0 rfl) rfl rfl fun q188 a_648 w' HE649 HH650 => hK606 _ _ (by exact HH650.sel [9] (by decide) rfl) ?_
                  have HS651 := HH650.sel [9] (by decide) rfl
                  refine dr_one (i := 1) (ls' := #[true, true, true, true, true, true, true, true, false, false, false]) rfl (by kernel_rfl) rfl fun K_652 hK653 => ?_
                  refine st_x HE649 HH650 (wt0 rfl) (x_load1 tv_53 rfl (c_blk 8 rfl rfl)) rfl rfl fun a_654 HE655 => hK653 _ _ HS651 ?_
                  refine dr_one (i := 8) (ls' := #[true, true, true, true, true, true, true, true, true, false, false]) rfl (by kernel_rfl) rfl fun K_656 hK657 => ?_
                  have HH658 := HH650.sel [6, 5, 4, 0, 1, 2, 3, 7, 8, 9] (by decide) rfl
                  have HH659 := HH658.sel [2, 0, 1, 3, 4, 5, 6, 7, 8, 9] (by decide) rfl
                  have HH660 := HH659.pairB (F := eInt) (c2 := [.int .i64 ((two6 1 ((k : Int) + 1) 0 (-1) 0 1).2.2.2.2)]) (y := (two6 1 ((k : Int) + 1) 0 (-1) 0 1).2.2.2.2) (oI (by exact ⟨by omega, by omega⟩))
                  have HH661 := HH660.sel [2, 0, 1, 3, 4, 5, 6, 7, 8, 9] (by decide) rfl
                  have HH662 := HH661.pair
                  have HH663 := HH662.sel [1, 0, 2, 3, 4, 5, 6, 7, 8] (by decide) rfl
                  have HH664 := HH663.pair
                  have HH665 := HH664.pairF (E := eInt) (c1 := [.int .i64 ((two6 1 ((k : Int) + 1) 0 (-1) 0 1).1)]) (x := (two6 1 ((k : Int) + 1) 0 (-1) 0 1).1) (oI (by exact ⟨by omega, by omega⟩))
                  obtain ⟨S192, HH666⟩ : ∃ S, Held Nob w (rO eMultiRule S [.int .i64 ((two6 1 ((k : Int) + 1) 0 (-1) 0 1).1), .slice Ar153_0_1 ((two6 1 ((k : Int) + 1) 0 (-1) 0 1).2.1.length) cr153_0_1, .slice Ar153_0_2 ((two6 1 ((k : Int) + 1) 0 (-1) 0 1).2.2.1.length) cr153_0_2, .slice Ar153_0_3 ((two6 1 ((k : Int) + 1) 0 (-1) 0 1).2.2.2.1.length) cr153_0_3, .int .i64 ((two6 1 ((k : Int) + 1) 0 (-1) 0 1).2.2.2.2)] (two6 1 ((k : Int) + 1) 0 (-1) 0 1) :: _) _ := ⟨_, HH665⟩
                  have HH667 := HH666.sel [4, 3, 2, 0, 1, 5, 6, 7] (by decide) rfl
                  have HH668 := HH667.sel [2, 0, 1, 3, 4, 5, 6, 7] (by decide) rfl
                  have HH669 := HH668.pairB (F := eInt) (c2 := [.int .i64 ((two6 2 ((k : Int) + 1) ((k : Int) + 1) 1 (-1) 2).2.2.2.2)]) (y := (two6 2 ((k : Int) + 1) ((k : Int) + 1) 1 (-1) 2).2.2.2.2) (oI (by exact ⟨by omega, by omega⟩))
                  have HH670 := HH669.sel [2, 0, 1, 3, 4, 5, 6, 7] (by decide) rfl
                  have HH671 := HH670.pair
                  have HH672 := HH671.sel [1, 0, 2, 3, 4, 5, 6] (by decide) rfl
                  have HH673 := HH672.pair
                  have HH674 := HH673.pairF (E := eInt) (c1 := [.int .i64 ((two6 2 ((k : Int) + 1) ((k : Int) + 1) 1 (-1) 2).1)]) (x := (two6 2 ((k : Int) + 1) ((k : Int) + 1) 1 (-1) 2).1) (oI (by exact ⟨by omega, by omega⟩))
                  obtain ⟨S193, HH675⟩ : ∃ S, Held Nob w (rO eMultiRule S [.int .i64 ((two6 2 ((k : Int) + 1) ((k : Int) + 1) 1 (-1) 2).1), .slice Ar174_0_1 ((two6 2 ((k : Int) + 1) ((k : Int) + 1) 1 (-1) 2).2.1.length) cr174_0_1, .slice Ar174_0_2 ((two6 2 ((k : Int) + 1) ((k : Int) + 1) 1 (-1) 2).2.2.1.length) cr174_0_2, .slice Ar174_0_3 ((two6 2 ((k : Int) + 1) ((k : Int) + 1) 1 (-1) 2).2.2.2.1.length) cr174_0_3, .int .i64 ((two6 2 ((k : Int) + 1) ((k : Int) + 1) 1 (-1) 2).2.2.2.2)] (two6 2 ((k : Int) + 1) ((k : Int) + 1) 1 (-1) 2) :: _) _ := ⟨_, HH674⟩
                  have HH676 := HH675.sel [1, 0, 2, 3, 4, 5] (by decide) rfl
                  obtain ⟨S194, HH677⟩ := Held.vecLit (E := eMultiRule) (g := q188) (t := 108) (ps := [(S192, [.int .i64 ((two6 1 ((k : Int) + 1) 0 (-1) 0 1).1), .slice Ar153_0_1 ((two6 1 ((k : Int) + 1) 0 (-1) 0 1).2.1.length) cr153_0_1, .slice Ar153_0_2 ((two6 1 ((k : Int) + 1) 0 (-1) 0 1).2.2.1.length) cr153_0_2, .slice Ar153_0_3 ((two6 1 ((k : Int) + 1) 0 (-1) 0 1).2.2.2.1.length) cr153_0_3, .int .i64 ((two6 1 ((k : Int) + 1) 0 (-1) 0 1).2.2.2.2)], (two6 1 ((k : Int) + 1) 0 (-1) 0 1)), (S193, [.int .i64 ((two6 2 ((k : Int) + 1) ((k : Int) + 1) 1 (-1) 2).1), .slice Ar174_0_1 ((two6 2 ((k : Int) + 1) ((k : Int) + 1) 1 (-1) 2).2.1.length) cr174_0_1, .slice Ar174_0_2 ((two6 2 ((k : Int) + 1) ((k : Int) + 1) 1 (-1) 2).2.2.1.length) cr174_0_2, .slice Ar174_0_3 ((two6 2 ((k : Int) + 1) ((k : Int) + 1) 1 (-1) 2).2.2.2.1.length) cr174_0_3, .int .i64 ((two6 2 ((k : Int) + 1) ((k : Int) + 1) 1 (-1) 2).2.2.2.2)], (two6 2 ((k : Int) + 1) ((k : Int) + 1) 1 (-1) 2))]) HH676 (by unfold maxLen; simp)
                  have HH678 : Held Nob w (rVec eMultiRule 108 S194 (some ⟨q188, 0, none⟩) 2 ([(two6 1 ((k : Int) + 1) 0 (-1) 0 1), (two6 2 ((k : Int) + 1) ((k : Int) + 1) 1 (-1) 2)] : List tMultiRule) :: [rVec eMultiRule 108 S_4_3 A_4_3 c_4_3 (palI a0 k), rBlk q25 55 [.int .i64 (2), .int .i64 (a0), .int .i64 (4), .slice A_4_3 ((List.length (palI a0 k))) c_4_3], rBlk q21 55 [.int .i64 (0), .int .i64 (0), .int .i64 (0), .slice none (0) 0]]) _ := HH677
                  refine st_appV (g := q188) one_MultiRule HE655 HH678 ts_53 [1, 0, 2, 3] (by decide) rfl rfl rfl (by unfold maxLen; first | omega | (simp; done) | (simp; omega)) (by first | omega | (simp; done) | (simp; omega)) (wt0 rfl) rfl fun A189 c190 S191 a_679 w' HE680 HH681 => hK657 _ _ (by exact HH681.sel [2] (by decide) rfl) ?_
                  have lA189 : (palI a0 k ++ ([(two6 1 ((k : Int) + 1) 0 (-1) 0 1), (two6 2 ((k : Int) + 1) ((k : Int) + 1) 1 (-1) 2)] : List tMultiRule)).length = List.length (palI a0 k) + List.length ([(two6 1 ((k : Int) + 1) 0 (-1) 0 1), (two6 2 ((k : Int) + 1) ((k : Int) + 1) 1 (-1) 2)] : List tMultiRule) := List.length_append
                  have HS682 := HH681.sel [2] (by decide) rfl
                  refine dr_take (i := 9) (ls' := #[true, true, true, true, true, true, true, true, true, true, false]) HE680 HS682 rfl (by kernel_rfl) (by kernel_rfl) (by kernel_rfl) (fun _ _ _ h => h) rfl (wt0 rfl) (x_fieldAddr fa_55_3 rfl) rfl rfl fun a_683 HE684 => ?_
                  refine dr_one (i := 10) (ls' := #[true, true, true, true, true, true, true, true, true, true, true]) rfl (by kernel_rfl) rfl fun K_685 hK686 => ?_
                  refine st_store (vs := [.slice A189 ((palI a0 k ++ ([(two6 1 ((k : Int) + 1) 0 (-1) 0 1), (two6 2 ((k : Int) + 1) ((k : Int) + 1) 1 (-1) 2)] : List tMultiRule)).length) c190]) 1 HE684 HH681 tv_53 rfl rfl rfl rfl rfl rfl (by simp [Value.oneCell']) (wt0 rfl) fun w' HH687 => hK686 _ _ (by exact HH687.sel [2] (by decide) rfl) ?_
                  have HS688 := HH687.sel [2] (by decide) rfl
                  refine dr_done (by kernel_rfl) ?_
                  clear HH436 a_441 HE442 a_445 HE446 a_447 HE448 a_449 HE450 HH443 HH524 HH525 HH526 HH527 HH528 HH529 HH530 HH531 a_451 HE452 HS444 K_453 hK454 HH532 HH593 HH594 HH595 HH596 HH597 HH598 HH599 HH600 a_533 HE534 HS535 K_536 hK537 a_602 HE603 HH601 HS604 K_605 hK606 a_648 HE649 K_652 hK653 HH650 HH658 HH659 HH660 HH661 HH662 HH663 HH664 HH665 HH666 HH667 HH668 HH669 HH670 HH671 HH672 HH673 HH674 HH675 HH676 HH677 a_654 HE655 HH678 HS651 a_679 HE680 K_656 hK657 HH681 HS682 hK686 K_685
                  exact nrm ⟨_, _, _, HE684.sub ⟨rfl, rfl, rfl, rfl, trivial⟩, HH687.sel [0, 1, 2] (by decide) rfl⟩
          · rintro a_689 w' ⟨S149, A147, c148, HE690, HH691⟩
            refine blk_n ?_
            refine nrm ?_
            refine rg ?_
            refine pl_x HE690 HH691 (wt0 rfl) (x_move rfl) rfl rfl fun a_692 HE693 => ?_
            refine pl_x HE693 HH691 (wt0 rfl) (x_add rfl rfl (by exact ⟨by omega, by omega⟩)) rfl rfl fun a_694 HE695 => ?_
            refine pl_x HE695 HH691 (wt0 rfl) (x_assign rfl) rfl rfl fun a_696 HE697 => ?_
            refine wpList_nil ?_
            clear a_441 HE442 HH436 a_689 HE690 a_692 HE693 a_694 HE695
            have E195 : palI a0 (k + 1) = (palI a0 k ++ ([(two6 1 ((k : Int) + 1) 0 (-1) 0 1), (two6 2 ((k : Int) + 1) ((k : Int) + 1) 1 (-1) 2)] : List tMultiRule)) := by
              exact palI_succ a0 k
            exact nrm ⟨(a0 - ((k + 1) : Int)).toNat, (by omega), k + 1, A147, c148, S149, rfl, HE697.sub ⟨(lkI rfl (by first | rfl | omega | (simp [hc23, p130_0, hc131]; done))), rfl, rfl, rfl, trivial⟩, ((HH691.sel [0, 1, 2] (by decide) rfl).to (by first | rfl | (rw [E195]; done) | (rw [E195]; rfl) | (simp only [E195]; done) | (simp only [E195]; rfl) | (rw [E195]; simp only [List.length_set]; done))), (by first | omega | assumption | (simp; done) | simp_all)⟩
        · refine wp_exit ?_
          refine (thn_exit (thn_exit (blk_hit ?_)))
          refine nrm ?_
          refine wp_seq ?_
          refine rg ?_
          refine pl fun K_698 hK699 => ?_
          have HH700 := HH436.vecSo
          have HH701 := HH700.pairF (E := eInt) (c1 := [.int .i64 (4)]) (x := 4) (oI (by exact ⟨by omega, by omega⟩))
          have HH702 := HH701.pairF (E := eInt) (c1 := [.int .i64 (a0)]) (x := a0) (oI (by exact ⟨by omega, by omega⟩))
          have HH703 := HH702.pairF (E := eInt) (c1 := [.int .i64 (2)]) (x := 2) (oI (by exact ⟨by omega, by omega⟩))
          obtain ⟨S196, HH704⟩ : ∃ S, Held Nob w (rO eMulti S [.int .i64 (2), .int .i64 (a0), .int .i64 (4), .slice A_4_3 ((List.length (palI a0 k))) c_4_3] (2, a0, 4, palI a0 k) :: _) _ := ⟨_, HH703⟩
          have HH705 := HH704.sel [1, 0, 2] (by decide) rfl
          have HH706 : Held Nob w ([rBlk q25 55 [.int .i64 (2), .int .i64 (a0), .int .i64 (4), .slice A_4_3 ((List.length (palI a0 k))) c_4_3], rO eMulti S196 [.int .i64 (2), .int .i64 (a0), .int .i64 (4), .slice A_4_3 ((List.length (palI a0 k))) c_4_3] (2, a0, 4, palI a0 k)] ++ [rBlk q21 55 [.int .i64 (0), .int .i64 (0), .int .i64 (0), .slice none (0) 0]]) _ := HH705
          refine st_call HE442 (wt0 rfl) rfl rfl rfl en_80 rfl rfl (impl_sortRules (Foot [rBlk q25 55 [.int .i64 (2), .int .i64 (a0), .int .i64 (4), .slice A_4_3 ((List.length (palI a0 k))) c_4_3], rO eMulti S196 [.int .i64 (2), .int .i64 (a0), .int .i64 (4), .slice A_4_3 ((List.length (palI a0 k))) c_4_3] (2, a0, 4, palI a0 k)]) _ _ (2, a0, 4, palI a0 k) _ _ HH706.focus (by first | omega | (simp only [palI_len]; omega)) (by exact (show apartMR (palI a0 k) from palI_apart (by omega)))) fun e w' hr => ?_
          obtain ⟨esr197_0, Sr197_0, rfl, hbr197⟩ := hr
          have HH707 := HH706.back hbr197
          clear hbr197
          have Rr197 := HH707.rd (i := 1) rfl
          obtain ⟨Ar197_0_3, cr197_0_3, rfl, gr197_0_0, gr197_0_1, gr197_0_2, gr197_0_3⟩ := shape_Multi Rr197
          clear Rr197
          have jr197_0_0 := gr197_0_0; unfold I64 at jr197_0_0
          have jr197_0_1 := gr197_0_1; unfold I64 at jr197_0_1
          have jr197_0_2 := gr197_0_2; unfold I64 at jr197_0_2
          have HH708 : Held Nob w ([rBlk q25 55 [.int .i64 ((sortMulti (2, a0, 4, palI a0 k)).1), .int .i64 ((sortMulti (2, a0, 4, palI a0 k)).2.1), .int .i64 ((sortMulti (2, a0, 4, palI a0 k)).2.2.1), .slice Ar197_0_3 ((sortMulti (2, a0, 4, palI a0 k)).2.2.2.length) cr197_0_3], rO eMulti Sr197_0 [.int .i64 ((sortMulti (2, a0, 4, palI a0 k)).1), .int .i64 ((sortMulti (2, a0, 4, palI a0 k)).2.1), .int .i64 ((sortMulti (2, a0, 4, palI a0 k)).2.2.1), .slice Ar197_0_3 ((sortMulti (2, a0, 4, palI a0 k)).2.2.2.length) cr197_0_3] (sortMulti (2, a0, 4, palI a0 k))] ++ [rBlk q21 55 [.int .i64 (0), .int .i64 (0), .int .i64 (0), .slice none (0) 0]]) _ := HH707
          have HH709 := HH708.sel [1, 0, 2] (by decide) rfl
          have HH710 := HH709.unF rfl
          have HH711 := HH710.unF rfl
          have HH712 := HH711.unF rfl
          refine ⟨_, rfl, fun a_713 HE714 => hK699 _ _ ?_⟩
          refine wpList_nil ?_
          clear HH436 HH700 HH701 HH702 HH703 HH704 HH705 HH706 HH707 HH708 HH709 HH710 HH711 a_441 HE442 hK699 K_698
          refine nrm ?_
          refine wp_seq ?_
          refine rg ?_
          refine pl_x HE714 HH712 (wt0 rfl) (x_loadN (cs := [.int .i64 ((sortMulti (2, a0, 4, palI a0 k)).1), .int .i64 ((sortMulti (2, a0, 4, palI a0 k)).2.1), .int .i64 ((sortMulti (2, a0, 4, palI a0 k)).2.2.1), .slice Ar197_0_3 ((sortMulti (2, a0, 4, palI a0 k)).2.2.2.length) cr197_0_3]) tv_55 rfl rfl (c_blkN 1 rfl)) rfl rfl fun a_715 HE716 => ?_
          refine pl fun K_717 hK718 => ?_
          refine st_store (vs := [.int .i64 ((sortMulti (2, a0, 4, palI a0 k)).1), .int .i64 ((sortMulti (2, a0, 4, palI a0 k)).2.1), .int .i64 ((sortMulti (2, a0, 4, palI a0 k)).2.2.1), .slice Ar197_0_3 ((sortMulti (2, a0, 4, palI a0 k)).2.2.2.length) cr197_0_3]) 2 HE716 HH712 tv_55 rfl rfl rfl rfl rfl rfl (by simp [Value.oneCell']) (wt0 rfl) fun w' HH719 => hK718 _ _ ?_
          refine pl_x HE716 HH719 (wt0 rfl) (x_assign rfl) rfl rfl fun a_720 HE721 => ?_
          refine wpList_nil ?_
          clear a_713 HE714 HH712 a_715 HE716 hK718 K_717
          refine nrm ?_
          refine wp_ret ?_
          refine ret2 HE721 rfl (rv_cell rfl (tv_55.loadN (cs := [.int .i64 ((sortMulti (2, a0, 4, palI a0 k)).1), .int .i64 ((sortMulti (2, a0, 4, palI a0 k)).2.1), .int .i64 ((sortMulti (2, a0, 4, palI a0 k)).2.2.1), .slice Ar197_0_3 ((sortMulti (2, a0, 4, palI a0 k)).2.2.2.length) cr197_0_3]) rfl (c_blkN 2 rfl _ HH719))) (rv_tmp rfl) ?_
          have HH722 := HH719.pairF (E := eInt) (c1 := [.int .i64 ((sortMulti (2, a0, 4, palI a0 k)).2.2.1)]) (x := (sortMulti (2, a0, 4, palI a0 k)).2.2.1) (oI (by exact ⟨by omega, by omega⟩))
          have HH723 := HH722.pairF (E := eInt) (c1 := [.int .i64 ((sortMulti (2, a0, 4, palI a0 k)).2.1)]) (x := (sortMulti (2, a0, 4, palI a0 k)).2.1) (oI (by exact ⟨by omega, by omega⟩))
          have HH724 := HH723.pairF (E := eInt) (c1 := [.int .i64 ((sortMulti (2, a0, 4, palI a0 k)).1)]) (x := (sortMulti (2, a0, 4, palI a0 k)).1) (oI (by exact ⟨by omega, by omega⟩))
          obtain ⟨S198, HH725⟩ : ∃ S, Held Nob w (rO eMulti S [.int .i64 ((sortMulti (2, a0, 4, palI a0 k)).1), .int .i64 ((sortMulti (2, a0, 4, palI a0 k)).2.1), .int .i64 ((sortMulti (2, a0, 4, palI a0 k)).2.2.1), .slice Ar197_0_3 ((sortMulti (2, a0, 4, palI a0 k)).2.2.2.length) cr197_0_3] (sortMulti (2, a0, 4, palI a0 k)) :: _) _ := ⟨_, HH724⟩
          have hF : (palMulti a0) = ((sortMulti (2, a0, 4, palI a0 k)), 0) := by
            first | (simp [palMulti, hc23, p130_0, hc131]; done) | (unfold palMulti; rw [if_pos ‹_›, palS_sort (k := k) (by omega) (by omega)]; rfl)
          exact ⟨_, by first | (rw [hF] <;> rfl) | rfl | (rw [hF]; simp only [Ending.returned.injEq, Value.slice.injEq, true_and, and_true]; first | omega | (simp; done)) | (rw [hF]; simp; omega), by rw [hF]; exact (HH725.o (i := 0) rfl), HH725.below⟩

end Go.Proofs.Ytcfdkckchbdafaa
