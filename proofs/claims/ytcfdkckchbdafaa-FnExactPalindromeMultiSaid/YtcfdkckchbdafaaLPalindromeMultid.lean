/- What the proof of FnExactPalindromeMulti needs: contracts of the functions that it reaches, each once. -/
import Derived.Test.YtcfdkckchbdafaaProg
import Derived.Test.YtcfdkckchbdafaaQMem
import Derived.Test.YtcfdkckchbdafaaQOpen
import Derived.Test.YtcfdkckchbdafaaLPalindromeMultia
import Derived.Test.YtcfdkckchbdafaaLPalindromeMultib
import Derived.Test.YtcfdkckchbdafaaLPalindromeMultic
import Derived.WalkKit
import Derived.WalkSpells
import Derived.Below
import Derived.LoopTactic
import Derived.Outline
import Derived.Deep.QuietTactic
import Derived.BigQuiet
import Derived.Deep.LoopGhost
import Derived.Handy
import Derived.Lib.Hide
import Derived.Shelf.Abstract
import Derived.StillTailTactics
import Derived.OwnWalk
import Derived.Maps.AppendAt
import Derived.RegionTactic
import Derived.Deep.RegionHeld3
import Derived.IntWalk
import Derived.Deep.Upon
import Derived.Laws.OwnMore
import Derived.Maps.AppendAt
import Derived.Lib.FrozenHead
import Derived.Lib.RuneBytes
import Derived.Lib.LaidTab
import Derived.Laws.StructEq
import Derived.Lib.ItoaLen
import Derived.Lib.Join
import Derived.Shelf.Strconv.Itoa4
import Derived.Shelf.Strings.OnBuilder
import Derived.Shelf.Strings.BuilderK
import Derived.Shelf.Strings.BuilderRune
import Derived.Shelf.LaysM
import Derived.Ground.NamesProg
import Derived.Shelf.SlSortCmp.WholeK
import Derived.Shelf.SlSortCmp.NoneTotal
import Derived.Lib.RowBridge
namespace Go.Proofs.Ytcfdkckchbdafaa
open Go.RowKit

set_option maxRecDepth 100000 in
set_option maxHeartbeats 4000000 in
theorem spec_PalindromeMulti (a0 : Int) (w : World)  :
    Calls Try.prog 37 #[.int .i64 a0] w fun e w' => ∃ (es0' : List Value), e = .returned (.tuple #[.agg es0'.toArray, .int .i64 (palMulti a0).2]) ∧ eMulti.O w' (Fr w w') es0' (palMulti a0).1 ∧ Below w.heap.size w w' := by
  have HH1 := Held.start Nob w
  refine enter (n := 54) Try.func37 rfl rfl rfl fun a_2 HE3 => ?_
  refine wp_seq ?_
  refine rg ?_
  refine pl fun K_4 hK5 => ?_
  refine st_alloc HE3 HH1 tv_55 (wt0 rfl) rfl fun q21 a_6 w' HE7 HH8 => hK5 _ _ ?_
  refine pl_x HE7 HH8 (wt0 rfl) (x_assign rfl) rfl rfl fun a_9 HE10 => ?_
  refine wpList_nil ?_
  clear a_2 HE3 HH1 a_6 HE7 hK5 K_4
  refine nrm ?_
  refine wp_seq ?_
  refine wp_seq ?_
  refine rg ?_
  refine pl_x HE10 HH8 (wt0 rfl) (x_move rfl) rfl rfl fun a_11 HE12 => ?_
  refine pl fun K_13 hK14 => ?_
  refine st_call HE12 (wt0 rfl) rfl rfl rfl en_68 rfl rfl (spec_l00In a0 2 3 _ ) fun e w' hr => ?_
  obtain ⟨rfl, rfl⟩ := hr
  refine ⟨_, rfl, fun a_15 HE16 => hK14 _ _ ?_⟩
  refine pl_x HE16 HH8 (wt0 rfl) (x_not rfl) rfl rfl fun a_17 HE18 => ?_
  refine wpList_nil ?_
  clear a_9 HE10 a_11 HE12 a_15 HE16 hK14 K_13
  refine nrm ?_
  refine cnd_nb HE18 rfl (fun hc23 => ?_) (fun hc23 => ?_)
  · refine wp_seq ?_
    refine rg ?_
    refine pl_x HE18 HH8 (wt0 rfl) (show XS _ _ _ _ (.agg #[.int .i64 (0), .int .i64 (0), .int .i64 (0), .slice none (0) 0]) from x_build (vs := []) tb_55 rfl (by simp [Value.oneCell'])) rfl rfl fun a_19 HE20 => ?_
    refine pl fun K_21 hK22 => ?_
    refine st_store (vs := [.int .i64 (0), .int .i64 (0), .int .i64 (0), .slice none (0) 0]) 0 HE20 HH8 tv_55 rfl rfl rfl rfl rfl rfl (by simp [Value.oneCell']) (wt0 rfl) fun w' HH23 => hK22 _ _ ?_
    refine pl_x HE20 HH23 (wt0 rfl) (x_assign rfl) rfl rfl fun a_24 HE25 => ?_
    refine wpList_nil ?_
    clear a_17 HE18 HH8 a_19 HE20 hK22 K_21
    refine nrm ?_
    refine wp_ret ?_
    refine (thn_ret ?_)
    refine ret2 HE25 rfl (rv_cell rfl (tv_55.loadN (cs := [.int .i64 (0), .int .i64 (0), .int .i64 (0), .slice none (0) 0]) rfl (c_blkN 0 rfl _ HH23))) (rv_tmp rfl) ?_
    have HH26 := HH23.flatO (E := eMulti) (cs := [.int .i64 (0), .int .i64 (0), .int .i64 (0), .slice none (0) 0]) (x := (0, 0, 0, [])) (fun _ => (oPrN (oI (by exact ⟨by omega, by omega⟩)) (oPrN (oI (by exact ⟨by omega, by omega⟩)) (oPrN (oI (by exact ⟨by omega, by omega⟩)) (oSl (So.nil (Nat.zero_le _)))))))
    have hF : (palMulti a0) = ((0, 0, 0, []), 2) := by
      first | (simp [palMulti, hc23]; done) | (unfold palMulti; rw [show (a0 - 1).toNat = k from by omega, if_pos ‹_›])
    exact ⟨_, by first | (rw [hF] <;> rfl) | rfl | (rw [hF]; simp only [Ending.returned.injEq, Value.slice.injEq, true_and, and_true]; first | omega | (simp; done)) | (rw [hF]; simp; omega), by rw [hF]; exact (HH26.o (i := 0) rfl), HH26.below⟩
  · have v0 := withinB_true.1 hc23
    refine wp_skip ?_
    refine nrm ?_
    refine wp_seq ?_
    refine rg ?_
    refine pl_x HE18 HH8 (wt0 rfl) (x_move rfl) rfl rfl fun a_27 HE28 => ?_
    refine pl_x HE28 HH8 (wt0 rfl) (show XS _ _ _ _ (.agg #[.int .i64 (2), .int .i64 (a0), .int .i64 (4), .slice none (0) 0]) from x_build (vs := [(0, .int .i64 (2)), (1, .int .i64 (a0)), (2, .int .i64 (4))]) tb_55 rfl (by simp [Value.oneCell'])) rfl rfl fun a_29 HE30 => ?_
    refine pl fun K_31 hK32 => ?_
    refine st_alloc HE30 HH8 tv_55 (wt0 rfl) rfl fun q24 a_33 w' HE34 HH35 => hK32 _ _ ?_
    refine pl fun K_36 hK37 => ?_
    refine st_store (vs := [.int .i64 (2), .int .i64 (a0), .int .i64 (4), .slice none (0) 0]) 0 HE34 HH35 tv_55 rfl rfl rfl rfl rfl rfl (by simp [Value.oneCell']) (wt0 rfl) fun w' HH38 => hK37 _ _ ?_
    refine wpList_nil ?_
    clear a_17 HE18 a_27 HE28 a_29 HE30 HH8 K_31 hK32 HH35 hK37 K_36
    refine nrm ?_
    refine wp_seq ?_
    refine wp_join (fun a w' => ∃ (Sr33_90 : Nat → Prop), ∃ (Ar33_90 : Option Addr), ∃ (cr33_90 : Nat), Env 54 [(0, .int .i64 (a0)), (2, .pointer (some ⟨q21, 0, none⟩)), (4, .pointer (some ⟨q24, 0, none⟩))] a ∧ Held Nob w [rVec eMultiRule 108 Sr33_90 Ar33_90 cr33_90 (putMR ([]) (two7 0 0 0 0 (-1) 0 1)), rBlk q24 55 [.int .i64 (2), .int .i64 (a0), .int .i64 (4), .slice Ar33_90 ((putMR ([]) (two7 0 0 0 0 (-1) 0 1)).length) cr33_90], rBlk q21 55 [.int .i64 (0), .int .i64 (0), .int .i64 (0), .slice none (0) 0]] w') ?_ ?_
    · refine dr_start (Held Nob w [rBlk q21 55 [.int .i64 (0), .int .i64 (0), .int .i64 (0), .slice none (0) 0]]) 6 #[false, false, false, false, false, false] hmix rfl rfl HH38 (fun _ h => h.sel [1] (by decide) rfl) fun w' HH39 => ?_
      have HS40 := HH39.sel [1] (by decide) rfl
      refine dr_take (i := 0) (ls' := #[true, false, false, false, false, false]) HE34 HS40 rfl (by kernel_rfl) (by kernel_rfl) (by kernel_rfl) (fun _ _ _ h => h) rfl (wt0 rfl) (x_fieldAddr fa_55_3 rfl) rfl rfl fun a_41 HE42 => ?_
      refine dr_two (i := 1) (j := 2) (ls' := #[true, true, false, false, false, false]) (ls'' := #[true, false, true, false, false, false]) rfl rfl (by kernel_rfl) rfl rfl (fun K_43 hK44 => ?_) (fun K_43 hK44 => ?_)
      · refine st_x HE42 HH39 (wt0 rfl) (x_load1 tv_53 rfl (c_blk 0 rfl rfl)) rfl rfl fun a_45 HE46 => hK44 _ _ HS40 ?_
        refine dr_one (i := 2) (ls' := #[true, true, true, false, false, false]) rfl (by kernel_rfl) rfl fun K_47 hK48 => ?_
        refine st_call HE46 (wt0 rfl) rfl rfl rfl en_77 rfl rfl (spec_l06Make 0 0 0 0 (-1) 0 1 _ (by omega) (by omega) (by omega) (by omega) (by omega) (by omega) (by omega)) fun e w' hr => ?_
        obtain ⟨esr25_0, rfl, hor25_0, hbr25⟩ := hr
        have hr := eMultiRule.read hor25_0
        obtain ⟨Sr25, HH49⟩ := HH39.newO hbr25 hor25_0
        obtain ⟨Ar25_0_1, cr25_0_1, Ar25_0_2, cr25_0_2, Ar25_0_3, cr25_0_3, rfl, gr25_0_0, gr25_0_1, gr25_0_2, gr25_0_3, gr25_0_4⟩ := shape_MultiRule hr
        have jr25_0_0 := gr25_0_0; unfold I64 at jr25_0_0
        have jr25_0_4 := gr25_0_4; unfold I64 at jr25_0_4
        have HH50 := HH49.unF rfl
        obtain ⟨S26, S27, HH51⟩ := HH50.unP rfl
        have HH52 := HH51.sel [1, 0, 2, 3] (by decide) rfl
        obtain ⟨S28, S29, HH53⟩ := HH52.unP rfl
        have HH54 := HH53.sel [1, 0, 2, 3, 4] (by decide) rfl
        obtain ⟨S30, S31, HH55⟩ := HH54.unP rfl
        have HH56 := HH55.sel [1, 0, 2, 3, 4, 5] (by decide) rfl
        have HH57 := HH56.sel [1, 2, 3, 4, 5] (by decide) rfl
        refine ⟨_, rfl, fun a_58 HE59 => hK48 _ _ (by exact HH57.sel [4] (by decide) rfl) ?_⟩
        have HS60 := HH57.sel [4] (by decide) rfl
        refine dr_one (i := 3) (ls' := #[true, true, true, true, false, false]) rfl (by kernel_rfl) rfl fun K_61 hK62 => ?_
        have HH63 := HH57.vecNil eMultiRule 108
        have HH64 := HH63.sel [3, 2, 1, 0, 4, 5] (by decide) rfl
        have HH65 := HH64.sel [2, 0, 1, 3, 4, 5] (by decide) rfl
        have HH66 := HH65.pairB (F := eInt) (c2 := [.int .i64 ((two7 0 0 0 0 (-1) 0 1).2.2.2.2)]) (y := (two7 0 0 0 0 (-1) 0 1).2.2.2.2) (oI (by exact ⟨by omega, by omega⟩))
        have HH67 := HH66.sel [2, 0, 1, 3, 4, 5] (by decide) rfl
        have HH68 := HH67.pair
        have HH69 := HH68.sel [1, 0, 2, 3, 4] (by decide) rfl
        have HH70 := HH69.pair
        have HH71 := HH70.pairF (E := eInt) (c1 := [.int .i64 ((two7 0 0 0 0 (-1) 0 1).1)]) (x := (two7 0 0 0 0 (-1) 0 1).1) (oI (by exact ⟨by omega, by omega⟩))
        obtain ⟨S32, HH72⟩ : ∃ S, Held Nob w (rO eMultiRule S [.int .i64 ((two7 0 0 0 0 (-1) 0 1).1), .slice Ar25_0_1 ((two7 0 0 0 0 (-1) 0 1).2.1.length) cr25_0_1, .slice Ar25_0_2 ((two7 0 0 0 0 (-1) 0 1).2.2.1.length) cr25_0_2, .slice Ar25_0_3 ((two7 0 0 0 0 (-1) 0 1).2.2.2.1.length) cr25_0_3, .int .i64 ((two7 0 0 0 0 (-1) 0 1).2.2.2.2)] (two7 0 0 0 0 (-1) 0 1) :: _) _ := ⟨_, HH71⟩
        have HH73 := HH72.sel [1, 0, 2, 3] (by decide) rfl
        have HH74 : Held Nob w ([rVec eMultiRule 108 Nob none 0 ([]), rO eMultiRule S32 [.int .i64 ((two7 0 0 0 0 (-1) 0 1).1), .slice Ar25_0_1 ((two7 0 0 0 0 (-1) 0 1).2.1.length) cr25_0_1, .slice Ar25_0_2 ((two7 0 0 0 0 (-1) 0 1).2.2.1.length) cr25_0_2, .slice Ar25_0_3 ((two7 0 0 0 0 (-1) 0 1).2.2.2.1.length) cr25_0_3, .int .i64 ((two7 0 0 0 0 (-1) 0 1).2.2.2.2)] (two7 0 0 0 0 (-1) 0 1)] ++ [rBlk q24 55 [.int .i64 (2), .int .i64 (a0), .int .i64 (4), .slice none (0) 0], rBlk q21 55 [.int .i64 (0), .int .i64 (0), .int .i64 (0), .slice none (0) 0]]) _ := HH73
        refine st_call HE59 (wt0 rfl) rfl rfl rfl en_76 rfl rfl (spec_l06Put (Foot [rVec eMultiRule 108 Nob none 0 ([]), rO eMultiRule S32 [.int .i64 ((two7 0 0 0 0 (-1) 0 1).1), .slice Ar25_0_1 ((two7 0 0 0 0 (-1) 0 1).2.1.length) cr25_0_1, .slice Ar25_0_2 ((two7 0 0 0 0 (-1) 0 1).2.2.1.length) cr25_0_2, .slice Ar25_0_3 ((two7 0 0 0 0 (-1) 0 1).2.2.2.1.length) cr25_0_3, .int .i64 ((two7 0 0 0 0 (-1) 0 1).2.2.2.2)] (two7 0 0 0 0 (-1) 0 1)]) _ _ ([]) _ _ (two7 0 0 0 0 (-1) 0 1) _ _ HH74.focus (by first | omega | (simp only [putMR_len, palS_len, List.length_nil]; omega))) fun e w' hr => ?_
        obtain ⟨Ar33_90, cr33_90, Sr33_90, rfl, hbr33⟩ := hr
        have HH75 := HH74.back hbr33
        clear hbr33
        have HH76 : Held Nob w ([rVec eMultiRule 108 Sr33_90 Ar33_90 cr33_90 (putMR ([]) (two7 0 0 0 0 (-1) 0 1))] ++ [rBlk q24 55 [.int .i64 (2), .int .i64 (a0), .int .i64 (4), .slice none (0) 0], rBlk q21 55 [.int .i64 (0), .int .i64 (0), .int .i64 (0), .slice none (0) 0]]) _ := HH75
        refine ⟨_, rfl, fun a_77 HE78 => hK62 _ _ (by exact HH76.sel [2] (by decide) rfl) ?_⟩
        have HS79 := HH76.sel [2] (by decide) rfl
        refine dr_take (i := 4) (ls' := #[true, true, true, true, true, false]) HE78 HS79 rfl (by kernel_rfl) (by kernel_rfl) (by kernel_rfl) (fun _ _ _ h => h) rfl (wt0 rfl) (x_fieldAddr fa_55_3 rfl) rfl rfl fun a_80 HE81 => ?_
        refine dr_one (i := 5) (ls' := #[true, true, true, true, true, true]) rfl (by kernel_rfl) rfl fun K_82 hK83 => ?_
        refine st_store (vs := [.slice Ar33_90 ((putMR ([]) (two7 0 0 0 0 (-1) 0 1)).length) cr33_90]) 1 HE81 HH76 tv_53 rfl rfl rfl rfl rfl rfl (by simp [Value.oneCell']) (wt0 rfl) fun w' HH84 => hK83 _ _ (by exact HH84.sel [2] (by decide) rfl) ?_
        have HS85 := HH84.sel [2] (by decide) rfl
        refine dr_done (by kernel_rfl) ?_
        clear HH38 a_33 HE34 a_41 HE42 K_43 hK44 HH39 HH49 HH50 HH51 HH52 HH53 HH54 HH55 HH56 a_45 HE46 HS40 K_47 hK48 HH57 HH63 HH64 HH65 HH66 HH67 HH68 HH69 HH70 HH71 HH72 HH73 HH74 HH75 a_58 HE59 HS60 a_77 HE78 K_61 hK62 HH76 HS79 hK83 K_82
        exact nrm ⟨_, _, _, HE81.sub ⟨rfl, rfl, rfl, trivial⟩, HH84.sel [0, 1, 2] (by decide) rfl⟩
      · refine st_call HE42 (wt0 rfl) rfl rfl rfl en_77 rfl rfl (spec_l06Make 0 0 0 0 (-1) 0 1 _ (by omega) (by omega) (by omega) (by omega) (by omega) (by omega) (by omega)) fun e w' hr => ?_
        obtain ⟨esr34_0, rfl, hor34_0, hbr34⟩ := hr
        have hr := eMultiRule.read hor34_0
        obtain ⟨Sr34, HH86⟩ := HH39.newO hbr34 hor34_0
        obtain ⟨Ar34_0_1, cr34_0_1, Ar34_0_2, cr34_0_2, Ar34_0_3, cr34_0_3, rfl, gr34_0_0, gr34_0_1, gr34_0_2, gr34_0_3, gr34_0_4⟩ := shape_MultiRule hr
        have jr34_0_0 := gr34_0_0; unfold I64 at jr34_0_0
        have jr34_0_4 := gr34_0_4; unfold I64 at jr34_0_4
        have HH87 := HH86.unF rfl
        obtain ⟨S35, S36, HH88⟩ := HH87.unP rfl
        have HH89 := HH88.sel [1, 0, 2, 3] (by decide) rfl
        obtain ⟨S37, S38, HH90⟩ := HH89.unP rfl
        have HH91 := HH90.sel [1, 0, 2, 3, 4] (by decide) rfl
        obtain ⟨S39, S40, HH92⟩ := HH91.unP rfl
        have HH93 := HH92.sel [1, 0, 2, 3, 4, 5] (by decide) rfl
        have HH94 := HH93.sel [1, 2, 3, 4, 5] (by decide) rfl
        refine ⟨_, rfl, fun a_95 HE96 => hK44 _ _ (by exact HH94.sel [4] (by decide) rfl) ?_⟩
        have HS97 := HH94.sel [4] (by decide) rfl
        refine dr_one (i := 1) (ls' := #[true, true, true, false, false, false]) rfl (by kernel_rfl) rfl fun K_98 hK99 => ?_
        refine st_x HE96 HH94 (wt0 rfl) (x_load1 tv_53 rfl (c_blk 3 rfl rfl)) rfl rfl fun a_100 HE101 => hK99 _ _ HS97 ?_
        refine dr_one (i := 3) (ls' := #[true, true, true, true, false, false]) rfl (by kernel_rfl) rfl fun K_102 hK103 => ?_
        have HH104 := HH94.vecNil eMultiRule 108
        have HH105 := HH104.sel [3, 2, 1, 0, 4, 5] (by decide) rfl
        have HH106 := HH105.sel [2, 0, 1, 3, 4, 5] (by decide) rfl
        have HH107 := HH106.pairB (F := eInt) (c2 := [.int .i64 ((two7 0 0 0 0 (-1) 0 1).2.2.2.2)]) (y := (two7 0 0 0 0 (-1) 0 1).2.2.2.2) (oI (by exact ⟨by omega, by omega⟩))
        have HH108 := HH107.sel [2, 0, 1, 3, 4, 5] (by decide) rfl
        have HH109 := HH108.pair
        have HH110 := HH109.sel [1, 0, 2, 3, 4] (by decide) rfl
        have HH111 := HH110.pair
        have HH112 := HH111.pairF (E := eInt) (c1 := [.int .i64 ((two7 0 0 0 0 (-1) 0 1).1)]) (x := (two7 0 0 0 0 (-1) 0 1).1) (oI (by exact ⟨by omega, by omega⟩))
        obtain ⟨S41, HH113⟩ : ∃ S, Held Nob w (rO eMultiRule S [.int .i64 ((two7 0 0 0 0 (-1) 0 1).1), .slice Ar34_0_1 ((two7 0 0 0 0 (-1) 0 1).2.1.length) cr34_0_1, .slice Ar34_0_2 ((two7 0 0 0 0 (-1) 0 1).2.2.1.length) cr34_0_2, .slice Ar34_0_3 ((two7 0 0 0 0 (-1) 0 1).2.2.2.1.length) cr34_0_3, .int .i64 ((two7 0 0 0 0 (-1) 0 1).2.2.2.2)] (two7 0 0 0 0 (-1) 0 1) :: _) _ := ⟨_, HH112⟩
        have HH114 := HH113.sel [1, 0, 2, 3] (by decide) rfl
        have HH115 : Held Nob w ([rVec eMultiRule 108 Nob none 0 ([]), rO eMultiRule S41 [.int .i64 ((two7 0 0 0 0 (-1) 0 1).1), .slice Ar34_0_1 ((two7 0 0 0 0 (-1) 0 1).2.1.length) cr34_0_1, .slice Ar34_0_2 ((two7 0 0 0 0 (-1) 0 1).2.2.1.length) cr34_0_2, .slice Ar34_0_3 ((two7 0 0 0 0 (-1) 0 1).2.2.2.1.length) cr34_0_3, .int .i64 ((two7 0 0 0 0 (-1) 0 1).2.2.2.2)] (two7 0 0 0 0 (-1) 0 1)] ++ [rBlk q24 55 [.int .i64 (2), .int .i64 (a0), .int .i64 (4), .slice none (0) 0], rBlk q21 55 [.int .i64 (0), .int .i64 (0), .int .i64 (0), .slice none (0) 0]]) _ := HH114
        refine st_call HE101 (wt0 rfl) rfl rfl rfl en_76 rfl rfl (spec_l06Put (Foot [rVec eMultiRule 108 Nob none 0 ([]), rO eMultiRule S41 [.int .i64 ((two7 0 0 0 0 (-1) 0 1).1), .slice Ar34_0_1 ((two7 0 0 0 0 (-1) 0 1).2.1.length) cr34_0_1, .slice Ar34_0_2 ((two7 0 0 0 0 (-1) 0 1).2.2.1.length) cr34_0_2, .slice Ar34_0_3 ((two7 0 0 0 0 (-1) 0 1).2.2.2.1.length) cr34_0_3, .int .i64 ((two7 0 0 0 0 (-1) 0 1).2.2.2.2)] (two7 0 0 0 0 (-1) 0 1)]) _ _ ([]) _ _ (two7 0 0 0 0 (-1) 0 1) _ _ HH115.focus (by first | omega | (simp only [putMR_len, palS_len, List.length_nil]; omega))) fun e w' hr => ?_
        obtain ⟨Ar42_90, cr42_90, Sr42_90, rfl, hbr42⟩ := hr
        have HH116 := HH115.back hbr42
        clear hbr42
        have HH117 : Held Nob w ([rVec eMultiRule 108 Sr42_90 Ar42_90 cr42_90 (putMR ([]) (two7 0 0 0 0 (-1) 0 1))] ++ [rBlk q24 55 [.int .i64 (2), .int .i64 (a0), .int .i64 (4), .slice none (0) 0], rBlk q21 55 [.int .i64 (0), .int .i64 (0), .int .i64 (0), .slice none (0) 0]]) _ := HH116
        refine ⟨_, rfl, fun a_118 HE119 => hK103 _ _ (by exact HH117.sel [2] (by decide) rfl) ?_⟩
        have HS120 := HH117.sel [2] (by decide) rfl
        refine dr_take (i := 4) (ls' := #[true, true, true, true, true, false]) HE119 HS120 rfl (by kernel_rfl) (by kernel_rfl) (by kernel_rfl) (fun _ _ _ h => h) rfl (wt0 rfl) (x_fieldAddr fa_55_3 rfl) rfl rfl fun a_121 HE122 => ?_
        refine dr_one (i := 5) (ls' := #[true, true, true, true, true, true]) rfl (by kernel_rfl) rfl fun K_123 hK124 => ?_
        refine st_store (vs := [.slice Ar42_90 ((putMR ([]) (two7 0 0 0 0 (-1) 0 1)).length) cr42_90]) 1 HE122 HH117 tv_53 rfl rfl rfl rfl rfl rfl (by simp [Value.oneCell']) (wt0 rfl) fun w' HH125 => hK124 _ _ (by exact HH125.sel [2] (by decide) rfl) ?_
        have HS126 := HH125.sel [2] (by decide) rfl
        refine dr_done (by kernel_rfl) ?_
        clear HH38 a_33 HE34 HH39 HH86 HH87 HH88 HH89 HH90 HH91 HH92 HH93 a_41 HE42 HS40 K_43 hK44 a_95 HE96 K_98 hK99 HH94 HH104 HH105 HH106 HH107 HH108 HH109 HH110 HH111 HH112 HH113 HH114 HH115 HH116 a_100 HE101 HS97 a_118 HE119 K_102 hK103 HH117 HS120 hK124 K_123
        exact nrm ⟨_, _, _, HE122.sub ⟨rfl, rfl, rfl, trivial⟩, HH125.sel [0, 1, 2] (by decide) rfl⟩
    · rintro a_127 w' ⟨Sr33_90, Ar33_90, cr33_90, HE128, HH129⟩
      refine nrm ?_
      refine wp_seq ?_
      refine wp_join (fun a w' => ∃ (Sr51_90 : Nat → Prop), ∃ (Ar51_90 : Option Addr), ∃ (cr51_90 : Nat), Env 54 [(0, .int .i64 (a0)), (2, .pointer (some ⟨q21, 0, none⟩)), (4, .pointer (some ⟨q24, 0, none⟩))] a ∧ Held Nob w [rVec eMultiRule 108 Sr51_90 Ar51_90 cr51_90 (putMR (putMR ([]) (two7 0 0 0 0 (-1) 0 1)) (two7 1 0 0 0 1 (-1) 2)), rBlk q24 55 [.int .i64 (2), .int .i64 (a0), .int .i64 (4), .slice Ar51_90 ((putMR (putMR ([]) (two7 0 0 0 0 (-1) 0 1)) (two7 1 0 0 0 1 (-1) 2)).length) cr51_90], rBlk q21 55 [.int .i64 (0), .int .i64 (0), .int .i64 (0), .slice none (0) 0]] w') ?_ ?_
      · refine dr_start (Held Nob w [rBlk q21 55 [.int .i64 (0), .int .i64 (0), .int .i64 (0), .slice none (0) 0]]) 6 #[false, false, false, false, false, false] hmix rfl rfl HH129 (fun _ h => h.sel [2] (by decide) rfl) fun w' HH130 => ?_
        have HS131 := HH130.sel [2] (by decide) rfl
        refine dr_take (i := 0) (ls' := #[true, false, false, false, false, false]) HE128 HS131 rfl (by kernel_rfl) (by kernel_rfl) (by kernel_rfl) (fun _ _ _ h => h) rfl (wt0 rfl) (x_fieldAddr fa_55_3 rfl) rfl rfl fun a_132 HE133 => ?_
        refine dr_two (i := 1) (j := 2) (ls' := #[true, true, false, false, false, false]) (ls'' := #[true, false, true, false, false, false]) rfl rfl (by kernel_rfl) rfl rfl (fun K_134 hK135 => ?_) (fun K_134 hK135 => ?_)
        · refine st_x HE133 HH130 (wt0 rfl) (x_load1 tv_53 rfl (c_blk 1 rfl rfl)) rfl rfl fun a_136 HE137 => hK135 _ _ HS131 ?_
          refine dr_one (i := 2) (ls' := #[true, true, true, false, false, false]) rfl (by kernel_rfl) rfl fun K_138 hK139 => ?_
          refine st_call HE137 (wt0 rfl) rfl rfl rfl en_77 rfl rfl (spec_l06Make 1 0 0 0 1 (-1) 2 _ (by omega) (by omega) (by omega) (by omega) (by omega) (by omega) (by omega)) fun e w' hr => ?_
          obtain ⟨esr43_0, rfl, hor43_0, hbr43⟩ := hr
          have hr := eMultiRule.read hor43_0
          obtain ⟨Sr43, HH140⟩ := HH130.newO hbr43 hor43_0
          obtain ⟨Ar43_0_1, cr43_0_1, Ar43_0_2, cr43_0_2, Ar43_0_3, cr43_0_3, rfl, gr43_0_0, gr43_0_1, gr43_0_2, gr43_0_3, gr43_0_4⟩ := shape_MultiRule hr
          have jr43_0_0 := gr43_0_0; unfold I64 at jr43_0_0
          have jr43_0_4 := gr43_0_4; unfold I64 at jr43_0_4
          have HH141 := HH140.unF rfl
          obtain ⟨S44, S45, HH142⟩ := HH141.unP rfl
          have HH143 := HH142.sel [1, 0, 2, 3, 4] (by decide) rfl
          obtain ⟨S46, S47, HH144⟩ := HH143.unP rfl
          have HH145 := HH144.sel [1, 0, 2, 3, 4, 5] (by decide) rfl
          obtain ⟨S48, S49, HH146⟩ := HH145.unP rfl
          have HH147 := HH146.sel [1, 0, 2, 3, 4, 5, 6] (by decide) rfl
          have HH148 := HH147.sel [1, 2, 3, 4, 5, 6] (by decide) rfl
          refine ⟨_, rfl, fun a_149 HE150 => hK139 _ _ (by exact HH148.sel [5] (by decide) rfl) ?_⟩
          have HS151 := HH148.sel [5] (by decide) rfl
          refine dr_one (i := 3) (ls' := #[true, true, true, true, false, false]) rfl (by kernel_rfl) rfl fun K_152 hK153 => ?_
          have HH154 := HH148.sel [2, 1, 0, 3, 4, 5] (by decide) rfl
          have HH155 := HH154.sel [2, 0, 1, 3, 4, 5] (by decide) rfl
          have HH156 := HH155.pairB (F := eInt) (c2 := [.int .i64 ((two7 1 0 0 0 1 (-1) 2).2.2.2.2)]) (y := (two7 1 0 0 0 1 (-1) 2).2.2.2.2) (oI (by exact ⟨by omega, by omega⟩))
          have HH157 := HH156.sel [2, 0, 1, 3, 4, 5] (by decide) rfl
          have HH158 := HH157.pair
          have HH159 := HH158.sel [1, 0, 2, 3, 4] (by decide) rfl
          have HH160 := HH159.pair
          have HH161 := HH160.pairF (E := eInt) (c1 := [.int .i64 ((two7 1 0 0 0 1 (-1) 2).1)]) (x := (two7 1 0 0 0 1 (-1) 2).1) (oI (by exact ⟨by omega, by omega⟩))
          obtain ⟨S50, HH162⟩ : ∃ S, Held Nob w (rO eMultiRule S [.int .i64 ((two7 1 0 0 0 1 (-1) 2).1), .slice Ar43_0_1 ((two7 1 0 0 0 1 (-1) 2).2.1.length) cr43_0_1, .slice Ar43_0_2 ((two7 1 0 0 0 1 (-1) 2).2.2.1.length) cr43_0_2, .slice Ar43_0_3 ((two7 1 0 0 0 1 (-1) 2).2.2.2.1.length) cr43_0_3, .int .i64 ((two7 1 0 0 0 1 (-1) 2).2.2.2.2)] (two7 1 0 0 0 1 (-1) 2) :: _) _ := ⟨_, HH161⟩
          have HH163 := HH162.sel [1, 0, 2, 3] (by decide) rfl
          have HH164 : Held Nob w ([rVec eMultiRule 108 Sr33_90 Ar33_90 cr33_90 (putMR ([]) (two7 0 0 0 0 (-1) 0 1)), rO eMultiRule S50 [.int .i64 ((two7 1 0 0 0 1 (-1) 2).1), .slice Ar43_0_1 ((two7 1 0 0 0 1 (-1) 2).2.1.length) cr43_0_1, .slice Ar43_0_2 ((two7 1 0 0 0 1 (-1) 2).2.2.1.length) cr43_0_2, .slice Ar43_0_3 ((two7 1 0 0 0 1 (-1) 2).2.2.2.1.length) cr43_0_3, .int .i64 ((two7 1 0 0 0 1 (-1) 2).2.2.2.2)] (two7 1 0 0 0 1 (-1) 2)] ++ [rBlk q24 55 [.int .i64 (2), .int .i64 (a0), .int .i64 (4), .slice Ar33_90 ((putMR ([]) (two7 0 0 0 0 (-1) 0 1)).length) cr33_90], rBlk q21 55 [.int .i64 (0), .int .i64 (0), .int .i64 (0), .slice none (0) 0]]) _ := HH163
          refine st_call HE150 (wt0 rfl) rfl rfl rfl en_76 rfl rfl (spec_l06Put (Foot [rVec eMultiRule 108 Sr33_90 Ar33_90 cr33_90 (putMR ([]) (two7 0 0 0 0 (-1) 0 1)), rO eMultiRule S50 [.int .i64 ((two7 1 0 0 0 1 (-1) 2).1), .slice Ar43_0_1 ((two7 1 0 0 0 1 (-1) 2).2.1.length) cr43_0_1, .slice Ar43_0_2 ((two7 1 0 0 0 1 (-1) 2).2.2.1.length) cr43_0_2, .slice Ar43_0_3 ((two7 1 0 0 0 1 (-1) 2).2.2.2.1.length) cr43_0_3, .int .i64 ((two7 1 0 0 0 1 (-1) 2).2.2.2.2)] (two7 1 0 0 0 1 (-1) 2)]) _ _ (putMR ([]) (two7 0 0 0 0 (-1) 0 1)) _ _ (two7 1 0 0 0 1 (-1) 2) _ _ HH164.focus (by first | omega | (simp only [putMR_len, palS_len, List.length_nil]; omega))) fun e w' hr => ?_
          obtain ⟨Ar51_90, cr51_90, Sr51_90, rfl, hbr51⟩ := hr
          have HH165 := HH164.back hbr51
          clear hbr51
          have HH166 : Held Nob w ([rVec eMultiRule 108 Sr51_90 Ar51_90 cr51_90 (putMR (putMR ([]) (two7 0 0 0 0 (-1) 0 1)) (two7 1 0 0 0 1 (-1) 2))] ++ [rBlk q24 55 [.int .i64 (2), .int .i64 (a0), .int .i64 (4), .slice Ar33_90 ((putMR ([]) (two7 0 0 0 0 (-1) 0 1)).length) cr33_90], rBlk q21 55 [.int .i64 (0), .int .i64 (0), .int .i64 (0), .slice none (0) 0]]) _ := HH165
          refine ⟨_, rfl, fun a_167 HE168 => hK153 _ _ (by exact HH166.sel [2] (by decide) rfl) ?_⟩
          have HS169 := HH166.sel [2] (by decide) rfl
          refine dr_take (i := 4) (ls' := #[true, true, true, true, true, false]) HE168 HS169 rfl (by kernel_rfl) (by kernel_rfl) (by kernel_rfl) (fun _ _ _ h => h) rfl (wt0 rfl) (x_fieldAddr fa_55_3 rfl) rfl rfl fun a_170 HE171 => ?_
          refine dr_one (i := 5) (ls' := #[true, true, true, true, true, true]) rfl (by kernel_rfl) rfl fun K_172 hK173 => ?_
          refine st_store (vs := [.slice Ar51_90 ((putMR (putMR ([]) (two7 0 0 0 0 (-1) 0 1)) (two7 1 0 0 0 1 (-1) 2)).length) cr51_90]) 1 HE171 HH166 tv_53 rfl rfl rfl rfl rfl rfl (by simp [Value.oneCell']) (wt0 rfl) fun w' HH174 => hK173 _ _ (by exact HH174.sel [2] (by decide) rfl) ?_
          have HS175 := HH174.sel [2] (by decide) rfl
          refine dr_done (by kernel_rfl) ?_
          clear a_33 HE34 HH38 HH129 a_127 HE128 a_132 HE133 K_134 hK135 HH130 HH140 HH141 HH142 HH143 HH144 HH145 HH146 HH147 a_136 HE137 HS131 K_138 hK139 HH148 HH154 HH155 HH156 HH157 HH158 HH159 HH160 HH161 HH162 HH163 HH164 HH165 a_149 HE150 HS151 a_167 HE168 K_152 hK153 HH166 HS169 hK173 K_172
          exact nrm ⟨_, _, _, HE171.sub ⟨rfl, rfl, rfl, trivial⟩, HH174.sel [0, 1, 2] (by decide) rfl⟩
        · refine st_call HE133 (wt0 rfl) rfl rfl rfl en_77 rfl rfl (spec_l06Make 1 0 0 0 1 (-1) 2 _ (by omega) (by omega) (by omega) (by omega) (by omega) (by omega) (by omega)) fun e w' hr => ?_
          obtain ⟨esr52_0, rfl, hor52_0, hbr52⟩ := hr
          have hr := eMultiRule.read hor52_0
          obtain ⟨Sr52, HH176⟩ := HH130.newO hbr52 hor52_0
          obtain ⟨Ar52_0_1, cr52_0_1, Ar52_0_2, cr52_0_2, Ar52_0_3, cr52_0_3, rfl, gr52_0_0, gr52_0_1, gr52_0_2, gr52_0_3, gr52_0_4⟩ := shape_MultiRule hr
          have jr52_0_0 := gr52_0_0; unfold I64 at jr52_0_0
          have jr52_0_4 := gr52_0_4; unfold I64 at jr52_0_4
          have HH177 := HH176.unF rfl
          obtain ⟨S53, S54, HH178⟩ := HH177.unP rfl
          have HH179 := HH178.sel [1, 0, 2, 3, 4] (by decide) rfl
          obtain ⟨S55, S56, HH180⟩ := HH179.unP rfl
          have HH181 := HH180.sel [1, 0, 2, 3, 4, 5] (by decide) rfl
          obtain ⟨S57, S58, HH182⟩ := HH181.unP rfl
          have HH183 := HH182.sel [1, 0, 2, 3, 4, 5, 6] (by decide) rfl
          have HH184 := HH183.sel [1, 2, 3, 4, 5, 6] (by decide) rfl
          refine ⟨_, rfl, fun a_185 HE186 => hK135 _ _ (by exact HH184.sel [5] (by decide) rfl) ?_⟩
          have HS187 := HH184.sel [5] (by decide) rfl
          refine dr_one (i := 1) (ls' := #[true, true, true, false, false, false]) rfl (by kernel_rfl) rfl fun K_188 hK189 => ?_
          refine st_x HE186 HH184 (wt0 rfl) (x_load1 tv_53 rfl (c_blk 4 rfl rfl)) rfl rfl fun a_190 HE191 => hK189 _ _ HS187 ?_
          refine dr_one (i := 3) (ls' := #[true, true, true, true, false, false]) rfl (by kernel_rfl) rfl fun K_192 hK193 => ?_
          have HH194 := HH184.sel [2, 1, 0, 3, 4, 5] (by decide) rfl
          have HH195 := HH194.sel [2, 0, 1, 3, 4, 5] (by decide) rfl
          have HH196 := HH195.pairB (F := eInt) (c2 := [.int .i64 ((two7 1 0 0 0 1 (-1) 2).2.2.2.2)]) (y := (two7 1 0 0 0 1 (-1) 2).2.2.2.2) (oI (by exact ⟨by omega, by omega⟩))
          have HH197 := HH196.sel [2, 0, 1, 3, 4, 5] (by decide) rfl
          have HH198 := HH197.pair
          have HH199 := HH198.sel [1, 0, 2, 3, 4] (by decide) rfl
          have HH200 := HH199.pair
          have HH201 := HH200.pairF (E := eInt) (c1 := [.int .i64 ((two7 1 0 0 0 1 (-1) 2).1)]) (x := (two7 1 0 0 0 1 (-1) 2).1) (oI (by exact ⟨by omega, by omega⟩))
          obtain ⟨S59, HH202⟩ : ∃ S, Held Nob w (rO eMultiRule S [.int .i64 ((two7 1 0 0 0 1 (-1) 2).1), .slice Ar52_0_1 ((two7 1 0 0 0 1 (-1) 2).2.1.length) cr52_0_1, .slice Ar52_0_2 ((two7 1 0 0 0 1 (-1) 2).2.2.1.length) cr52_0_2, .slice Ar52_0_3 ((two7 1 0 0 0 1 (-1) 2).2.2.2.1.length) cr52_0_3, .int .i64 ((two7 1 0 0 0 1 (-1) 2).2.2.2.2)] (two7 1 0 0 0 1 (-1) 2) :: _) _ := ⟨_, HH201⟩
          have HH203 := HH202.sel [1, 0, 2, 3] (by decide) rfl
          have HH204 : Held Nob w ([rVec eMultiRule 108 Sr33_90 Ar33_90 cr33_90 (putMR ([]) (two7 0 0 0 0 (-1) 0 1)), rO eMultiRule S59 [.int .i64 ((two7 1 0 0 0 1 (-1) 2).1), .slice Ar52_0_1 ((two7 1 0 0 0 1 (-1) 2).2.1.length) cr52_0_1, .slice Ar52_0_2 ((two7 1 0 0 0 1 (-1) 2).2.2.1.length) cr52_0_2, .slice Ar52_0_3 ((two7 1 0 0 0 1 (-1) 2).2.2.2.1.length) cr52_0_3, .int .i64 ((two7 1 0 0 0 1 (-1) 2).2.2.2.2)] (two7 1 0 0 0 1 (-1) 2)] ++ [rBlk q24 55 [.int .i64 (2), .int .i64 (a0), .int .i64 (4), .slice Ar33_90 ((putMR ([]) (two7 0 0 0 0 (-1) 0 1)).length) cr33_90], rBlk q21 55 [.int .i64 (0), .int .i64 (0), .int .i64 (0), .slice none (0) 0]]) _ := HH203
          refine st_call HE191 (wt0 rfl) rfl rfl rfl en_76 rfl rfl (spec_l06Put (Foot [rVec eMultiRule 108 Sr33_90 Ar33_90 cr33_90 (putMR ([]) (two7 0 0 0 0 (-1) 0 1)), rO eMultiRule S59 [.int .i64 ((two7 1 0 0 0 1 (-1) 2).1), .slice Ar52_0_1 ((two7 1 0 0 0 1 (-1) 2).2.1.length) cr52_0_1, .slice Ar52_0_2 ((two7 1 0 0 0 1 (-1) 2).2.2.1.length) cr52_0_2, .slice Ar52_0_3 ((two7 1 0 0 0 1 (-1) 2).2.2.2.1.length) cr52_0_3, .int .i64 ((two7 1 0 0 0 1 (-1) 2).2.2.2.2)] (two7 1 0 0 0 1 (-1) 2)]) _ _ (putMR ([]) (two7 0 0 0 0 (-1) 0 1)) _ _ (two7 1 0 0 0 1 (-1) 2) _ _ HH204.focus (by first | omega | (simp only [putMR_len, palS_len, List.length_nil]; omega))) fun e w' hr => ?_
          obtain ⟨Ar60_90, cr60_90, Sr60_90, rfl, hbr60⟩ := hr
          have HH205 := HH204.back hbr60
          clear hbr60
          have HH206 : Held Nob w ([rVec eMultiRule 108 Sr60_90 Ar60_90 cr60_90 (putMR (putMR ([]) (two7 0 0 0 0 (-1) 0 1)) (two7 1 0 0 0 1 (-1) 2))] ++ [rBlk q24 55 [.int .i64 (2), .int .i64 (a0), .int .i64 (4), .slice Ar33_90 ((putMR ([]) (two7 0 0 0 0 (-1) 0 1)).length) cr33_90], rBlk q21 55 [.int .i64 (0), .int .i64 (0), .int .i64 (0), .slice none (0) 0]]) _ := HH205
          refine ⟨_, rfl, fun a_207 HE208 => hK193 _ _ (by exact HH206.sel [2] (by decide) rfl) ?_⟩
          have HS209 := HH206.sel [2] (by decide) rfl
          refine dr_take (i := 4) (ls' := #[true, true, true, true, true, false]) HE208 HS209 rfl (by kernel_rfl) (by kernel_rfl) (by kernel_rfl) (fun _ _ _ h => h) rfl (wt0 rfl) (x_fieldAddr fa_55_3 rfl) rfl rfl fun a_210 HE211 => ?_
          refine dr_one (i := 5) (ls' := #[true, true, true, true, true, true]) rfl (by kernel_rfl) rfl fun K_212 hK213 => ?_
          refine st_store (vs := [.slice Ar60_90 ((putMR (putMR ([]) (two7 0 0 0 0 (-1) 0 1)) (two7 1 0 0 0 1 (-1) 2)).length) cr60_90]) 1 HE211 HH206 tv_53 rfl rfl rfl rfl rfl rfl (by simp [Value.oneCell']) (wt0 rfl) fun w' HH214 => hK213 _ _ (by exact HH214.sel [2] (by decide) rfl) ?_
          have HS215 := HH214.sel [2] (by decide) rfl
          refine dr_done (by kernel_rfl) ?_
          clear a_33 HE34 HH38 HH129 a_127 HE128 HH130 HH176 HH177 HH178 HH179 HH180 HH181 HH182 HH183 a_132 HE133 HS131 K_134 hK135 a_185 HE186 K_188 hK189 HH184 HH194 HH195 HH196 HH197 HH198 HH199 HH200 HH201 HH202 HH203 HH204 HH205 a_190 HE191 HS187 a_207 HE208 K_192 hK193 HH206 HS209 hK213 K_212
          exact nrm ⟨_, _, _, HE211.sub ⟨rfl, rfl, rfl, trivial⟩, HH214.sel [0, 1, 2] (by decide) rfl⟩
      · rintro a_216 w' ⟨Sr51_90, Ar51_90, cr51_90, HE217, HH218⟩
        refine nrm ?_
        refine wp_seq ?_
        refine wp_join (fun a w' => ∃ (Sr69_90 : Nat → Prop), ∃ (Ar69_90 : Option Addr), ∃ (cr69_90 : Nat), Env 54 [(0, .int .i64 (a0)), (2, .pointer (some ⟨q21, 0, none⟩)), (4, .pointer (some ⟨q24, 0, none⟩))] a ∧ Held Nob w [rVec eMultiRule 108 Sr69_90 Ar69_90 cr69_90 (putMR (putMR (putMR ([]) (two7 0 0 0 0 (-1) 0 1)) (two7 1 0 0 0 1 (-1) 2)) (two7 2 0 0 0 0 0 3)), rBlk q24 55 [.int .i64 (2), .int .i64 (a0), .int .i64 (4), .slice Ar69_90 ((putMR (putMR (putMR ([]) (two7 0 0 0 0 (-1) 0 1)) (two7 1 0 0 0 1 (-1) 2)) (two7 2 0 0 0 0 0 3)).length) cr69_90], rBlk q21 55 [.int .i64 (0), .int .i64 (0), .int .i64 (0), .slice none (0) 0]] w') ?_ ?_
        · refine dr_start (Held Nob w [rBlk q21 55 [.int .i64 (0), .int .i64 (0), .int .i64 (0), .slice none (0) 0]]) 6 #[false, false, false, false, false, false] hmix rfl rfl HH218 (fun _ h => h.sel [2] (by decide) rfl) fun w' HH219 => ?_
          have HS220 := HH219.sel [2] (by decide) rfl
          refine dr_take (i := 0) (ls' := #[true, false, false, false, false, false]) HE217 HS220 rfl (by kernel_rfl) (by kernel_rfl) (by kernel_rfl) (fun _ _ _ h => h) rfl (wt0 rfl) (x_fieldAddr fa_55_3 rfl) rfl rfl fun a_221 HE222 => ?_
          refine dr_two (i := 1) (j := 2) (ls' := #[true, true, false, false, false, false]) (ls'' := #[true, false, true, false, false, false]) rfl rfl (by kernel_rfl) rfl rfl (fun K_223 hK224 => ?_) (fun K_223 hK224 => ?_)
          · refine st_x HE222 HH219 (wt0 rfl) (x_load1 tv_53 rfl (c_blk 1 rfl rfl)) rfl rfl fun a_225 HE226 => hK224 _ _ HS220 ?_
            refine dr_one (i := 2) (ls' := #[true, true, true, false, false, false]) rfl (by kernel_rfl) rfl fun K_227 hK228 => ?_
            refine st_call HE226 (wt0 rfl) rfl rfl rfl en_77 rfl rfl (spec_l06Make 2 0 0 0 0 0 3 _ (by omega) (by omega) (by omega) (by omega) (by omega) (by omega) (by omega)) fun e w' hr => ?_
            obtain ⟨esr61_0, rfl, hor61_0, hbr61⟩ := hr
            have hr := eMultiRule.read hor61_0
            obtain ⟨Sr61, HH229⟩ := HH219.newO hbr61 hor61_0
            obtain ⟨Ar61_0_1, cr61_0_1, Ar61_0_2, cr61_0_2, Ar61_0_3, cr61_0_3, rfl, gr61_0_0, gr61_0_1, gr61_0_2, gr61_0_3, gr61_0_4⟩ := shape_MultiRule hr
            have jr61_0_0 := gr61_0_0; unfold I64 at jr61_0_0
            have jr61_0_4 := gr61_0_4; unfold I64 at jr61_0_4
            have HH230 := HH229.unF rfl
            obtain ⟨S62, S63, HH231⟩ := HH230.unP rfl
            have HH232 := HH231.sel [1, 0, 2, 3, 4] (by decide) rfl
            obtain ⟨S64, S65, HH233⟩ := HH232.unP rfl
            have HH234 := HH233.sel [1, 0, 2, 3, 4, 5] (by decide) rfl
            obtain ⟨S66, S67, HH235⟩ := HH234.unP rfl
            have HH236 := HH235.sel [1, 0, 2, 3, 4, 5, 6] (by decide) rfl
            have HH237 := HH236.sel [1, 2, 3, 4, 5, 6] (by decide) rfl
            refine ⟨_, rfl, fun a_238 HE239 => hK228 _ _ (by exact HH237.sel [5] (by decide) rfl) ?_⟩
            have HS240 := HH237.sel [5] (by decide) rfl
            refine dr_one (i := 3) (ls' := #[true, true, true, true, false, false]) rfl (by kernel_rfl) rfl fun K_241 hK242 => ?_
            have HH243 := HH237.sel [2, 1, 0, 3, 4, 5] (by decide) rfl
            have HH244 := HH243.sel [2, 0, 1, 3, 4, 5] (by decide) rfl
            have HH245 := HH244.pairB (F := eInt) (c2 := [.int .i64 ((two7 2 0 0 0 0 0 3).2.2.2.2)]) (y := (two7 2 0 0 0 0 0 3).2.2.2.2) (oI (by exact ⟨by omega, by omega⟩))
            have HH246 := HH245.sel [2, 0, 1, 3, 4, 5] (by decide) rfl
            have HH247 := HH246.pair
            have HH248 := HH247.sel [1, 0, 2, 3, 4] (by decide) rfl
            have HH249 := HH248.pair
            have HH250 := HH249.pairF (E := eInt) (c1 := [.int .i64 ((two7 2 0 0 0 0 0 3).1)]) (x := (two7 2 0 0 0 0 0 3).1) (oI (by exact ⟨by omega, by omega⟩))
            obtain ⟨S68, HH251⟩ : ∃ S, Held Nob w (rO eMultiRule S [.int .i64 ((two7 2 0 0 0 0 0 3).1), .slice Ar61_0_1 ((two7 2 0 0 0 0 0 3).2.1.length) cr61_0_1, .slice Ar61_0_2 ((two7 2 0 0 0 0 0 3).2.2.1.length) cr61_0_2, .slice Ar61_0_3 ((two7 2 0 0 0 0 0 3).2.2.2.1.length) cr61_0_3, .int .i64 ((two7 2 0 0 0 0 0 3).2.2.2.2)] (two7 2 0 0 0 0 0 3) :: _) _ := ⟨_, HH250⟩
            have HH252 := HH251.sel [1, 0, 2, 3] (by decide) rfl
            have HH253 : Held Nob w ([rVec eMultiRule 108 Sr51_90 Ar51_90 cr51_90 (putMR (putMR ([]) (two7 0 0 0 0 (-1) 0 1)) (two7 1 0 0 0 1 (-1) 2)), rO eMultiRule S68 [.int .i64 ((two7 2 0 0 0 0 0 3).1), .slice Ar61_0_1 ((two7 2 0 0 0 0 0 3).2.1.length) cr61_0_1, .slice Ar61_0_2 ((two7 2 0 0 0 0 0 3).2.2.1.length) cr61_0_2, .slice Ar61_0_3 ((two7 2 0 0 0 0 0 3).2.2.2.1.length) cr61_0_3, .int .i64 ((two7 2 0 0 0 0 0 3).2.2.2.2)] (two7 2 0 0 0 0 0 3)] ++ [rBlk q24 55 [.int .i64 (2), .int .i64 (a0), .int .i64 (4), .slice Ar51_90 ((putMR (putMR ([]) (two7 0 0 0 0 (-1) 0 1)) (two7 1 0 0 0 1 (-1) 2)).length) cr51_90], rBlk q21 55 [.int .i64 (0), .int .i64 (0), .int .i64 (0), .slice none (0) 0]]) _ := HH252
            refine st_call HE239 (wt0 rfl) rfl rfl rfl en_76 rfl rfl (spec_l06Put (Foot [rVec eMultiRule 108 Sr51_90 Ar51_90 cr51_90 (putMR (putMR ([]) (two7 0 0 0 0 (-1) 0 1)) (two7 1 0 0 0 1 (-1) 2)), rO eMultiRule S68 [.int .i64 ((two7 2 0 0 0 0 0 3).1), .slice Ar61_0_1 ((two7 2 0 0 0 0 0 3).2.1.length) cr61_0_1, .slice Ar61_0_2 ((two7 2 0 0 0 0 0 3).2.2.1.length) cr61_0_2, .slice Ar61_0_3 ((two7 2 0 0 0 0 0 3).2.2.2.1.length) cr61_0_3, .int .i64 ((two7 2 0 0 0 0 0 3).2.2.2.2)] (two7 2 0 0 0 0 0 3)]) _ _ (putMR (putMR ([]) (two7 0 0 0 0 (-1) 0 1)) (two7 1 0 0 0 1 (-1) 2)) _ _ (two7 2 0 0 0 0 0 3) _ _ HH253.focus (by first | omega | (simp only [putMR_len, palS_len, List.length_nil]; omega))) fun e w' hr => ?_
            obtain ⟨Ar69_90, cr69_90, Sr69_90, rfl, hbr69⟩ := hr
            have HH254 := HH253.back hbr69
            clear hbr69
            have HH255 : Held Nob w ([rVec eMultiRule 108 Sr69_90 Ar69_90 cr69_90 (putMR (putMR (putMR ([]) (two7 0 0 0 0 (-1) 0 1)) (two7 1 0 0 0 1 (-1) 2)) (two7 2 0 0 0 0 0 3))] ++ [rBlk q24 55 [.int .i64 (2), .int .i64 (a0), .int .i64 (4), .slice Ar51_90 ((putMR (putMR ([]) (two7 0 0 0 0 (-1) 0 1)) (two7 1 0 0 0 1 (-1) 2)).length) cr51_90], rBlk q21 55 [.int .i64 (0), .int .i64 (0), .int .i64 (0), .slice none (0) 0]]) _ := HH254
            refine ⟨_, rfl, fun a_256 HE257 => hK242 _ _ (by exact HH255.sel [2] (by decide) rfl) ?_⟩
            have HS258 := HH255.sel [2] (by decide) rfl
            refine dr_take (i := 4) (ls' := #[true, true, true, true, true, false]) HE257 HS258 rfl (by kernel_rfl) (by kernel_rfl) (by kernel_rfl) (fun _ _ _ h => h) rfl (wt0 rfl) (x_fieldAddr fa_55_3 rfl) rfl rfl fun a_259 HE260 => ?_
            refine dr_one (i := 5) (ls' := #[true, true, true, true, true, true]) rfl (by kernel_rfl) rfl fun K_261 hK262 => ?_
            refine st_store (vs := [.slice Ar69_90 ((putMR (putMR (putMR ([]) (two7 0 0 0 0 (-1) 0 1)) (two7 1 0 0 0 1 (-1) 2)) (two7 2 0 0 0 0 0 3)).length) cr69_90]) 1 HE260 HH255 tv_53 rfl rfl rfl rfl rfl rfl (by simp [Value.oneCell']) (wt0 rfl) fun w' HH263 => hK262 _ _ (by exact HH263.sel [2] (by decide) rfl) ?_
            have HS264 := HH263.sel [2] (by decide) rfl
            refine dr_done (by kernel_rfl) ?_
            clear a_33 HE34 HH38 a_127 HE128 HH129 HH218 a_216 HE217 a_221 HE222 K_223 hK224 HH219 HH229 HH230 HH231 HH232 HH233 HH234 HH235 HH236 a_225 HE226 HS220 K_227 hK228 HH237 HH243 HH244 HH245 HH246 HH247 HH248 HH249 HH250 HH251 HH252 HH253 HH254 a_238 HE239 HS240 a_256 HE257 K_241 hK242 HH255 HS258 hK262 K_261
            exact nrm ⟨_, _, _, HE260.sub ⟨rfl, rfl, rfl, trivial⟩, HH263.sel [0, 1, 2] (by decide) rfl⟩
          · refine st_call HE222 (wt0 rfl) rfl rfl rfl en_77 rfl rfl (spec_l06Make 2 0 0 0 0 0 3 _ (by omega) (by omega) (by omega) (by omega) (by omega) (by omega) (by omega)) fun e w' hr => ?_
            obtain ⟨esr70_0, rfl, hor70_0, hbr70⟩ := hr
            have hr := eMultiRule.read hor70_0
            obtain ⟨Sr70, HH265⟩ := HH219.newO hbr70 hor70_0
            obtain ⟨Ar70_0_1, cr70_0_1, Ar70_0_2, cr70_0_2, Ar70_0_3, cr70_0_3, rfl, gr70_0_0, gr70_0_1, gr70_0_2, gr70_0_3, gr70_0_4⟩ := shape_MultiRule hr
            have jr70_0_0 := gr70_0_0; unfold I64 at jr70_0_0
            have jr70_0_4 := gr70_0_4; unfold I64 at jr70_0_4
            have HH266 := HH265.unF rfl
            obtain ⟨S71, S72, HH267⟩ := HH266.unP rfl
            have HH268 := HH267.sel [1, 0, 2, 3, 4] (by decide) rfl
            obtain ⟨S73, S74, HH269⟩ := HH268.unP rfl
            have HH270 := HH269.sel [1, 0, 2, 3, 4, 5] (by decide) rfl
            obtain ⟨S75, S76, HH271⟩ := HH270.unP rfl
            have HH272 := HH271.sel [1, 0, 2, 3, 4, 5, 6] (by decide) rfl
            have HH273 := HH272.sel [1, 2, 3, 4, 5, 6] (by decide) rfl
            refine ⟨_, rfl, fun a_274 HE275 => hK224 _ _ (by exact HH273.sel [5] (by decide) rfl) ?_⟩
            have HS276 := HH273.sel [5] (by decide) rfl
            refine dr_one (i := 1) (ls' := #[true, true, true, false, false, false]) rfl (by kernel_rfl) rfl fun K_277 hK278 => ?_
            refine st_x HE275 HH273 (wt0 rfl) (x_load1 tv_53 rfl (c_blk 4 rfl rfl)) rfl rfl fun a_279 HE280 => hK278 _ _ HS276 ?_
            refine dr_one (i := 3) (ls' := #[true, true, true, true, false, false]) rfl (by kernel_rfl) rfl fun K_281 hK282 => ?_
            have HH283 := HH273.sel [2, 1, 0, 3, 4, 5] (by decide) rfl
            have HH284 := HH283.sel [2, 0, 1, 3, 4, 5] (by decide) rfl
            have HH285 := HH284.pairB (F := eInt) (c2 := [.int .i64 ((two7 2 0 0 0 0 0 3).2.2.2.2)]) (y := (two7 2 0 0 0 0 0 3).2.2.2.2) (oI (by exact ⟨by omega, by omega⟩))
            have HH286 := HH285.sel [2, 0, 1, 3, 4, 5] (by decide) rfl
            have HH287 := HH286.pair
            have HH288 := HH287.sel [1, 0, 2, 3, 4] (by decide) rfl
            have HH289 := HH288.pair
            have HH290 := HH289.pairF (E := eInt) (c1 := [.int .i64 ((two7 2 0 0 0 0 0 3).1)]) (x := (two7 2 0 0 0 0 0 3).1) (oI (by exact ⟨by omega, by omega⟩))
            obtain ⟨S77, HH291⟩ : ∃ S, Held Nob w (rO eMultiRule S [.int .i64 ((two7 2 0 0 0 0 0 3).1), .slice Ar70_0_1 ((two7 2 0 0 0 0 0 3).2.1.length) cr70_0_1, .slice Ar70_0_2 ((two7 2 0 0 0 0 0 3).2.2.1.length) cr70_0_2, .slice Ar70_0_3 ((two7 2 0 0 0 0 0 3).2.2.2.1.length) cr70_0_3, .int .i64 ((two7 2 0 0 0 0 0 3).2.2.2.2)] (two7 2 0 0 0 0 0 3) :: _) _ := ⟨_, HH290⟩
            have HH292 := HH291.sel [1, 0, 2, 3] (by decide) rfl
            have HH293 : Held Nob w ([rVec eMultiRule 108 Sr51_90 Ar51_90 cr51_90 (putMR (putMR ([]) (two7 0 0 0 0 (-1) 0 1)) (two7 1 0 0 0 1 (-1) 2)), rO eMultiRule S77 [.int .i64 ((two7 2 0 0 0 0 0 3).1), .slice Ar70_0_1 ((two7 2 0 0 0 0 0 3).2.1.length) cr70_0_1, .slice Ar70_0_2 ((two7 2 0 0 0 0 0 3).2.2.1.length) cr70_0_2, .slice Ar70_0_3 ((two7 2 0 0 0 0 0 3).2.2.2.1.length) cr70_0_3, .int .i64 ((two7 2 0 0 0 0 0 3).2.2.2.2)] (two7 2 0 0 0 0 0 3)] ++ [rBlk q24 55 [.int .i64 (2), .int .i64 (a0), .int .i64 (4), .slice Ar51_90 ((putMR (putMR ([]) (two7 0 0 0 0 (-1) 0 1)) (two7 1 0 0 0 1 (-1) 2)).length) cr51_90], rBlk q21 55 [.int .i64 (0), .int .i64 (0), .int .i64 (0), .slice none (0) 0]]) _ := HH292
            refine st_call HE280 (wt0 rfl) rfl rfl rfl en_76 rfl rfl (spec_l06Put (Foot [rVec eMultiRule 108 Sr51_90 Ar51_90 cr51_90 (putMR (putMR ([]) (two7 0 0 0 0 (-1) 0 1)) (two7 1 0 0 0 1 (-1) 2)), rO eMultiRule S77 [.int .i64 ((two7 2 0 0 0 0 0 3).1), .slice Ar70_0_1 ((two7 2 0 0 0 0 0 3).2.1.length) cr70_0_1, .slice Ar70_0_2 ((two7 2 0 0 0 0 0 3).2.2.1.length) cr70_0_2, .slice Ar70_0_3 ((two7 2 0 0 0 0 0 3).2.2.2.1.length) cr70_0_3, .int .i64 ((two7 2 0 0 0 0 0 3).2.2.2.2)] (two7 2 0 0 0 0 0 3)]) _ _ (putMR (putMR ([]) (two7 0 0 0 0 (-1) 0 1)) (two7 1 0 0 0 1 (-1) 2)) _ _ (two7 2 0 0 0 0 0 3) _ _ HH293.focus (by first | omega | (simp only [putMR_len, palS_len, List.length_nil]; omega))) fun e w' hr => ?_
            obtain ⟨Ar78_90, cr78_90, Sr78_90, rfl, hbr78⟩ := hr
            have HH294 := HH293.back hbr78
            clear hbr78
            have HH295 : Held Nob w ([rVec eMultiRule 108 Sr78_90 Ar78_90 cr78_90 (putMR (putMR (putMR ([]) (two7 0 0 0 0 (-1) 0 1)) (two7 1 0 0 0 1 (-1) 2)) (two7 2 0 0 0 0 0 3))] ++ [rBlk q24 55 [.int .i64 (2), .int .i64 (a0), .int .i64 (4), .slice Ar51_90 ((putMR (putMR ([]) (two7 0 0 0 0 (-1) 0 1)) (two7 1 0 0 0 1 (-1) 2)).length) cr51_90], rBlk q21 55 [.int .i64 (0), .int .i64 (0), .int .i64 (0), .slice none (0) 0]]) _ := HH294
            refine ⟨_, rfl, fun a_296 HE297 => hK282 _ _ (by exact HH295.sel [2] (by decide) rfl) ?_⟩
            have HS298 := HH295.sel [2] (by decide) rfl
            refine dr_take (i := 4) (ls' := #[true, true, true, true, true, false]) HE297 HS298 rfl (by kernel_rfl) (by kernel_rfl) (by kernel_rfl) (fun _ _ _ h => h) rfl (wt0 rfl) (x_fieldAddr fa_55_3 rfl) rfl rfl fun a_299 HE300 => ?_
            refine dr_one (i := 5) (ls' := #[true, true, true, true, true, true]) rfl (by kernel_rfl) rfl fun K_301 hK302 => ?_
            refine st_store (vs := [.slice Ar78_90 ((putMR (putMR (putMR ([]) (two7 0 0 0 0 (-1) 0 1)) (two7 1 0 0 0 1 (-1) 2)) (two7 2 0 0 0 0 0 3)).length) cr78_90]) 1 HE300 HH295 tv_53 rfl rfl rfl rfl rfl rfl (by simp [Value.oneCell']) (wt0 rfl) fun w' HH303 => hK302 _ _ (by exact HH303.sel [2] (by decide) rfl) ?_
            have HS304 := HH303.sel [2] (by decide) rfl
            refine dr_done (by kernel_rfl) ?_
            clear a_33 HE34 HH38 a_127 HE128 HH129 HH218 a_216 HE217 HH219 HH265 HH266 HH267 HH268 HH269 HH270 HH271 HH272 a_221 HE222 HS220 K_223 hK224 a_274 HE275 K_277 hK278 HH273 HH283 HH284 HH285 HH286 HH287 HH288 HH289 HH290 HH291 HH292 HH293 HH294 a_279 HE280 HS276 a_296 HE297 K_281 hK282 HH295 HS298 hK302 K_301
            exact nrm ⟨_, _, _, HE300.sub ⟨rfl, rfl, rfl, trivial⟩, HH303.sel [0, 1, 2] (by decide) rfl⟩
        · rintro a_305 w' ⟨Sr69_90, Ar69_90, cr69_90, HE306, HH307⟩
          refine nrm ?_
          refine wp_seq ?_
          refine wp_seq ?_
          refine rg ?_
          refine pl_x HE306 HH307 (wt0 rfl) (x_assign rfl) rfl rfl fun a_308 HE309 => ?_
          refine wpList_nil ?_
          clear a_33 HE34 HH38 a_127 HE128 HH129 a_216 HE217 HH218 a_305 HE306
          refine nrm ?_
          refine wp_block ?_
          refine lp (fun m a w' => ∃ (k : Nat) (A_4_3 : Option Addr) (c_4_3 : Nat) (S_4_3 : Nat → Prop), m = (a0 - (k : Int)).toNat ∧ Env 54 [(5, .int .i64 ((k : Int) + 1)), (0, .int .i64 (a0)), (2, .pointer (some ⟨q21, 0, none⟩)), (4, .pointer (some ⟨q24, 0, none⟩))] a ∧ Held Nob w [rVec eMultiRule 108 S_4_3 A_4_3 c_4_3 (palS k), rBlk q24 55 [.int .i64 2, .int .i64 a0, .int .i64 4, .slice A_4_3 (List.length (palS k)) c_4_3], rBlk q21 55 [.int .i64 (0), .int .i64 (0), .int .i64 (0), .slice none (0) 0]] w' ∧ ((k : Int) + 1 ≤ a0)) ((a0 - ((0) : Int)).toNat) ?_ ?_
          · have E79 : palS 0 = (putMR (putMR (putMR ([]) (two7 0 0 0 0 (-1) 0 1)) (two7 1 0 0 0 1 (-1) 2)) (two7 2 0 0 0 0 0 3)) := by
              rfl
            exact ⟨0, Ar69_90, cr69_90, Sr69_90, rfl, HE309.sub ⟨(lkI rfl (by first | rfl | omega | (simp [hc23]; done))), rfl, rfl, rfl, trivial⟩, ((HH307.sel [0, 1, 2] (by decide) rfl).to (by first | rfl | (rw [E79]; done) | (rw [E79]; rfl) | (simp only [E79]; done) | (simp only [E79]; rfl) | (rw [E79]; simp only [List.length_set]; done))), (by first | omega | assumption | (simp; done) | simp_all)⟩
          · rintro m a_310 w' ⟨k, A_4_3, c_4_3, S_4_3, rfl, HE311, HH312, p80_0⟩
            have ol := palS_len k
            refine wp_seq ?_
            refine wp_seq ?_
            refine rg ?_
            refine pl_x HE311 HH312 (wt0 rfl) (x_move rfl) rfl rfl fun a_313 HE314 => ?_
            refine pl_x HE314 HH312 (wt0 rfl) (x_move rfl) rfl rfl fun a_315 HE316 => ?_
            refine pl_x HE316 HH312 (wt0 rfl) (x_lss rfl rfl) rfl rfl fun a_317 HE318 => ?_
            refine wpList_nil ?_
            clear a_308 HE309 HH307 a_310 HE311 a_313 HE314 a_315 HE316
            refine nrm ?_
            refine cnd_d HE318 rfl (fun hc81 => ?_) (fun hc81 => ?_)
            · refine wp_skip ?_
              refine nrm ?_
              refine wp_seq ?_
              refine wp_block ?_
              refine wp_seq ?_
              refine wp_join (fun a w' => ∃ (Sr90_90 : Nat → Prop), ∃ (Ar90_90 : Option Addr), ∃ (cr90_90 : Nat), Env 54 [(0, .int .i64 (a0)), (2, .pointer (some ⟨q21, 0, none⟩)), (4, .pointer (some ⟨q24, 0, none⟩)), (5, .int .i64 (((k : Int) + 1)))] a ∧ Held Nob w [rVec eMultiRule 108 Sr90_90 Ar90_90 cr90_90 (putMR (palS k) (two7 0 ((k : Int) + 1) 0 ((k : Int) + 1) 1 1 0)), rBlk q24 55 [.int .i64 (2), .int .i64 (a0), .int .i64 (4), .slice Ar90_90 ((putMR (palS k) (two7 0 ((k : Int) + 1) 0 ((k : Int) + 1) 1 1 0)).length) cr90_90], rBlk q21 55 [.int .i64 (0), .int .i64 (0), .int .i64 (0), .slice none (0) 0]] w') ?_ ?_
              · refine dr_start (Held Nob w [rBlk q21 55 [.int .i64 (0), .int .i64 (0), .int .i64 (0), .slice none (0) 0]]) 8 #[false, false, false, false, false, false, false, false] hmix rfl rfl HH312 (fun _ h => h.sel [2] (by decide) rfl) fun w' HH319 => ?_
                have HS320 := HH319.sel [2] (by decide) rfl
                refine dr_take (i := 0) (ls' := #[true, false, false, false, false, false, false, false]) HE318 HS320 rfl (by kernel_rfl) (by kernel_rfl) (by kernel_rfl) (fun _ _ _ h => h) rfl (wt0 rfl) (x_fieldAddr fa_55_3 rfl) rfl rfl fun a_321 HE322 => ?_
                refine dr_take (i := 2) (ls' := #[true, false, true, false, false, false, false, false]) HE322 HS320 rfl (by kernel_rfl) (by kernel_rfl) (by kernel_rfl) (fun _ _ _ h => h) rfl (wt0 rfl) (x_move rfl) rfl rfl fun a_323 HE324 => ?_
                refine dr_take (i := 3) (ls' := #[true, false, true, true, false, false, false, false]) HE324 HS320 rfl (by kernel_rfl) (by kernel_rfl) (by kernel_rfl) (fun _ _ _ h => h) rfl (wt0 rfl) (x_move rfl) rfl rfl fun a_325 HE326 => ?_
                refine dr_two (i := 1) (j := 4) (ls' := #[true, true, true, true, false, false, false, false]) (ls'' := #[true, false, true, true, true, false, false, false]) rfl rfl (by kernel_rfl) rfl rfl (fun K_327 hK328 => ?_) (fun K_327 hK328 => ?_)
                · refine st_x HE326 HH319 (wt0 rfl) (x_load1 tv_53 rfl (c_blk 1 rfl rfl)) rfl rfl fun a_329 HE330 => hK328 _ _ HS320 ?_
                  refine dr_one (i := 4) (ls' := #[true, true, true, true, true, false, false, false]) rfl (by kernel_rfl) rfl fun K_331 hK332 => ?_
                  refine st_call HE330 (wt0 rfl) rfl rfl rfl en_77 rfl rfl (spec_l06Make 0 ((k : Int) + 1) 0 ((k : Int) + 1) 1 1 0 _ (by omega) (by omega) (by omega) (by omega) (by omega) (by omega) (by omega)) fun e w' hr => ?_
                  obtain ⟨esr82_0, rfl, hor82_0, hbr82⟩ := hr
                  have hr := eMultiRule.read hor82_0
                  obtain ⟨Sr82, HH333⟩ := HH319.newO hbr82 hor82_0
                  obtain ⟨Ar82_0_1, cr82_0_1, Ar82_0_2, cr82_0_2, Ar82_0_3, cr82_0_3, rfl, gr82_0_0, gr82_0_1, gr82_0_2, gr82_0_3, gr82_0_4⟩ := shape_MultiRule hr
                  have jr82_0_0 := gr82_0_0; unfold I64 at jr82_0_0
                  have jr82_0_4 := gr82_0_4; unfold I64 at jr82_0_4
                  have HH334 := HH333.unF rfl
                  obtain ⟨S83, S84, HH335⟩ := HH334.unP rfl
                  have HH336 := HH335.sel [1, 0, 2, 3, 4] (by decide) rfl
                  obtain ⟨S85, S86, HH337⟩ := HH336.unP rfl
                  have HH338 := HH337.sel [1, 0, 2, 3, 4, 5] (by decide) rfl
                  obtain ⟨S87, S88, HH339⟩ := HH338.unP rfl
                  have HH340 := HH339.sel [1, 0, 2, 3, 4, 5, 6] (by decide) rfl
                  have HH341 := HH340.sel [1, 2, 3, 4, 5, 6] (by decide) rfl
                  refine ⟨_, rfl, fun a_342 HE343 => hK332 _ _ (by exact HH341.sel [5] (by decide) rfl) ?_⟩
                  have HS344 := HH341.sel [5] (by decide) rfl
                  refine dr_one (i := 5) (ls' := #[true, true, true, true, true, true, false, false]) rfl (by kernel_rfl) rfl fun K_345 hK346 => ?_
                  have HH347 := HH341.sel [2, 1, 0, 3, 4, 5] (by decide) rfl
                  have HH348 := HH347.sel [2, 0, 1, 3, 4, 5] (by decide) rfl
                  have HH349 := HH348.pairB (F := eInt) (c2 := [.int .i64 ((two7 0 ((k : Int) + 1) 0 ((k : Int) + 1) 1 1 0).2.2.2.2)]) (y := (two7 0 ((k : Int) + 1) 0 ((k : Int) + 1) 1 1 0).2.2.2.2) (oI (by exact ⟨by omega, by omega⟩))
                  have HH350 := HH349.sel [2, 0, 1, 3, 4, 5] (by decide) rfl
                  have HH351 := HH350.pair
                  have HH352 := HH351.sel [1, 0, 2, 3, 4] (by decide) rfl
                  have HH353 := HH352.pair
                  have HH354 := HH353.pairF (E := eInt) (c1 := [.int .i64 ((two7 0 ((k : Int) + 1) 0 ((k : Int) + 1) 1 1 0).1)]) (x := (two7 0 ((k : Int) + 1) 0 ((k : Int) + 1) 1 1 0).1) (oI (by exact ⟨by omega, by omega⟩))
                  obtain ⟨S89, HH355⟩ : ∃ S, Held Nob w (rO eMultiRule S [.int .i64 ((two7 0 ((k : Int) + 1) 0 ((k : Int) + 1) 1 1 0).1), .slice Ar82_0_1 ((two7 0 ((k : Int) + 1) 0 ((k : Int) + 1) 1 1 0).2.1.length) cr82_0_1, .slice Ar82_0_2 ((two7 0 ((k : Int) + 1) 0 ((k : Int) + 1) 1 1 0).2.2.1.length) cr82_0_2, .slice Ar82_0_3 ((two7 0 ((k : Int) + 1) 0 ((k : Int) + 1) 1 1 0).2.2.2.1.length) cr82_0_3, .int .i64 ((two7 0 ((k : Int) + 1) 0 ((k : Int) + 1) 1 1 0).2.2.2.2)] (two7 0 ((k : Int) + 1) 0 ((k : Int) + 1) 1 1 0) :: _) _ := ⟨_, HH354⟩
                  have HH356 := HH355.sel [1, 0, 2, 3] (by decide) rfl
                  have HH357 : Held Nob w ([rVec eMultiRule 108 S_4_3 A_4_3 c_4_3 (palS k), rO eMultiRule S89 [.int .i64 ((two7 0 ((k : Int) + 1) 0 ((k : Int) + 1) 1 1 0).1), .slice Ar82_0_1 ((two7 0 ((k : Int) + 1) 0 ((k : Int) + 1) 1 1 0).2.1.length) cr82_0_1, .slice Ar82_0_2 ((two7 0 ((k : Int) + 1) 0 ((k : Int) + 1) 1 1 0).2.2.1.length) cr82_0_2, .slice Ar82_0_3 ((two7 0 ((k : Int) + 1) 0 ((k : Int) + 1) 1 1 0).2.2.2.1.length) cr82_0_3, .int .i64 ((two7 0 ((k : Int) + 1) 0 ((k : Int) + 1) 1 1 0).2.2.2.2)] (two7 0 ((k : Int) + 1) 0 ((k : Int) + 1) 1 1 0)] ++ [rBlk q24 55 [.int .i64 (2), .int .i64 (a0), .int .i64 (4), .slice A_4_3 ((List.length (palS k))) c_4_3], rBlk q21 55 [.int .i64 (0), .int .i64 (0), .int .i64 (0), .slice none (0) 0]]) _ := HH356
                  refine st_call HE343 (wt0 rfl) rfl rfl rfl en_76 rfl rfl (spec_l06Put (Foot [rVec eMultiRule 108 S_4_3 A_4_3 c_4_3 (palS k), rO eMultiRule S89 [.int .i64 ((two7 0 ((k : Int) + 1) 0 ((k : Int) + 1) 1 1 0).1), .slice Ar82_0_1 ((two7 0 ((k : Int) + 1) 0 ((k : Int) + 1) 1 1 0).2.1.length) cr82_0_1, .slice Ar82_0_2 ((two7 0 ((k : Int) + 1) 0 ((k : Int) + 1) 1 1 0).2.2.1.length) cr82_0_2, .slice Ar82_0_3 ((two7 0 ((k : Int) + 1) 0 ((k : Int) + 1) 1 1 0).2.2.2.1.length) cr82_0_3, .int .i64 ((two7 0 ((k : Int) + 1) 0 ((k : Int) + 1) 1 1 0).2.2.2.2)] (two7 0 ((k : Int) + 1) 0 ((k : Int) + 1) 1 1 0)]) _ _ (palS k) _ _ (two7 0 ((k : Int) + 1) 0 ((k : Int) + 1) 1 1 0) _ _ HH357.focus (by first | omega | (simp only [putMR_len, palS_len, List.length_nil]; omega))) fun e w' hr => ?_
                  obtain ⟨Ar90_90, cr90_90, Sr90_90, rfl, hbr90⟩ := hr
                  have HH358 := HH357.back hbr90
                  clear hbr90
                  have HH359 : Held Nob w ([rVec eMultiRule 108 Sr90_90 Ar90_90 cr90_90 (putMR (palS k) (two7 0 ((k : Int) + 1) 0 ((k : Int) + 1) 1 1 0))] ++ [rBlk q24 55 [.int .i64 (2), .int .i64 (a0), .int .i64 (4), .slice A_4_3 ((List.length (palS k))) c_4_3], rBlk q21 55 [.int .i64 (0), .int .i64 (0), .int .i64 (0), .slice none (0) 0]]) _ := HH358
                  refine ⟨_, rfl, fun a_360 HE361 => hK346 _ _ (by exact HH359.sel [2] (by decide) rfl) ?_⟩
                  have HS362 := HH359.sel [2] (by decide) rfl
                  refine dr_take (i := 6) (ls' := #[true, true, true, true, true, true, true, false]) HE361 HS362 rfl (by kernel_rfl) (by kernel_rfl) (by kernel_rfl) (fun _ _ _ h => h) rfl (wt0 rfl) (x_fieldAddr fa_55_3 rfl) rfl rfl fun a_363 HE364 => ?_
                  refine dr_one (i := 7) (ls' := #[true, true, true, true, true, true, true, true]) rfl (by kernel_rfl) rfl fun K_365 hK366 => ?_
                  refine st_store (vs := [.slice Ar90_90 ((putMR (palS k) (two7 0 ((k : Int) + 1) 0 ((k : Int) + 1) 1 1 0)).length) cr90_90]) 1 HE364 HH359 tv_53 rfl rfl rfl rfl rfl rfl (by simp [Value.oneCell']) (wt0 rfl) fun w' HH367 => hK366 _ _ (by exact HH367.sel [2] (by decide) rfl) ?_
                  have HS368 := HH367.sel [2] (by decide) rfl
                  refine dr_done (by kernel_rfl) ?_
                  clear HH312 a_317 HE318 a_321 HE322 a_323 HE324 a_325 HE326 K_327 hK328 HH319 HH333 HH334 HH335 HH336 HH337 HH338 HH339 HH340 a_329 HE330 HS320 K_331 hK332 HH341 HH347 HH348 HH349 HH350 HH351 HH352 HH353 HH354 HH355 HH356 HH357 HH358 a_342 HE343 HS344 a_360 HE361 K_345 hK346 HH359 HS362 hK366 K_365
                  exact nrm ⟨_, _, _, HE364.sub ⟨rfl, rfl, rfl, rfl, trivial⟩, HH367.sel [0, 1, 2] (by decide) rfl⟩
                · refine st_call HE326 (wt0 rfl) rfl rfl rfl en_77 rfl rfl (spec_l06Make 0 ((k : Int) + 1) 0 ((k : Int) + 1) 1 1 0 _ (by omega) (by omega) (by omega) (by omega) (by omega) (by omega) (by omega)) fun e w' hr => ?_
                  obtain ⟨esr91_0, rfl, hor91_0, hbr91⟩ := hr
                  have hr := eMultiRule.read hor91_0
                  obtain ⟨Sr91, HH369⟩ := HH319.newO hbr91 hor91_0
                  obtain ⟨Ar91_0_1, cr91_0_1, Ar91_0_2, cr91_0_2, Ar91_0_3, cr91_0_3, rfl, gr91_0_0, gr91_0_1, gr91_0_2, gr91_0_3, gr91_0_4⟩ := shape_MultiRule hr
                  have jr91_0_0 := gr91_0_0; unfold I64 at jr91_0_0
                  have jr91_0_4 := gr91_0_4; unfold I64 at jr91_0_4
                  have HH370 := HH369.unF rfl
                  obtain ⟨S92, S93, HH371⟩ := HH370.unP rfl
                  have HH372 := HH371.sel [1, 0, 2, 3, 4] (by decide) rfl
                  obtain ⟨S94, S95, HH373⟩ := HH372.unP rfl
                  have HH374 := HH373.sel [1, 0, 2, 3, 4, 5] (by decide) rfl
                  obtain ⟨S96, S97, HH375⟩ := HH374.unP rfl
                  have HH376 := HH375.sel [1, 0, 2, 3, 4, 5, 6] (by decide) rfl
                  have HH377 := HH376.sel [1, 2, 3, 4, 5, 6] (by decide) rfl
                  refine ⟨_, rfl, fun a_378 HE379 => hK328 _ _ (by exact HH377.sel [5] (by decide) rfl) ?_⟩
                  have HS380 := HH377.sel [5] (by decide) rfl
                  refine dr_one (i := 1) (ls' := #[true, true, true, true, true, false, false, false]) rfl (by kernel_rfl) rfl fun K_381 hK382 => ?_
                  refine st_x HE379 HH377 (wt0 rfl) (x_load1 tv_53 rfl (c_blk 4 rfl rfl)) rfl rfl fun a_383 HE384 => hK382 _ _ HS380 ?_
                  refine dr_one (i := 5) (ls' := #[true, true, true, true, true, true, false, false]) rfl (by kernel_rfl) rfl fun K_385 hK386 => ?_
                  have HH387 := HH377.sel [2, 1, 0, 3, 4, 5] (by decide) rfl
                  have HH388 := HH387.sel [2, 0, 1, 3, 4, 5] (by decide) rfl
                  have HH389 := HH388.pairB (F := eInt) (c2 := [.int .i64 ((two7 0 ((k : Int) + 1) 0 ((k : Int) + 1) 1 1 0).2.2.2.2)]) (y := (two7 0 ((k : Int) + 1) 0 ((k : Int) + 1) 1 1 0).2.2.2.2) (oI (by exact ⟨by omega, by omega⟩))
                  have HH390 := HH389.sel [2, 0, 1, 3, 4, 5] (by decide) rfl
                  have HH391 := HH390.pair
                  have HH392 := HH391.sel [1, 0, 2, 3, 4] (by decide) rfl
                  have HH393 := HH392.pair
                  have HH394 := HH393.pairF (E := eInt) (c1 := [.int .i64 ((two7 0 ((k : Int) + 1) 0 ((k : Int) + 1) 1 1 0).1)]) (x := (two7 0 ((k : Int) + 1) 0 ((k : Int) + 1) 1 1 0).1) (oI (by exact ⟨by omega, by omega⟩))
                  obtain ⟨S98, HH395⟩ : ∃ S, Held Nob w (rO eMultiRule S [.int .i64 ((two7 0 ((k : Int) + 1) 0 ((k : Int) + 1) 1 1 0).1), .slice Ar91_0_1 ((two7 0 ((k : Int) + 1) 0 ((k : Int) + 1) 1 1 0).2.1.length) cr91_0_1, .slice Ar91_0_2 ((two7 0 ((k : Int) + 1) 0 ((k : Int) + 1) 1 1 0).2.2.1.length) cr91_0_2, .slice Ar91_0_3 ((two7 0 ((k : Int) + 1) 0 ((k : Int) + 1) 1 1 0).2.2.2.1.length) cr91_0_3, .int .i64 ((two7 0 ((k : Int) + 1) 0 ((k : Int) + 1) 1 1 0).2.2.2.2)] (two7 0 ((k : Int) + 1) 0 ((k : Int) + 1) 1 1 0) :: _) _ := ⟨_, HH394⟩
                  have HH396 := HH395.sel [1, 0, 2, 3] (by decide) rfl
                  have HH397 : Held Nob w ([rVec eMultiRule 108 S_4_3 A_4_3 c_4_3 (palS k), rO eMultiRule S98 [.int .i64 ((two7 0 ((k : Int) + 1) 0 ((k : Int) + 1) 1 1 0).1), .slice Ar91_0_1 ((two7 0 ((k : Int) + 1) 0 ((k : Int) + 1) 1 1 0).2.1.length) cr91_0_1, .slice Ar91_0_2 ((two7 0 ((k : Int) + 1) 0 ((k : Int) + 1) 1 1 0).2.2.1.length) cr91_0_2, .slice Ar91_0_3 ((two7 0 ((k : Int) + 1) 0 ((k : Int) + 1) 1 1 0).2.2.2.1.length) cr91_0_3, .int .i64 ((two7 0 ((k : Int) + 1) 0 ((k : Int) + 1) 1 1 0).2.2.2.2)] (two7 0 ((k : Int) + 1) 0 ((k : Int) + 1) 1 1 0)] ++ [rBlk q24 55 [.int .i64 (2), .int .i64 (a0), .int .i64 (4), .slice A_4_3 ((List.length (palS k))) c_4_3], rBlk q21 55 [.int .i64 (0), .int .i64 (0), .int .i64 (0), .slice none (0) 0]]) _ := HH396
                  refine st_call HE384 (wt0 rfl) rfl rfl rfl en_76 rfl rfl (spec_l06Put (Foot [rVec eMultiRule 108 S_4_3 A_4_3 c_4_3 (palS k), rO eMultiRule S98 [.int .i64 ((two7 0 ((k : Int) + 1) 0 ((k : Int) + 1) 1 1 0).1), .slice Ar91_0_1 ((two7 0 ((k : Int) + 1) 0 ((k : Int) + 1) 1 1 0).2.1.length) cr91_0_1, .slice Ar91_0_2 ((two7 0 ((k : Int) + 1) 0 ((k : Int) + 1) 1 1 0).2.2.1.length) cr91_0_2, .slice Ar91_0_3 ((two7 0 ((k : Int) + 1) 0 ((k : Int) + 1) 1 1 0).2.2.2.1.length) cr91_0_3, .int .i64 ((two7 0 ((k : Int) + 1) 0 ((k : Int) + 1) 1 1 0).2.2.2.2)] (two7 0 ((k : Int) + 1) 0 ((k : Int) + 1) 1 1 0)]) _ _ (palS k) _ _ (two7 0 ((k : Int) + 1) 0 ((k : Int) + 1) 1 1 0) _ _ HH397.focus (by first | omega | (simp only [putMR_len, palS_len, List.length_nil]; omega))) fun e w' hr => ?_
                  obtain ⟨Ar99_90, cr99_90, Sr99_90, rfl, hbr99⟩ := hr
                  have HH398 := HH397.back hbr99
                  clear hbr99
                  have HH399 : Held Nob w ([rVec eMultiRule 108 Sr99_90 Ar99_90 cr99_90 (putMR (palS k) (two7 0 ((k : Int) + 1) 0 ((k : Int) + 1) 1 1 0))] ++ [rBlk q24 55 [.int .i64 (2), .int .i64 (a0), .int .i64 (4), .slice A_4_3 ((List.length (palS k))) c_4_3], rBlk q21 55 [.int .i64 (0), .int .i64 (0), .int .i64 (0), .slice none (0) 0]]) _ := HH398
                  refine ⟨_, rfl, fun a_400 HE401 => hK386 _ _ (by exact HH399.sel [2] (by decide) rfl) ?_⟩
                  have HS402 := HH399.sel [2] (by decide) rfl
                  refine dr_take (i := 6) (ls' := #[true, true, true, true, true, true, true, false]) HE401 HS402 rfl (by kernel_rfl) (by kernel_rfl) (by kernel_rfl) (fun _ _ _ h => h) rfl (wt0 rfl) (x_fieldAddr fa_55_3 rfl) rfl rfl fun a_403 HE404 => ?_
                  refine dr_one (i := 7) (ls' := #[true, true, true, true, true, true, true, true]) rfl (by kernel_rfl) rfl fun K_405 hK406 => ?_
                  refine st_store (vs := [.slice Ar99_90 ((putMR (palS k) (two7 0 ((k : Int) + 1) 0 ((k : Int) + 1) 1 1 0)).length) cr99_90]) 1 HE404 HH399 tv_53 rfl rfl rfl rfl rfl rfl (by simp [Value.oneCell']) (wt0 rfl) fun w' HH407 => hK406 _ _ (by exact HH407.sel [2] (by decide) rfl) ?_
                  have HS408 := HH407.sel [2] (by decide) rfl
                  refine dr_done (by kernel_rfl) ?_
                  clear HH312 a_317 HE318 a_321 HE322 a_323 HE324 HH319 HH369 HH370 HH371 HH372 HH373 HH374 HH375 HH376 a_325 HE326 HS320 K_327 hK328 a_378 HE379 K_381 hK382 HH377 HH387 HH388 HH389 HH390 HH391 HH392 HH393 HH394 HH395 HH396 HH397 HH398 a_383 HE384 HS380 a_400 HE401 K_385 hK386 HH399 HS402 hK406 K_405
                  exact nrm ⟨_, _, _, HE404.sub ⟨rfl, rfl, rfl, rfl, trivial⟩, HH407.sel [0, 1, 2] (by decide) rfl⟩
              · rintro a_409 w' ⟨Sr90_90, Ar90_90, cr90_90, HE410, HH411⟩
                refine nrm ?_
                refine wp_seq ?_
                refine wp_join (fun a w' => ∃ (Sr108_90 : Nat → Prop), ∃ (Ar108_90 : Option Addr), ∃ (cr108_90 : Nat), Env 54 [(0, .int .i64 (a0)), (2, .pointer (some ⟨q21, 0, none⟩)), (4, .pointer (some ⟨q24, 0, none⟩)), (5, .int .i64 (((k : Int) + 1)))] a ∧ Held Nob w [rVec eMultiRule 108 Sr108_90 Ar108_90 cr108_90 (putMR (putMR (palS k) (two7 0 ((k : Int) + 1) 0 ((k : Int) + 1) 1 1 0)) (two7 1 ((k : Int) + 1) 0 0 (-1) 0 1)), rBlk q24 55 [.int .i64 (2), .int .i64 (a0), .int .i64 (4), .slice Ar108_90 ((putMR (putMR (palS k) (two7 0 ((k : Int) + 1) 0 ((k : Int) + 1) 1 1 0)) (two7 1 ((k : Int) + 1) 0 0 (-1) 0 1)).length) cr108_90], rBlk q21 55 [.int .i64 (0), .int .i64 (0), .int .i64 (0), .slice none (0) 0]] w') ?_ ?_
                · refine dr_start (Held Nob w [rBlk q21 55 [.int .i64 (0), .int .i64 (0), .int .i64 (0), .slice none (0) 0]]) 7 #[false, false, false, false, false, false, false] hmix rfl rfl HH411 (fun _ h => h.sel [2] (by decide) rfl) fun w' HH412 => ?_
                  have HS413 := HH412.sel [2] (by decide) rfl
                  refine dr_take (i := 0) (ls' := #[true, false, false, false, false, false, false]) HE410 HS413 rfl (by kernel_rfl) (by kernel_rfl) (by kernel_rfl) (fun _ _ _ h => h) rfl (wt0 rfl) (x_fieldAddr fa_55_3 rfl) rfl rfl fun a_414 HE415 => ?_
                  refine dr_take (i := 2) (ls' := #[true, false, true, false, false, false, false]) HE415 HS413 rfl (by kernel_rfl) (by kernel_rfl) (by kernel_rfl) (fun _ _ _ h => h) rfl (wt0 rfl) (x_move rfl) rfl rfl fun a_416 HE417 => ?_
                  refine dr_two (i := 1) (j := 3) (ls' := #[true, true, true, false, false, false, false]) (ls'' := #[true, false, true, true, false, false, false]) rfl rfl (by kernel_rfl) rfl rfl (fun K_418 hK419 => ?_) (fun K_418 hK419 => ?_)
                  · refine st_x HE417 HH412 (wt0 rfl) (x_load1 tv_53 rfl (c_blk 1 rfl rfl)) rfl rfl fun a_420 HE421 => hK419 _ _ HS413 ?_
                    refine dr_one (i := 3) (ls' := #[true, true, true, true, false, false, false]) rfl (by kernel_rfl) rfl fun K_422 hK423 => ?_
                    refine st_call HE421 (wt0 rfl) rfl rfl rfl en_77 rfl rfl (spec_l06Make 1 ((k : Int) + 1) 0 0 (-1) 0 1 _ (by omega) (by omega) (by omega) (by omega) (by omega) (by omega) (by omega)) fun e w' hr => ?_
                    obtain ⟨esr100_0, rfl, hor100_0, hbr100⟩ := hr
                    have hr := eMultiRule.read hor100_0
                    obtain ⟨Sr100, HH424⟩ := HH412.newO hbr100 hor100_0
                    obtain ⟨Ar100_0_1, cr100_0_1, Ar100_0_2, cr100_0_2, Ar100_0_3, cr100_0_3, rfl, gr100_0_0, gr100_0_1, gr100_0_2, gr100_0_3, gr100_0_4⟩ := shape_MultiRule hr
                    have jr100_0_0 := gr100_0_0; unfold I64 at jr100_0_0
                    have jr100_0_4 := gr100_0_4; unfold I64 at jr100_0_4
                    have HH425 := HH424.unF rfl
                    obtain ⟨S101, S102, HH426⟩ := HH425.unP rfl
                    have HH427 := HH426.sel [1, 0, 2, 3, 4] (by decide) rfl
                    obtain ⟨S103, S104, HH428⟩ := HH427.unP rfl
                    have HH429 := HH428.sel [1, 0, 2, 3, 4, 5] (by decide) rfl
                    obtain ⟨S105, S106, HH430⟩ := HH429.unP rfl
                    have HH431 := HH430.sel [1, 0, 2, 3, 4, 5, 6] (by decide) rfl
                    have HH432 := HH431.sel [1, 2, 3, 4, 5, 6] (by decide) rfl
                    refine ⟨_, rfl, fun a_433 HE434 => hK423 _ _ (by exact HH432.sel [5] (by decide) rfl) ?_⟩
                    have HS435 := HH432.sel [5] (by decide) rfl
                    refine dr_one (i := 4) (ls' := #[true, true, true, true, true, false, false]) rfl (by kernel_rfl) rfl fun K_436 hK437 => ?_
                    have HH438 := HH432.sel [2, 1, 0, 3, 4, 5] (by decide) rfl
                    have HH439 := HH438.sel [2, 0, 1, 3, 4, 5] (by decide) rfl
                    have HH440 := HH439.pairB (F := eInt) (c2 := [.int .i64 ((two7 1 ((k : Int) + 1) 0 0 (-1) 0 1).2.2.2.2)]) (y := (two7 1 ((k : Int) + 1) 0 0 (-1) 0 1).2.2.2.2) (oI (by exact ⟨by omega, by omega⟩))
                    have HH441 := HH440.sel [2, 0, 1, 3, 4, 5] (by decide) rfl
                    have HH442 := HH441.pair
                    have HH443 := HH442.sel [1, 0, 2, 3, 4] (by decide) rfl
                    have HH444 := HH443.pair
                    have HH445 := HH444.pairF (E := eInt) (c1 := [.int .i64 ((two7 1 ((k : Int) + 1) 0 0 (-1) 0 1).1)]) (x := (two7 1 ((k : Int) + 1) 0 0 (-1) 0 1).1) (oI (by exact ⟨by omega, by omega⟩))
                    obtain ⟨S107, HH446⟩ : ∃ S, Held Nob w (rO eMultiRule S [.int .i64 ((two7 1 ((k : Int) + 1) 0 0 (-1) 0 1).1), .slice Ar100_0_1 ((two7 1 ((k : Int) + 1) 0 0 (-1) 0 1).2.1.length) cr100_0_1, .slice Ar100_0_2 ((two7 1 ((k : Int) + 1) 0 0 (-1) 0 1).2.2.1.length) cr100_0_2, .slice Ar100_0_3 ((two7 1 ((k : Int) + 1) 0 0 (-1) 0 1).2.2.2.1.length) cr100_0_3, .int .i64 ((two7 1 ((k : Int) + 1) 0 0 (-1) 0 1).2.2.2.2)] (two7 1 ((k : Int) + 1) 0 0 (-1) 0 1) :: _) _ := ⟨_, HH445⟩
                    have HH447 := HH446.sel [1, 0, 2, 3] (by decide) rfl
                    have HH448 : Held Nob w ([rVec eMultiRule 108 Sr90_90 Ar90_90 cr90_90 (putMR (palS k) (two7 0 ((k : Int) + 1) 0 ((k : Int) + 1) 1 1 0)), rO eMultiRule S107 [.int .i64 ((two7 1 ((k : Int) + 1) 0 0 (-1) 0 1).1), .slice Ar100_0_1 ((two7 1 ((k : Int) + 1) 0 0 (-1) 0 1).2.1.length) cr100_0_1, .slice Ar100_0_2 ((two7 1 ((k : Int) + 1) 0 0 (-1) 0 1).2.2.1.length) cr100_0_2, .slice Ar100_0_3 ((two7 1 ((k : Int) + 1) 0 0 (-1) 0 1).2.2.2.1.length) cr100_0_3, .int .i64 ((two7 1 ((k : Int) + 1) 0 0 (-1) 0 1).2.2.2.2)] (two7 1 ((k : Int) + 1) 0 0 (-1) 0 1)] ++ [rBlk q24 55 [.int .i64 (2), .int .i64 (a0), .int .i64 (4), .slice Ar90_90 ((putMR (palS k) (two7 0 ((k : Int) + 1) 0 ((k : Int) + 1) 1 1 0)).length) cr90_90], rBlk q21 55 [.int .i64 (0), .int .i64 (0), .int .i64 (0), .slice none (0) 0]]) _ := HH447
                    refine st_call HE434 (wt0 rfl) rfl rfl rfl en_76 rfl rfl (spec_l06Put (Foot [rVec eMultiRule 108 Sr90_90 Ar90_90 cr90_90 (putMR (palS k) (two7 0 ((k : Int) + 1) 0 ((k : Int) + 1) 1 1 0)), rO eMultiRule S107 [.int .i64 ((two7 1 ((k : Int) + 1) 0 0 (-1) 0 1).1), .slice Ar100_0_1 ((two7 1 ((k : Int) + 1) 0 0 (-1) 0 1).2.1.length) cr100_0_1, .slice Ar100_0_2 ((two7 1 ((k : Int) + 1) 0 0 (-1) 0 1).2.2.1.length) cr100_0_2, .slice Ar100_0_3 ((two7 1 ((k : Int) + 1) 0 0 (-1) 0 1).2.2.2.1.length) cr100_0_3, .int .i64 ((two7 1 ((k : Int) + 1) 0 0 (-1) 0 1).2.2.2.2)] (two7 1 ((k : Int) + 1) 0 0 (-1) 0 1)]) _ _ (putMR (palS k) (two7 0 ((k : Int) + 1) 0 ((k : Int) + 1) 1 1 0)) _ _ (two7 1 ((k : Int) + 1) 0 0 (-1) 0 1) _ _ HH448.focus (by first | omega | (simp only [putMR_len, palS_len, List.length_nil]; omega))) fun e w' hr => ?_
                    obtain ⟨Ar108_90, cr108_90, Sr108_90, rfl, hbr108⟩ := hr
                    have HH449 := HH448.back hbr108
                    clear hbr108
                    have HH450 : Held Nob w ([rVec eMultiRule 108 Sr108_90 Ar108_90 cr108_90 (putMR (putMR (palS k) (two7 0 ((k : Int) + 1) 0 ((k : Int) + 1) 1 1 0)) (two7 1 ((k : Int) + 1) 0 0 (-1) 0 1))] ++ [rBlk q24 55 [.int .i64 (2), .int .i64 (a0), .int .i64 (4), .slice Ar90_90 ((putMR (palS k) (two7 0 ((k : Int) + 1) 0 ((k : Int) + 1) 1 1 0)).length) cr90_90], rBlk q21 55 [.int .i64 (0), .int .i64 (0), .int .i64 (0), .slice none (0) 0]]) _ := HH449
                    refine ⟨_, rfl, fun a_451 HE452 => hK437 _ _ (by exact HH450.sel [2] (by decide) rfl) ?_⟩
                    have HS453 := HH450.sel [2] (by decide) rfl
                    refine dr_take (i := 5) (ls' := #[true, true, true, true, true, true, false]) HE452 HS453 rfl (by kernel_rfl) (by kernel_rfl) (by kernel_rfl) (fun _ _ _ h => h) rfl (wt0 rfl) (x_fieldAddr fa_55_3 rfl) rfl rfl fun a_454 HE455 => ?_
                    refine dr_one (i := 6) (ls' := #[true, true, true, true, true, true, true]) rfl (by kernel_rfl) rfl fun K_456 hK457 => ?_
                    refine st_store (vs := [.slice Ar108_90 ((putMR (putMR (palS k) (two7 0 ((k : Int) + 1) 0 ((k : Int) + 1) 1 1 0)) (two7 1 ((k : Int) + 1) 0 0 (-1) 0 1)).length) cr108_90]) 1 HE455 HH450 tv_53 rfl rfl rfl rfl rfl rfl (by simp [Value.oneCell']) (wt0 rfl) fun w' HH458 => hK457 _ _ (by exact HH458.sel [2] (by decide) rfl) ?_
                    have HS459 := HH458.sel [2] (by decide) rfl
                    refine dr_done (by kernel_rfl) ?_
                    clear a_317 HE318 HH312 HH411 a_409 HE410 a_414 HE415 a_416 HE417 K_418 hK419 HH412 HH424 HH425 HH426 HH427 HH428 HH429 HH430 HH431 a_420 HE421 HS413 K_422 hK423 HH432 HH438 HH439 HH440 HH441 HH442 HH443 HH444 HH445 HH446 HH447 HH448 HH449 a_433 HE434 HS435 a_451 HE452 K_436 hK437 HH450 HS453 hK457 K_456
                    exact nrm ⟨_, _, _, HE455.sub ⟨rfl, rfl, rfl, rfl, trivial⟩, HH458.sel [0, 1, 2] (by decide) rfl⟩
                  · refine st_call HE417 (wt0 rfl) rfl rfl rfl en_77 rfl rfl (spec_l06Make 1 ((k : Int) + 1) 0 0 (-1) 0 1 _ (by omega) (by omega) (by omega) (by omega) (by omega) (by omega) (by omega)) fun e w' hr => ?_
                    obtain ⟨esr109_0, rfl, hor109_0, hbr109⟩ := hr
                    have hr := eMultiRule.read hor109_0
                    obtain ⟨Sr109, HH460⟩ := HH412.newO hbr109 hor109_0
                    obtain ⟨Ar109_0_1, cr109_0_1, Ar109_0_2, cr109_0_2, Ar109_0_3, cr109_0_3, rfl, gr109_0_0, gr109_0_1, gr109_0_2, gr109_0_3, gr109_0_4⟩ := shape_MultiRule hr
                    have jr109_0_0 := gr109_0_0; unfold I64 at jr109_0_0
                    have jr109_0_4 := gr109_0_4; unfold I64 at jr109_0_4
                    have HH461 := HH460.unF rfl
                    obtain ⟨S110, S111, HH462⟩ := HH461.unP rfl
                    have HH463 := HH462.sel [1, 0, 2, 3, 4] (by decide) rfl
                    obtain ⟨S112, S113, HH464⟩ := HH463.unP rfl
                    have HH465 := HH464.sel [1, 0, 2, 3, 4, 5] (by decide) rfl
                    obtain ⟨S114, S115, HH466⟩ := HH465.unP rfl
                    have HH467 := HH466.sel [1, 0, 2, 3, 4, 5, 6] (by decide) rfl
                    have HH468 := HH467.sel [1, 2, 3, 4, 5, 6] (by decide) rfl
                    refine ⟨_, rfl, fun a_469 HE470 => hK419 _ _ (by exact HH468.sel [5] (by decide) rfl) ?_⟩
                    have HS471 := HH468.sel [5] (by decide) rfl
                    refine dr_one (i := 1) (ls' := #[true, true, true, true, false, false, false]) rfl (by kernel_rfl) rfl fun K_472 hK473 => ?_
                    refine st_x HE470 HH468 (wt0 rfl) (x_load1 tv_53 rfl (c_blk 4 rfl rfl)) rfl rfl fun a_474 HE475 => hK473 _ _ HS471 ?_
                    refine dr_one (i := 4) (ls' := #[true, true, true, true, true, false, false]) rfl (by kernel_rfl) rfl fun K_476 hK477 => ?_
                    have HH478 := HH468.sel [2, 1, 0, 3, 4, 5] (by decide) rfl
                    have HH479 := HH478.sel [2, 0, 1, 3, 4, 5] (by decide) rfl
                    have HH480 := HH479.pairB (F := eInt) (c2 := [.int .i64 ((two7 1 ((k : Int) + 1) 0 0 (-1) 0 1).2.2.2.2)]) (y := (two7 1 ((k : Int) + 1) 0 0 (-1) 0 1).2.2.2.2) (oI (by exact ⟨by omega, by omega⟩))
                    have HH481 := HH480.sel [2, 0, 1, 3, 4, 5] (by decide) rfl
                    have HH482 := HH481.pair
                    have HH483 := HH482.sel [1, 0, 2, 3, 4] (by decide) rfl
                    have HH484 := HH483.pair
                    have HH485 := HH484.pairF (E := eInt) (c1 := [.int .i64 ((two7 1 ((k : Int) + 1) 0 0 (-1) 0 1).1)]) (x := (two7 1 ((k : Int) + 1) 0 0 (-1) 0 1).1) (oI (by exact ⟨by omega, by omega⟩))
                    obtain ⟨S116, HH486⟩ : ∃ S, Held Nob w (rO eMultiRule S [.int .i64 ((two7 1 ((k : Int) + 1) 0 0 (-1) 0 1).1), .slice Ar109_0_1 ((two7 1 ((k : Int) + 1) 0 0 (-1) 0 1).2.1.length) cr109_0_1, .slice Ar109_0_2 ((two7 1 ((k : Int) + 1) 0 0 (-1) 0 1).2.2.1.length) cr109_0_2, .slice Ar109_0_3 ((two7 1 ((k : Int) + 1) 0 0 (-1) 0 1).2.2.2.1.length) cr109_0_3, .int .i64 ((two7 1 ((k : Int) + 1) 0 0 (-1) 0 1).2.2.2.2)] (two7 1 ((k : Int) + 1) 0 0 (-1) 0 1) :: _) _ := ⟨_, HH485⟩
                    have HH487 := HH486.sel [1, 0, 2, 3] (by decide) rfl
                    have HH488 : Held Nob w ([rVec eMultiRule 108 Sr90_90 Ar90_90 cr90_90 (putMR (palS k) (two7 0 ((k : Int) + 1) 0 ((k : Int) + 1) 1 1 0)), rO eMultiRule S116 [.int .i64 ((two7 1 ((k : Int) + 1) 0 0 (-1) 0 1).1), .slice Ar109_0_1 ((two7 1 ((k : Int) + 1) 0 0 (-1) 0 1).2.1.length) cr109_0_1, .slice Ar109_0_2 ((two7 1 ((k : Int) + 1) 0 0 (-1) 0 1).2.2.1.length) cr109_0_2, .slice Ar109_0_3 ((two7 1 ((k : Int) + 1) 0 0 (-1) 0 1).2.2.2.1.length) cr109_0_3, .int .i64 ((two7 1 ((k : Int) + 1) 0 0 (-1) 0 1).2.2.2.2)] (two7 1 ((k : Int) + 1) 0 0 (-1) 0 1)] ++ [rBlk q24 55 [.int .i64 (2), .int .i64 (a0), .int .i64 (4), .slice Ar90_90 ((putMR (palS k) (two7 0 ((k : Int) + 1) 0 ((k : Int) + 1) 1 1 0)).length) cr90_90], rBlk q21 55 [.int .i64 (0), .int .i64 (0), .int .i64 (0), .slice none (0) 0]]) _ := HH487
                    refine st_call HE475 (wt0 rfl) rfl rfl rfl en_76 rfl rfl (spec_l06Put (Foot [rVec eMultiRule 108 Sr90_90 Ar90_90 cr90_90 (putMR (palS k) (two7 0 ((k : Int) + 1) 0 ((k : Int) + 1) 1 1 0)), rO eMultiRule S116 [.int .i64 ((two7 1 ((k : Int) + 1) 0 0 (-1) 0 1).1), .slice Ar109_0_1 ((two7 1 ((k : Int) + 1) 0 0 (-1) 0 1).2.1.length) cr109_0_1, .slice Ar109_0_2 ((two7 1 ((k : Int) + 1) 0 0 (-1) 0 1).2.2.1.length) cr109_0_2, .slice Ar109_0_3 ((two7 1 ((k : Int) + 1) 0 0 (-1) 0 1).2.2.2.1.length) cr109_0_3, .int .i64 ((two7 1 ((k : Int) + 1) 0 0 (-1) 0 1).2.2.2.2)] (two7 1 ((k : Int) + 1) 0 0 (-1) 0 1)]) _ _ (putMR (palS k) (two7 0 ((k : Int) + 1) 0 ((k : Int) + 1) 1 1 0)) _ _ (two7 1 ((k : Int) + 1) 0 0 (-1) 0 1) _ _ HH488.focus (by first | omega | (simp only [putMR_len, palS_len, List.length_nil]; omega))) fun e w' hr => ?_
                    obtain ⟨Ar117_90, cr117_90, Sr117_90, rfl, hbr117⟩ := hr
                    have HH489 := HH488.back hbr117
                    clear hbr117
                    have HH490 : Held Nob w ([rVec eMultiRule 108 Sr117_90 Ar117_90 cr117_90 (putMR (putMR (palS k) (two7 0 ((k : Int) + 1) 0 ((k : Int) + 1) 1 1 0)) (two7 1 ((k : Int) + 1) 0 0 (-1) 0 1))] ++ [rBlk q24 55 [.int .i64 (2), .int .i64 (a0), .int .i64 (4), .slice Ar90_90 ((putMR (palS k) (two7 0 ((k : Int) + 1) 0 ((k : Int) + 1) 1 1 0)).length) cr90_90], rBlk q21 55 [.int .i64 (0), .int .i64 (0), .int .i64 (0), .slice none (0) 0]]) _ := HH489
                    refine ⟨_, rfl, fun a_491 HE492 => hK477 _ _ (by exact HH490.sel [2] (by decide) rfl) ?_⟩
                    have HS493 := HH490.sel [2] (by decide) rfl
                    refine dr_take (i := 5) (ls' := #[true, true, true, true, true, true, false]) HE492 HS493 rfl (by kernel_rfl) (by kernel_rfl) (by kernel_rfl) (fun _ _ _ h => h) rfl (wt0 rfl) (x_fieldAddr fa_55_3 rfl) rfl rfl fun a_494 HE495 => ?_
                    refine dr_one (i := 6) (ls' := #[true, true, true, true, true, true, true]) rfl (by kernel_rfl) rfl fun K_496 hK497 => ?_
                    refine st_store (vs := [.slice Ar117_90 ((putMR (putMR (palS k) (two7 0 ((k : Int) + 1) 0 ((k : Int) + 1) 1 1 0)) (two7 1 ((k : Int) + 1) 0 0 (-1) 0 1)).length) cr117_90]) 1 HE495 HH490 tv_53 rfl rfl rfl rfl rfl rfl (by simp [Value.oneCell']) (wt0 rfl) fun w' HH498 => hK497 _ _ (by exact HH498.sel [2] (by decide) rfl) ?_
                    have HS499 := HH498.sel [2] (by decide) rfl
                    refine dr_done (by kernel_rfl) ?_
                    clear a_317 HE318 HH312 HH411 a_409 HE410 a_414 HE415 HH412 HH460 HH461 HH462 HH463 HH464 HH465 HH466 HH467 a_416 HE417 HS413 K_418 hK419 a_469 HE470 K_472 hK473 HH468 HH478 HH479 HH480 HH481 HH482 HH483 HH484 HH485 HH486 HH487 HH488 HH489 a_474 HE475 HS471 a_491 HE492 K_476 hK477 HH490 HS493 hK497 K_496
                    exact nrm ⟨_, _, _, HE495.sub ⟨rfl, rfl, rfl, rfl, trivial⟩, HH498.sel [0, 1, 2] (by decide) rfl⟩
                · rintro a_500 w' ⟨Sr108_90, Ar108_90, cr108_90, HE501, HH502⟩
                  refine nrm ?_
                  refine wp_join (fun a w' => ∃ (Sr126_90 : Nat → Prop), ∃ (Ar126_90 : Option Addr), ∃ (cr126_90 : Nat), Env 54 [(0, .int .i64 (a0)), (2, .pointer (some ⟨q21, 0, none⟩)), (4, .pointer (some ⟨q24, 0, none⟩)), (5, .int .i64 (((k : Int) + 1)))] a ∧ Held Nob w [rVec eMultiRule 108 Sr126_90 Ar126_90 cr126_90 (putMR (putMR (putMR (palS k) (two7 0 ((k : Int) + 1) 0 ((k : Int) + 1) 1 1 0)) (two7 1 ((k : Int) + 1) 0 0 (-1) 0 1)) (two7 2 ((k : Int) + 1) ((k : Int) + 1) ((k : Int) + 1) 1 (-1) 2)), rBlk q24 55 [.int .i64 (2), .int .i64 (a0), .int .i64 (4), .slice Ar126_90 ((putMR (putMR (putMR (palS k) (two7 0 ((k : Int) + 1) 0 ((k : Int) + 1) 1 1 0)) (two7 1 ((k : Int) + 1) 0 0 (-1) 0 1)) (two7 2 ((k : Int) + 1) ((k : Int) + 1) ((k : Int) + 1) 1 (-1) 2)).length) cr126_90], rBlk q21 55 [.int .i64 (0), .int .i64 (0), .int .i64 (0), .slice none (0) 0]] w') ?_ ?_
                  · refine dr_start (Held Nob w [rBlk q21 55 [.int .i64 (0), .int .i64 (0), .int .i64 (0), .slice none (0) 0]]) 9 #[false, false, false, false, false, false, false, false, false] hmix rfl rfl HH502 (fun _ h => h.sel [2] (by decide) rfl) fun w' HH503 => ?_
                    have HS504 := HH503.sel [2] (by decide) rfl
                    refine dr_take (i := 0) (ls' := #[true, false, false, false, false, false, false, false, false]) HE501 HS504 rfl (by kernel_rfl) (by kernel_rfl) (by kernel_rfl) (fun _ _ _ h => h) rfl (wt0 rfl) (x_fieldAddr fa_55_3 rfl) rfl rfl fun a_505 HE506 => ?_
                    refine dr_take (i := 2) (ls' := #[true, false, true, false, false, false, false, false, false]) HE506 HS504 rfl (by kernel_rfl) (by kernel_rfl) (by kernel_rfl) (fun _ _ _ h => h) rfl (wt0 rfl) (x_move rfl) rfl rfl fun a_507 HE508 => ?_
                    refine dr_take (i := 3) (ls' := #[true, false, true, true, false, false, false, false, false]) HE508 HS504 rfl (by kernel_rfl) (by kernel_rfl) (by kernel_rfl) (fun _ _ _ h => h) rfl (wt0 rfl) (x_move rfl) rfl rfl fun a_509 HE510 => ?_
                    refine dr_take (i := 4) (ls' := #[true, false, true, true, true, false, false, false, false]) HE510 HS504 rfl (by kernel_rfl) (by kernel_rfl) (by kernel_rfl) (fun _ _ _ h => h) rfl (wt0 rfl) (x_move rfl) rfl rfl fun a_511 HE512 => ?_
                    refine dr_two (i := 1) (j := 5) (ls' := #[true, true, true, true, true, false, false, false, false]) (ls'' := #[true, false, true, true, true, true, false, false, false]) rfl rfl (by kernel_rfl) rfl rfl (fun K_513 hK514 => ?_) (fun K_513 hK514 => ?_)
                    · refine st_x HE512 HH503 (wt0 rfl) (x_load1 tv_53 rfl (c_blk 1 rfl rfl)) rfl rfl fun a_515 HE516 => hK514 _ _ HS504 ?_
                      refine dr_one (i := 5) (ls' := #[true, true, true, true, true, true, false, false, false]) rfl (by kernel_rfl) rfl fun K_517 hK518 => ?_
                      refine st_call HE516 (wt0 rfl) rfl rfl rfl en_77 rfl rfl (spec_l06Make 2 ((k : Int) + 1) ((k : Int) + 1) ((k : Int) + 1) 1 (-1) 2 _ (by omega) (by omega) (by omega) (by omega) (by omega) (by omega) (by omega)) fun e w' hr => ?_
                      obtain ⟨esr118_0, rfl, hor118_0, hbr118⟩ := hr
                      have hr := eMultiRule.read hor118_0
                      obtain ⟨Sr118, HH519⟩ := HH503.newO hbr118 hor118_0
                      obtain ⟨Ar118_0_1, cr118_0_1, Ar118_0_2, cr118_0_2, Ar118_0_3, cr118_0_3, rfl, gr118_0_0, gr118_0_1, gr118_0_2, gr118_0_3, gr118_0_4⟩ := shape_MultiRule hr
                      have jr118_0_0 := gr118_0_0; unfold I64 at jr118_0_0
                      have jr118_0_4 := gr118_0_4; unfold I64 at jr118_0_4
                      have HH520 := HH519.unF rfl
                      obtain ⟨S119, S120, HH521⟩ := HH520.unP rfl
                      have HH522 := HH521.sel [1, 0, 2, 3, 4] (by decide) rfl
                      obtain ⟨S121, S122, HH523⟩ := HH522.unP rfl
                      have HH524 := HH523.sel [1, 0, 2, 3, 4, 5] (by decide) rfl
                      obtain ⟨S123, S124, HH525⟩ := HH524.unP rfl
                      have HH526 := HH525.sel [1, 0, 2, 3, 4, 5, 6] (by decide) rfl
                      have HH527 := HH526.sel [1, 2, 3, 4, 5, 6] (by decide) rfl
                      refine ⟨_, rfl, fun a_528 HE529 => hK518 _ _ (by exact HH527.sel [5] (by decide) rfl) ?_⟩
                      have HS530 := HH527.sel [5] (by decide) rfl
                      refine dr_one (i := 6) (ls' := #[true, true, true, true, true, true, true, false, false]) rfl (by kernel_rfl) rfl fun K_531 hK532 => ?_
                      have HH533 := HH527.sel [2, 1, 0, 3, 4, 5] (by decide) rfl
                      have HH534 := HH533.sel [2, 0, 1, 3, 4, 5] (by decide) rfl
                      have HH535 := HH534.pairB (F := eInt) (c2 := [.int .i64 ((two7 2 ((k : Int) + 1) ((k : Int) + 1) ((k : Int) + 1) 1 (-1) 2).2.2.2.2)]) (y := (two7 2 ((k : Int) + 1) ((k : Int) + 1) ((k : Int) + 1) 1 (-1) 2).2.2.2.2) (oI (by exact ⟨by omega, by omega⟩))
                      have HH536 := HH535.sel [2, 0, 1, 3, 4, 5] (by decide) rfl
                      have HH537 := HH536.pair
                      have HH538 := HH537.sel [1, 0, 2, 3, 4] (by decide) rfl
                      have HH539 := HH538.pair
                      have HH540 := HH539.pairF (E := eInt) (c1 := [.int .i64 ((two7 2 ((k : Int) + 1) ((k : Int) + 1) ((k : Int) + 1) 1 (-1) 2).1)]) (x := (two7 2 ((k : Int) + 1) ((k : Int) + 1) ((k : Int) + 1) 1 (-1) 2).1) (oI (by exact ⟨by omega, by omega⟩))
                      obtain ⟨S125, HH541⟩ : ∃ S, Held Nob w (rO eMultiRule S [.int .i64 ((two7 2 ((k : Int) + 1) ((k : Int) + 1) ((k : Int) + 1) 1 (-1) 2).1), .slice Ar118_0_1 ((two7 2 ((k : Int) + 1) ((k : Int) + 1) ((k : Int) + 1) 1 (-1) 2).2.1.length) cr118_0_1, .slice Ar118_0_2 ((two7 2 ((k : Int) + 1) ((k : Int) + 1) ((k : Int) + 1) 1 (-1) 2).2.2.1.length) cr118_0_2, .slice Ar118_0_3 ((two7 2 ((k : Int) + 1) ((k : Int) + 1) ((k : Int) + 1) 1 (-1) 2).2.2.2.1.length) cr118_0_3, .int .i64 ((two7 2 ((k : Int) + 1) ((k : Int) + 1) ((k : Int) + 1) 1 (-1) 2).2.2.2.2)] (two7 2 ((k : Int) + 1) ((k : Int) + 1) ((k : Int) + 1) 1 (-1) 2) :: _) _ := ⟨_, HH540⟩
                      have HH542 := HH541.sel [1, 0, 2, 3] (by decide) rfl
                      have HH543 : Held Nob w ([rVec eMultiRule 108 Sr108_90 Ar108_90 cr108_90 (putMR (putMR (palS k) (two7 0 ((k : Int) + 1) 0 ((k : Int) + 1) 1 1 0)) (two7 1 ((k : Int) + 1) 0 0 (-1) 0 1)), rO eMultiRule S125 [.int .i64 ((two7 2 ((k : Int) + 1) ((k : Int) + 1) ((k : Int) + 1) 1 (-1) 2).1), .slice Ar118_0_1 ((two7 2 ((k : Int) + 1) ((k : Int) + 1) ((k : Int) + 1) 1 (-1) 2).2.1.length) cr118_0_1, .slice Ar118_0_2 ((two7 2 ((k : Int) + 1) ((k : Int) + 1) ((k : Int) + 1) 1 (-1) 2).2.2.1.length) cr118_0_2, .slice Ar118_0_3 ((two7 2 ((k : Int) + 1) ((k : Int) + 1) ((k : Int) + 1) 1 (-1) 2).2.2.2.1.length) cr118_0_3, .int .i64 ((two7 2 ((k : Int) + 1) ((k : Int) + 1) ((k : Int) + 1) 1 (-1) 2).2.2.2.2)] (two7 2 ((k : Int) + 1) ((k : Int) + 1) ((k : Int) + 1) 1 (-1) 2)] ++ [rBlk q24 55 [.int .i64 (2), .int .i64 (a0), .int .i64 (4), .slice Ar108_90 ((putMR (putMR (palS k) (two7 0 ((k : Int) + 1) 0 ((k : Int) + 1) 1 1 0)) (two7 1 ((k : Int) + 1) 0 0 (-1) 0 1)).length) cr108_90], rBlk q21 55 [.int .i64 (0), .int .i64 (0), .int .i64 (0), .slice none (0) 0]]) _ := HH542
                      refine st_call HE529 (wt0 rfl) rfl rfl rfl en_76 rfl rfl (spec_l06Put (Foot [rVec eMultiRule 108 Sr108_90 Ar108_90 cr108_90 (putMR (putMR (palS k) (two7 0 ((k : Int) + 1) 0 ((k : Int) + 1) 1 1 0)) (two7 1 ((k : Int) + 1) 0 0 (-1) 0 1)), rO eMultiRule S125 [.int .i64 ((two7 2 ((k : Int) + 1) ((k : Int) + 1) ((k : Int) + 1) 1 (-1) 2).1), .slice Ar118_0_1 ((two7 2 ((k : Int) + 1) ((k : Int) + 1) ((k : Int) + 1) 1 (-1) 2).2.1.length) cr118_0_1, .slice Ar118_0_2 ((two7 2 ((k : Int) + 1) ((k : Int) + 1) ((k : Int) + 1) 1 (-1) 2).2.2.1.length) cr118_0_2, .slice Ar118_0_3 ((two7 2 ((k : Int) + 1) ((k : Int) + 1) ((k : Int) + 1) 1 (-1) 2).2.2.2.1.length) cr118_0_3, .int .i64 ((two7 2 ((k : Int) + 1) ((k : Int) + 1) ((k : Int) + 1) 1 (-1) 2).2.2.2.2)] (two7 2 ((k : Int) + 1) ((k : Int) + 1) ((k : Int) + 1) 1 (-1) 2)]) _ _ (putMR (putMR (palS k) (two7 0 ((k : Int) + 1) 0 ((k : Int) + 1) 1 1 0)) (two7 1 ((k : Int) + 1) 0 0 (-1) 0 1)) _ _ (two7 2 ((k : Int) + 1) ((k : Int) + 1) ((k : Int) + 1) 1 (-1) 2) _ _ HH543.focus (by first | omega | (simp only [putMR_len, palS_len, List.length_nil]; omega))) fun e w' hr => ?_
                      obtain ⟨Ar126_90, cr126_90, Sr126_90, rfl, hbr126⟩ := hr
                      have HH544 := HH543.back hbr126
                      clear hbr126
                      have HH545 : Held Nob w ([rVec eMultiRule 108 Sr126_90 Ar126_90 cr126_90 (putMR (putMR (putMR (palS k) (two7 0 ((k : Int) + 1) 0 ((k : Int) + 1) 1 1 0)) (two7 1 ((k : Int) + 1) 0 0 (-1) 0 1)) (two7 2 ((k : Int) + 1) ((k : Int) + 1) ((k : Int) + 1) 1 (-1) 2))] ++ [rBlk q24 55 [.int .i64 (2), .int .i64 (a0), .int .i64 (4), .slice Ar108_90 ((putMR (putMR (palS k) (two7 0 ((k : Int) + 1) 0 ((k : Int) + 1) 1 1 0)) (two7 1 ((k : Int) + 1) 0 0 (-1) 0 1)).length) cr108_90], rBlk q21 55 [.int .i64 (0), .int .i64 (0), .int .i64 (0), .slice none (0) 0]]) _ := HH544
                      refine ⟨_, rfl, fun a_546 HE547 => hK532 _ _ (by exact HH545.sel [2] (by decide) rfl) ?_⟩
                      have HS548 := HH545.sel [2] (by decide) rfl
                      refine dr_take (i := 7) (ls' := #[true, true, true, true, true, true, true, true, false]) HE547 HS548 rfl (by kernel_rfl) (by kernel_rfl) (by kernel_rfl) (fun _ _ _ h => h) rfl (wt0 rfl) (x_fieldAddr fa_55_3 rfl) rfl rfl fun a_549 HE550 => ?_
                      refine dr_one (i := 8) (ls' := #[true, true, true, true, true, true, true, true, true]) rfl (by kernel_rfl) rfl fun K_551 hK552 => ?_
                      refine st_store (vs := [.slice Ar126_90 ((putMR (putMR (putMR (palS k) (two7 0 ((k : Int) + 1) 0 ((k : Int) + 1) 1 1 0)) (two7 1 ((k : Int) + 1) 0 0 (-1) 0 1)) (two7 2 ((k : Int) + 1) ((k : Int) + 1) ((k : Int) + 1) 1 (-1) 2)).length) cr126_90]) 1 HE550 HH545 tv_53 rfl rfl rfl rfl rfl rfl (by simp [Value.oneCell']) (wt0 rfl) fun w' HH553 => hK552 _ _ (by exact HH553.sel [2] (by decide) rfl) ?_
                      have HS554 := HH553.sel [2] (by decide) rfl
                      refine dr_done (by kernel_rfl) ?_
                      clear a_317 HE318 HH312 a_409 HE410 HH411 HH502 a_500 HE501 a_505 HE506 a_507 HE508 a_509 HE510 a_511 HE512 K_513 hK514 HH503 HH519 HH520 HH521 HH522 HH523 HH524 HH525 HH526 a_515 HE516 HS504 K_517 hK518 HH527 HH533 HH534 HH535 HH536 HH537 HH538 HH539 HH540 HH541 HH542 HH543 HH544 a_528 HE529 HS530 a_546 HE547 K_531 hK532 HH545 HS548 hK552 K_551
                      exact nrm ⟨_, _, _, HE550.sub ⟨rfl, rfl, rfl, rfl, trivial⟩, HH553.sel [0, 1, 2] (by decide) rfl⟩
                    · refine st_call HE512 (wt0 rfl) rfl rfl rfl en_77 rfl rfl (spec_l06Make 2 ((k : Int) + 1) ((k : Int) + 1) ((k : Int) + 1) 1 (-1) 2 _ (by omega) (by omega) (by omega) (by omega) (by omega) (by omega) (by omega)) fun e w' hr => ?_
                      obtain ⟨esr127_0, rfl, hor127_0, hbr127⟩ := hr
                      have hr := eMultiRule.read hor127_0
                      obtain ⟨Sr127, HH555⟩ := HH503.newO hbr127 hor127_0
                      obtain ⟨Ar127_0_1, cr127_0_1, Ar127_0_2, cr127_0_2, Ar127_0_3, cr127_0_3, rfl, gr127_0_0, gr127_0_1, gr127_0_2, gr127_0_3, gr127_0_4⟩ := shape_MultiRule hr
                      have jr127_0_0 := gr127_0_0; unfold I64 at jr127_0_0
                      have jr127_0_4 := gr127_0_4; unfold I64 at jr127_0_4
                      have HH556 := HH555.unF rfl
                      obtain ⟨S128, S129, HH557⟩ := HH556.unP rfl
                      have HH558 := HH557.sel [1, 0, 2, 3, 4] (by decide) rfl
                      obtain ⟨S130, S131, HH559⟩ := HH558.unP rfl
                      have HH560 := HH559.sel [1, 0, 2, 3, 4, 5] (by decide) rfl
                      obtain ⟨S132, S133, HH561⟩ := HH560.unP rfl
                      have HH562 := HH561.sel [1, 0, 2, 3, 4, 5, 6] (by decide) rfl
                      have HH563 := HH562.sel [1, 2, 3, 4, 5, 6] (by decide) rfl
                      refine ⟨_, rfl, fun a_564 HE565 => hK514 _ _ (by exact HH563.sel [5] (by decide) rfl) ?_⟩
                      have HS566 := HH563.sel [5] (by decide) rfl
                      refine dr_one (i := 1) (ls' := #[true, true, true, true, true, true, false, false, false]) rfl (by kernel_rfl) rfl fun K_567 hK568 => ?_
                      refine st_x HE565 HH563 (wt0 rfl) (x_load1 tv_53 rfl (c_blk 4 rfl rfl)) rfl rfl fun a_569 HE570 => hK568 _ _ HS566 ?_
                      refine dr_one (i := 6) (ls' := #[true, true, true, true, true, true, true, false, false]) rfl (by kernel_rfl) rfl fun K_571 hK572 => ?_
                      have HH573 := HH563.sel [2, 1, 0, 3, 4, 5] (by decide) rfl
                      have HH574 := HH573.sel [2, 0, 1, 3, 4, 5] (by decide) rfl
                      have HH575 := HH574.pairB (F := eInt) (c2 := [.int .i64 ((two7 2 ((k : Int) + 1) ((k : Int) + 1) ((k : Int) + 1) 1 (-1) 2).2.2.2.2)]) (y := (two7 2 ((k : Int) + 1) ((k : Int) + 1) ((k : Int) + 1) 1 (-1) 2).2.2.2.2) (oI (by exact ⟨by omega, by omega⟩))
                      have HH576 := HH575.sel [2, 0, 1, 3, 4, 5] (by decide) rfl
                      have HH577 := HH576.pair
                      have HH578 := HH577.sel [1, 0, 2, 3, 4] (by decide) rfl
                      have HH579 := HH578.pair
                      have HH580 := HH579.pairF (E := eInt) (c1 := [.int .i64 ((two7 2 ((k : Int) + 1) ((k : Int) + 1) ((k : Int) + 1) 1 (-1) 2).1)]) (x := (two7 2 ((k : Int) + 1) ((k : Int) + 1) ((k : Int) + 1) 1 (-1) 2).1) (oI (by exact ⟨by omega, by omega⟩))
                      obtain ⟨S134, HH581⟩ : ∃ S, Held Nob w (rO eMultiRule S [.int .i64 ((two7 2 ((k : Int) + 1) ((k : Int) + 1) ((k : Int) + 1) 1 (-1) 2).1), .slice Ar127_0_1 ((two7 2 ((k : Int) + 1) ((k : Int) + 1) ((k : Int) + 1) 1 (-1) 2).2.1.length) cr127_0_1, .slice Ar127_0_2 ((two7 2 ((k : Int) + 1) ((k : Int) + 1) ((k : Int) + 1) 1 (-1) 2).2.2.1.length) cr127_0_2, .slice Ar127_0_3 ((two7 2 ((k : Int) + 1) ((k : Int) + 1) ((k : Int) + 1) 1 (-1) 2).2.2.2.1.length) cr127_0_3, .int .i64 ((two7 2 ((k : Int) + 1) ((k : Int) + 1) ((k : Int) + 1) 1 (-1) 2).2.2.2.2)] (two7 2 ((k : Int) + 1) ((k : Int) + 1) ((k : Int) + 1) 1 (-1) 2) :: _) _ := ⟨_, HH580⟩
                      have HH582 := HH581.sel [1, 0, 2, 3] (by decide) rfl
                      have HH583 : Held Nob w ([rVec eMultiRule 108 Sr108_90 Ar108_90 cr108_90 (putMR (putMR (palS k) (two7 0 ((k : Int) + 1) 0 ((k : Int) + 1) 1 1 0)) (two7 1 ((k : Int) + 1) 0 0 (-1) 0 1)), rO eMultiRule S134 [.int .i64 ((two7 2 ((k : Int) + 1) ((k : Int) + 1) ((k : Int) + 1) 1 (-1) 2).1), .slice Ar127_0_1 ((two7 2 ((k : Int) + 1) ((k : Int) + 1) ((k : Int) + 1) 1 (-1) 2).2.1.length) cr127_0_1, .slice Ar127_0_2 ((two7 2 ((k : Int) + 1) ((k : Int) + 1) ((k : Int) + 1) 1 (-1) 2).2.2.1.length) cr127_0_2, .slice Ar127_0_3 ((two7 2 ((k : Int) + 1) ((k : Int) + 1) ((k : Int) + 1) 1 (-1) 2).2.2.2.1.length) cr127_0_3, .int .i64 ((two7 2 ((k : Int) + 1) ((k : Int) + 1) ((k : Int) + 1) 1 (-1) 2).2.2.2.2)] (two7 2 ((k : Int) + 1) ((k : Int) + 1) ((k : Int) + 1) 1 (-1) 2)] ++ [rBlk q24 55 [.int .i64 (2), .int .i64 (a0), .int .i64 (4), .slice Ar108_90 ((putMR (putMR (palS k) (two7 0 ((k : Int) + 1) 0 ((k : Int) + 1) 1 1 0)) (two7 1 ((k : Int) + 1) 0 0 (-1) 0 1)).length) cr108_90], rBlk q21 55 [.int .i64 (0), .int .i64 (0), .int .i64 (0), .slice none (0) 0]]) _ := HH582
                      refine st_call HE570 (wt0 rfl) rfl rfl rfl en_76 rfl rfl (spec_l06Put (Foot [rVec eMultiRule 108 Sr108_90 Ar108_90 cr108_90 (putMR (putMR (palS k) (two7 0 ((k : Int) + 1) 0 ((k : Int) + 1) 1 1 0)) (two7 1 ((k : Int) + 1) 0 0 (-1) 0 1)), rO eMultiRule S134 [.int .i64 ((two7 2 ((k : Int) + 1) ((k : Int) + 1) ((k : Int) + 1) 1 (-1) 2).1), .slice Ar127_0_1 ((two7 2 ((k : Int) + 1) ((k : Int) + 1) ((k : Int) + 1) 1 (-1) 2).2.1.length) cr127_0_1, .slice Ar127_0_2 ((two7 2 ((k : Int) + 1) ((k : Int) + 1) ((k : Int) + 1) 1 (-1) 2).2.2.1.length) cr127_0_2, .slice Ar127_0_3 ((two7 2 ((k : Int) + 1) ((k : Int) + 1) ((k : Int) + 1) 1 (-1) 2).2.2.2.1.length) cr127_0_3, .int .i64 ((two7 2 ((k : Int) + 1) ((k : Int) + 1) ((k : Int) + 1) 1 (-1) 2).2.2.2.2)] (two7 2 ((k : Int) + 1) ((k : Int) + 1) ((k : Int) + 1) 1 (-1) 2)]) _ _ (putMR (putMR (palS k) (two7 0 ((k : Int) + 1) 0 ((k : Int) + 1) 1 1 0)) (two7 1 ((k : Int) + 1) 0 0 (-1) 0 1)) _ _ (two7 2 ((k : Int) + 1) ((k : Int) + 1) ((k : Int) + 1) 1 (-1) 2) _ _ HH583.focus (by first | omega | (simp only [putMR_len, palS_len, List.length_nil]; omega))) fun e w' hr => ?_
                      obtain ⟨Ar135_90, cr135_90, Sr135_90, rfl, hbr135⟩ := hr
                      have HH584 := HH583.back hbr135
                      clear hbr135
                      have HH585 : Held Nob w ([rVec eMultiRule 108 Sr135_90 Ar135_90 cr135_90 (putMR (putMR (putMR (palS k) (two7 0 ((k : Int) + 1) 0 ((k : Int) + 1) 1 1 0)) (two7 1 ((k : Int) + 1) 0 0 (-1) 0 1)) (two7 2 ((k : Int) + 1) ((k : Int) + 1) ((k : Int) + 1) 1 (-1) 2))] ++ [rBlk q24 55 [.int .i64 (2), .int .i64 (a0), .int .i64 (4), .slice Ar108_90 ((putMR (putMR (palS k) (two7 0 ((k : Int) + 1) 0 ((k : Int) + 1) 1 1 0)) (two7 1 ((k : Int) + 1) 0 0 (-1) 0 1)).length) cr108_90], rBlk q21 55 [.int .i64 (0), .int .i64 (0), .int .i64 (0), .slice none (0) 0]]) _ := HH584
                      refine ⟨_, rfl, fun a_586 HE587 => hK572 _ _ (by exact HH585.sel [2] (by decide) rfl) ?_⟩
                      have HS588 := HH585.sel [2] (by decide) rfl
                      refine dr_take (i := 7) (ls' := #[true, true, true, true, true, true, true, true, false]) HE587 HS588 rfl (by kernel_rfl) (by kernel_rfl) (by kernel_rfl) (fun _ _ _ h => h) rfl (wt0 rfl) (x_fieldAddr fa_55_3 rfl) rfl rfl fun a_589 HE590 => ?_
                      refine dr_one (i := 8) (ls' := #[true, true, true, true, true, true, true, true, true]) rfl (by kernel_rfl) rfl fun K_591 hK592 => ?_
                      refine st_store (vs := [.slice Ar135_90 ((putMR (putMR (putMR (palS k) (two7 0 ((k : Int) + 1) 0 ((k : Int) + 1) 1 1 0)) (two7 1 ((k : Int) + 1) 0 0 (-1) 0 1)) (two7 2 ((k : Int) + 1) ((k : Int) + 1) ((k : Int) + 1) 1 (-1) 2)).length) cr135_90]) 1 HE590 HH585 tv_53 rfl rfl rfl rfl rfl rfl (by simp [Value.oneCell']) (wt0 rfl) fun w' HH593 => hK592 _ _ (by exact HH593.sel [2] (by decide) rfl) ?_
                      have HS594 := HH593.sel [2] (by decide) rfl
                      refine dr_done (by kernel_rfl) ?_
                      clear a_317 HE318 HH312 a_409 HE410 HH411 HH502 a_500 HE501 a_505 HE506 a_507 HE508 a_509 HE510 HH503 HH555 HH556 HH557 HH558 HH559 HH560 HH561 HH562 a_511 HE512 HS504 K_513 hK514 a_564 HE565 K_567 hK568 HH563 HH573 HH574 HH575 HH576 HH577 HH578 HH579 HH580 HH581 HH582 HH583 HH584 a_569 HE570 HS566 a_586 HE587 K_571 hK572 HH585 HS588 hK592 K_591
                      exact nrm ⟨_, _, _, HE590.sub ⟨rfl, rfl, rfl, rfl, trivial⟩, HH593.sel [0, 1, 2] (by decide) rfl⟩
                  · rintro a_595 w' ⟨Sr126_90, Ar126_90, cr126_90, HE596, HH597⟩
                    refine blk_n ?_
                    refine nrm ?_
                    refine rg ?_
                    refine pl_x HE596 HH597 (wt0 rfl) (x_move rfl) rfl rfl fun a_598 HE599 => ?_
                    refine pl_x HE599 HH597 (wt0 rfl) (x_add rfl rfl (by exact ⟨by omega, by omega⟩)) rfl rfl fun a_600 HE601 => ?_
                    refine pl_x HE601 HH597 (wt0 rfl) (x_assign rfl) rfl rfl fun a_602 HE603 => ?_
                    refine wpList_nil ?_
                    clear a_317 HE318 HH312 a_409 HE410 HH411 a_500 HE501 HH502 a_595 HE596 a_598 HE599 a_600 HE601
                    have E136 : palS (k + 1) = (putMR (putMR (putMR (palS k) (two7 0 ((k : Int) + 1) 0 ((k : Int) + 1) 1 1 0)) (two7 1 ((k : Int) + 1) 0 0 (-1) 0 1)) (two7 2 ((k : Int) + 1) ((k : Int) + 1) ((k : Int) + 1) 1 (-1) 2)) := by
                      rfl
                    exact nrm ⟨(a0 - ((k + 1) : Int)).toNat, (by omega), k + 1, Ar126_90, cr126_90, Sr126_90, rfl, HE603.sub ⟨(lkI rfl (by first | rfl | omega | (simp [hc23, p80_0, hc81]; done))), rfl, rfl, rfl, trivial⟩, ((HH597.sel [0, 1, 2] (by decide) rfl).to (by first | rfl | (rw [E136]; done) | (rw [E136]; rfl) | (simp only [E136]; done) | (simp only [E136]; rfl) | (rw [E136]; simp only [List.length_set]; done))), (by first | omega | assumption | (simp; done) | simp_all)⟩
            · refine wp_exit ?_
              refine (thn_exit (thn_exit (blk_hit ?_)))
              refine nrm ?_
              refine wp_seq ?_
              refine rg ?_
              refine pl_x HE318 HH312 (wt0 rfl) (x_loadN (cs := [.int .i64 (2), .int .i64 (a0), .int .i64 (4), .slice A_4_3 ((List.length (palS k))) c_4_3]) tv_55 rfl rfl (c_blkN 1 rfl)) rfl rfl fun a_604 HE605 => ?_
              refine pl fun K_606 hK607 => ?_
              refine st_store (vs := [.int .i64 (2), .int .i64 (a0), .int .i64 (4), .slice A_4_3 ((List.length (palS k))) c_4_3]) 2 HE605 HH312 tv_55 rfl rfl rfl rfl rfl rfl (by simp [Value.oneCell']) (wt0 rfl) fun w' HH608 => hK607 _ _ ?_
              refine pl_x HE605 HH608 (wt0 rfl) (x_assign rfl) rfl rfl fun a_609 HE610 => ?_
              refine wpList_nil ?_
              clear a_317 HE318 HH312 a_604 HE605 hK607 K_606
              refine nrm ?_
              refine wp_ret ?_
              refine ret2 HE610 rfl (rv_cell rfl (tv_55.loadN (cs := [.int .i64 (2), .int .i64 (a0), .int .i64 (4), .slice A_4_3 ((List.length (palS k))) c_4_3]) rfl (c_blkN 2 rfl _ HH608))) (rv_tmp rfl) ?_
              have HH611 := HH608.vecSo
              have HH612 := HH611.pairF (E := eInt) (c1 := [.int .i64 (4)]) (x := 4) (oI (by exact ⟨by omega, by omega⟩))
              have HH613 := HH612.pairF (E := eInt) (c1 := [.int .i64 (a0)]) (x := a0) (oI (by exact ⟨by omega, by omega⟩))
              have HH614 := HH613.pairF (E := eInt) (c1 := [.int .i64 (2)]) (x := 2) (oI (by exact ⟨by omega, by omega⟩))
              obtain ⟨S137, HH615⟩ : ∃ S, Held Nob w (rO eMulti S [.int .i64 (2), .int .i64 (a0), .int .i64 (4), .slice A_4_3 ((List.length (palS k))) c_4_3] (2, a0, 4, palS k) :: _) _ := ⟨_, HH614⟩
              have hF : (palMulti a0) = ((2, a0, 4, palS k), 0) := by
                first | (simp [palMulti, hc23, p80_0, hc81]; done) | (unfold palMulti; rw [show (a0 - 1).toNat = k from by omega, if_pos ‹_›])
              exact ⟨_, by first | (rw [hF] <;> rfl) | rfl | (rw [hF]; simp only [Ending.returned.injEq, Value.slice.injEq, true_and, and_true]; first | omega | (simp; done)) | (rw [hF]; simp; omega), by rw [hF]; exact (HH615.o (i := 0) rfl), HH615.below⟩

end Go.Proofs.Ytcfdkckchbdafaa
