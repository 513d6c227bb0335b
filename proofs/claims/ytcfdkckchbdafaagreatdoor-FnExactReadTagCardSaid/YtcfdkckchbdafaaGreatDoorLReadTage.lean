/- What the proof of FnExactReadTag needs: contracts of the functions that it reaches, each once. -/
import Derived.Test.YtcfdkckchbdafaaGreatDoorProg
import Derived.Test.YtcfdkckchbdafaaGreatDoorQMem
import Derived.Test.YtcfdkckchbdafaaGreatDoorQOpen
import Derived.Test.YtcfdkckchbdafaaGreatDoorLReadTaga
import Derived.Test.YtcfdkckchbdafaaGreatDoorLReadTagb
import Derived.Test.YtcfdkckchbdafaaGreatDoorLReadTagc
import Derived.Test.YtcfdkckchbdafaaGreatDoorLReadTagd
import Derived.WalkKit
import Derived.WalkSpells
import Derived.Below
import Derived.LoopTactic
import Derived.Outline
import Derived.Deep.QuietTactic
import Derived.BigQuiet
import Derived.Deep.LoopGhost
import Derived.Handy
import Derived.Lib.Hide
import Derived.Shelf.Abstract
import Derived.StillTailTactics
import Derived.OwnWalk
import Derived.Maps.AppendAt
import Derived.RegionTactic
import Derived.Deep.RegionHeld3
import Derived.IntWalk
import Derived.Deep.Upon
import Derived.Laws.OwnMore
import Derived.Maps.AppendAt
import Derived.Laws.BytesString
import Derived.Laws.Strings
import Derived.Lib.Bytes
import Derived.Lib.Strings
import Derived.Lib.FrozenHead
import Derived.Lib.RuneBytes
import Derived.Lib.LaidTab
import Derived.Laws.StructEq
import Derived.Lib.ItoaLen
import Derived.Lib.Join
import Derived.Shelf.Strconv.Itoa4
import Derived.Shelf.Strings.OnBuilder
import Derived.Shelf.Strings.BuilderK
import Derived.Shelf.Strings.BuilderRune
import Derived.Shelf.LaysM
import Derived.Ground.NamesProg
import Derived.Lib.ParseIntBTie
import Derived.Lib.SplitLaws
import Derived.Lib.Replace
import Derived.Shelf.LaysC
import Derived.Shelf.Strconv.ErrVarParseInt
import Derived.Shelf.Strconv.ParseIntPublic10
import Derived.Shelf.Strings.Prefix
import Derived.Shelf.Strings.Cut
import Derived.Shelf.Strings.Split
import Derived.Shelf.Strings.Replace
import Derived.Shelf.Small.Wraps
import Derived.Stop.IfaceNil
namespace Go.Proofs.YtcfdkckchbdafaaGreatDoor
open Go.RowKit

open Go.Lib in
set_option maxRecDepth 100000 in
set_option maxHeartbeats 4000000 in
theorem spec_l09ReadLetters (a0 : List UInt8) (w : World) (s0 : a0.length ≤ 2000000) :
    Calls Tryz.prog 126 #[.string (bs a0)] w fun e w' => ∃ (A0' : Option Addr) (c0' : Nat), e = .returned (.tuple #[.slice A0' (letS a0).1.length c0', .bool (letS a0).2]) ∧ So eInt w' (Fr w w') A0' c0' (letS a0).1 ∧ Below w.heap.size w w' := by
  have HH1 := Held.start Nob w
  refine enter (n := 39) Tryz.func126 rfl rfl rfl fun a_2 HE3 => ?_
  refine wp_seq ?_
  refine rg ?_
  refine pl_x HE3 HH1 (wt0 rfl) (x_assign rfl) rfl rfl fun a_4 HE5 => ?_
  refine pl_x HE5 HH1 (wt0 rfl) (x_assign rfl) rfl rfl fun a_6 HE7 => ?_
  refine wpList_nil ?_
  clear a_2 HE3 a_4 HE5
  refine nrm ?_
  refine wp_seq ?_
  refine rg ?_
  refine pl fun K_8 hK9 => ?_
  refine st_lit (m := 0) (cs := []) (e := 2) HE7 HH1 (run_lit ts_25 HE7 (vs := []) rfl rfl (by simp [Value.cells]) rfl (by decide)) (wt0 rfl) rfl rfl fun q21 a_10 w' HE11 HH12 => hK9 _ _ ?_
  refine pl_x HE11 HH12 (wt0 rfl) (x_assign rfl) rfl rfl fun a_13 HE14 => ?_
  refine wpList_nil ?_
  clear a_6 HE7 HH1 a_10 HE11 hK9 K_8
  refine nrm ?_
  refine wp_seq ?_
  refine wp_seq ?_
  refine rg ?_
  refine pl_x HE14 HH12 (wt0 rfl) (x_move rfl) rfl rfl fun a_15 HE16 => ?_
  refine pl_x HE16 HH12 (wt0 rfl) (x_seqlB rfl rfl) rfl rfl fun a_17 HE18 => ?_
  refine wpList_nil ?_
  clear a_13 HE14 a_15 HE16
  refine nrm ?_
  refine cnd_d HE18 rfl (fun hc22 => ?_) (fun hc22 => ?_)
  · refine wp_seq ?_
    refine rg ?_
    refine pl_x HE18 HH12 (wt0 rfl) (x_move rfl) rfl rfl fun a_19 HE20 => ?_
    refine pl_x HE20 HH12 (wt0 rfl) (x_assign rfl) rfl rfl fun a_21 HE22 => ?_
    refine pl_x HE22 HH12 (wt0 rfl) (x_assign rfl) rfl rfl fun a_23 HE24 => ?_
    refine wpList_nil ?_
    clear a_17 HE18 a_19 HE20 a_21 HE22
    refine nrm ?_
    refine wp_ret ?_
    refine (thn_ret ?_)
    refine ret2 HE24 rfl (rv_tmp rfl) (rv_tmp rfl) ?_
    have HH25 := Held.vecFlat (E := eInt) (xs := []) (css := []) HH12 rfl (Nat.zero_le _) (fun i x hx => by simp at hx)
    have HH26 := HH25.vecSo
    have hF : (letS a0) = (([] : List Int), true) := by
      first | (exact letS_no (by assumption) (by omega) hx0 (by assumption)) | (unfold letS; rw [if_pos (by assumption)]; done) | (unfold letS; rw [if_neg (by assumption), if_neg (fun hh => by omega)]; done) | (exact letS_no (by assumption) (by omega) hx0 (by assumption)) | (have hp := p0_1; rw [List.take_of_length_le (by omega)] at hp ⊢; unfold letS; rw [if_neg (by assumption), if_pos ⟨by omega, hp⟩])
    exact ⟨(some ⟨q21, 0, none⟩), 0, by first | (rw [hF] <;> rfl) | rfl | (rw [hF]; simp only [Ending.returned.injEq, Value.slice.injEq, true_and, and_true]; first | omega | (simp; done)) | (rw [hF]; simp; omega), by rw [hF]; exact (HH26.so (i := 0) rfl), HH26.below⟩
  · refine wp_skip ?_
    refine nrm ?_
    refine wp_seq ?_
    refine rg ?_
    refine pl_x HE18 HH12 (wt0 rfl) (x_move rfl) rfl rfl fun a_27 HE28 => ?_
    refine pl fun K_29 hK30 => ?_
    refine st_call HE28 (wt0 rfl) rfl rfl rfl en_63 rfl rfl (spec_l01Split a0 _ 46 _ (by omega) (by rfl)) fun e w' hr => ?_
    have hAr23_0 := splitR_len 46 a0
    have hAr23_1 := splitR_piece 46 a0
    obtain ⟨Ar23_0, cr23_0, rfl, hor23_0, hbr23⟩ := hr
    obtain ⟨Sr23, HH31⟩ := HH12.newS hbr23 hor23_0
    refine ⟨_, rfl, fun a_32 HE33 => hK30 _ _ ?_⟩
    refine pl_x HE33 HH31 (wt0 rfl) (x_assign rfl) rfl rfl fun a_34 HE35 => ?_
    refine wpList_nil ?_
    clear a_17 HE18 HH12 a_27 HE28 a_32 HE33 hK30 K_29
    refine nrm ?_
    refine wp_seq ?_
    refine wp_seq ?_
    refine rg ?_
    refine pl_x HE35 HH31 (wt0 rfl) (x_move rfl) rfl rfl fun a_36 HE37 => ?_
    refine pl_x HE37 HH31 (wt0 rfl) (x_len Tryz.underlying78 rfl) rfl rfl fun a_38 HE39 => ?_
    refine pl_x HE39 HH31 (wt0 rfl) (x_gtr rfl rfl) rfl rfl fun a_40 HE41 => ?_
    refine wpList_nil ?_
    clear a_34 HE35 a_36 HE37 a_38 HE39
    refine nrm ?_
    refine cnd_d HE41 rfl (fun hc24 => ?_) (fun hc24 => ?_)
    · refine wp_seq ?_
      refine rg ?_
      refine pl_x HE41 HH31 (wt0 rfl) (x_assign rfl) rfl rfl fun a_42 HE43 => ?_
      refine pl_x HE43 HH31 (wt0 rfl) (x_assign rfl) rfl rfl fun a_44 HE45 => ?_
      refine wpList_nil ?_
      clear a_40 HE41 a_42 HE43
      refine nrm ?_
      refine wp_ret ?_
      refine (thn_ret ?_)
      refine ret2 HE45 rfl (rv_tmp rfl) (rv_tmp rfl) ?_
      have hF : (letS a0) = ([], false) := by
        first | (exact letS_no (by assumption) (by omega) hx0 (by assumption)) | (unfold letS; rw [if_pos (by assumption)]; done) | (unfold letS; rw [if_neg (by assumption), if_neg (fun hh => by omega)]; done) | (exact letS_no (by assumption) (by omega) hx0 (by assumption)) | (have hp := p0_1; rw [List.take_of_length_le (by omega)] at hp ⊢; unfold letS; rw [if_neg (by assumption), if_pos ⟨by omega, hp⟩])
      exact ⟨none, 0, by first | (rw [hF] <;> rfl) | rfl | (rw [hF]; simp only [Ending.returned.injEq, Value.slice.injEq, true_and, and_true]; first | omega | (simp; done)) | (rw [hF]; simp; omega), by rw [hF]; exact (So.nil (Nat.zero_le _)), HH31.below⟩
    · refine wp_skip ?_
      refine nrm ?_
      refine wp_seq ?_
      refine wp_seq ?_
      refine rg ?_
      refine pl_x HE41 HH31 (wt0 rfl) (x_assign rfl) rfl rfl fun a_46 HE47 => ?_
      refine wpList_nil ?_
      clear a_40 HE41
      refine nrm ?_
      refine wp_block ?_
      have HH48 := HH31.sel [1, 0] (by decide) rfl
      have HH49 := Held.vecFlat (E := eInt) (xs := []) (css := []) HH48 rfl (Nat.zero_le _) (fun i x hx => by simp at hx)
      refine lp (fun m a w' => ∃ (k : Nat) (A_4 : Option Addr) (c_4 : Nat) (S_4 : Nat → Prop), m = (splitR 46 a0).length - k ∧ Env 39 [(4, .slice A_4 (List.length (((splitR 46 a0).take k).map numW)) c_4), (6, .int .i64 (k : Int)), (5, .slice Ar23_0 ((splitR 46 a0).length) cr23_0)] a ∧ Held Nob w [rVec eInt 2 S_4 A_4 c_4 (((splitR 46 a0).take k).map numW), rSo eTxt Sr23 Ar23_0 cr23_0 (splitR 46 a0)] w' ∧ (k ≤ (splitR 46 a0).length) ∧ (((splitR 46 a0).take k).all numK = true)) ((splitR 46 a0).length - (0)) ?_ ?_
      · have E25 : ((splitR 46 a0).take 0).map numW = ([] : List Int) := by
          simp
        exact ⟨0, (some ⟨q21, 0, none⟩), (List.length (α := Int) []), (fun b => b = q21), rfl, HE47.sub ⟨(by rw [E25]; rfl), (lkI rfl (by first | rfl | omega | (simp [hc22, hc24]; done))), rfl, trivial⟩, ((HH49.sel [0, 1] (by decide) rfl).to (by first | rfl | (rw [E25]; done) | (rw [E25]; rfl) | (simp only [E25]; done) | (simp only [E25]; rfl) | (rw [E25]; simp only [List.length_set]; done))), (by first | omega | assumption | (simp; done) | simp_all), (by simp)⟩
      · rintro m a_50 w' ⟨k, A_4, c_4, S_4, rfl, HE51, HH52, p26_0, p26_1⟩
        have hn0 : (((splitR 46 a0).take k).map numW).length ≤ a0.length + 1 := by have := splitR_len 46 a0; rw [List.length_map, List.length_take]; omega
        refine wp_seq ?_
        refine wp_seq ?_
        refine rg ?_
        refine pl_x HE51 HH52 (wt0 rfl) (x_move rfl) rfl rfl fun a_53 HE54 => ?_
        refine pl_x HE54 HH52 (wt0 rfl) (x_move rfl) rfl rfl fun a_55 HE56 => ?_
        refine pl_x HE56 HH52 (wt0 rfl) (x_len Tryz.underlying78 rfl) rfl rfl fun a_57 HE58 => ?_
        refine pl_x HE58 HH52 (wt0 rfl) (x_lss rfl rfl) rfl rfl fun a_59 HE60 => ?_
        refine wpList_nil ?_
        clear HH31 HH48 a_46 HE47 HH49 a_50 HE51 a_53 HE54 a_55 HE56 a_57 HE58
        refine nrm ?_
        refine cnd_d HE60 rfl (fun hc27 => ?_) (fun hc27 => ?_)
        · refine wp_skip ?_
          refine nrm ?_
          refine wp_seq ?_
          refine wp_block ?_
          refine wp_seq ?_
          refine rg ?_
          refine pl_x HE60 HH52 (wt0 rfl) (x_move rfl) rfl rfl fun a_61 HE62 => ?_
          refine pl_x HE62 HH52 (wt0 rfl) (x_move rfl) rfl rfl fun a_63 HE64 => ?_
          have ke28 : k < (splitR 46 a0).length := by omega
          obtain ⟨be28, fe28, rfl⟩ := el_own HH52 (i := 1) rfl ke28
          refine pl_x HE64 HH52 (wt0 rfl) (x_indexAddr ts_78 rfl rfl rfl rfl ke28) rfl rfl fun a_65 HE66 => ?_
          obtain ⟨y29, xy29⟩ : ∃ y_, y_ = (splitR 46 a0)[k]'(by first | exact ke28 | (simp only [List.length_set]; exact ke28) | omega | (simp only [List.length_set]; omega) | (simp; omega)) := ⟨_, rfl⟩
          have jy29 : List.length y29 ≤ 9223372036854775807 := by rw [xy29]; exact i_ownS HH52 1 rfl _
          have hx0 := xy29
          have hl0 := splitR_piece 46 a0 y29 (by rw [xy29]; exact List.getElem_mem _)
          refine pl_x HE66 HH52 (wt0 rfl) (x_load1 tv_9 rfl (c_ownS 1 rfl (by first | exact ke28 | (simp only [List.length_set]; exact ke28) | omega | (simp only [List.length_set]; omega) | (simp; omega)) xy29.symm)) rfl rfl fun a_67 HE68 => ?_
          refine pl fun K_69 hK70 => ?_
          refine st_call HE68 (wt0 rfl) rfl rfl rfl en_65 rfl rfl (spec_l01Number y29 _ (by omega)) fun e w' hr => ?_
          have hAr30_0 := numC_bd y29
          obtain ⟨rfl, hbr30⟩ := hr
          have HH71 := HH52.on hbr30
          refine ⟨_, rfl, fun a_72 HE73 => hK70 _ _ ?_⟩
          refine pl_x HE73 HH71 (wt0 rfl) (x_move rfl) rfl rfl fun a_74 HE75 => ?_
          refine pl_x HE75 HH71 (wt0 rfl) (x_extract rfl rfl) rfl rfl fun a_76 HE77 => ?_
          refine pl_x HE77 HH71 (wt0 rfl) (x_extract rfl rfl) rfl rfl fun a_78 HE79 => ?_
          refine pl_x HE79 HH71 (wt0 rfl) (x_assign rfl) rfl rfl fun a_80 HE81 => ?_
          refine pl_x HE81 HH71 (wt0 rfl) (x_assign rfl) rfl rfl fun a_82 HE83 => ?_
          refine wpList_nil ?_
          clear a_59 HE60 a_61 HE62 a_63 HE64 a_65 HE66 HH52 a_67 HE68 a_72 HE73 a_74 HE75 a_76 HE77 a_78 HE79 a_80 HE81 hK70 K_69
          refine nrm ?_
          refine wp_seq ?_
          refine wp_seq ?_
          refine rg ?_
          refine pl_x HE83 HH71 (wt0 rfl) (x_move rfl) rfl rfl fun a_84 HE85 => ?_
          refine pl_x HE85 HH71 (wt0 rfl) (x_not rfl) rfl rfl fun a_86 HE87 => ?_
          refine wpList_nil ?_
          clear a_82 HE83 a_84 HE85
          refine nrm ?_
          refine cnd_nb HE87 rfl (fun hc31 => ?_) (fun hc31 => ?_)
          · refine wp_seq ?_
            refine rg ?_
            refine pl_x HE87 HH71 (wt0 rfl) (x_assign rfl) rfl rfl fun a_88 HE89 => ?_
            refine pl_x HE89 HH71 (wt0 rfl) (x_assign rfl) rfl rfl fun a_90 HE91 => ?_
            refine wpList_nil ?_
            clear a_86 HE87 a_88 HE89
            refine nrm ?_
            refine wp_ret ?_
            refine (thn_ret (blk_ret (thn_ret (thn_ret (blk_ret (thn_ret ?_))))))
            refine ret2 HE91 rfl (rv_tmp rfl) (rv_tmp rfl) ?_
            have hF : (letS a0) = ([], false) := by
              first | (exact letS_no (by assumption) (by omega) hx0 (by assumption)) | (unfold letS; rw [if_pos (by assumption)]; done) | (unfold letS; rw [if_neg (by assumption), if_neg (fun hh => by omega)]; done) | (exact letS_no (by assumption) (by omega) hx0 (by assumption)) | (have hp := p26_1; rw [List.take_of_length_le (by omega)] at hp ⊢; unfold letS; rw [if_neg (by assumption), if_pos ⟨by omega, hp⟩])
            exact ⟨none, 0, by first | (rw [hF] <;> rfl) | rfl | (rw [hF]; simp only [Ending.returned.injEq, Value.slice.injEq, true_and, and_true]; first | omega | (simp; done)) | (rw [hF]; simp; omega), by rw [hF]; exact (So.nil (Nat.zero_le _)), HH71.below⟩
          · refine wp_skip ?_
            refine nrm ?_
            refine rg ?_
            refine pl_x HE87 HH71 (wt0 rfl) (x_move rfl) rfl rfl fun a_92 HE93 => ?_
            refine pl_x HE93 HH71 (wt0 rfl) (x_move rfl) rfl rfl fun a_94 HE95 => ?_
            refine pl fun K_96 hK97 => ?_
            refine st_lit (m := 1) (cs := [.int .i64 ((numC y29).1)]) (e := 2) HE95 HH71 (run_lit ts_25 HE95 (vs := [.int .i64 ((numC y29).1)]) rfl rfl (by simp [Value.cells]) rfl (by decide)) (wt0 rfl) rfl rfl fun q32 a_98 w' HE99 HH100 => hK97 _ _ ?_
            refine pl fun K_101 hK102 => ?_
            refine st_app1F ((numC y29).1) HE99 HH100 ts_25 [1, 0, 2] (by decide) rfl (fun _ => (oI (by exact ⟨by omega, by omega⟩))) rfl rfl (by simp [Value.oneCell']) (by unfold maxLen; first | omega | (simp; done) | (simp; omega)) (by first | omega | (simp; done) | (simp; omega)) (wt0 rfl) rfl fun A33 c34 S35 a_103 w' HE104 HH105 => hK102 _ _ ?_
            refine pl_x HE104 HH105 (wt0 rfl) (x_assign rfl) rfl rfl fun a_106 HE107 => ?_
            refine wpList_nil ?_
            clear a_86 HE87 a_92 HE93 a_94 HE95 HH71 K_96 hK97 a_98 HE99 HH100 a_103 HE104 hK102 K_101
            refine blk_n ?_
            refine nrm ?_
            refine rg ?_
            refine pl_x HE107 HH105 (wt0 rfl) (x_move rfl) rfl rfl fun a_108 HE109 => ?_
            refine pl_x HE109 HH105 (wt0 rfl) (x_add rfl rfl (by exact ⟨by omega, by omega⟩)) rfl rfl fun a_110 HE111 => ?_
            refine pl_x HE111 HH105 (wt0 rfl) (x_assign rfl) rfl rfl fun a_112 HE113 => ?_
            refine wpList_nil ?_
            clear a_106 HE107 a_108 HE109 a_110 HE111
            have E36 : ((splitR 46 a0).take (k + 1)).map numW = (((splitR 46 a0).take k).map numW ++ [(numC y29).1]) := by
              exact map_snoc _ (by omega) hx0
            exact nrm ⟨(splitR 46 a0).length - (k + 1), (by omega), k + 1, A33, c34, S35, rfl, HE113.sub ⟨(by rw [E36]; rfl), (lkI rfl (by first | rfl | omega | (simp [hc22, hc24, p26_0, p26_1, hc27, xy29, hc31]; done))), rfl, trivial⟩, ((HH105.sel [0, 1] (by decide) rfl).to (by first | rfl | (rw [E36]; done) | (rw [E36]; rfl) | (simp only [E36]; done) | (simp only [E36]; rfl) | (rw [E36]; simp only [List.length_set]; done))), (by first | omega | assumption | (simp; done) | simp_all), (by exact all_snoc (by omega) p26_1 hx0 (by assumption))⟩
        · refine wp_exit ?_
          refine (thn_exit (thn_exit (blk_hit ?_)))
          refine nrm ?_
          refine wp_seq ?_
          refine rg ?_
          refine pl_x HE60 HH52 (wt0 rfl) (x_move rfl) rfl rfl fun a_114 HE115 => ?_
          refine pl_x HE115 HH52 (wt0 rfl) (x_assign rfl) rfl rfl fun a_116 HE117 => ?_
          refine pl_x HE117 HH52 (wt0 rfl) (x_assign rfl) rfl rfl fun a_118 HE119 => ?_
          refine wpList_nil ?_
          clear a_59 HE60 a_114 HE115 a_116 HE117
          refine nrm ?_
          refine wp_ret ?_
          refine ret2 HE119 rfl (rv_tmp rfl) (rv_tmp rfl) ?_
          have HH120 := HH52.vecSo
          have hF : (letS a0) = (((splitR 46 a0).take k).map numW, true) := by
            first | (exact letS_no (by assumption) (by omega) hx0 (by assumption)) | (unfold letS; rw [if_pos (by assumption)]; done) | (unfold letS; rw [if_neg (by assumption), if_neg (fun hh => by omega)]; done) | (exact letS_no (by assumption) (by omega) hx0 (by assumption)) | (have hp := p26_1; rw [List.take_of_length_le (by omega)] at hp ⊢; unfold letS; rw [if_neg (by assumption), if_pos ⟨by omega, hp⟩])
          exact ⟨A_4, c_4, by first | (rw [hF] <;> rfl) | rfl | (rw [hF]; simp only [Ending.returned.injEq, Value.slice.injEq, true_and, and_true]; first | omega | (simp; done)) | (rw [hF]; simp; omega), by rw [hF]; exact (HH120.so (i := 0) rfl), HH120.below⟩

open Go.Lib in
set_option maxRecDepth 100000 in
set_option maxHeartbeats 4000000 in
theorem spec_l09ReadWords (a0 : List UInt8) (a1 : Int) (w : World) (s0 : a0.length ≤ 2000000) (s1 : 0 ≤ a1 ∧ a1 ≤ 1000) :
    Calls Tryz.prog 125 #[.string (bs a0), .int .i64 a1] w fun e w' => ∃ (A0' : Option Addr) (c0' : Nat), e = .returned (.tuple #[.slice A0' (wordsS a0 a1).1.length c0', .bool (wordsS a0 a1).2]) ∧ So (eSl eInt) w' (Fr w w') A0' c0' (wordsS a0 a1).1 ∧ Below w.heap.size w w' := by
  have HH1 := Held.start Nob w
  refine enter (n := 39) Tryz.func125 rfl rfl rfl fun a_2 HE3 => ?_
  refine wp_seq ?_
  refine rg ?_
  refine pl_x HE3 HH1 (wt0 rfl) (x_assign rfl) rfl rfl fun a_4 HE5 => ?_
  refine pl_x HE5 HH1 (wt0 rfl) (x_assign rfl) rfl rfl fun a_6 HE7 => ?_
  refine wpList_nil ?_
  clear a_2 HE3 a_4 HE5
  refine nrm ?_
  refine wp_seq ?_
  refine rg ?_
  refine pl_x HE7 HH1 (wt0 rfl) (x_move rfl) rfl rfl fun a_8 HE9 => ?_
  refine pl fun K_10 hK11 => ?_
  refine st_call HE9 (wt0 rfl) rfl rfl rfl en_63 rfl rfl (spec_l01Split a0 _ 44 _ (by omega) (by rfl)) fun e w' hr => ?_
  have hAr21_0 := splitR_len 44 a0
  have hAr21_1 := splitR_piece 44 a0
  obtain ⟨Ar21_0, cr21_0, rfl, hor21_0, hbr21⟩ := hr
  obtain ⟨Sr21, HH12⟩ := HH1.newS hbr21 hor21_0
  refine ⟨_, rfl, fun a_13 HE14 => hK11 _ _ ?_⟩
  refine pl_x HE14 HH12 (wt0 rfl) (x_assign rfl) rfl rfl fun a_15 HE16 => ?_
  refine wpList_nil ?_
  clear a_6 HE7 HH1 a_8 HE9 a_13 HE14 hK11 K_10
  refine nrm ?_
  refine wp_seq ?_
  refine wp_seq ?_
  refine rg ?_
  refine pl_x HE16 HH12 (wt0 rfl) (x_move rfl) rfl rfl fun a_17 HE18 => ?_
  refine pl_x HE18 HH12 (wt0 rfl) (x_len Tryz.underlying78 rfl) rfl rfl fun a_19 HE20 => ?_
  refine pl_x HE20 HH12 (wt0 rfl) (x_move rfl) rfl rfl fun a_21 HE22 => ?_
  refine pl_x HE22 HH12 (wt0 rfl) (x_gtr rfl rfl) rfl rfl fun a_23 HE24 => ?_
  refine wpList_nil ?_
  clear a_15 HE16 a_17 HE18 a_19 HE20 a_21 HE22
  refine nrm ?_
  refine cnd_d HE24 rfl (fun hc22 => ?_) (fun hc22 => ?_)
  · refine wp_seq ?_
    refine rg ?_
    refine pl_x HE24 HH12 (wt0 rfl) (x_assign rfl) rfl rfl fun a_25 HE26 => ?_
    refine pl_x HE26 HH12 (wt0 rfl) (x_assign rfl) rfl rfl fun a_27 HE28 => ?_
    refine wpList_nil ?_
    clear a_23 HE24 a_25 HE26
    refine nrm ?_
    refine wp_ret ?_
    refine (thn_ret ?_)
    refine ret2 HE28 rfl (rv_tmp rfl) (rv_tmp rfl) ?_
    have hF : (wordsS a0 a1) = ([], false) := by
      first | (exact wordsS_no (by omega) hx0 (by assumption)) | (unfold wordsS; rw [if_neg (fun hh => by omega)]; done) | (exact wordsS_no (by omega) hx0 (by assumption)) | (have hp := p0_1; rw [List.take_of_length_le (by omega)] at hp ⊢; unfold wordsS; rw [if_pos ⟨by omega, hp⟩])
    exact ⟨none, 0, by first | (rw [hF] <;> rfl) | rfl | (rw [hF]; simp only [Ending.returned.injEq, Value.slice.injEq, true_and, and_true]; first | omega | (simp; done)) | (rw [hF]; simp; omega), by rw [hF]; exact (So.nil (Nat.zero_le _)), HH12.below⟩
  · refine wp_skip ?_
    refine nrm ?_
    refine wp_seq ?_
    refine rg ?_
    refine pl fun K_29 hK30 => ?_
    refine st_lit (m := 0) (cs := []) (e := 25) HE24 HH12 (run_lit ts_51 HE24 (vs := []) rfl rfl (by simp [Value.cells]) rfl (by decide)) (wt0 rfl) rfl rfl fun q23 a_31 w' HE32 HH33 => hK30 _ _ ?_
    refine pl_x HE32 HH33 (wt0 rfl) (x_assign rfl) rfl rfl fun a_34 HE35 => ?_
    refine wpList_nil ?_
    clear a_23 HE24 HH12 a_31 HE32 hK30 K_29
    refine nrm ?_
    refine wp_seq ?_
    refine wp_seq ?_
    refine rg ?_
    refine pl_x HE35 HH33 (wt0 rfl) (x_assign rfl) rfl rfl fun a_36 HE37 => ?_
    refine wpList_nil ?_
    clear a_34 HE35
    refine nrm ?_
    refine wp_block ?_
    have HH38 := Held.vecFlat (E := (eSl eInt)) (xs := []) (css := []) HH33 rfl (Nat.zero_le _) (fun i x hx => by simp at hx)
    refine lp (fun m a w' => ∃ (k : Nat) (A_7 : Option Addr) (c_7 : Nat) (S_7 : Nat → Prop), m = (splitR 44 a0).length - k ∧ Env 39 [(7, .slice A_7 (List.length (((splitR 44 a0).take k).map letV)) c_7), (8, .int .i64 (k : Int)), (6, .slice Ar21_0 ((splitR 44 a0).length) cr21_0)] a ∧ Held Nob w [rVec (eSl eInt) 25 S_7 A_7 c_7 (((splitR 44 a0).take k).map letV), rSo eTxt Sr21 Ar21_0 cr21_0 (splitR 44 a0)] w' ∧ (k ≤ (splitR 44 a0).length) ∧ (((splitR 44 a0).take k).all letK = true)) ((splitR 44 a0).length - (0)) ?_ ?_
    · have E24 : ((splitR 44 a0).take 0).map letV = ([] : List (List Int)) := by
        simp
      exact ⟨0, (some ⟨q23, 0, none⟩), (List.length (α := (List Int)) []), (fun b => b = q23), rfl, HE37.sub ⟨(by rw [E24]; rfl), (lkI rfl (by first | rfl | omega | (simp [hc22]; done))), rfl, trivial⟩, ((HH38.sel [0, 1] (by decide) rfl).to (by first | rfl | (rw [E24]; done) | (rw [E24]; rfl) | (simp only [E24]; done) | (simp only [E24]; rfl) | (rw [E24]; simp only [List.length_set]; done))), (by first | omega | assumption | (simp; done) | simp_all), (by simp)⟩
    · rintro m a_39 w' ⟨k, A_7, c_7, S_7, rfl, HE40, HH41, p25_0, p25_1⟩
      have hn0 : (((splitR 44 a0).take k).map letV).length ≤ a0.length + 1 := by have := splitR_len 44 a0; rw [List.length_map, List.length_take]; omega
      refine wp_seq ?_
      refine wp_seq ?_
      refine rg ?_
      refine pl_x HE40 HH41 (wt0 rfl) (x_move rfl) rfl rfl fun a_42 HE43 => ?_
      refine pl_x HE43 HH41 (wt0 rfl) (x_move rfl) rfl rfl fun a_44 HE45 => ?_
      refine pl_x HE45 HH41 (wt0 rfl) (x_len Tryz.underlying78 rfl) rfl rfl fun a_46 HE47 => ?_
      refine pl_x HE47 HH41 (wt0 rfl) (x_lss rfl rfl) rfl rfl fun a_48 HE49 => ?_
      refine wpList_nil ?_
      clear HH33 a_36 HE37 HH38 a_39 HE40 a_42 HE43 a_44 HE45 a_46 HE47
      refine nrm ?_
      refine cnd_d HE49 rfl (fun hc26 => ?_) (fun hc26 => ?_)
      · refine wp_skip ?_
        refine nrm ?_
        refine wp_seq ?_
        refine wp_block ?_
        refine wp_seq ?_
        refine rg ?_
        refine pl_x HE49 HH41 (wt0 rfl) (x_move rfl) rfl rfl fun a_50 HE51 => ?_
        refine pl_x HE51 HH41 (wt0 rfl) (x_move rfl) rfl rfl fun a_52 HE53 => ?_
        have ke27 : k < (splitR 44 a0).length := by omega
        obtain ⟨be27, fe27, rfl⟩ := el_own HH41 (i := 1) rfl ke27
        refine pl_x HE53 HH41 (wt0 rfl) (x_indexAddr ts_78 rfl rfl rfl rfl ke27) rfl rfl fun a_54 HE55 => ?_
        obtain ⟨y28, xy28⟩ : ∃ y_, y_ = (splitR 44 a0)[k]'(by first | exact ke27 | (simp only [List.length_set]; exact ke27) | omega | (simp only [List.length_set]; omega) | (simp; omega)) := ⟨_, rfl⟩
        have jy28 : List.length y28 ≤ 9223372036854775807 := by rw [xy28]; exact i_ownS HH41 1 rfl _
        have hx0 := xy28
        have hl0 := splitR_piece 44 a0 y28 (by rw [xy28]; exact List.getElem_mem _)
        refine pl_x HE55 HH41 (wt0 rfl) (x_load1 tv_9 rfl (c_ownS 1 rfl (by first | exact ke27 | (simp only [List.length_set]; exact ke27) | omega | (simp only [List.length_set]; omega) | (simp; omega)) xy28.symm)) rfl rfl fun a_56 HE57 => ?_
        refine pl fun K_58 hK59 => ?_
        refine st_call HE57 (wt0 rfl) rfl rfl rfl en_126 rfl rfl (spec_l09ReadLetters y28 _ (by omega)) fun e w' hr => ?_
        obtain ⟨Ar29_0, cr29_0, rfl, hor29_0, hbr29⟩ := hr
        obtain ⟨Sr29, HH60⟩ := HH41.newS hbr29 hor29_0
        refine ⟨_, rfl, fun a_61 HE62 => hK59 _ _ ?_⟩
        refine pl_x HE62 HH60 (wt0 rfl) (x_move rfl) rfl rfl fun a_63 HE64 => ?_
        refine pl_x HE64 HH60 (wt0 rfl) (x_extract rfl rfl) rfl rfl fun a_65 HE66 => ?_
        refine pl_x HE66 HH60 (wt0 rfl) (x_extract rfl rfl) rfl rfl fun a_67 HE68 => ?_
        refine pl_x HE68 HH60 (wt0 rfl) (x_assign rfl) rfl rfl fun a_69 HE70 => ?_
        refine pl_x HE70 HH60 (wt0 rfl) (x_assign rfl) rfl rfl fun a_71 HE72 => ?_
        refine wpList_nil ?_
        clear a_48 HE49 a_50 HE51 a_52 HE53 a_54 HE55 HH41 a_56 HE57 a_61 HE62 a_63 HE64 a_65 HE66 a_67 HE68 a_69 HE70 hK59 K_58
        refine nrm ?_
        refine wp_seq ?_
        refine wp_seq ?_
        refine rg ?_
        refine pl_x HE72 HH60 (wt0 rfl) (x_move rfl) rfl rfl fun a_73 HE74 => ?_
        refine pl_x HE74 HH60 (wt0 rfl) (x_not rfl) rfl rfl fun a_75 HE76 => ?_
        refine wpList_nil ?_
        clear a_71 HE72 a_73 HE74
        refine nrm ?_
        refine cnd_nb HE76 rfl (fun hc30 => ?_) (fun hc30 => ?_)
        · refine wp_seq ?_
          refine rg ?_
          refine pl_x HE76 HH60 (wt0 rfl) (x_assign rfl) rfl rfl fun a_77 HE78 => ?_
          refine pl_x HE78 HH60 (wt0 rfl) (x_assign rfl) rfl rfl fun a_79 HE80 => ?_
          refine wpList_nil ?_
          clear a_75 HE76 a_77 HE78
          refine nrm ?_
          refine wp_ret ?_
          refine (thn_ret (blk_ret (thn_ret (thn_ret (blk_ret (thn_ret ?_))))))
          refine ret2 HE80 rfl (rv_tmp rfl) (rv_tmp rfl) ?_
          have hF : (wordsS a0 a1) = ([], false) := by
            first | (exact wordsS_no (by omega) hx0 (by assumption)) | (unfold wordsS; rw [if_neg (fun hh => by omega)]; done) | (exact wordsS_no (by omega) hx0 (by assumption)) | (have hp := p25_1; rw [List.take_of_length_le (by omega)] at hp ⊢; unfold wordsS; rw [if_pos ⟨by omega, hp⟩])
          exact ⟨none, 0, by first | (rw [hF] <;> rfl) | rfl | (rw [hF]; simp only [Ending.returned.injEq, Value.slice.injEq, true_and, and_true]; first | omega | (simp; done)) | (rw [hF]; simp; omega), by rw [hF]; exact (So.nil (Nat.zero_le _)), HH60.below⟩
        · refine wp_skip ?_
          refine nrm ?_
          refine rg ?_
          refine pl_x HE76 HH60 (wt0 rfl) (x_move rfl) rfl rfl fun a_81 HE82 => ?_
          refine pl_x HE82 HH60 (wt0 rfl) (x_move rfl) rfl rfl fun a_83 HE84 => ?_
          refine pl fun K_85 hK86 => ?_
          refine st_lit (m := 1) (cs := [.slice Ar29_0 ((letS y28).1.length) cr29_0]) (e := 25) HE84 HH60 (run_lit ts_51 HE84 (vs := [.slice Ar29_0 ((letS y28).1.length) cr29_0]) rfl rfl (by simp [Value.cells]) rfl (by decide)) (wt0 rfl) rfl rfl fun q31 a_87 w' HE88 HH89 => hK86 _ _ ?_
          refine pl fun K_90 hK91 => ?_
          refine st_app1 HE88 HH89 ts_51 [2, 1, 0, 3] (by decide) rfl rfl rfl (by simp [Value.oneCell']) (by unfold maxLen; first | omega | (simp; done) | (simp; omega)) (by first | omega | (simp; done) | (simp; omega)) (wt0 rfl) rfl fun A32 c33 S34 a_92 w' HE93 HH94 => hK91 _ _ ?_
          refine pl_x HE93 HH94 (wt0 rfl) (x_assign rfl) rfl rfl fun a_95 HE96 => ?_
          refine wpList_nil ?_
          clear a_75 HE76 a_81 HE82 a_83 HE84 HH60 K_85 hK86 a_87 HE88 HH89 a_92 HE93 hK91 K_90
          refine blk_n ?_
          refine nrm ?_
          refine rg ?_
          refine pl_x HE96 HH94 (wt0 rfl) (x_move rfl) rfl rfl fun a_97 HE98 => ?_
          refine pl_x HE98 HH94 (wt0 rfl) (x_add rfl rfl (by exact ⟨by omega, by omega⟩)) rfl rfl fun a_99 HE100 => ?_
          refine pl_x HE100 HH94 (wt0 rfl) (x_assign rfl) rfl rfl fun a_101 HE102 => ?_
          refine wpList_nil ?_
          clear a_95 HE96 a_97 HE98 a_99 HE100
          have E35 : ((splitR 44 a0).take (k + 1)).map letV = (((splitR 44 a0).take k).map letV ++ [(letS y28).1]) := by
            exact map_snoc _ (by omega) hx0
          exact nrm ⟨(splitR 44 a0).length - (k + 1), (by omega), k + 1, A32, c33, S34, rfl, HE102.sub ⟨(by rw [E35]; rfl), (lkI rfl (by first | rfl | omega | (simp [hc22, p25_0, p25_1, hc26, xy28, hc30]; done))), rfl, trivial⟩, ((HH94.sel [0, 2] (by decide) rfl).to (by first | rfl | (rw [E35]; done) | (rw [E35]; rfl) | (simp only [E35]; done) | (simp only [E35]; rfl) | (rw [E35]; simp only [List.length_set]; done))), (by first | omega | assumption | (simp; done) | simp_all), (by exact all_snoc (by omega) p25_1 hx0 (by assumption))⟩
      · refine wp_exit ?_
        refine (thn_exit (thn_exit (blk_hit ?_)))
        refine nrm ?_
        refine wp_seq ?_
        refine rg ?_
        refine pl_x HE49 HH41 (wt0 rfl) (x_move rfl) rfl rfl fun a_103 HE104 => ?_
        refine pl_x HE104 HH41 (wt0 rfl) (x_assign rfl) rfl rfl fun a_105 HE106 => ?_
        refine pl_x HE106 HH41 (wt0 rfl) (x_assign rfl) rfl rfl fun a_107 HE108 => ?_
        refine wpList_nil ?_
        clear a_48 HE49 a_103 HE104 a_105 HE106
        refine nrm ?_
        refine wp_ret ?_
        refine ret2 HE108 rfl (rv_tmp rfl) (rv_tmp rfl) ?_
        have HH109 := HH41.vecSo
        have hF : (wordsS a0 a1) = (((splitR 44 a0).take k).map letV, true) := by
          first | (exact wordsS_no (by omega) hx0 (by assumption)) | (unfold wordsS; rw [if_neg (fun hh => by omega)]; done) | (exact wordsS_no (by omega) hx0 (by assumption)) | (have hp := p25_1; rw [List.take_of_length_le (by omega)] at hp ⊢; unfold wordsS; rw [if_pos ⟨by omega, hp⟩])
        exact ⟨A_7, c_7, by first | (rw [hF] <;> rfl) | rfl | (rw [hF]; simp only [Ending.returned.injEq, Value.slice.injEq, true_and, and_true]; first | omega | (simp; done)) | (rw [hF]; simp; omega), by rw [hF]; exact (HH109.so (i := 0) rfl), HH109.below⟩

open Go.Lib in
set_option maxRecDepth 100000 in
set_option maxHeartbeats 4000000 in
theorem impl_ReadTag (a0 : List UInt8) (w : World) (hG : Glob2 w) (s0 : a0.length ≤ 2000000) :
    Calls Tryz.prog 27 #[.string (bs a0)] w fun e w' => ∃ (es0' : List Value), e = .returned (.tuple #[.agg es0'.toArray, .bool (rdTgI a0).2]) ∧ eTag.O w' (Fr w w') es0' (rdTgI a0).1 ∧ Below w.heap.size w w' := by
  have HH1 := Held.start Nob w
  refine enter (n := 40) Tryz.func27 rfl rfl rfl fun a_2 HE3 => ?_
  refine wp_seq ?_
  refine rg ?_
  refine pl fun K_4 hK5 => ?_
  refine st_alloc HE3 HH1 tv_53 (wt0 rfl) rfl fun q21 a_6 w' HE7 HH8 => hK5 _ _ ?_
  refine pl_x HE7 HH8 (wt0 rfl) (x_assign rfl) rfl rfl fun a_9 HE10 => ?_
  refine wpList_nil ?_
  clear a_2 HE3 HH1 a_6 HE7 hK5 K_4
  refine nrm ?_
  refine wp_seq ?_
  refine rg ?_
  refine pl_x HE10 HH8 (wt0 rfl) (x_move rfl) rfl rfl fun a_11 HE12 => ?_
  refine pl fun K_13 hK14 => ?_
  refine st_call HE12 (wt0 rfl) rfl rfl rfl en_78 rfl rfl (Split_1 a0 ([58]) 58 _ (HH8.glob2 hG) (by omega) (by rfl)) fun e w' hr => ?_
  have hAr22_0 := splitR_len 58 a0
  have hAr22_1 := splitR_piece 58 a0
  obtain ⟨Ar22_0, cr22_0, rfl, hor22_0, hbr22⟩ := hr
  obtain ⟨Sr22, HH15⟩ := HH8.newS hbr22 hor22_0
  refine ⟨_, rfl, fun a_16 HE17 => hK14 _ _ ?_⟩
  refine pl_x HE17 HH15 (wt0 rfl) (x_assign rfl) rfl rfl fun a_18 HE19 => ?_
  refine wpList_nil ?_
  clear a_9 HE10 HH8 a_11 HE12 a_16 HE17 hK14 K_13
  refine nrm ?_
  refine wp_seq ?_
  refine wp_seq ?_
  refine rg ?_
  refine pl_x HE19 HH15 (wt0 rfl) (x_move rfl) rfl rfl fun a_20 HE21 => ?_
  refine pl_x HE21 HH15 (wt0 rfl) (x_len Tryz.underlying78 rfl) rfl rfl fun a_22 HE23 => ?_
  refine pl_x HE23 HH15 (wt0 rfl) (x_neq rfl rfl) rfl rfl fun a_24 HE25 => ?_
  refine wpList_nil ?_
  clear a_18 HE19 a_20 HE21 a_22 HE23
  refine nrm ?_
  refine cnd_ne HE25 rfl (fun hc23 => ?_) (fun hc23 => ?_)
  · refine wp_seq ?_
    refine rg ?_
    refine pl_x HE25 HH15 (wt0 rfl) (show XS _ _ _ _ (.agg #[.int .i64 (0), .slice none (0) 0, .slice none (0) 0]) from x_build (vs := []) tb_53 rfl (by simp [Value.oneCell'])) rfl rfl fun a_26 HE27 => ?_
    refine pl fun K_28 hK29 => ?_
    refine st_store (vs := [.int .i64 (0), .slice none (0) 0, .slice none (0) 0]) 1 HE27 HH15 tv_53 rfl rfl rfl rfl rfl rfl (by simp [Value.oneCell']) (wt0 rfl) fun w' HH30 => hK29 _ _ ?_
    refine pl_x HE27 HH30 (wt0 rfl) (x_assign rfl) rfl rfl fun a_31 HE32 => ?_
    refine wpList_nil ?_
    clear a_24 HE25 HH15 a_26 HE27 hK29 K_28
    refine nrm ?_
    refine wp_ret ?_
    refine (thn_ret ?_)
    refine ret2 HE32 rfl (rv_cell rfl (tv_53.loadN (cs := [.int .i64 (0), .slice none (0) 0, .slice none (0) 0]) rfl (c_blkN 1 rfl _ HH30))) (rv_tmp rfl) ?_
    have HH33 := HH30.flatO (E := eTag) (cs := [.int .i64 (0), .slice none (0) 0, .slice none (0) 0]) (x := (0, [], [])) (fun _ => (oPrN (oI (by exact ⟨by omega, by omega⟩)) (oPrN (oSl (So.nil (Nat.zero_le _))) (oSl (So.nil (Nat.zero_le _))))))
    have hF : (rdTgI a0) = ((0, [], []), false) := by
      first | (unfold rdTgI; exact if_neg (fun hh => by omega)) | (rw [rdTgI_eq rfl (by omega) (by omega) hz0 hz1 hz2]; first | (rw [if_pos ⟨by assumption, by assumption⟩]; done) | (exact if_neg (fun hh => ff hh.1 (by assumption))) | (exact if_neg (fun hh => absurd hh.2 (by assumption))))
    exact ⟨_, by first | (rw [hF] <;> rfl) | rfl | (rw [hF]; simp only [Ending.returned.injEq, Value.slice.injEq, true_and, and_true]; first | omega | (simp; done)) | (rw [hF]; simp; omega), by rw [hF]; exact (HH33.o (i := 0) rfl), HH33.below⟩
  · refine wp_skip ?_
    refine nrm ?_
    refine wp_seq ?_
    have ke24 : 1 < (splitR 58 a0).length := by omega
    obtain ⟨be24, fe24, rfl⟩ := el_own HH15 (i := 0) rfl ke24
    obtain ⟨y25, xy25⟩ : ∃ y_, y_ = (splitR 58 a0)[1] := ⟨_, rfl⟩
    have jy25 : List.length y25 ≤ 9223372036854775807 := by rw [xy25]; exact i_ownS HH15 0 rfl _
    have hz1 := xy25
    have hpy25 := splitR_piece 58 _ y25 (by rw [xy25]; exact List.getElem_mem _)
    have ke26 : 2 < (splitR 58 a0).length := by omega
    obtain ⟨y27, xy27⟩ : ∃ y_, y_ = (splitR 58 a0)[2] := ⟨_, rfl⟩
    have jy27 : List.length y27 ≤ 9223372036854775807 := by rw [xy27]; exact i_ownS HH15 0 rfl _
    have hz2 := xy27
    have hpy27 := splitR_piece 58 _ y27 (by rw [xy27]; exact List.getElem_mem _)
    refine wp_join (fun a w' => ∃ (q30 : Nat), ∃ (Ar28_0 : Option Addr), ∃ (cr28_0 : Nat), ∃ (Ar29_0 : Option Addr), ∃ (cr29_0 : Nat), ∃ (Sr29 : Nat → Prop), ∃ (Sr28 : Nat → Prop), Env 40 [(0, .string (bs a0)), (2, .pointer (some ⟨q21, 0, none⟩)), (4, .slice (some ⟨be24, fe24, none⟩) ((splitR 58 a0).length) cr22_0), (5, .pointer (some ⟨q30, 0, none⟩))] a ∧ Held Nob w [rBlk q30 53 [.int .i64 (0), .slice Ar28_0 ((wordsI y25).length) cr28_0, .slice Ar29_0 ((dotI y27).length) cr29_0], rSo eInt Sr29 Ar29_0 cr29_0 (dotI y27), rSo (eSl eInt) Sr28 Ar28_0 cr28_0 (wordsI y25), rSo eTxt Sr22 (some ⟨be24, fe24, none⟩) cr22_0 (splitR 58 a0), rBlk q21 53 [.int .i64 (0), .slice none (0) 0, .slice none (0) 0]] w') ?_ ?_
    · refine dr_start (Held Nob w [rSo eTxt Sr22 (some ⟨be24, fe24, none⟩) cr22_0 (splitR 58 a0), rBlk q21 53 [.int .i64 (0), .slice none (0) 0, .slice none (0) 0]]) 11 #[false, false, false, false, false, false, false, false, false, false, false] hmix rfl rfl HH15 (fun _ h => h.sel [0, 1] (by decide) rfl) fun w' HH34 => ?_
      have HS35 := HH34
      refine dr_take (i := 0) (ls' := #[true, false, false, false, false, false, false, false, false, false, false]) HE25 HS35 rfl (by kernel_rfl) (by kernel_rfl) (by kernel_rfl) (fun _ _ _ h => h) rfl (wt0 rfl) (x_move rfl) rfl rfl fun a_36 HE37 => ?_
      have ke28 : 1 < (splitR 58 a0).length := by omega
      refine dr_take (i := 1) (ls' := #[true, true, false, false, false, false, false, false, false, false, false]) HE37 HS35 rfl (by kernel_rfl) (by kernel_rfl) (by kernel_rfl) (fun _ _ _ h => h) rfl (wt0 rfl) (x_indexAddr ts_78 rfl rfl rfl rfl ke28) rfl rfl fun a_38 HE39 => ?_
      refine dr_take (i := 2) (ls' := #[true, true, true, false, false, false, false, false, false, false, false]) HE39 HS35 rfl (by kernel_rfl) (by kernel_rfl) (by kernel_rfl) (fun _ _ _ h => h) rfl (wt0 rfl) (x_load1 tv_9 rfl (c_ownS 0 rfl (by first | exact ke28 | (simp only [List.length_set]; exact ke28) | omega | (simp only [List.length_set]; omega) | (simp; omega)) xy25.symm)) rfl rfl fun a_40 HE41 => ?_
      refine dr_take (i := 4) (ls' := #[true, true, true, false, true, false, false, false, false, false, false]) HE41 HS35 rfl (by kernel_rfl) (by kernel_rfl) (by kernel_rfl) (fun _ _ _ h => h) rfl (wt0 rfl) (x_move rfl) rfl rfl fun a_42 HE43 => ?_
      have ke29 : 2 < (splitR 58 a0).length := by omega
      refine dr_take (i := 5) (ls' := #[true, true, true, false, true, true, false, false, false, false, false]) HE43 HS35 rfl (by kernel_rfl) (by kernel_rfl) (by kernel_rfl) (fun _ _ _ h => h) rfl (wt0 rfl) (x_indexAddr ts_78 rfl rfl rfl rfl ke29) rfl rfl fun a_44 HE45 => ?_
      refine dr_take (i := 6) (ls' := #[true, true, true, false, true, true, true, false, false, false, false]) HE45 HS35 rfl (by kernel_rfl) (by kernel_rfl) (by kernel_rfl) (fun _ _ _ h => h) rfl (wt0 rfl) (x_load1 tv_9 rfl (c_ownS 0 rfl (by first | exact ke29 | (simp only [List.length_set]; exact ke29) | omega | (simp only [List.length_set]; omega) | (simp; omega)) xy27.symm)) rfl rfl fun a_46 HE47 => ?_
      refine dr_two (i := 3) (j := 9) (ls' := #[true, true, true, true, true, true, true, false, false, false, false]) (ls'' := #[true, true, true, false, true, true, true, false, false, true, false]) rfl rfl (by kernel_rfl) rfl rfl (fun K_48 hK49 => ?_) (fun K_48 hK49 => ?_)
      · refine st_call HE47 (wt0 rfl) rfl rfl rfl en_79 rfl rfl (impl_readWords y25 _ (HH34.glob2 hG) (by omega)) fun e w' hr => ?_
        obtain ⟨Ar30_0, cr30_0, rfl, hor30_0, hbr30⟩ := hr
        obtain ⟨Sr30, HH50⟩ := HH34.newS hbr30 hor30_0
        refine ⟨_, rfl, fun a_51 HE52 => hK49 _ _ (by exact HH50.sel [1, 2] (by decide) rfl) ?_⟩
        have HS53 := HH50.sel [1, 2] (by decide) rfl
        refine dr_two (i := 7) (j := 9) (ls' := #[true, true, true, true, true, true, true, true, false, false, false]) (ls'' := #[true, true, true, true, true, true, true, false, false, true, false]) rfl rfl (by kernel_rfl) rfl rfl (fun K_54 hK55 => ?_) (fun K_54 hK55 => ?_)
        · refine st_call HE52 (wt0 rfl) rfl rfl rfl en_80 rfl rfl (impl_readDotted y27 _ (HH50.glob2 hG) (by omega)) fun e w' hr => ?_
          obtain ⟨Ar31_0, cr31_0, rfl, hor31_0, hbr31⟩ := hr
          obtain ⟨Sr31, HH56⟩ := HH50.newS hbr31 hor31_0
          refine ⟨_, rfl, fun a_57 HE58 => hK55 _ _ (by exact HH56.sel [2, 3] (by decide) rfl) ?_⟩
          have HS59 := HH56.sel [2, 3] (by decide) rfl
          refine dr_take (i := 8) (ls' := #[true, true, true, true, true, true, true, true, true, false, false]) HE58 HS59 rfl (by kernel_rfl) (by kernel_rfl) (by kernel_rfl) (fun _ _ _ h => h) rfl (wt0 rfl) (show XS _ _ _ _ (.agg #[.int .i64 (0), .slice Ar30_0 ((wordsI y25).length) cr30_0, .slice Ar31_0 ((dotI y27).length) cr31_0]) from x_build (vs := [(1, .slice Ar30_0 ((wordsI y25).length) cr30_0), (2, .slice Ar31_0 ((dotI y27).length) cr31_0)]) tb_53 rfl (by simp [Value.oneCell'])) rfl rfl fun a_60 HE61 => ?_
          refine dr_one (i := 9) (ls' := #[true, true, true, true, true, true, true, true, true, true, false]) rfl (by kernel_rfl) rfl fun K_62 hK63 => ?_
          refine st_alloc HE61 HH56 tv_53 (wt0 rfl) rfl fun q32 a_64 w' HE65 HH66 => hK63 _ _ (by exact HH66.sel [3, 4] (by decide) rfl) ?_
          have HS67 := HH66.sel [3, 4] (by decide) rfl
          refine dr_one (i := 10) (ls' := #[true, true, true, true, true, true, true, true, true, true, true]) rfl (by kernel_rfl) rfl fun K_68 hK69 => ?_
          refine st_store (vs := [.int .i64 (0), .slice Ar30_0 ((wordsI y25).length) cr30_0, .slice Ar31_0 ((dotI y27).length) cr31_0]) 0 HE65 HH66 tv_53 rfl rfl rfl rfl rfl rfl (by simp [Value.oneCell']) (wt0 rfl) fun w' HH70 => hK69 _ _ (by exact HH70.sel [3, 4] (by decide) rfl) ?_
          have HS71 := HH70.sel [3, 4] (by decide) rfl
          refine dr_done (by kernel_rfl) ?_
          clear HH15 a_24 HE25 a_36 HE37 a_38 HE39 a_40 HE41 a_42 HE43 a_44 HE45 HH34 a_46 HE47 HS35 K_48 hK49 HH50 a_51 HE52 HS53 a_57 HE58 K_54 hK55 a_60 HE61 HH56 HS59 K_62 hK63 HH66 HS67 hK69 K_68
          exact nrm ⟨_, _, _, _, _, _, _, HE65.sub ⟨rfl, rfl, rfl, rfl, trivial⟩, HH70.sel [0, 1, 2, 3, 4] (by decide) rfl⟩
        · refine st_alloc HE52 HH50 tv_53 (wt0 rfl) rfl fun q33 a_72 w' HE73 HH74 => hK55 _ _ (by exact HH74.sel [2, 3] (by decide) rfl) ?_
          have HS75 := HH74.sel [2, 3] (by decide) rfl
          refine dr_one (i := 7) (ls' := #[true, true, true, true, true, true, true, true, false, true, false]) rfl (by kernel_rfl) rfl fun K_76 hK77 => ?_
          refine st_call HE73 (wt0 rfl) rfl rfl rfl en_80 rfl rfl (impl_readDotted y27 _ (HH74.glob2 hG) (by omega)) fun e w' hr => ?_
          obtain ⟨Ar34_0, cr34_0, rfl, hor34_0, hbr34⟩ := hr
          obtain ⟨Sr34, HH78⟩ := HH74.newS hbr34 hor34_0
          refine ⟨_, rfl, fun a_79 HE80 => hK77 _ _ (by exact HH78.sel [3, 4] (by decide) rfl) ?_⟩
          have HS81 := HH78.sel [3, 4] (by decide) rfl
          refine dr_take (i := 8) (ls' := #[true, true, true, true, true, true, true, true, true, true, false]) HE80 HS81 rfl (by kernel_rfl) (by kernel_rfl) (by kernel_rfl) (fun _ _ _ h => h) rfl (wt0 rfl) (show XS _ _ _ _ (.agg #[.int .i64 (0), .slice Ar30_0 ((wordsI y25).length) cr30_0, .slice Ar34_0 ((dotI y27).length) cr34_0]) from x_build (vs := [(1, .slice Ar30_0 ((wordsI y25).length) cr30_0), (2, .slice Ar34_0 ((dotI y27).length) cr34_0)]) tb_53 rfl (by simp [Value.oneCell'])) rfl rfl fun a_82 HE83 => ?_
          refine dr_one (i := 10) (ls' := #[true, true, true, true, true, true, true, true, true, true, true]) rfl (by kernel_rfl) rfl fun K_84 hK85 => ?_
          refine st_store (vs := [.int .i64 (0), .slice Ar30_0 ((wordsI y25).length) cr30_0, .slice Ar34_0 ((dotI y27).length) cr34_0]) 1 HE83 HH78 tv_53 rfl rfl rfl rfl rfl rfl (by simp [Value.oneCell']) (wt0 rfl) fun w' HH86 => hK85 _ _ (by exact HH86.sel [3, 4] (by decide) rfl) ?_
          have HS87 := HH86.sel [3, 4] (by decide) rfl
          refine dr_done (by kernel_rfl) ?_
          clear HH15 a_24 HE25 a_36 HE37 a_38 HE39 a_40 HE41 a_42 HE43 a_44 HE45 HH34 a_46 HE47 HS35 K_48 hK49 a_51 HE52 HH50 HS53 K_54 hK55 HH74 a_72 HE73 HS75 a_79 HE80 K_76 hK77 HH78 HS81 hK85 K_84
          exact nrm ⟨_, _, _, _, _, _, _, HE83.sub ⟨rfl, rfl, rfl, rfl, trivial⟩, HH86.sel [1, 0, 2, 3, 4] (by decide) rfl⟩
      · refine st_alloc HE47 HH34 tv_53 (wt0 rfl) rfl fun q35 a_88 w' HE89 HH90 => hK49 _ _ (by exact HH90.sel [1, 2] (by decide) rfl) ?_
        have HS91 := HH90.sel [1, 2] (by decide) rfl
        refine dr_one (i := 3) (ls' := #[true, true, true, true, true, true, true, false, false, true, false]) rfl (by kernel_rfl) rfl fun K_92 hK93 => ?_
        refine st_call HE89 (wt0 rfl) rfl rfl rfl en_79 rfl rfl (impl_readWords y25 _ (HH90.glob2 hG) (by omega)) fun e w' hr => ?_
        obtain ⟨Ar36_0, cr36_0, rfl, hor36_0, hbr36⟩ := hr
        obtain ⟨Sr36, HH94⟩ := HH90.newS hbr36 hor36_0
        refine ⟨_, rfl, fun a_95 HE96 => hK93 _ _ (by exact HH94.sel [2, 3] (by decide) rfl) ?_⟩
        have HS97 := HH94.sel [2, 3] (by decide) rfl
        refine dr_one (i := 7) (ls' := #[true, true, true, true, true, true, true, true, false, true, false]) rfl (by kernel_rfl) rfl fun K_98 hK99 => ?_
        refine st_call HE96 (wt0 rfl) rfl rfl rfl en_80 rfl rfl (impl_readDotted y27 _ (HH94.glob2 hG) (by omega)) fun e w' hr => ?_
        obtain ⟨Ar37_0, cr37_0, rfl, hor37_0, hbr37⟩ := hr
        obtain ⟨Sr37, HH100⟩ := HH94.newS hbr37 hor37_0
        refine ⟨_, rfl, fun a_101 HE102 => hK99 _ _ (by exact HH100.sel [3, 4] (by decide) rfl) ?_⟩
        have HS103 := HH100.sel [3, 4] (by decide) rfl
        refine dr_take (i := 8) (ls' := #[true, true, true, true, true, true, true, true, true, true, false]) HE102 HS103 rfl (by kernel_rfl) (by kernel_rfl) (by kernel_rfl) (fun _ _ _ h => h) rfl (wt0 rfl) (show XS _ _ _ _ (.agg #[.int .i64 (0), .slice Ar36_0 ((wordsI y25).length) cr36_0, .slice Ar37_0 ((dotI y27).length) cr37_0]) from x_build (vs := [(1, .slice Ar36_0 ((wordsI y25).length) cr36_0), (2, .slice Ar37_0 ((dotI y27).length) cr37_0)]) tb_53 rfl (by simp [Value.oneCell'])) rfl rfl fun a_104 HE105 => ?_
        refine dr_one (i := 10) (ls' := #[true, true, true, true, true, true, true, true, true, true, true]) rfl (by kernel_rfl) rfl fun K_106 hK107 => ?_
        refine st_store (vs := [.int .i64 (0), .slice Ar36_0 ((wordsI y25).length) cr36_0, .slice Ar37_0 ((dotI y27).length) cr37_0]) 2 HE105 HH100 tv_53 rfl rfl rfl rfl rfl rfl (by simp [Value.oneCell']) (wt0 rfl) fun w' HH108 => hK107 _ _ (by exact HH108.sel [3, 4] (by decide) rfl) ?_
        have HS109 := HH108.sel [3, 4] (by decide) rfl
        refine dr_done (by kernel_rfl) ?_
        clear HH15 a_24 HE25 a_36 HE37 a_38 HE39 a_40 HE41 a_42 HE43 a_44 HE45 a_46 HE47 HH34 HS35 K_48 hK49 HH90 a_88 HE89 HS91 K_92 hK93 HH94 a_95 HE96 HS97 a_101 HE102 K_98 hK99 HH100 HS103 hK107 K_106
        exact nrm ⟨_, _, _, _, _, _, _, HE105.sub ⟨rfl, rfl, rfl, rfl, trivial⟩, HH108.sel [2, 0, 1, 3, 4] (by decide) rfl⟩
    · rintro a_110 w' ⟨q30, Ar28_0, cr28_0, Ar29_0, cr29_0, Sr29, Sr28, HE111, HH112⟩
      refine nrm ?_
      refine wp_seq ?_
      refine rg ?_
      refine pl_x HE111 HH112 (wt0 rfl) (x_move rfl) rfl rfl fun a_113 HE114 => ?_
      have ke38 : 0 < (splitR 58 a0).length := by omega
      refine pl_x HE114 HH112 (wt0 rfl) (x_indexAddr ts_78 rfl rfl rfl rfl ke38) rfl rfl fun a_115 HE116 => ?_
      obtain ⟨y39, xy39⟩ : ∃ y_, y_ = (splitR 58 a0)[0]'(by first | exact ke38 | (simp only [List.length_set]; exact ke38) | omega | (simp only [List.length_set]; omega) | (simp; omega)) := ⟨_, rfl⟩
      have jy39 : List.length y39 ≤ 9223372036854775807 := by rw [xy39]; exact i_ownS HH112 3 rfl _
      have hz0 := xy39
      have hpy39 := splitR_piece 58 _ y39 (by rw [xy39]; exact List.getElem_mem _)
      refine pl_x HE116 HH112 (wt0 rfl) (x_load1 tv_9 rfl (c_ownS 3 rfl (by first | exact ke38 | (simp only [List.length_set]; exact ke38) | omega | (simp only [List.length_set]; omega) | (simp; omega)) xy39.symm)) rfl rfl fun a_117 HE118 => ?_
      refine pl fun K_119 hK120 => ?_
      refine st_call HE118 (wt0 rfl) rfl rfl rfl en_70 rfl rfl (impl_ReadDecimal y39 _ (HH112.glob2 hG) (by omega)) fun e w' hr => ?_
      have hAr40_0 := numR_bd y39
      obtain ⟨rfl, hbr40⟩ := hr
      have HH121 := HH112.on hbr40
      refine ⟨_, rfl, fun a_122 HE123 => hK120 _ _ ?_⟩
      refine pl_x HE123 HH121 (wt0 rfl) (x_move rfl) rfl rfl fun a_124 HE125 => ?_
      refine pl_x HE125 HH121 (wt0 rfl) (x_extract rfl rfl) rfl rfl fun a_126 HE127 => ?_
      refine pl_x HE127 HH121 (wt0 rfl) (x_extract rfl rfl) rfl rfl fun a_128 HE129 => ?_
      refine pl_x HE129 HH121 (wt0 rfl) (x_fieldAddr fa_53_0 rfl) rfl rfl fun a_130 HE131 => ?_
      refine pl fun K_132 hK133 => ?_
      refine st_store (vs := [.int .i64 ((numR y39).1)]) 0 HE131 HH121 tv_2 rfl rfl rfl rfl rfl rfl (by simp [Value.oneCell']) (wt0 rfl) fun w' HH134 => hK133 _ _ ?_
      refine wpList_nil ?_
      clear a_24 HE25 HH15 a_110 HE111 a_113 HE114 a_115 HE116 HH112 a_117 HE118 a_122 HE123 a_124 HE125 a_126 HE127 a_128 HE129 K_119 hK120 HH121 hK133 K_132
      refine nrm ?_
      refine wp_seq ?_
      refine wp_seq ?_
      refine rg ?_
      refine pl_x HE131 HH134 (wt0 rfl) (x_loadN (cs := [.int .i64 ((numR y39).1), .slice Ar28_0 ((wordsI y25).length) cr28_0, .slice Ar29_0 ((dotI y27).length) cr29_0]) tv_53 rfl rfl (c_blkN 0 rfl)) rfl rfl fun a_135 HE136 => ?_
      refine pl fun K_137 hK138 => ?_
      refine st_call HE136 (wt0 rfl) rfl rfl rfl en_81 rfl rfl (impl_ValidTag [.int .i64 ((numR y39).1), .slice Ar28_0 ((wordsI y25).length) cr28_0, .slice Ar29_0 ((dotI y27).length) cr29_0] ((numR y39).1, (wordsI y25), (dotI y27)) _ (rep_Tag (x := ((numR y39).1, (wordsI y25), (dotI y27))) (by exact ⟨by omega, by omega⟩) (HH134.sl (i := 2) rfl) (HH134.sl (i := 1) rfl))) fun e w' hr => ?_
      obtain ⟨rfl, hbr41⟩ := hr
      have HH139 := HH134.on hbr41
      refine ⟨_, rfl, fun a_140 HE141 => hK138 _ _ ?_⟩
      refine pl_x HE141 HH139 (wt0 rfl) (x_not rfl) rfl rfl fun a_142 HE143 => ?_
      refine pl_x HE143 HH139 (wt0 rfl) (x_move rfl) rfl rfl fun a_144 HE145 => ?_
      rcases Bool.eq_false_or_eq_true ((validTag ((numR y39).1, (wordsI y25), (dotI y27)))) with hc42 | hc42
      · refine pl_x HE145 HH139 (wtT HE145 rfl rfl rfl (not_f hc42)) (x_loadN (cs := [.int .i64 ((numR y39).1), .slice Ar28_0 ((wordsI y25).length) cr28_0, .slice Ar29_0 ((dotI y27).length) cr29_0]) tv_53 rfl rfl (c_blkN 0 rfl)) rfl rfl fun a_146 HE147 => ?_
        refine pl fun K_148 hK149 => ?_
        refine st_call HE147 (wtT HE147 rfl rfl rfl (not_f hc42)) rfl rfl rfl en_82 rfl rfl (impl_TagText [.int .i64 ((numR y39).1), .slice Ar28_0 ((wordsI y25).length) cr28_0, .slice Ar29_0 ((dotI y27).length) cr29_0] ((numR y39).1, (wordsI y25), (dotI y27)) _ (rep_Tag (x := ((numR y39).1, (wordsI y25), (dotI y27))) (by exact ⟨by omega, by omega⟩) (HH139.sl (i := 2) rfl) (HH139.sl (i := 1) rfl)) (HH139.glob hG.1)) fun e w' hr => ?_
        obtain ⟨rfl, hbr43⟩ := hr
        have HH150 := HH139.on hbr43
        refine ⟨_, rfl, fun a_151 HE152 => hK149 _ _ ?_⟩
        refine pl_x HE152 HH150 (wtT HE152 rfl rfl rfl (not_f hc42)) (x_move rfl) rfl rfl fun a_153 HE154 => ?_
        refine pl_x HE154 HH150 (wtT HE154 rfl rfl rfl (not_f hc42)) (x_sneqB rfl rfl) rfl rfl fun a_155 HE156 => ?_
        refine pl_x HE156 HH150 (wt0 rfl) (x_pickF rfl (not_f hc42) rfl) rfl rfl fun a_157 HE158 => ?_
        refine wpList_nil ?_
        clear a_130 HE131 HH134 a_135 HE136 a_140 HE141 a_142 HE143 a_144 HE145 K_137 hK138 HH139 a_146 HE147 a_151 HE152 a_153 HE154 a_155 HE156 hK149 K_148
        refine nrm ?_
        refine cnd_nd HE158 rfl (fun hc44 => ?_) (fun hc44 => ?_)
        · refine wp_seq ?_
          refine rg ?_
          refine pl_x HE158 HH150 (wt0 rfl) (show XS _ _ _ _ (.agg #[.int .i64 (0), .slice none (0) 0, .slice none (0) 0]) from x_build (vs := []) tb_53 rfl (by simp [Value.oneCell'])) rfl rfl fun a_159 HE160 => ?_
          refine pl fun K_161 hK162 => ?_
          refine st_store (vs := [.int .i64 (0), .slice none (0) 0, .slice none (0) 0]) 4 HE160 HH150 tv_53 rfl rfl rfl rfl rfl rfl (by simp [Value.oneCell']) (wt0 rfl) fun w' HH163 => hK162 _ _ ?_
          refine pl_x HE160 HH163 (wt0 rfl) (x_assign rfl) rfl rfl fun a_164 HE165 => ?_
          refine wpList_nil ?_
          clear a_157 HE158 HH150 a_159 HE160 hK162 K_161
          refine nrm ?_
          refine wp_ret ?_
          refine (thn_ret ?_)
          refine ret2 HE165 rfl (rv_cell rfl (tv_53.loadN (cs := [.int .i64 (0), .slice none (0) 0, .slice none (0) 0]) rfl (c_blkN 4 rfl _ HH163))) (rv_tmp rfl) ?_
          have HH166 := HH163.flatO (E := eTag) (cs := [.int .i64 (0), .slice none (0) 0, .slice none (0) 0]) (x := (0, [], [])) (fun _ => (oPrN (oI (by exact ⟨by omega, by omega⟩)) (oPrN (oSl (So.nil (Nat.zero_le _))) (oSl (So.nil (Nat.zero_le _))))))
          have hF : (rdTgI a0) = ((0, [], []), false) := by
            first | (unfold rdTgI; exact if_neg (fun hh => by omega)) | (rw [rdTgI_eq rfl (by omega) (by omega) hz0 hz1 hz2]; first | (rw [if_pos ⟨by assumption, by assumption⟩]; done) | (exact if_neg (fun hh => ff hh.1 (by assumption))) | (exact if_neg (fun hh => absurd hh.2 (by assumption))))
          exact ⟨_, by first | (rw [hF] <;> rfl) | rfl | (rw [hF]; simp only [Ending.returned.injEq, Value.slice.injEq, true_and, and_true]; first | omega | (simp; done)) | (rw [hF]; simp; omega), by rw [hF]; exact (HH166.o (i := 0) rfl), HH166.below⟩
        · refine wp_skip ?_
          refine nrm ?_
          refine wp_seq ?_
          refine rg ?_
          refine pl_x HE158 HH150 (wt0 rfl) (x_loadN (cs := [.int .i64 ((numR y39).1), .slice Ar28_0 ((wordsI y25).length) cr28_0, .slice Ar29_0 ((dotI y27).length) cr29_0]) tv_53 rfl rfl (c_blkN 0 rfl)) rfl rfl fun a_167 HE168 => ?_
          refine pl fun K_169 hK170 => ?_
          refine st_store (vs := [.int .i64 ((numR y39).1), .slice Ar28_0 ((wordsI y25).length) cr28_0, .slice Ar29_0 ((dotI y27).length) cr29_0]) 4 HE168 HH150 tv_53 rfl rfl rfl rfl rfl rfl (by simp [Value.oneCell']) (wt0 rfl) fun w' HH171 => hK170 _ _ ?_
          refine pl_x HE168 HH171 (wt0 rfl) (x_assign rfl) rfl rfl fun a_172 HE173 => ?_
          refine wpList_nil ?_
          clear a_157 HE158 HH150 a_167 HE168 hK170 K_169
          refine nrm ?_
          refine wp_ret ?_
          refine ret2 HE173 rfl (rv_cell rfl (tv_53.loadN (cs := [.int .i64 ((numR y39).1), .slice Ar28_0 ((wordsI y25).length) cr28_0, .slice Ar29_0 ((dotI y27).length) cr29_0]) rfl (c_blkN 4 rfl _ HH171))) (rv_tmp rfl) ?_
          have HH174 := HH171.sel [2, 1, 0, 3, 4] (by decide) rfl
          have HH175 := HH174.sel [1, 0, 2, 3, 4] (by decide) rfl
          have HH176 := HH175.sel [1, 0, 2, 3, 4] (by decide) rfl
          have HH177 := HH176.pair
          have HH178 := HH177.pairF (E := eInt) (c1 := [.int .i64 ((numR y39).1)]) (x := (numR y39).1) (oI (by exact ⟨by omega, by omega⟩))
          obtain ⟨S45, HH179⟩ : ∃ S, Held Nob w (rO eTag S [.int .i64 ((numR y39).1), .slice Ar28_0 ((wordsI y25).length) cr28_0, .slice Ar29_0 ((dotI y27).length) cr29_0] ((numR y39).1, (wordsI y25), (dotI y27)) :: _) _ := ⟨_, HH178⟩
          have hF : (rdTgI a0) = (((numR y39).1, (wordsI y25), (dotI y27)), true) := by
            first | (unfold rdTgI; exact if_neg (fun hh => by omega)) | (rw [rdTgI_eq rfl (by omega) (by omega) hz0 hz1 hz2]; first | (rw [if_pos ⟨by assumption, by assumption⟩]; done) | (exact if_neg (fun hh => ff hh.1 (by assumption))) | (exact if_neg (fun hh => absurd hh.2 (by assumption))))
          exact ⟨_, by first | (rw [hF] <;> rfl) | rfl | (rw [hF]; simp only [Ending.returned.injEq, Value.slice.injEq, true_and, and_true]; first | omega | (simp; done)) | (rw [hF]; simp; omega), by rw [hF]; exact (HH179.o (i := 0) rfl), HH179.below⟩
      · refine pl_no HE145 (wtF HE145 rfl rfl rfl (not_t hc42)) rfl rfl fun a_180 HE181 => ?_
        refine pl_no HE181 (wtF HE181 rfl rfl rfl (not_t hc42)) rfl rfl fun a_182 HE183 => ?_
        refine pl_no HE183 (wtF HE183 rfl rfl rfl (not_t hc42)) rfl rfl fun a_184 HE185 => ?_
        refine pl_no HE185 (wtF HE185 rfl rfl rfl (not_t hc42)) rfl rfl fun a_186 HE187 => ?_
        refine pl_x HE187 HH139 (wt0 rfl) (x_pickT rfl (not_t hc42) rfl) rfl rfl fun a_188 HE189 => ?_
        refine wpList_nil ?_
        clear a_130 HE131 HH134 a_135 HE136 a_140 HE141 a_142 HE143 a_144 HE145 a_180 HE181 a_182 HE183 a_184 HE185 a_186 HE187 hK138 K_137
        refine nrm ?_
        refine cndT HE189 rfl rfl ?_
        refine wp_seq ?_
        refine rg ?_
        refine pl_x HE189 HH139 (wt0 rfl) (show XS _ _ _ _ (.agg #[.int .i64 (0), .slice none (0) 0, .slice none (0) 0]) from x_build (vs := []) tb_53 rfl (by simp [Value.oneCell'])) rfl rfl fun a_190 HE191 => ?_
        refine pl fun K_192 hK193 => ?_
        refine st_store (vs := [.int .i64 (0), .slice none (0) 0, .slice none (0) 0]) 4 HE191 HH139 tv_53 rfl rfl rfl rfl rfl rfl (by simp [Value.oneCell']) (wt0 rfl) fun w' HH194 => hK193 _ _ ?_
        refine pl_x HE191 HH194 (wt0 rfl) (x_assign rfl) rfl rfl fun a_195 HE196 => ?_
        refine wpList_nil ?_
        clear a_188 HE189 HH139 a_190 HE191 hK193 K_192
        refine nrm ?_
        refine wp_ret ?_
        refine (thn_ret ?_)
        refine ret2 HE196 rfl (rv_cell rfl (tv_53.loadN (cs := [.int .i64 (0), .slice none (0) 0, .slice none (0) 0]) rfl (c_blkN 4 rfl _ HH194))) (rv_tmp rfl) ?_
        have HH197 := HH194.flatO (E := eTag) (cs := [.int .i64 (0), .slice none (0) 0, .slice none (0) 0]) (x := (0, [], [])) (fun _ => (oPrN (oI (by exact ⟨by omega, by omega⟩)) (oPrN (oSl (So.nil (Nat.zero_le _))) (oSl (So.nil (Nat.zero_le _))))))
        have hF : (rdTgI a0) = ((0, [], []), false) := by
          first | (unfold rdTgI; exact if_neg (fun hh => by omega)) | (rw [rdTgI_eq rfl (by omega) (by omega) hz0 hz1 hz2]; first | (rw [if_pos ⟨by assumption, by assumption⟩]; done) | (exact if_neg (fun hh => ff hh.1 (by assumption))) | (exact if_neg (fun hh => absurd hh.2 (by assumption))))
        exact ⟨_, by first | (rw [hF] <;> rfl) | rfl | (rw [hF]; simp only [Ending.returned.injEq, Value.slice.injEq, true_and, and_true]; first | omega | (simp; done)) | (rw [hF]; simp; omega), by rw [hF]; exact (HH197.o (i := 0) rfl), HH197.below⟩

open Go.Lib in
set_option maxRecDepth 100000 in
set_option maxHeartbeats 4000000 in
theorem spec_l09Read (a0 : List UInt8) (w : World) (s0 : a0.length ≤ 2000000) :
    Calls Tryz.prog 77 #[.string (bs a0)] w fun e w' => ∃ (es0' : List Value), e = .returned (.tuple #[.agg es0'.toArray, .bool (rdTgI a0).2]) ∧ eTag.O w' (Fr w w') es0' (rdTgI a0).1 ∧ Below w.heap.size w w' := by
  have HH1 := Held.start Nob w
  refine enter (n := 59) Tryz.func77 rfl rfl rfl fun a_2 HE3 => ?_
  refine wp_seq ?_
  refine rg ?_
  refine pl fun K_4 hK5 => ?_
  refine st_alloc HE3 HH1 tv_53 (wt0 rfl) rfl fun q21 a_6 w' HE7 HH8 => hK5 _ _ ?_
  refine pl_x HE7 HH8 (wt0 rfl) (x_assign rfl) rfl rfl fun a_9 HE10 => ?_
  refine wpList_nil ?_
  clear a_2 HE3 HH1 a_6 HE7 hK5 K_4
  refine nrm ?_
  refine wp_seq ?_
  refine rg ?_
  refine pl_x HE10 HH8 (wt0 rfl) (x_move rfl) rfl rfl fun a_11 HE12 => ?_
  refine pl fun K_13 hK14 => ?_
  refine st_call HE12 (wt0 rfl) rfl rfl rfl en_63 rfl rfl (spec_l01Split a0 _ 58 _ (by omega) (by rfl)) fun e w' hr => ?_
  have hAr22_0 := splitR_len 58 a0
  have hAr22_1 := splitR_piece 58 a0
  obtain ⟨Ar22_0, cr22_0, rfl, hor22_0, hbr22⟩ := hr
  obtain ⟨Sr22, HH15⟩ := HH8.newS hbr22 hor22_0
  refine ⟨_, rfl, fun a_16 HE17 => hK14 _ _ ?_⟩
  refine pl_x HE17 HH15 (wt0 rfl) (x_assign rfl) rfl rfl fun a_18 HE19 => ?_
  refine wpList_nil ?_
  clear a_9 HE10 HH8 a_11 HE12 a_16 HE17 hK14 K_13
  refine nrm ?_
  refine wp_seq ?_
  refine wp_seq ?_
  refine rg ?_
  refine pl_x HE19 HH15 (wt0 rfl) (x_move rfl) rfl rfl fun a_20 HE21 => ?_
  refine pl_x HE21 HH15 (wt0 rfl) (x_len Tryz.underlying78 rfl) rfl rfl fun a_22 HE23 => ?_
  refine pl_x HE23 HH15 (wt0 rfl) (x_neq rfl rfl) rfl rfl fun a_24 HE25 => ?_
  refine wpList_nil ?_
  clear a_18 HE19 a_20 HE21 a_22 HE23
  refine nrm ?_
  refine cnd_ne HE25 rfl (fun hc23 => ?_) (fun hc23 => ?_)
  · refine wp_seq ?_
    refine rg ?_
    refine pl_x HE25 HH15 (wt0 rfl) (show XS _ _ _ _ (.agg #[.int .i64 (0), .slice none (0) 0, .slice none (0) 0]) from x_build (vs := []) tb_53 rfl (by simp [Value.oneCell'])) rfl rfl fun a_26 HE27 => ?_
    refine pl fun K_28 hK29 => ?_
    refine st_store (vs := [.int .i64 (0), .slice none (0) 0, .slice none (0) 0]) 1 HE27 HH15 tv_53 rfl rfl rfl rfl rfl rfl (by simp [Value.oneCell']) (wt0 rfl) fun w' HH30 => hK29 _ _ ?_
    refine pl_x HE27 HH30 (wt0 rfl) (x_assign rfl) rfl rfl fun a_31 HE32 => ?_
    refine wpList_nil ?_
    clear a_24 HE25 HH15 a_26 HE27 hK29 K_28
    refine nrm ?_
    refine wp_ret ?_
    refine (thn_ret ?_)
    refine ret2 HE32 rfl (rv_cell rfl (tv_53.loadN (cs := [.int .i64 (0), .slice none (0) 0, .slice none (0) 0]) rfl (c_blkN 1 rfl _ HH30))) (rv_tmp rfl) ?_
    have HH33 := HH30.flatO (E := eTag) (cs := [.int .i64 (0), .slice none (0) 0, .slice none (0) 0]) (x := (0, [], [])) (fun _ => (oPrN (oI (by exact ⟨by omega, by omega⟩)) (oPrN (oSl (So.nil (Nat.zero_le _))) (oSl (So.nil (Nat.zero_le _))))))
    have hF : (rdTgI a0) = ((0, [], []), false) := by
      rw [← rdTg_eq]; first | (unfold rdTgS; exact if_neg (fun hh => by omega)) | (rw [rdTgS_eq rfl (by omega) (by omega) hz0 hz1 hz2]; first | (rw [if_pos ⟨⟨by assumption, by assumption, by assumption⟩, by assumption⟩]; done) | (exact if_neg (fun hh => ff hh.1.1 (by assumption))) | (exact if_neg (fun hh => ff hh.1.2.1 (by assumption))) | (exact if_neg (fun hh => ff hh.1.2.2 (by assumption))) | (exact if_neg (fun hh => ff hh.2 (by assumption))))
    exact ⟨_, by first | (rw [hF] <;> rfl) | rfl | (rw [hF]; simp only [Ending.returned.injEq, Value.slice.injEq, true_and, and_true]; first | omega | (simp; done)) | (rw [hF]; simp; omega), by rw [hF]; exact (HH33.o (i := 0) rfl), HH33.below⟩
  · refine wp_skip ?_
    refine nrm ?_
    refine wp_seq ?_
    refine rg ?_
    refine pl_x HE25 HH15 (wt0 rfl) (x_move rfl) rfl rfl fun a_34 HE35 => ?_
    have ke24 : 0 < (splitR 58 a0).length := by omega
    obtain ⟨be24, fe24, rfl⟩ := el_own HH15 (i := 0) rfl ke24
    refine pl_x HE35 HH15 (wt0 rfl) (x_indexAddr ts_78 rfl rfl rfl rfl ke24) rfl rfl fun a_36 HE37 => ?_
    obtain ⟨y25, xy25⟩ : ∃ y_, y_ = (splitR 58 a0)[0]'(by first | exact ke24 | (simp only [List.length_set]; exact ke24) | omega | (simp only [List.length_set]; omega) | (simp; omega)) := ⟨_, rfl⟩
    have jy25 : List.length y25 ≤ 9223372036854775807 := by rw [xy25]; exact i_ownS HH15 0 rfl _
    have hz0 := xy25
    have hpy25 := splitR_piece 58 _ y25 (by rw [xy25]; exact List.getElem_mem _)
    refine pl_x HE37 HH15 (wt0 rfl) (x_load1 tv_9 rfl (c_ownS 0 rfl (by first | exact ke24 | (simp only [List.length_set]; exact ke24) | omega | (simp only [List.length_set]; omega) | (simp; omega)) xy25.symm)) rfl rfl fun a_38 HE39 => ?_
    refine pl fun K_40 hK41 => ?_
    refine st_call HE39 (wt0 rfl) rfl rfl rfl en_65 rfl rfl (spec_l01Number y25 _ (by omega)) fun e w' hr => ?_
    have hAr26_0 := numC_bd y25
    obtain ⟨rfl, hbr26⟩ := hr
    have HH42 := HH15.on hbr26
    refine ⟨_, rfl, fun a_43 HE44 => hK41 _ _ ?_⟩
    refine pl_x HE44 HH42 (wt0 rfl) (x_move rfl) rfl rfl fun a_45 HE46 => ?_
    refine pl_x HE46 HH42 (wt0 rfl) (x_extract rfl rfl) rfl rfl fun a_47 HE48 => ?_
    refine pl_x HE48 HH42 (wt0 rfl) (x_extract rfl rfl) rfl rfl fun a_49 HE50 => ?_
    refine pl_x HE50 HH42 (wt0 rfl) (x_assign rfl) rfl rfl fun a_51 HE52 => ?_
    refine pl_x HE52 HH42 (wt0 rfl) (x_assign rfl) rfl rfl fun a_53 HE54 => ?_
    refine wpList_nil ?_
    clear a_24 HE25 a_34 HE35 a_36 HE37 HH15 a_38 HE39 a_43 HE44 a_45 HE46 a_47 HE48 a_49 HE50 a_51 HE52 hK41 K_40
    refine nrm ?_
    refine wp_seq ?_
    refine rg ?_
    refine pl_x HE54 HH42 (wt0 rfl) (x_move rfl) rfl rfl fun a_55 HE56 => ?_
    have ke27 : 1 < (splitR 58 a0).length := by omega
    refine pl_x HE56 HH42 (wt0 rfl) (x_indexAddr ts_78 rfl rfl rfl rfl ke27) rfl rfl fun a_57 HE58 => ?_
    obtain ⟨y28, xy28⟩ : ∃ y_, y_ = (splitR 58 a0)[1]'(by first | exact ke27 | (simp only [List.length_set]; exact ke27) | omega | (simp only [List.length_set]; omega) | (simp; omega)) := ⟨_, rfl⟩
    have jy28 : List.length y28 ≤ 9223372036854775807 := by rw [xy28]; exact i_ownS HH42 0 rfl _
    have hz1 := xy28
    have hpy28 := splitR_piece 58 _ y28 (by rw [xy28]; exact List.getElem_mem _)
    refine pl_x HE58 HH42 (wt0 rfl) (x_load1 tv_9 rfl (c_ownS 0 rfl (by first | exact ke27 | (simp only [List.length_set]; exact ke27) | omega | (simp only [List.length_set]; omega) | (simp; omega)) xy28.symm)) rfl rfl fun a_59 HE60 => ?_
    refine pl fun K_61 hK62 => ?_
    refine st_call HE60 (wt0 rfl) rfl rfl rfl en_125 rfl rfl (spec_l09ReadWords y28 200 _ (by omega) (by omega)) fun e w' hr => ?_
    obtain ⟨Ar29_0, cr29_0, rfl, hor29_0, hbr29⟩ := hr
    obtain ⟨Sr29, HH63⟩ := HH42.newS hbr29 hor29_0
    refine ⟨_, rfl, fun a_64 HE65 => hK62 _ _ ?_⟩
    refine pl_x HE65 HH63 (wt0 rfl) (x_move rfl) rfl rfl fun a_66 HE67 => ?_
    refine pl_x HE67 HH63 (wt0 rfl) (x_extract rfl rfl) rfl rfl fun a_68 HE69 => ?_
    refine pl_x HE69 HH63 (wt0 rfl) (x_extract rfl rfl) rfl rfl fun a_70 HE71 => ?_
    refine pl_x HE71 HH63 (wt0 rfl) (x_assign rfl) rfl rfl fun a_72 HE73 => ?_
    refine pl_x HE73 HH63 (wt0 rfl) (x_assign rfl) rfl rfl fun a_74 HE75 => ?_
    refine wpList_nil ?_
    clear a_53 HE54 a_55 HE56 a_57 HE58 HH42 a_59 HE60 a_64 HE65 a_66 HE67 a_68 HE69 a_70 HE71 a_72 HE73 hK62 K_61
    refine nrm ?_
    refine wp_seq ?_
    refine rg ?_
    refine pl_x HE75 HH63 (wt0 rfl) (x_move rfl) rfl rfl fun a_76 HE77 => ?_
    have ke30 : 2 < (splitR 58 a0).length := by omega
    refine pl_x HE77 HH63 (wt0 rfl) (x_indexAddr ts_78 rfl rfl rfl rfl ke30) rfl rfl fun a_78 HE79 => ?_
    obtain ⟨y31, xy31⟩ : ∃ y_, y_ = (splitR 58 a0)[2]'(by first | exact ke30 | (simp only [List.length_set]; exact ke30) | omega | (simp only [List.length_set]; omega) | (simp; omega)) := ⟨_, rfl⟩
    have jy31 : List.length y31 ≤ 9223372036854775807 := by rw [xy31]; exact i_ownS HH63 1 rfl _
    have hz2 := xy31
    have hpy31 := splitR_piece 58 _ y31 (by rw [xy31]; exact List.getElem_mem _)
    refine pl_x HE79 HH63 (wt0 rfl) (x_load1 tv_9 rfl (c_ownS 1 rfl (by first | exact ke30 | (simp only [List.length_set]; exact ke30) | omega | (simp only [List.length_set]; omega) | (simp; omega)) xy31.symm)) rfl rfl fun a_80 HE81 => ?_
    refine pl fun K_82 hK83 => ?_
    refine st_call HE81 (wt0 rfl) rfl rfl rfl en_126 rfl rfl (spec_l09ReadLetters y31 _ (by omega)) fun e w' hr => ?_
    obtain ⟨Ar32_0, cr32_0, rfl, hor32_0, hbr32⟩ := hr
    obtain ⟨Sr32, HH84⟩ := HH63.newS hbr32 hor32_0
    refine ⟨_, rfl, fun a_85 HE86 => hK83 _ _ ?_⟩
    refine pl_x HE86 HH84 (wt0 rfl) (x_move rfl) rfl rfl fun a_87 HE88 => ?_
    refine pl_x HE88 HH84 (wt0 rfl) (x_extract rfl rfl) rfl rfl fun a_89 HE90 => ?_
    refine pl_x HE90 HH84 (wt0 rfl) (x_extract rfl rfl) rfl rfl fun a_91 HE92 => ?_
    refine pl_x HE92 HH84 (wt0 rfl) (x_assign rfl) rfl rfl fun a_93 HE94 => ?_
    refine pl_x HE94 HH84 (wt0 rfl) (x_assign rfl) rfl rfl fun a_95 HE96 => ?_
    refine wpList_nil ?_
    clear a_74 HE75 a_76 HE77 a_78 HE79 HH63 a_80 HE81 a_85 HE86 a_87 HE88 a_89 HE90 a_91 HE92 a_93 HE94 hK83 K_82
    refine nrm ?_
    refine wp_seq ?_
    refine rg ?_
    refine pl_x HE96 HH84 (wt0 rfl) (x_move rfl) rfl rfl fun a_97 HE98 => ?_
    refine pl_x HE98 HH84 (wt0 rfl) (x_move rfl) rfl rfl fun a_99 HE100 => ?_
    refine pl_x HE100 HH84 (wt0 rfl) (x_move rfl) rfl rfl fun a_101 HE102 => ?_
    refine pl_x HE102 HH84 (wt0 rfl) (show XS _ _ _ _ (.agg #[.int .i64 ((numC y25).1), .slice Ar29_0 ((wordsS y28 200).1.length) cr29_0, .slice Ar32_0 ((letS y31).1.length) cr32_0]) from x_build (vs := [(0, .int .i64 ((numC y25).1)), (1, .slice Ar29_0 ((wordsS y28 200).1.length) cr29_0), (2, .slice Ar32_0 ((letS y31).1.length) cr32_0)]) tb_53 rfl (by simp [Value.oneCell'])) rfl rfl fun a_103 HE104 => ?_
    refine pl fun K_105 hK106 => ?_
    refine st_alloc HE104 HH84 tv_53 (wt0 rfl) rfl fun q33 a_107 w' HE108 HH109 => hK106 _ _ ?_
    refine pl fun K_110 hK111 => ?_
    refine st_store (vs := [.int .i64 ((numC y25).1), .slice Ar29_0 ((wordsS y28 200).1.length) cr29_0, .slice Ar32_0 ((letS y31).1.length) cr32_0]) 0 HE108 HH109 tv_53 rfl rfl rfl rfl rfl rfl (by simp [Value.oneCell']) (wt0 rfl) fun w' HH112 => hK111 _ _ ?_
    refine wpList_nil ?_
    clear a_95 HE96 a_97 HE98 a_99 HE100 a_101 HE102 a_103 HE104 HH84 K_105 hK106 HH109 hK111 K_110
    refine nrm ?_
    refine wp_seq ?_
    refine wp_seq ?_
    refine rg ?_
    refine pl_x HE108 HH112 (wt0 rfl) (x_move rfl) rfl rfl fun a_113 HE114 => ?_
    refine pl_x HE114 HH112 (wt0 rfl) (x_not rfl) rfl rfl fun a_115 HE116 => ?_
    refine pl_x HE116 HH112 (wt0 rfl) (x_move rfl) rfl rfl fun a_117 HE118 => ?_
    rcases Bool.eq_false_or_eq_true ((numC y25).2) with hc34 | hc34
    · refine pl_x HE118 HH112 (wtT HE118 rfl rfl rfl (not_f hc34)) (x_move rfl) rfl rfl fun a_119 HE120 => ?_
      refine pl_x HE120 HH112 (wtT HE120 rfl rfl rfl (not_f hc34)) (x_not rfl) rfl rfl fun a_121 HE122 => ?_
      refine pl_x HE122 HH112 (wt0 rfl) (x_pickF rfl (not_f hc34) rfl) rfl rfl fun a_123 HE124 => ?_
      refine pl_x HE124 HH112 (wt0 rfl) (x_move rfl) rfl rfl fun a_125 HE126 => ?_
      rcases Bool.eq_false_or_eq_true ((wordsS y28 200).2) with hc35 | hc35
      · refine pl_x HE126 HH112 (wtT HE126 rfl rfl rfl (not_f hc35)) (x_move rfl) rfl rfl fun a_127 HE128 => ?_
        refine pl_x HE128 HH112 (wtT HE128 rfl rfl rfl (not_f hc35)) (x_not rfl) rfl rfl fun a_129 HE130 => ?_
        refine pl_x HE130 HH112 (wt0 rfl) (x_pickF rfl (not_f hc35) rfl) rfl rfl fun a_131 HE132 => ?_
        refine pl_x HE132 HH112 (wt0 rfl) (x_move rfl) rfl rfl fun a_133 HE134 => ?_
        rcases Bool.eq_false_or_eq_true ((letS y31).2) with hc36 | hc36
        · refine pl fun K_135 hK136 => ?_
          refine st_call HE134 (wtT HE134 rfl rfl rfl (not_f hc36)) rfl rfl rfl en_127 rfl rfl (spec_l09Is q33 Ar29_0 Ar32_0 cr29_0 cr32_0 ((numC y25).1, (wordsS y28 200).1, (letS y31).1) _ (c_blkN 0 rfl _ HH112 0 _ rfl) (c_blkN 0 rfl _ HH112 1 _ rfl) (c_blkN 0 rfl _ HH112 2 _ rfl) (HH112.sl (i := 2) rfl) (HH112.sl (i := 1) rfl)) fun e w' hr => ?_
          obtain ⟨rfl, hbr37⟩ := hr
          have HH137 := HH112.on hbr37
          refine ⟨_, rfl, fun a_138 HE139 => hK136 _ _ ?_⟩
          refine pl_x HE139 HH137 (wtT HE139 rfl rfl rfl (not_f hc36)) (x_not rfl) rfl rfl fun a_140 HE141 => ?_
          refine pl_x HE141 HH137 (wt0 rfl) (x_pickF rfl (not_f hc36) rfl) rfl rfl fun a_142 HE143 => ?_
          refine wpList_nil ?_
          clear a_107 HE108 a_113 HE114 a_115 HE116 a_117 HE118 a_119 HE120 a_121 HE122 a_123 HE124 a_125 HE126 a_127 HE128 a_129 HE130 a_131 HE132 HH112 a_133 HE134 a_138 HE139 a_140 HE141 hK136 K_135
          refine nrm ?_
          refine cnd_nb HE143 rfl (fun hc38 => ?_) (fun hc38 => ?_)
          · refine wp_seq ?_
            refine rg ?_
            refine pl_x HE143 HH137 (wt0 rfl) (show XS _ _ _ _ (.agg #[.int .i64 (0), .slice none (0) 0, .slice none (0) 0]) from x_build (vs := []) tb_53 rfl (by simp [Value.oneCell'])) rfl rfl fun a_144 HE145 => ?_
            refine pl fun K_146 hK147 => ?_
            refine st_store (vs := [.int .i64 (0), .slice none (0) 0, .slice none (0) 0]) 4 HE145 HH137 tv_53 rfl rfl rfl rfl rfl rfl (by simp [Value.oneCell']) (wt0 rfl) fun w' HH148 => hK147 _ _ ?_
            refine pl_x HE145 HH148 (wt0 rfl) (x_assign rfl) rfl rfl fun a_149 HE150 => ?_
            refine wpList_nil ?_
            clear a_142 HE143 HH137 a_144 HE145 hK147 K_146
            refine nrm ?_
            refine wp_ret ?_
            refine (thn_ret ?_)
            refine ret2 HE150 rfl (rv_cell rfl (tv_53.loadN (cs := [.int .i64 (0), .slice none (0) 0, .slice none (0) 0]) rfl (c_blkN 4 rfl _ HH148))) (rv_tmp rfl) ?_
            have HH151 := HH148.flatO (E := eTag) (cs := [.int .i64 (0), .slice none (0) 0, .slice none (0) 0]) (x := (0, [], [])) (fun _ => (oPrN (oI (by exact ⟨by omega, by omega⟩)) (oPrN (oSl (So.nil (Nat.zero_le _))) (oSl (So.nil (Nat.zero_le _))))))
            have hF : (rdTgI a0) = ((0, [], []), false) := by
              rw [← rdTg_eq]; first | (unfold rdTgS; exact if_neg (fun hh => by omega)) | (rw [rdTgS_eq rfl (by omega) (by omega) hz0 hz1 hz2]; first | (rw [if_pos ⟨⟨by assumption, by assumption, by assumption⟩, by assumption⟩]; done) | (exact if_neg (fun hh => ff hh.1.1 (by assumption))) | (exact if_neg (fun hh => ff hh.1.2.1 (by assumption))) | (exact if_neg (fun hh => ff hh.1.2.2 (by assumption))) | (exact if_neg (fun hh => ff hh.2 (by assumption))))
            exact ⟨_, by first | (rw [hF] <;> rfl) | rfl | (rw [hF]; simp only [Ending.returned.injEq, Value.slice.injEq, true_and, and_true]; first | omega | (simp; done)) | (rw [hF]; simp; omega), by rw [hF]; exact (HH151.o (i := 0) rfl), HH151.below⟩
          · refine wp_skip ?_
            refine nrm ?_
            refine wp_seq ?_
            refine rg ?_
            refine pl_x HE143 HH137 (wt0 rfl) (x_loadN (cs := [.int .i64 ((numC y25).1), .slice Ar29_0 ((wordsS y28 200).1.length) cr29_0, .slice Ar32_0 ((letS y31).1.length) cr32_0]) tv_53 rfl rfl (c_blkN 0 rfl)) rfl rfl fun a_152 HE153 => ?_
            refine pl fun K_154 hK155 => ?_
            refine st_store (vs := [.int .i64 ((numC y25).1), .slice Ar29_0 ((wordsS y28 200).1.length) cr29_0, .slice Ar32_0 ((letS y31).1.length) cr32_0]) 4 HE153 HH137 tv_53 rfl rfl rfl rfl rfl rfl (by simp [Value.oneCell']) (wt0 rfl) fun w' HH156 => hK155 _ _ ?_
            refine pl_x HE153 HH156 (wt0 rfl) (x_assign rfl) rfl rfl fun a_157 HE158 => ?_
            refine wpList_nil ?_
            clear a_142 HE143 HH137 a_152 HE153 hK155 K_154
            refine nrm ?_
            refine wp_ret ?_
            refine ret2 HE158 rfl (rv_cell rfl (tv_53.loadN (cs := [.int .i64 ((numC y25).1), .slice Ar29_0 ((wordsS y28 200).1.length) cr29_0, .slice Ar32_0 ((letS y31).1.length) cr32_0]) rfl (c_blkN 4 rfl _ HH156))) (rv_tmp rfl) ?_
            have HH159 := HH156.sel [2, 1, 0, 3, 4] (by decide) rfl
            have HH160 := HH159.sel [1, 0, 2, 3, 4] (by decide) rfl
            have HH161 := HH160.sel [1, 0, 2, 3, 4] (by decide) rfl
            have HH162 := HH161.pair
            have HH163 := HH162.pairF (E := eInt) (c1 := [.int .i64 ((numC y25).1)]) (x := (numC y25).1) (oI (by exact ⟨by omega, by omega⟩))
            obtain ⟨S39, HH164⟩ : ∃ S, Held Nob w (rO eTag S [.int .i64 ((numC y25).1), .slice Ar29_0 ((wordsS y28 200).1.length) cr29_0, .slice Ar32_0 ((letS y31).1.length) cr32_0] ((numC y25).1, (wordsS y28 200).1, (letS y31).1) :: _) _ := ⟨_, HH163⟩
            have hF : (rdTgI a0) = (((numC y25).1, (wordsS y28 200).1, (letS y31).1), true) := by
              rw [← rdTg_eq]; first | (unfold rdTgS; exact if_neg (fun hh => by omega)) | (rw [rdTgS_eq rfl (by omega) (by omega) hz0 hz1 hz2]; first | (rw [if_pos ⟨⟨by assumption, by assumption, by assumption⟩, by assumption⟩]; done) | (exact if_neg (fun hh => ff hh.1.1 (by assumption))) | (exact if_neg (fun hh => ff hh.1.2.1 (by assumption))) | (exact if_neg (fun hh => ff hh.1.2.2 (by assumption))) | (exact if_neg (fun hh => ff hh.2 (by assumption))))
            exact ⟨_, by first | (rw [hF] <;> rfl) | rfl | (rw [hF]; simp only [Ending.returned.injEq, Value.slice.injEq, true_and, and_true]; first | omega | (simp; done)) | (rw [hF]; simp; omega), by rw [hF]; exact (HH164.o (i := 0) rfl), HH164.below⟩
        · refine pl_no HE134 (wtF HE134 rfl rfl rfl (not_t hc36)) rfl rfl fun a_165 HE166 => ?_
          refine pl_no HE166 (wtF HE166 rfl rfl rfl (not_t hc36)) rfl rfl fun a_167 HE168 => ?_
          refine pl_x HE168 HH112 (wt0 rfl) (x_pickT rfl (not_t hc36) rfl) rfl rfl fun a_169 HE170 => ?_
          refine wpList_nil ?_
          clear a_107 HE108 a_113 HE114 a_115 HE116 a_117 HE118 a_119 HE120 a_121 HE122 a_123 HE124 a_125 HE126 a_127 HE128 a_129 HE130 a_131 HE132 a_133 HE134 a_165 HE166 a_167 HE168
          refine nrm ?_
          refine cndT HE170 rfl rfl ?_
          refine wp_seq ?_
          refine rg ?_
          refine pl_x HE170 HH112 (wt0 rfl) (show XS _ _ _ _ (.agg #[.int .i64 (0), .slice none (0) 0, .slice none (0) 0]) from x_build (vs := []) tb_53 rfl (by simp [Value.oneCell'])) rfl rfl fun a_171 HE172 => ?_
          refine pl fun K_173 hK174 => ?_
          refine st_store (vs := [.int .i64 (0), .slice none (0) 0, .slice none (0) 0]) 4 HE172 HH112 tv_53 rfl rfl rfl rfl rfl rfl (by simp [Value.oneCell']) (wt0 rfl) fun w' HH175 => hK174 _ _ ?_
          refine pl_x HE172 HH175 (wt0 rfl) (x_assign rfl) rfl rfl fun a_176 HE177 => ?_
          refine wpList_nil ?_
          clear a_169 HE170 HH112 a_171 HE172 hK174 K_173
          refine nrm ?_
          refine wp_ret ?_
          refine (thn_ret ?_)
          refine ret2 HE177 rfl (rv_cell rfl (tv_53.loadN (cs := [.int .i64 (0), .slice none (0) 0, .slice none (0) 0]) rfl (c_blkN 4 rfl _ HH175))) (rv_tmp rfl) ?_
          have HH178 := HH175.flatO (E := eTag) (cs := [.int .i64 (0), .slice none (0) 0, .slice none (0) 0]) (x := (0, [], [])) (fun _ => (oPrN (oI (by exact ⟨by omega, by omega⟩)) (oPrN (oSl (So.nil (Nat.zero_le _))) (oSl (So.nil (Nat.zero_le _))))))
          have hF : (rdTgI a0) = ((0, [], []), false) := by
            rw [← rdTg_eq]; first | (unfold rdTgS; exact if_neg (fun hh => by omega)) | (rw [rdTgS_eq rfl (by omega) (by omega) hz0 hz1 hz2]; first | (rw [if_pos ⟨⟨by assumption, by assumption, by assumption⟩, by assumption⟩]; done) | (exact if_neg (fun hh => ff hh.1.1 (by assumption))) | (exact if_neg (fun hh => ff hh.1.2.1 (by assumption))) | (exact if_neg (fun hh => ff hh.1.2.2 (by assumption))) | (exact if_neg (fun hh => ff hh.2 (by assumption))))
          exact ⟨_, by first | (rw [hF] <;> rfl) | rfl | (rw [hF]; simp only [Ending.returned.injEq, Value.slice.injEq, true_and, and_true]; first | omega | (simp; done)) | (rw [hF]; simp; omega), by rw [hF]; exact (HH178.o (i := 0) rfl), HH178.below⟩
      · refine pl_no HE126 (wtF HE126 rfl rfl rfl (not_t hc35)) rfl rfl fun a_179 HE180 => ?_
        refine pl_no HE180 (wtF HE180 rfl rfl rfl (not_t hc35)) rfl rfl fun a_181 HE182 => ?_
        refine pl_x HE182 HH112 (wt0 rfl) (x_pickT rfl (not_t hc35) rfl) rfl rfl fun a_183 HE184 => ?_
        refine pl_x HE184 HH112 (wt0 rfl) (x_move rfl) rfl rfl fun a_185 HE186 => ?_
        refine pl_no HE186 (wtF HE186 rfl rfl rfl rfl) rfl rfl fun a_187 HE188 => ?_
        refine pl_no HE188 (wtF HE188 rfl rfl rfl rfl) rfl rfl fun a_189 HE190 => ?_
        refine pl_x HE190 HH112 (wt0 rfl) (x_pickT rfl rfl rfl) rfl rfl fun a_191 HE192 => ?_
        refine wpList_nil ?_
        clear a_107 HE108 a_113 HE114 a_115 HE116 a_117 HE118 a_119 HE120 a_121 HE122 a_123 HE124 a_125 HE126 a_179 HE180 a_181 HE182 a_183 HE184 a_185 HE186 a_187 HE188 a_189 HE190
        refine nrm ?_
        refine cndT HE192 rfl rfl ?_
        refine wp_seq ?_
        refine rg ?_
        refine pl_x HE192 HH112 (wt0 rfl) (show XS _ _ _ _ (.agg #[.int .i64 (0), .slice none (0) 0, .slice none (0) 0]) from x_build (vs := []) tb_53 rfl (by simp [Value.oneCell'])) rfl rfl fun a_193 HE194 => ?_
        refine pl fun K_195 hK196 => ?_
        refine st_store (vs := [.int .i64 (0), .slice none (0) 0, .slice none (0) 0]) 4 HE194 HH112 tv_53 rfl rfl rfl rfl rfl rfl (by simp [Value.oneCell']) (wt0 rfl) fun w' HH197 => hK196 _ _ ?_
        refine pl_x HE194 HH197 (wt0 rfl) (x_assign rfl) rfl rfl fun a_198 HE199 => ?_
        refine wpList_nil ?_
        clear a_191 HE192 HH112 a_193 HE194 hK196 K_195
        refine nrm ?_
        refine wp_ret ?_
        refine (thn_ret ?_)
        refine ret2 HE199 rfl (rv_cell rfl (tv_53.loadN (cs := [.int .i64 (0), .slice none (0) 0, .slice none (0) 0]) rfl (c_blkN 4 rfl _ HH197))) (rv_tmp rfl) ?_
        have HH200 := HH197.flatO (E := eTag) (cs := [.int .i64 (0), .slice none (0) 0, .slice none (0) 0]) (x := (0, [], [])) (fun _ => (oPrN (oI (by exact ⟨by omega, by omega⟩)) (oPrN (oSl (So.nil (Nat.zero_le _))) (oSl (So.nil (Nat.zero_le _))))))
        have hF : (rdTgI a0) = ((0, [], []), false) := by
          rw [← rdTg_eq]; first | (unfold rdTgS; exact if_neg (fun hh => by omega)) | (rw [rdTgS_eq rfl (by omega) (by omega) hz0 hz1 hz2]; first | (rw [if_pos ⟨⟨by assumption, by assumption, by assumption⟩, by assumption⟩]; done) | (exact if_neg (fun hh => ff hh.1.1 (by assumption))) | (exact if_neg (fun hh => ff hh.1.2.1 (by assumption))) | (exact if_neg (fun hh => ff hh.1.2.2 (by assumption))) | (exact if_neg (fun hh => ff hh.2 (by assumption))))
        exact ⟨_, by first | (rw [hF] <;> rfl) | rfl | (rw [hF]; simp only [Ending.returned.injEq, Value.slice.injEq, true_and, and_true]; first | omega | (simp; done)) | (rw [hF]; simp; omega), by rw [hF]; exact (HH200.o (i := 0) rfl), HH200.below⟩
    · refine pl_no HE118 (wtF HE118 rfl rfl rfl (not_t hc34)) rfl rfl fun a_201 HE202 => ?_
      refine pl_no HE202 (wtF HE202 rfl rfl rfl (not_t hc34)) rfl rfl fun a_203 HE204 => ?_
      refine pl_x HE204 HH112 (wt0 rfl) (x_pickT rfl (not_t hc34) rfl) rfl rfl fun a_205 HE206 => ?_
      refine pl_x HE206 HH112 (wt0 rfl) (x_move rfl) rfl rfl fun a_207 HE208 => ?_
      refine pl_no HE208 (wtF HE208 rfl rfl rfl rfl) rfl rfl fun a_209 HE210 => ?_
      refine pl_no HE210 (wtF HE210 rfl rfl rfl rfl) rfl rfl fun a_211 HE212 => ?_
      refine pl_x HE212 HH112 (wt0 rfl) (x_pickT rfl rfl rfl) rfl rfl fun a_213 HE214 => ?_
      refine pl_x HE214 HH112 (wt0 rfl) (x_move rfl) rfl rfl fun a_215 HE216 => ?_
      refine pl_no HE216 (wtF HE216 rfl rfl rfl rfl) rfl rfl fun a_217 HE218 => ?_
      refine pl_no HE218 (wtF HE218 rfl rfl rfl rfl) rfl rfl fun a_219 HE220 => ?_
      refine pl_x HE220 HH112 (wt0 rfl) (x_pickT rfl rfl rfl) rfl rfl fun a_221 HE222 => ?_
      refine wpList_nil ?_
      clear a_107 HE108 a_113 HE114 a_115 HE116 a_117 HE118 a_201 HE202 a_203 HE204 a_205 HE206 a_207 HE208 a_209 HE210 a_211 HE212 a_213 HE214 a_215 HE216 a_217 HE218 a_219 HE220
      refine nrm ?_
      refine cndT HE222 rfl rfl ?_
      refine wp_seq ?_
      refine rg ?_
      refine pl_x HE222 HH112 (wt0 rfl) (show XS _ _ _ _ (.agg #[.int .i64 (0), .slice none (0) 0, .slice none (0) 0]) from x_build (vs := []) tb_53 rfl (by simp [Value.oneCell'])) rfl rfl fun a_223 HE224 => ?_
      refine pl fun K_225 hK226 => ?_
      refine st_store (vs := [.int .i64 (0), .slice none (0) 0, .slice none (0) 0]) 4 HE224 HH112 tv_53 rfl rfl rfl rfl rfl rfl (by simp [Value.oneCell']) (wt0 rfl) fun w' HH227 => hK226 _ _ ?_
      refine pl_x HE224 HH227 (wt0 rfl) (x_assign rfl) rfl rfl fun a_228 HE229 => ?_
      refine wpList_nil ?_
      clear a_221 HE222 HH112 a_223 HE224 hK226 K_225
      refine nrm ?_
      refine wp_ret ?_
      refine (thn_ret ?_)
      refine ret2 HE229 rfl (rv_cell rfl (tv_53.loadN (cs := [.int .i64 (0), .slice none (0) 0, .slice none (0) 0]) rfl (c_blkN 4 rfl _ HH227))) (rv_tmp rfl) ?_
      have HH230 := HH227.flatO (E := eTag) (cs := [.int .i64 (0), .slice none (0) 0, .slice none (0) 0]) (x := (0, [], [])) (fun _ => (oPrN (oI (by exact ⟨by omega, by omega⟩)) (oPrN (oSl (So.nil (Nat.zero_le _))) (oSl (So.nil (Nat.zero_le _))))))
      have hF : (rdTgI a0) = ((0, [], []), false) := by
        rw [← rdTg_eq]; first | (unfold rdTgS; exact if_neg (fun hh => by omega)) | (rw [rdTgS_eq rfl (by omega) (by omega) hz0 hz1 hz2]; first | (rw [if_pos ⟨⟨by assumption, by assumption, by assumption⟩, by assumption⟩]; done) | (exact if_neg (fun hh => ff hh.1.1 (by assumption))) | (exact if_neg (fun hh => ff hh.1.2.1 (by assumption))) | (exact if_neg (fun hh => ff hh.1.2.2 (by assumption))) | (exact if_neg (fun hh => ff hh.2 (by assumption))))
      exact ⟨_, by first | (rw [hF] <;> rfl) | rfl | (rw [hF]; simp only [Ending.returned.injEq, Value.slice.injEq, true_and, and_true]; first | omega | (simp; done)) | (rw [hF]; simp; omega), by rw [hF]; exact (HH230.o (i := 0) rfl), HH230.below⟩

open Go.Lib in
set_option maxRecDepth 100000 in
set_option maxHeartbeats 4000000 in
theorem spec_ReadTag (a0 : List UInt8) (w : World) (s0 : a0.length ≤ 2000000) :
    Calls Tryz.prog 26 #[.string (bs a0)] w fun e w' => ∃ (es0' : List Value), e = .returned (.tuple #[.agg es0'.toArray, .bool (rdTgI a0).2]) ∧ eTag.O w' (Fr w w') es0' (rdTgI a0).1 ∧ Below w.heap.size w w' := by
  have HH1 := Held.start Nob w
  refine enter (n := 8) Tryz.func26 rfl rfl rfl fun a_2 HE3 => ?_
  refine wp_seq ?_
  refine rg ?_
  refine pl fun K_4 hK5 => ?_
  refine st_alloc HE3 HH1 tv_53 (wt0 rfl) rfl fun q21 a_6 w' HE7 HH8 => hK5 _ _ ?_
  refine pl_x HE7 HH8 (wt0 rfl) (x_assign rfl) rfl rfl fun a_9 HE10 => ?_
  refine wpList_nil ?_
  clear a_2 HE3 HH1 a_6 HE7 hK5 K_4
  refine nrm ?_
  refine wp_seq ?_
  refine rg ?_
  refine pl_x HE10 HH8 (wt0 rfl) (x_move rfl) rfl rfl fun a_11 HE12 => ?_
  refine pl fun K_13 hK14 => ?_
  refine st_call HE12 (wt0 rfl) rfl rfl rfl en_77 rfl rfl (spec_l09Read a0 _ (by omega)) fun e w' hr => ?_
  obtain ⟨esr22_0, rfl, hor22_0, hbr22⟩ := hr
  have hr := eTag.read hor22_0
  obtain ⟨Sr22, HH15⟩ := HH8.newO hbr22 hor22_0
  obtain ⟨Ar22_0_1, cr22_0_1, Ar22_0_2, cr22_0_2, rfl, gr22_0_0, gr22_0_1, gr22_0_2⟩ := shape_Tag hr
  have jr22_0_0 := gr22_0_0; unfold I64 at jr22_0_0
  have HH16 := HH15.unF rfl
  obtain ⟨S23, S24, HH17⟩ := HH16.unP rfl
  have HH18 := HH17.sel [1, 0, 2] (by decide) rfl
  refine ⟨_, rfl, fun a_19 HE20 => hK14 _ _ ?_⟩
  refine pl_x HE20 HH18 (wt0 rfl) (x_extract rfl rfl) rfl rfl fun a_21 HE22 => ?_
  refine pl_x HE22 HH18 (wt0 rfl) (x_extract rfl rfl) rfl rfl fun a_23 HE24 => ?_
  refine pl fun K_25 hK26 => ?_
  refine st_store (vs := [.int .i64 ((rdTgI a0).1.1), .slice Ar22_0_1 ((rdTgI a0).1.2.1.length) cr22_0_1, .slice Ar22_0_2 ((rdTgI a0).1.2.2.length) cr22_0_2]) 2 HE24 HH18 tv_53 rfl rfl rfl rfl rfl rfl (by simp [Value.oneCell']) (wt0 rfl) fun w' HH27 => hK26 _ _ ?_
  refine pl_x HE24 HH27 (wt0 rfl) (x_assign rfl) rfl rfl fun a_28 HE29 => ?_
  refine wpList_nil ?_
  clear a_9 HE10 HH8 HH15 HH16 HH17 a_11 HE12 a_19 HE20 a_21 HE22 K_13 hK14 HH18 a_23 HE24 hK26 K_25
  refine nrm ?_
  refine wp_ret ?_
  refine ret2 HE29 rfl (rv_cell rfl (tv_53.loadN (cs := [.int .i64 ((rdTgI a0).1.1), .slice Ar22_0_1 ((rdTgI a0).1.2.1.length) cr22_0_1, .slice Ar22_0_2 ((rdTgI a0).1.2.2.length) cr22_0_2]) rfl (c_blkN 2 rfl _ HH27))) (rv_tmp rfl) ?_
  have HH30 := HH27.sel [1, 0, 2] (by decide) rfl
  have HH31 := HH30.sel [1, 0, 2] (by decide) rfl
  have HH32 := HH31.sel [1, 0, 2] (by decide) rfl
  have HH33 := HH32.pair
  have HH34 := HH33.pairF (E := eInt) (c1 := [.int .i64 ((rdTgI a0).1.1)]) (x := (rdTgI a0).1.1) (oI (by exact ⟨by omega, by omega⟩))
  obtain ⟨S25, HH35⟩ : ∃ S, Held Nob w (rO eTag S [.int .i64 ((rdTgI a0).1.1), .slice Ar22_0_1 ((rdTgI a0).1.2.1.length) cr22_0_1, .slice Ar22_0_2 ((rdTgI a0).1.2.2.length) cr22_0_2] ((rdTgI a0).1) :: _) _ := ⟨_, HH34⟩
  have hF : (rdTgI a0) = ((rdTgI a0).1, (rdTgI a0).2) := by
    rfl
  exact ⟨_, by first | (rw [hF] <;> rfl) | rfl | (rw [hF]; simp only [Ending.returned.injEq, Value.slice.injEq, true_and, and_true]; first | omega | (simp; done)) | (rw [hF]; simp; omega), by rw [hF]; exact (HH35.o (i := 0) rfl), HH35.below⟩

open Go.Lib in
set_option maxRecDepth 100000 in
set_option maxHeartbeats 4000000 in
theorem law_ReadTag (a0 : List UInt8) (w : World) (h0 : a0.length ≤ 9223372036854775807) (hG : Glob2 w) :
    Calls Tryz.prog 5 #[.string (bs a0)] w fun e w' => e = .returned (.bool true) ∧ Below w.heap.size w w' := by
  have n0 : (cv_Tag (rdTgI a0).1 : Int) ≤ 1000000000 := rdTg_ct a0
  have HH1 := Held.start Nob w
  refine enter (n := 66) Tryz.func5 rfl rfl rfl fun a_2 HE3 => ?_
  refine wp_seq ?_
  refine rg ?_
  refine pl_x HE3 HH1 (wt0 rfl) (x_assign rfl) rfl rfl fun a_4 HE5 => ?_
  refine wpList_nil ?_
  clear a_2 HE3
  refine nrm ?_
  refine wp_seq ?_
  refine wp_seq ?_
  refine rg ?_
  refine pl_x HE5 HH1 (wt0 rfl) (x_move rfl) rfl rfl fun a_6 HE7 => ?_
  refine pl_x HE7 HH1 (wt0 rfl) (x_lenB Tryz.underlying9 rfl) rfl rfl fun a_8 HE9 => ?_
  refine pl_x HE9 HH1 (wt0 rfl) (x_gtr rfl rfl) rfl rfl fun a_10 HE11 => ?_
  refine wpList_nil ?_
  clear a_4 HE5 a_6 HE7 a_8 HE9
  refine nrm ?_
  refine cnd_d HE11 rfl (fun hc21 => ?_) (fun hc21 => ?_)
  · refine wp_seq ?_
    refine rg ?_
    refine pl_x HE11 HH1 (wt0 rfl) (x_assign rfl) rfl rfl fun a_12 HE13 => ?_
    refine wpList_nil ?_
    clear a_10 HE11
    refine nrm ?_
    refine wp_ret ?_
    refine (thn_ret ?_)
    refine ret1 HE13 rfl (rv_tmp rfl) ?_
    have hF : true = true := by
      first | rfl | (exfalso; omega)
    exact ⟨by first | (rw [hF] <;> rfl) | rfl | (rw [hF]; simp only [Ending.returned.injEq, Value.slice.injEq, true_and, and_true]; first | omega | (simp; done)) | (rw [hF]; simp; omega), HH1.below⟩
  · refine wp_skip ?_
    refine nrm ?_
    refine wp_seq ?_
    refine rg ?_
    refine pl_x HE11 HH1 (wt0 rfl) (x_move rfl) rfl rfl fun a_14 HE15 => ?_
    refine pl fun K_16 hK17 => ?_
    refine st_call HE15 (wt0 rfl) rfl rfl rfl en_26 rfl rfl (spec_ReadTag a0 _ (by omega)) fun e w' hr => ?_
    obtain ⟨esr22_0, rfl, hor22_0, hbr22⟩ := hr
    have hr := eTag.read hor22_0
    obtain ⟨Sr22, HH18⟩ := HH1.newO hbr22 hor22_0
    obtain ⟨Ar22_0_1, cr22_0_1, Ar22_0_2, cr22_0_2, rfl, gr22_0_0, gr22_0_1, gr22_0_2⟩ := shape_Tag hr
    have jr22_0_0 := gr22_0_0; unfold I64 at jr22_0_0
    refine ⟨_, rfl, fun a_19 HE20 => hK17 _ _ ?_⟩
    refine pl_x HE20 HH18 (wt0 rfl) (x_move rfl) rfl rfl fun a_21 HE22 => ?_
    refine pl_x HE22 HH18 (wt0 rfl) (x_extract rfl rfl) rfl rfl fun a_23 HE24 => ?_
    refine pl_x HE24 HH18 (wt0 rfl) (x_extract rfl rfl) rfl rfl fun a_25 HE26 => ?_
    refine pl fun K_27 hK28 => ?_
    refine st_alloc HE26 HH18 tv_53 (wt0 rfl) rfl fun q23 a_29 w' HE30 HH31 => hK28 _ _ ?_
    refine pl fun K_32 hK33 => ?_
    refine st_store (vs := [.int .i64 ((rdTgI a0).1.1), .slice Ar22_0_1 ((rdTgI a0).1.2.1.length) cr22_0_1, .slice Ar22_0_2 ((rdTgI a0).1.2.2.length) cr22_0_2]) 0 HE30 HH31 tv_53 rfl rfl rfl rfl rfl rfl (by simp [Value.oneCell']) (wt0 rfl) fun w' HH34 => hK33 _ _ ?_
    refine pl_x HE30 HH34 (wt0 rfl) (x_assign rfl) rfl rfl fun a_35 HE36 => ?_
    refine wpList_nil ?_
    clear a_10 HE11 HH1 a_14 HE15 a_19 HE20 a_21 HE22 a_23 HE24 K_16 hK17 a_25 HE26 HH18 K_27 hK28 HH31 a_29 HE30 hK33 K_32
    refine nrm ?_
    refine wp_seq ?_
    refine rg ?_
    refine pl_x HE36 HH34 (wt0 rfl) (x_move rfl) rfl rfl fun a_37 HE38 => ?_
    refine pl fun K_39 hK40 => ?_
    refine st_call HE38 (wt0 rfl) rfl rfl rfl en_27 rfl rfl (impl_ReadTag a0 _ (HH34.glob2 hG) (by omega)) fun e w' hr => ?_
    obtain ⟨esr24_0, rfl, hor24_0, hbr24⟩ := hr
    have hr := eTag.read hor24_0
    obtain ⟨Sr24, HH41⟩ := HH34.newO hbr24 hor24_0
    obtain ⟨Ar24_0_1, cr24_0_1, Ar24_0_2, cr24_0_2, rfl, gr24_0_0, gr24_0_1, gr24_0_2⟩ := shape_Tag hr
    have jr24_0_0 := gr24_0_0; unfold I64 at jr24_0_0
    refine ⟨_, rfl, fun a_42 HE43 => hK40 _ _ ?_⟩
    refine pl_x HE43 HH41 (wt0 rfl) (x_move rfl) rfl rfl fun a_44 HE45 => ?_
    refine pl_x HE45 HH41 (wt0 rfl) (x_extract rfl rfl) rfl rfl fun a_46 HE47 => ?_
    refine pl_x HE47 HH41 (wt0 rfl) (x_extract rfl rfl) rfl rfl fun a_48 HE49 => ?_
    refine pl fun K_50 hK51 => ?_
    refine st_alloc HE49 HH41 tv_53 (wt0 rfl) rfl fun q25 a_52 w' HE53 HH54 => hK51 _ _ ?_
    refine pl fun K_55 hK56 => ?_
    refine st_store (vs := [.int .i64 ((rdTgI a0).1.1), .slice Ar24_0_1 ((rdTgI a0).1.2.1.length) cr24_0_1, .slice Ar24_0_2 ((rdTgI a0).1.2.2.length) cr24_0_2]) 0 HE53 HH54 tv_53 rfl rfl rfl rfl rfl rfl (by simp [Value.oneCell']) (wt0 rfl) fun w' HH57 => hK56 _ _ ?_
    refine pl_x HE53 HH57 (wt0 rfl) (x_assign rfl) rfl rfl fun a_58 HE59 => ?_
    refine wpList_nil ?_
    clear a_35 HE36 HH34 a_37 HE38 a_42 HE43 a_44 HE45 a_46 HE47 K_39 hK40 a_48 HE49 HH41 K_50 hK51 HH54 a_52 HE53 hK56 K_55
    refine nrm ?_
    refine wp_seq ?_
    refine wp_seq ?_
    refine rg ?_
    refine pl_x HE59 HH57 (wt0 rfl) (x_loadN (cs := [.int .i64 ((rdTgI a0).1.1), .slice Ar24_0_1 ((rdTgI a0).1.2.1.length) cr24_0_1, .slice Ar24_0_2 ((rdTgI a0).1.2.2.length) cr24_0_2]) tv_53 rfl rfl (c_blkN 0 rfl)) rfl rfl fun a_60 HE61 => ?_
    refine pl_x HE61 HH57 (wt0 rfl) (x_loadN (cs := [.int .i64 ((rdTgI a0).1.1), .slice Ar22_0_1 ((rdTgI a0).1.2.1.length) cr22_0_1, .slice Ar22_0_2 ((rdTgI a0).1.2.2.length) cr22_0_2]) tv_53 rfl rfl (c_blkN 2 rfl)) rfl rfl fun a_62 HE63 => ?_
    refine pl fun K_64 hK65 => ?_
    refine st_call HE63 (wt0 rfl) rfl rfl rfl en_28 rfl rfl (eq_Tag_c [.int .i64 ((rdTgI a0).1.1), .slice Ar24_0_1 ((rdTgI a0).1.2.1.length) cr24_0_1, .slice Ar24_0_2 ((rdTgI a0).1.2.2.length) cr24_0_2] [.int .i64 ((rdTgI a0).1.1), .slice Ar22_0_1 ((rdTgI a0).1.2.1.length) cr22_0_1, .slice Ar22_0_2 ((rdTgI a0).1.2.2.length) cr22_0_2] ((rdTgI a0).1) ((rdTgI a0).1) _ (HH57.rd (i := 1) rfl) (HH57.rd (i := 3) rfl)) fun e w' hr => ?_
    obtain ⟨rfl, hbr26⟩ := hr
    have HH66 := HH57.on hbr26
    clear hbr26
    refine ⟨_, rfl, fun a_67 HE68 => hK65 _ _ ?_⟩
    refine pl_x HE68 HH66 (wt0 rfl) (x_not rfl) rfl rfl fun a_69 HE70 => ?_
    refine pl_x HE70 HH66 (wt0 rfl) (x_move rfl) rfl rfl fun a_71 HE72 => ?_
    refine pl_x HE72 HH66 (wtT HE72 rfl rfl rfl (not_f (eq_Tag_refl _))) (x_move rfl) rfl rfl fun a_73 HE74 => ?_
    refine pl_x HE74 HH66 (wtT HE74 rfl rfl rfl (not_f (eq_Tag_refl _))) (x_move rfl) rfl rfl fun a_75 HE76 => ?_
    refine pl_x HE76 HH66 (wtT HE76 rfl rfl rfl (not_f (eq_Tag_refl _))) (x_bneq Tryz.underlying4 rfl rfl) rfl rfl fun a_77 HE78 => ?_
    refine pl_x HE78 HH66 (wt0 rfl) (x_pickF rfl (not_f (eq_Tag_refl _)) rfl) rfl rfl fun a_79 HE80 => ?_
    refine wpList_nil ?_
    clear a_58 HE59 a_60 HE61 HH57 a_62 HE63 a_67 HE68 a_69 HE70 a_71 HE72 a_73 HE74 a_75 HE76 a_77 HE78 hK65 K_64
    refine nrm ?_
    refine cndF HE80 rfl (not_f (beq_self_eq_true _)) ?_
    refine wp_skip ?_
    refine nrm ?_
    refine wp_seq ?_
    refine rg ?_
    refine pl_x HE80 HH66 (wt0 rfl) (x_assign rfl) rfl rfl fun a_81 HE82 => ?_
    refine wpList_nil ?_
    clear a_79 HE80
    refine nrm ?_
    refine wp_seq ?_
    refine rg ?_
    refine pl_x HE82 HH66 (wt0 rfl) (x_loadN (cs := [.int .i64 ((rdTgI a0).1.1), .slice Ar24_0_1 ((rdTgI a0).1.2.1.length) cr24_0_1, .slice Ar24_0_2 ((rdTgI a0).1.2.2.length) cr24_0_2]) tv_53 rfl rfl (c_blkN 0 rfl)) rfl rfl fun a_83 HE84 => ?_
    refine pl_x HE84 HH66 (wt0 rfl) (x_move rfl) rfl rfl fun a_85 HE86 => ?_
    refine pl fun K_87 hK88 => ?_
    refine st_call HE86 (wt0 rfl) rfl rfl rfl en_29 rfl rfl (mark_Tag_c [.int .i64 ((rdTgI a0).1.1), .slice Ar24_0_1 ((rdTgI a0).1.2.1.length) cr24_0_1, .slice Ar24_0_2 ((rdTgI a0).1.2.2.length) cr24_0_2] ((rdTgI a0).1) 1 _ _ (HH66.get (i := 1) rfl) (HH66.lt (i := 1) rfl) (by omega) (by omega)) fun e w' hr => ?_
    obtain ⟨rfl, hsr27, hcr27⟩ := hr
    have HH89 := HH66.mut (i := 1) rfl hcr27 (rO eTag Sr24 [.int .i64 ((rdTgI a0).1.1), .slice Ar24_0_1 ((rdTgI a0).1.2.1.length) cr24_0_1, .slice Ar24_0_2 ((rdTgI a0).1.2.2.length) cr24_0_2] (mv_Tag ((rdTgI a0).1) 1)) hsr27 (fun b hb => .inl hb)
    clear hsr27 hcr27
    refine ⟨_, rfl, fun a_90 HE91 => hK88 _ _ ?_⟩
    refine pl_x HE91 HH89 (wt0 rfl) (x_assign rfl) rfl rfl fun a_92 HE93 => ?_
    refine wpList_nil ?_
    clear a_81 HE82 a_83 HE84 HH66 a_85 HE86 a_90 HE91 hK88 K_87
    refine nrm ?_
    refine wp_seq ?_
    refine rg ?_
    refine pl_x HE93 HH89 (wt0 rfl) (x_assign rfl) rfl rfl fun a_94 HE95 => ?_
    refine wpList_nil ?_
    clear a_92 HE93
    refine nrm ?_
    refine wp_seq ?_
    refine rg ?_
    refine pl_x HE95 HH89 (wt0 rfl) (x_loadN (cs := [.int .i64 ((rdTgI a0).1.1), .slice Ar24_0_1 ((rdTgI a0).1.2.1.length) cr24_0_1, .slice Ar24_0_2 ((rdTgI a0).1.2.2.length) cr24_0_2]) tv_53 rfl rfl (c_blkN 0 rfl)) rfl rfl fun a_96 HE97 => ?_
    refine pl_x HE97 HH89 (wt0 rfl) (x_move rfl) rfl rfl fun a_98 HE99 => ?_
    refine pl fun K_100 hK101 => ?_
    refine st_call HE99 (wt0 rfl) rfl rfl rfl en_30 rfl rfl (held_Tag_c [.int .i64 ((rdTgI a0).1.1), .slice Ar24_0_1 ((rdTgI a0).1.2.1.length) cr24_0_1, .slice Ar24_0_2 ((rdTgI a0).1.2.2.length) cr24_0_2] ((rdTgI a0).1) 1 _ (HH89.rd (i := 1) rfl) (by omega) (by omega)) fun e w' hr => ?_
    obtain ⟨rfl, hbr28⟩ := hr
    have HH102 := HH89.on hbr28
    clear hbr28
    refine ⟨_, rfl, fun a_103 HE104 => hK101 _ _ ?_⟩
    refine pl_x HE104 HH102 (wt0 rfl) (x_assign rfl) rfl rfl fun a_105 HE106 => ?_
    refine wpList_nil ?_
    clear a_94 HE95 a_96 HE97 HH89 a_98 HE99 a_103 HE104 hK101 K_100
    refine nrm ?_
    refine wp_seq ?_
    refine wp_seq ?_
    refine rg ?_
    refine pl_x HE106 HH102 (wt0 rfl) (x_move rfl) rfl rfl fun a_107 HE108 => ?_
    refine pl_x HE108 HH102 (wt0 rfl) (x_lss rfl rfl) rfl rfl fun a_109 HE110 => ?_
    refine wpList_nil ?_
    clear a_105 HE106 a_107 HE108
    refine nrm ?_
    refine cnd_d HE110 rfl (fun hc29 => ?_) (fun hc29 => ?_)
    · refine wp_seq ?_
      refine rg ?_
      refine pl_x HE110 HH102 (wt0 rfl) (x_assign rfl) rfl rfl fun a_111 HE112 => ?_
      refine wpList_nil ?_
      clear a_109 HE110
      refine nrm ?_
      refine wp_ret ?_
      refine (thn_ret ?_)
      refine ret1 HE112 rfl (rv_tmp rfl) ?_
      have hF : true = false := by
        first | rfl | (exfalso; omega)
      exact ⟨by first | (rw [hF] <;> rfl) | rfl | (rw [hF]; simp only [Ending.returned.injEq, Value.slice.injEq, true_and, and_true]; first | omega | (simp; done)) | (rw [hF]; simp; omega), HH102.below⟩
    · refine wp_skip ?_
      refine nrm ?_
      refine wp_seq ?_
      refine wp_seq ?_
      refine rg ?_
      refine pl_x HE110 HH102 (wt0 rfl) (x_move rfl) rfl rfl fun a_113 HE114 => ?_
      refine pl_x HE114 HH102 (wt0 rfl) (x_move rfl) rfl rfl fun a_115 HE116 => ?_
      refine pl_x HE116 HH102 (wt0 rfl) (x_neq rfl rfl) rfl rfl fun a_117 HE118 => ?_
      refine wpList_nil ?_
      clear a_109 HE110 a_113 HE114 a_115 HE116
      refine nrm ?_
      refine cndF HE118 rfl (bne_f rfl) ?_
      refine wp_skip ?_
      refine nrm ?_
      refine wp_seq ?_
      refine rg ?_
      refine pl_x HE118 HH102 (wt0 rfl) (x_move rfl) rfl rfl fun a_119 HE120 => ?_
      refine pl fun K_121 hK122 => ?_
      refine st_call HE120 (wt0 rfl) rfl rfl rfl en_27 rfl rfl (impl_ReadTag a0 _ (HH102.glob2 hG) (by omega)) fun e w' hr => ?_
      obtain ⟨esr30_0, rfl, hor30_0, hbr30⟩ := hr
      have hr := eTag.read hor30_0
      obtain ⟨Sr30, HH123⟩ := HH102.newO hbr30 hor30_0
      obtain ⟨Ar30_0_1, cr30_0_1, Ar30_0_2, cr30_0_2, rfl, gr30_0_0, gr30_0_1, gr30_0_2⟩ := shape_Tag hr
      have jr30_0_0 := gr30_0_0; unfold I64 at jr30_0_0
      refine ⟨_, rfl, fun a_124 HE125 => hK122 _ _ ?_⟩
      refine pl_x HE125 HH123 (wt0 rfl) (x_move rfl) rfl rfl fun a_126 HE127 => ?_
      refine pl_x HE127 HH123 (wt0 rfl) (x_extract rfl rfl) rfl rfl fun a_128 HE129 => ?_
      refine pl_x HE129 HH123 (wt0 rfl) (x_extract rfl rfl) rfl rfl fun a_130 HE131 => ?_
      refine pl fun K_132 hK133 => ?_
      refine st_alloc HE131 HH123 tv_53 (wt0 rfl) rfl fun q31 a_134 w' HE135 HH136 => hK133 _ _ ?_
      refine pl fun K_137 hK138 => ?_
      refine st_store (vs := [.int .i64 ((rdTgI a0).1.1), .slice Ar30_0_1 ((rdTgI a0).1.2.1.length) cr30_0_1, .slice Ar30_0_2 ((rdTgI a0).1.2.2.length) cr30_0_2]) 0 HE135 HH136 tv_53 rfl rfl rfl rfl rfl rfl (by simp [Value.oneCell']) (wt0 rfl) fun w' HH139 => hK138 _ _ ?_
      refine pl_x HE135 HH139 (wt0 rfl) (x_assign rfl) rfl rfl fun a_140 HE141 => ?_
      refine wpList_nil ?_
      clear a_117 HE118 HH102 a_119 HE120 a_124 HE125 a_126 HE127 a_128 HE129 K_121 hK122 a_130 HE131 HH123 K_132 hK133 HH136 a_134 HE135 hK138 K_137
      refine nrm ?_
      refine wp_seq ?_
      refine wp_seq ?_
      refine rg ?_
      refine pl_x HE141 HH139 (wt0 rfl) (x_loadN (cs := [.int .i64 ((rdTgI a0).1.1), .slice Ar30_0_1 ((rdTgI a0).1.2.1.length) cr30_0_1, .slice Ar30_0_2 ((rdTgI a0).1.2.2.length) cr30_0_2]) tv_53 rfl rfl (c_blkN 0 rfl)) rfl rfl fun a_142 HE143 => ?_
      refine pl_x HE143 HH139 (wt0 rfl) (x_loadN (cs := [.int .i64 ((rdTgI a0).1.1), .slice Ar22_0_1 ((rdTgI a0).1.2.1.length) cr22_0_1, .slice Ar22_0_2 ((rdTgI a0).1.2.2.length) cr22_0_2]) tv_53 rfl rfl (c_blkN 4 rfl)) rfl rfl fun a_144 HE145 => ?_
      refine pl fun K_146 hK147 => ?_
      refine st_call HE145 (wt0 rfl) rfl rfl rfl en_28 rfl rfl (eq_Tag_c [.int .i64 ((rdTgI a0).1.1), .slice Ar30_0_1 ((rdTgI a0).1.2.1.length) cr30_0_1, .slice Ar30_0_2 ((rdTgI a0).1.2.2.length) cr30_0_2] [.int .i64 ((rdTgI a0).1.1), .slice Ar22_0_1 ((rdTgI a0).1.2.1.length) cr22_0_1, .slice Ar22_0_2 ((rdTgI a0).1.2.2.length) cr22_0_2] ((rdTgI a0).1) ((rdTgI a0).1) _ (HH139.rd (i := 1) rfl) (HH139.rd (i := 5) rfl)) fun e w' hr => ?_
      obtain ⟨rfl, hbr32⟩ := hr
      have HH148 := HH139.on hbr32
      clear hbr32
      refine ⟨_, rfl, fun a_149 HE150 => hK147 _ _ ?_⟩
      refine pl_x HE150 HH148 (wt0 rfl) (x_not rfl) rfl rfl fun a_151 HE152 => ?_
      refine pl_x HE152 HH148 (wt0 rfl) (x_move rfl) rfl rfl fun a_153 HE154 => ?_
      refine pl_x HE154 HH148 (wtT HE154 rfl rfl rfl (not_f (eq_Tag_refl _))) (x_move rfl) rfl rfl fun a_155 HE156 => ?_
      refine pl_x HE156 HH148 (wtT HE156 rfl rfl rfl (not_f (eq_Tag_refl _))) (x_move rfl) rfl rfl fun a_157 HE158 => ?_
      refine pl_x HE158 HH148 (wtT HE158 rfl rfl rfl (not_f (eq_Tag_refl _))) (x_bneq Tryz.underlying4 rfl rfl) rfl rfl fun a_159 HE160 => ?_
      refine pl_x HE160 HH148 (wt0 rfl) (x_pickF rfl (not_f (eq_Tag_refl _)) rfl) rfl rfl fun a_161 HE162 => ?_
      refine wpList_nil ?_
      clear a_140 HE141 a_142 HE143 HH139 a_144 HE145 a_149 HE150 a_151 HE152 a_153 HE154 a_155 HE156 a_157 HE158 a_159 HE160 hK147 K_146
      refine nrm ?_
      refine cndF HE162 rfl (not_f (beq_self_eq_true _)) ?_
      refine wp_skip ?_
      refine nrm ?_
      refine wp_seq ?_
      refine rg ?_
      refine pl_x HE162 HH148 (wt0 rfl) (x_assign rfl) rfl rfl fun a_163 HE164 => ?_
      refine wpList_nil ?_
      clear a_161 HE162
      refine nrm ?_
      refine wp_seq ?_
      refine rg ?_
      refine pl_x HE164 HH148 (wt0 rfl) (x_loadN (cs := [.int .i64 ((rdTgI a0).1.1), .slice Ar24_0_1 ((rdTgI a0).1.2.1.length) cr24_0_1, .slice Ar24_0_2 ((rdTgI a0).1.2.2.length) cr24_0_2]) tv_53 rfl rfl (c_blkN 2 rfl)) rfl rfl fun a_165 HE166 => ?_
      refine pl_x HE166 HH148 (wt0 rfl) (x_move rfl) rfl rfl fun a_167 HE168 => ?_
      refine pl fun K_169 hK170 => ?_
      refine st_call HE168 (wt0 rfl) rfl rfl rfl en_30 rfl rfl (held_Tag_c [.int .i64 ((rdTgI a0).1.1), .slice Ar24_0_1 ((rdTgI a0).1.2.1.length) cr24_0_1, .slice Ar24_0_2 ((rdTgI a0).1.2.2.length) cr24_0_2] ((rdTgI a0).1) 1 _ (HH148.rd (i := 3) rfl) (by omega) (by omega)) fun e w' hr => ?_
      obtain ⟨rfl, hbr33⟩ := hr
      have HH171 := HH148.on hbr33
      clear hbr33
      refine ⟨_, rfl, fun a_172 HE173 => hK170 _ _ ?_⟩
      refine pl_x HE173 HH171 (wt0 rfl) (x_assign rfl) rfl rfl fun a_174 HE175 => ?_
      refine wpList_nil ?_
      clear a_163 HE164 a_165 HE166 HH148 a_167 HE168 a_172 HE173 hK170 K_169
      refine nrm ?_
      refine wp_seq ?_
      refine wp_seq ?_
      refine rg ?_
      refine pl_x HE175 HH171 (wt0 rfl) (x_move rfl) rfl rfl fun a_176 HE177 => ?_
      refine pl_x HE177 HH171 (wt0 rfl) (x_lss rfl rfl) rfl rfl fun a_178 HE179 => ?_
      refine wpList_nil ?_
      clear a_174 HE175 a_176 HE177
      refine nrm ?_
      refine cndF HE179 rfl (decide_eq_false hc29) ?_
      refine wp_skip ?_
      refine nrm ?_
      refine wp_seq ?_
      refine wp_seq ?_
      refine rg ?_
      refine pl_x HE179 HH171 (wt0 rfl) (x_move rfl) rfl rfl fun a_180 HE181 => ?_
      refine pl_x HE181 HH171 (wt0 rfl) (x_move rfl) rfl rfl fun a_182 HE183 => ?_
      refine pl_x HE183 HH171 (wt0 rfl) (x_neq rfl rfl) rfl rfl fun a_184 HE185 => ?_
      refine wpList_nil ?_
      clear a_178 HE179 a_180 HE181 a_182 HE183
      refine nrm ?_
      refine cndF HE185 rfl (bne_f rfl) ?_
      refine wp_skip ?_
      refine nrm ?_
      refine wp_seq ?_
      refine rg ?_
      refine pl_x HE185 HH171 (wt0 rfl) (x_assign rfl) rfl rfl fun a_186 HE187 => ?_
      refine wpList_nil ?_
      clear a_184 HE185
      refine nrm ?_
      refine wp_ret ?_
      refine ret1 HE187 rfl (rv_tmp rfl) ?_
      have hF : true = true := by
        first | rfl | (exfalso; omega)
      exact ⟨by first | (rw [hF] <;> rfl) | rfl | (rw [hF]; simp only [Ending.returned.injEq, Value.slice.injEq, true_and, and_true]; first | omega | (simp; done)) | (rw [hF]; simp; omega), HH171.below⟩

end Go.Proofs.YtcfdkckchbdafaaGreatDoor
