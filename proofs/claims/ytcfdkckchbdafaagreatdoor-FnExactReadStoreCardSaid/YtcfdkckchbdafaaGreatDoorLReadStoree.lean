/- What the proof of FnExactReadStore needs: contracts of the functions that it reaches, each once. -/
import Derived.Test.YtcfdkckchbdafaaGreatDoorProg
import Derived.Test.YtcfdkckchbdafaaGreatDoorQMem
import Derived.Test.YtcfdkckchbdafaaGreatDoorQOpen
import Derived.Test.YtcfdkckchbdafaaGreatDoorLReadStorea
import Derived.Test.YtcfdkckchbdafaaGreatDoorLReadStoreb
import Derived.Test.YtcfdkckchbdafaaGreatDoorLReadStorec
import Derived.Test.YtcfdkckchbdafaaGreatDoorLReadStored
import Derived.WalkKit
import Derived.WalkSpells
import Derived.Below
import Derived.LoopTactic
import Derived.Outline
import Derived.Deep.QuietTactic
import Derived.BigQuiet
import Derived.Deep.LoopGhost
import Derived.Handy
import Derived.Lib.Hide
import Derived.Shelf.Abstract
import Derived.StillTailTactics
import Derived.OwnWalk
import Derived.Maps.AppendAt
import Derived.RegionTactic
import Derived.Deep.RegionHeld3
import Derived.IntWalk
import Derived.Deep.Upon
import Derived.Laws.OwnMore
import Derived.Maps.AppendAt
import Derived.Laws.BytesString
import Derived.Laws.Strings
import Derived.Lib.Bytes
import Derived.Lib.Strings
import Derived.Lib.FrozenHead
import Derived.Lib.RuneBytes
import Derived.Lib.LaidTab
import Derived.Laws.StructEq
import Derived.Lib.ItoaLen
import Derived.Lib.Join
import Derived.Shelf.Strconv.Itoa4
import Derived.Shelf.Strings.OnBuilder
import Derived.Shelf.Strings.BuilderK
import Derived.Shelf.Strings.BuilderRune
import Derived.Shelf.LaysM
import Derived.Ground.NamesProg
import Derived.Lib.ParseIntBTie
import Derived.Lib.SplitLaws
import Derived.Lib.Replace
import Derived.Shelf.LaysC
import Derived.Shelf.Strconv.ErrVarParseInt
import Derived.Shelf.Strconv.ParseIntPublic10
import Derived.Shelf.Strings.Prefix
import Derived.Shelf.Strings.Cut
import Derived.Shelf.Strings.Split
import Derived.Shelf.Strings.Replace
import Derived.Shelf.Small.Wraps
import Derived.Stop.IfaceNil
namespace Go.Proofs.YtcfdkckchbdafaaGreatDoor
open Go.RowKit

open Go.Lib in
set_option maxRecDepth 100000 in
set_option maxHeartbeats 4000000 in
theorem spec_ReadList (a0 : List UInt8) (w : World) (s0 : a0.length ≤ 2000000) :
    Calls Tryz.prog 66 #[.string (bs a0)] w fun e w' => ∃ (A0' : Option Addr) (c0' : Nat), e = .returned (.tuple #[.slice A0' (rdLsI a0).1.length c0', .bool (rdLsI a0).2]) ∧ So eInt w' (Fr w w') A0' c0' (rdLsI a0).1 ∧ Below w.heap.size w w' := by
  have HH1 := Held.start Nob w
  refine enter (n := 44) Tryz.func66 rfl rfl rfl fun a_2 HE3 => ?_
  refine wp_seq ?_
  refine rg ?_
  refine pl_x HE3 HH1 (wt0 rfl) (x_assign rfl) rfl rfl fun a_4 HE5 => ?_
  refine pl_x HE5 HH1 (wt0 rfl) (x_assign rfl) rfl rfl fun a_6 HE7 => ?_
  refine wpList_nil ?_
  clear a_2 HE3 a_4 HE5
  refine nrm ?_
  refine wp_seq ?_
  refine wp_seq ?_
  refine rg ?_
  refine pl_x HE7 HH1 (wt0 rfl) (x_move rfl) rfl rfl fun a_8 HE9 => ?_
  refine pl_x HE9 HH1 (wt0 rfl) (x_seqlB rfl rfl) rfl rfl fun a_10 HE11 => ?_
  refine wpList_nil ?_
  clear a_6 HE7 a_8 HE9
  refine nrm ?_
  refine cnd_d HE11 rfl (fun hc21 => ?_) (fun hc21 => ?_)
  · refine wp_seq ?_
    refine rg ?_
    refine pl fun K_12 hK13 => ?_
    refine st_lit (m := 0) (cs := []) (e := 2) HE11 HH1 (run_lit ts_25 HE11 (vs := []) rfl rfl (by simp [Value.cells]) rfl (by decide)) (wt0 rfl) rfl rfl fun q22 a_14 w' HE15 HH16 => hK13 _ _ ?_
    refine pl_x HE15 HH16 (wt0 rfl) (x_assign rfl) rfl rfl fun a_17 HE18 => ?_
    refine pl_x HE18 HH16 (wt0 rfl) (x_assign rfl) rfl rfl fun a_19 HE20 => ?_
    refine wpList_nil ?_
    clear a_10 HE11 HH1 a_14 HE15 a_17 HE18 hK13 K_12
    refine nrm ?_
    refine wp_ret ?_
    refine (thn_ret ?_)
    refine ret2 HE20 rfl (rv_tmp rfl) (rv_tmp rfl) ?_
    have HH21 := Held.vecFlat (E := eInt) (xs := []) (css := []) HH16 rfl (Nat.zero_le _) (fun i x hx => by simp at hx)
    have HH22 := HH21.vecSo
    have hF : (rdLsI a0) = (([] : List Int), true) := by
      rw [← rdLs_eq]; first | (unfold rdLsS; rw [if_pos (by assumption)]; done) | exact rdLsS_long (by assumption) (by omega) | exact rdLsS_no (by assumption) (by omega) hx0 (numB_no1 (by assumption)) | exact rdLsS_no (by assumption) (by omega) hx0 (numB_no2 (by assumption)) | exact rdLsS_yes (by assumption) (by omega) (by omega) p0_1
    exact ⟨(some ⟨q22, 0, none⟩), 0, by first | (rw [hF] <;> rfl) | rfl | (rw [hF]; simp only [Ending.returned.injEq, Value.slice.injEq, true_and, and_true]; first | omega | (simp; done)) | (rw [hF]; simp; omega), by rw [hF]; exact (HH22.so (i := 0) rfl), HH22.below⟩
  · refine wp_skip ?_
    refine nrm ?_
    refine wp_seq ?_
    refine rg ?_
    refine pl_x HE11 HH1 (wt0 rfl) (x_move rfl) rfl rfl fun a_23 HE24 => ?_
    refine pl fun K_25 hK26 => ?_
    refine st_call HE24 (wt0 rfl) rfl rfl rfl en_63 rfl rfl (spec_l01Split a0 _ 44 _ (by omega) (by rfl)) fun e w' hr => ?_
    have hAr23_0 := splitR_len 44 a0
    have hAr23_1 := splitR_piece 44 a0
    obtain ⟨Ar23_0, cr23_0, rfl, hor23_0, hbr23⟩ := hr
    obtain ⟨Sr23, HH27⟩ := HH1.newS hbr23 hor23_0
    refine ⟨_, rfl, fun a_28 HE29 => hK26 _ _ ?_⟩
    refine pl_x HE29 HH27 (wt0 rfl) (x_assign rfl) rfl rfl fun a_30 HE31 => ?_
    refine wpList_nil ?_
    clear a_10 HE11 HH1 a_23 HE24 a_28 HE29 hK26 K_25
    refine nrm ?_
    refine wp_seq ?_
    refine wp_seq ?_
    refine rg ?_
    refine pl_x HE31 HH27 (wt0 rfl) (x_move rfl) rfl rfl fun a_32 HE33 => ?_
    refine pl_x HE33 HH27 (wt0 rfl) (x_len Tryz.underlying78 rfl) rfl rfl fun a_34 HE35 => ?_
    refine pl_x HE35 HH27 (wt0 rfl) (x_gtr rfl rfl) rfl rfl fun a_36 HE37 => ?_
    refine wpList_nil ?_
    clear a_30 HE31 a_32 HE33 a_34 HE35
    refine nrm ?_
    refine cnd_d HE37 rfl (fun hc24 => ?_) (fun hc24 => ?_)
    · refine wp_seq ?_
      refine rg ?_
      refine pl_x HE37 HH27 (wt0 rfl) (x_assign rfl) rfl rfl fun a_38 HE39 => ?_
      refine pl_x HE39 HH27 (wt0 rfl) (x_assign rfl) rfl rfl fun a_40 HE41 => ?_
      refine wpList_nil ?_
      clear a_36 HE37 a_38 HE39
      refine nrm ?_
      refine wp_ret ?_
      refine (thn_ret ?_)
      refine ret2 HE41 rfl (rv_tmp rfl) (rv_tmp rfl) ?_
      have hF : (rdLsI a0) = ([], false) := by
        rw [← rdLs_eq]; first | (unfold rdLsS; rw [if_pos (by assumption)]; done) | exact rdLsS_long (by assumption) (by omega) | exact rdLsS_no (by assumption) (by omega) hx0 (numB_no1 (by assumption)) | exact rdLsS_no (by assumption) (by omega) hx0 (numB_no2 (by assumption)) | exact rdLsS_yes (by assumption) (by omega) (by omega) p0_1
      exact ⟨none, 0, by first | (rw [hF] <;> rfl) | rfl | (rw [hF]; simp only [Ending.returned.injEq, Value.slice.injEq, true_and, and_true]; first | omega | (simp; done)) | (rw [hF]; simp; omega), by rw [hF]; exact (So.nil (Nat.zero_le _)), HH27.below⟩
    · refine wp_skip ?_
      refine nrm ?_
      refine wp_seq ?_
      refine rg ?_
      refine pl fun K_42 hK43 => ?_
      refine st_lit (m := 0) (cs := []) (e := 2) HE37 HH27 (run_lit ts_25 HE37 (vs := []) rfl rfl (by simp [Value.cells]) rfl (by decide)) (wt0 rfl) rfl rfl fun q25 a_44 w' HE45 HH46 => hK43 _ _ ?_
      refine pl_x HE45 HH46 (wt0 rfl) (x_assign rfl) rfl rfl fun a_47 HE48 => ?_
      refine wpList_nil ?_
      clear a_36 HE37 HH27 a_44 HE45 hK43 K_42
      refine nrm ?_
      refine wp_seq ?_
      refine wp_seq ?_
      refine rg ?_
      refine pl_x HE48 HH46 (wt0 rfl) (x_assign rfl) rfl rfl fun a_49 HE50 => ?_
      refine wpList_nil ?_
      clear a_47 HE48
      refine nrm ?_
      refine wp_block ?_
      have HH51 := Held.vecFlat (E := eInt) (xs := []) (css := []) HH46 rfl (Nat.zero_le _) (fun i x hx => by simp at hx)
      refine lp (fun m a w' => ∃ (k : Nat) (A_5 : Option Addr) (c_5 : Nat) (S_5 : Nat → Prop), m = (splitR 44 a0).length - k ∧ Env 44 [(5, .slice A_5 (List.length (((splitR 44 a0).take k).map numV)) c_5), (6, .int .i64 (k : Int)), (4, .slice Ar23_0 ((splitR 44 a0).length) cr23_0)] a ∧ Held Nob w [rVec eInt 2 S_5 A_5 c_5 (((splitR 44 a0).take k).map numV), rSo eTxt Sr23 Ar23_0 cr23_0 (splitR 44 a0)] w' ∧ (k ≤ (splitR 44 a0).length) ∧ (((splitR 44 a0).take k).all numB = true)) ((splitR 44 a0).length - (0)) ?_ ?_
      · have E26 : ((splitR 44 a0).take 0).map numV = ([] : List Int) := by
          simp
        exact ⟨0, (some ⟨q25, 0, none⟩), (List.length (α := Int) []), (fun b => b = q25), rfl, HE50.sub ⟨(by rw [E26]; rfl), (lkI rfl (by first | rfl | omega | (simp [hc21, hc24]; done))), rfl, trivial⟩, ((HH51.sel [0, 1] (by decide) rfl).to (by first | rfl | (rw [E26]; done) | (rw [E26]; rfl) | (simp only [E26]; done) | (simp only [E26]; rfl) | (rw [E26]; simp only [List.length_set]; done))), (by first | omega | assumption | (simp; done) | simp_all), (by simp)⟩
      · rintro m a_52 w' ⟨k, A_5, c_5, S_5, rfl, HE53, HH54, p27_0, p27_1⟩
        have hn0 : (((splitR 44 a0).take k).map numV).length ≤ a0.length + 1 := by have := splitR_len 44 a0; rw [List.length_map, List.length_take]; omega
        refine wp_seq ?_
        refine wp_seq ?_
        refine rg ?_
        refine pl_x HE53 HH54 (wt0 rfl) (x_move rfl) rfl rfl fun a_55 HE56 => ?_
        refine pl_x HE56 HH54 (wt0 rfl) (x_move rfl) rfl rfl fun a_57 HE58 => ?_
        refine pl_x HE58 HH54 (wt0 rfl) (x_len Tryz.underlying78 rfl) rfl rfl fun a_59 HE60 => ?_
        refine pl_x HE60 HH54 (wt0 rfl) (x_lss rfl rfl) rfl rfl fun a_61 HE62 => ?_
        refine wpList_nil ?_
        clear HH46 a_49 HE50 HH51 a_52 HE53 a_55 HE56 a_57 HE58 a_59 HE60
        refine nrm ?_
        refine cnd_d HE62 rfl (fun hc28 => ?_) (fun hc28 => ?_)
        · refine wp_skip ?_
          refine nrm ?_
          refine wp_seq ?_
          refine wp_block ?_
          refine wp_seq ?_
          refine rg ?_
          refine pl_x HE62 HH54 (wt0 rfl) (x_move rfl) rfl rfl fun a_63 HE64 => ?_
          refine pl_x HE64 HH54 (wt0 rfl) (x_move rfl) rfl rfl fun a_65 HE66 => ?_
          have ke29 : k < (splitR 44 a0).length := by omega
          obtain ⟨be29, fe29, rfl⟩ := el_own HH54 (i := 1) rfl ke29
          refine pl_x HE66 HH54 (wt0 rfl) (x_indexAddr ts_78 rfl rfl rfl rfl ke29) rfl rfl fun a_67 HE68 => ?_
          obtain ⟨y30, xy30⟩ : ∃ y_, y_ = (splitR 44 a0)[k]'(by first | exact ke29 | (simp only [List.length_set]; exact ke29) | omega | (simp only [List.length_set]; omega) | (simp; omega)) := ⟨_, rfl⟩
          have jy30 : List.length y30 ≤ 9223372036854775807 := by rw [xy30]; exact i_ownS HH54 1 rfl _
          have hx0 := xy30
          have hl0 := splitR_piece 44 a0 y30 (by rw [xy30]; exact List.getElem_mem _)
          refine pl_x HE68 HH54 (wt0 rfl) (x_load1 tv_9 rfl (c_ownS 1 rfl (by first | exact ke29 | (simp only [List.length_set]; exact ke29) | omega | (simp only [List.length_set]; omega) | (simp; omega)) xy30.symm)) rfl rfl fun a_69 HE70 => ?_
          refine pl fun K_71 hK72 => ?_
          refine st_call HE70 (wt0 rfl) rfl rfl rfl en_65 rfl rfl (spec_l01Number y30 _ (by omega)) fun e w' hr => ?_
          have hAr31_0 := numC_bd y30
          obtain ⟨rfl, hbr31⟩ := hr
          have HH73 := HH54.on hbr31
          refine ⟨_, rfl, fun a_74 HE75 => hK72 _ _ ?_⟩
          refine pl_x HE75 HH73 (wt0 rfl) (x_move rfl) rfl rfl fun a_76 HE77 => ?_
          refine pl_x HE77 HH73 (wt0 rfl) (x_extract rfl rfl) rfl rfl fun a_78 HE79 => ?_
          refine pl_x HE79 HH73 (wt0 rfl) (x_extract rfl rfl) rfl rfl fun a_80 HE81 => ?_
          refine pl_x HE81 HH73 (wt0 rfl) (x_assign rfl) rfl rfl fun a_82 HE83 => ?_
          refine pl_x HE83 HH73 (wt0 rfl) (x_assign rfl) rfl rfl fun a_84 HE85 => ?_
          refine wpList_nil ?_
          clear a_61 HE62 a_63 HE64 a_65 HE66 a_67 HE68 HH54 a_69 HE70 a_74 HE75 a_76 HE77 a_78 HE79 a_80 HE81 a_82 HE83 hK72 K_71
          refine nrm ?_
          refine wp_seq ?_
          refine wp_seq ?_
          refine rg ?_
          refine pl_x HE85 HH73 (wt0 rfl) (x_move rfl) rfl rfl fun a_86 HE87 => ?_
          refine pl_x HE87 HH73 (wt0 rfl) (x_not rfl) rfl rfl fun a_88 HE89 => ?_
          refine pl_x HE89 HH73 (wt0 rfl) (x_move rfl) rfl rfl fun a_90 HE91 => ?_
          rcases Bool.eq_false_or_eq_true ((numC y30).2) with hc32 | hc32
          · refine pl_x HE91 HH73 (wtT HE91 rfl rfl rfl (not_f hc32)) (x_move rfl) rfl rfl fun a_92 HE93 => ?_
            refine pl fun K_94 hK95 => ?_
            refine st_call HE93 (wtT HE93 rfl rfl rfl (not_f hc32)) rfl rfl rfl en_115 rfl rfl (spec_l00In ((numC y30).1) (-1000000000000) 1000000000000 _ ) fun e w' hr => ?_
            obtain ⟨rfl, rfl⟩ := hr
            refine ⟨_, rfl, fun a_96 HE97 => hK95 _ _ ?_⟩
            refine pl_x HE97 HH73 (wtT HE97 rfl rfl rfl (not_f hc32)) (x_not rfl) rfl rfl fun a_98 HE99 => ?_
            refine pl_x HE99 HH73 (wt0 rfl) (x_pickF rfl (not_f hc32) rfl) rfl rfl fun a_100 HE101 => ?_
            refine wpList_nil ?_
            clear a_84 HE85 a_86 HE87 a_88 HE89 a_90 HE91 a_92 HE93 a_96 HE97 a_98 HE99 hK95 K_94
            refine nrm ?_
            refine cnd_nb HE101 rfl (fun hc34 => ?_) (fun hc34 => ?_)
            · refine wp_seq ?_
              refine rg ?_
              refine pl_x HE101 HH73 (wt0 rfl) (x_assign rfl) rfl rfl fun a_102 HE103 => ?_
              refine pl_x HE103 HH73 (wt0 rfl) (x_assign rfl) rfl rfl fun a_104 HE105 => ?_
              refine wpList_nil ?_
              clear a_100 HE101 a_102 HE103
              refine nrm ?_
              refine wp_ret ?_
              refine (thn_ret (blk_ret (thn_ret (thn_ret (blk_ret (thn_ret ?_))))))
              refine ret2 HE105 rfl (rv_tmp rfl) (rv_tmp rfl) ?_
              have hF : (rdLsI a0) = ([], false) := by
                rw [← rdLs_eq]; first | (unfold rdLsS; rw [if_pos (by assumption)]; done) | exact rdLsS_long (by assumption) (by omega) | exact rdLsS_no (by assumption) (by omega) hx0 (numB_no1 (by assumption)) | exact rdLsS_no (by assumption) (by omega) hx0 (numB_no2 (by assumption)) | exact rdLsS_yes (by assumption) (by omega) (by omega) p27_1
              exact ⟨none, 0, by first | (rw [hF] <;> rfl) | rfl | (rw [hF]; simp only [Ending.returned.injEq, Value.slice.injEq, true_and, and_true]; first | omega | (simp; done)) | (rw [hF]; simp; omega), by rw [hF]; exact (So.nil (Nat.zero_le _)), HH73.below⟩
            · refine wp_skip ?_
              refine nrm ?_
              refine rg ?_
              refine pl_x HE101 HH73 (wt0 rfl) (x_move rfl) rfl rfl fun a_106 HE107 => ?_
              refine pl_x HE107 HH73 (wt0 rfl) (x_move rfl) rfl rfl fun a_108 HE109 => ?_
              refine pl fun K_110 hK111 => ?_
              refine st_lit (m := 1) (cs := [.int .i64 ((numC y30).1)]) (e := 2) HE109 HH73 (run_lit ts_25 HE109 (vs := [.int .i64 ((numC y30).1)]) rfl rfl (by simp [Value.cells]) rfl (by decide)) (wt0 rfl) rfl rfl fun q35 a_112 w' HE113 HH114 => hK111 _ _ ?_
              refine pl fun K_115 hK116 => ?_
              refine st_app1F ((numC y30).1) HE113 HH114 ts_25 [1, 0, 2] (by decide) rfl (fun _ => (oI (by exact ⟨by omega, by omega⟩))) rfl rfl (by simp [Value.oneCell']) (by unfold maxLen; first | omega | (simp; done) | (simp; omega)) (by first | omega | (simp; done) | (simp; omega)) (wt0 rfl) rfl fun A36 c37 S38 a_117 w' HE118 HH119 => hK116 _ _ ?_
              refine pl_x HE118 HH119 (wt0 rfl) (x_assign rfl) rfl rfl fun a_120 HE121 => ?_
              refine wpList_nil ?_
              clear a_100 HE101 a_106 HE107 a_108 HE109 HH73 K_110 hK111 a_112 HE113 HH114 a_117 HE118 hK116 K_115
              refine blk_n ?_
              refine nrm ?_
              refine rg ?_
              refine pl_x HE121 HH119 (wt0 rfl) (x_move rfl) rfl rfl fun a_122 HE123 => ?_
              refine pl_x HE123 HH119 (wt0 rfl) (x_add rfl rfl (by exact ⟨by omega, by omega⟩)) rfl rfl fun a_124 HE125 => ?_
              refine pl_x HE125 HH119 (wt0 rfl) (x_assign rfl) rfl rfl fun a_126 HE127 => ?_
              refine wpList_nil ?_
              clear a_120 HE121 a_122 HE123 a_124 HE125
              have E39 : ((splitR 44 a0).take (k + 1)).map numV = (((splitR 44 a0).take k).map numV ++ [(numC y30).1]) := by
                exact map_snoc _ (by omega) hx0
              exact nrm ⟨(splitR 44 a0).length - (k + 1), (by omega), k + 1, A36, c37, S38, rfl, HE127.sub ⟨(by rw [E39]; rfl), (lkI rfl (by first | rfl | omega | (simp [hc21, hc24, p27_0, p27_1, hc28, xy30, hc32, hc34]; done))), rfl, trivial⟩, ((HH119.sel [0, 1] (by decide) rfl).to (by first | rfl | (rw [E39]; done) | (rw [E39]; rfl) | (simp only [E39]; done) | (simp only [E39]; rfl) | (rw [E39]; simp only [List.length_set]; done))), (by first | omega | assumption | (simp; done) | simp_all), (by exact all_snoc (by omega) p27_1 hx0 (numB_yes (by assumption) (by assumption)))⟩
          · refine pl_no HE91 (wtF HE91 rfl rfl rfl (not_t hc32)) rfl rfl fun a_128 HE129 => ?_
            refine pl_no HE129 (wtF HE129 rfl rfl rfl (not_t hc32)) rfl rfl fun a_130 HE131 => ?_
            refine pl_no HE131 (wtF HE131 rfl rfl rfl (not_t hc32)) rfl rfl fun a_132 HE133 => ?_
            refine pl_x HE133 HH73 (wt0 rfl) (x_pickT rfl (not_t hc32) rfl) rfl rfl fun a_134 HE135 => ?_
            refine wpList_nil ?_
            clear a_84 HE85 a_86 HE87 a_88 HE89 a_90 HE91 a_128 HE129 a_130 HE131 a_132 HE133
            refine nrm ?_
            refine cndT HE135 rfl rfl ?_
            refine wp_seq ?_
            refine rg ?_
            refine pl_x HE135 HH73 (wt0 rfl) (x_assign rfl) rfl rfl fun a_136 HE137 => ?_
            refine pl_x HE137 HH73 (wt0 rfl) (x_assign rfl) rfl rfl fun a_138 HE139 => ?_
            refine wpList_nil ?_
            clear a_134 HE135 a_136 HE137
            refine nrm ?_
            refine wp_ret ?_
            refine (thn_ret (blk_ret (thn_ret (thn_ret (blk_ret (thn_ret ?_))))))
            refine ret2 HE139 rfl (rv_tmp rfl) (rv_tmp rfl) ?_
            have hF : (rdLsI a0) = ([], false) := by
              rw [← rdLs_eq]; first | (unfold rdLsS; rw [if_pos (by assumption)]; done) | exact rdLsS_long (by assumption) (by omega) | exact rdLsS_no (by assumption) (by omega) hx0 (numB_no1 (by assumption)) | exact rdLsS_no (by assumption) (by omega) hx0 (numB_no2 (by assumption)) | exact rdLsS_yes (by assumption) (by omega) (by omega) p27_1
            exact ⟨none, 0, by first | (rw [hF] <;> rfl) | rfl | (rw [hF]; simp only [Ending.returned.injEq, Value.slice.injEq, true_and, and_true]; first | omega | (simp; done)) | (rw [hF]; simp; omega), by rw [hF]; exact (So.nil (Nat.zero_le _)), HH73.below⟩
        · refine wp_exit ?_
          refine (thn_exit (thn_exit (blk_hit ?_)))
          refine nrm ?_
          refine wp_seq ?_
          refine rg ?_
          refine pl_x HE62 HH54 (wt0 rfl) (x_move rfl) rfl rfl fun a_140 HE141 => ?_
          refine pl_x HE141 HH54 (wt0 rfl) (x_assign rfl) rfl rfl fun a_142 HE143 => ?_
          refine pl_x HE143 HH54 (wt0 rfl) (x_assign rfl) rfl rfl fun a_144 HE145 => ?_
          refine wpList_nil ?_
          clear a_61 HE62 a_140 HE141 a_142 HE143
          refine nrm ?_
          refine wp_ret ?_
          refine ret2 HE145 rfl (rv_tmp rfl) (rv_tmp rfl) ?_
          have HH146 := HH54.vecSo
          have hF : (rdLsI a0) = (((splitR 44 a0).take k).map numV, true) := by
            rw [← rdLs_eq]; first | (unfold rdLsS; rw [if_pos (by assumption)]; done) | exact rdLsS_long (by assumption) (by omega) | exact rdLsS_no (by assumption) (by omega) hx0 (numB_no1 (by assumption)) | exact rdLsS_no (by assumption) (by omega) hx0 (numB_no2 (by assumption)) | exact rdLsS_yes (by assumption) (by omega) (by omega) p27_1
          exact ⟨A_5, c_5, by first | (rw [hF] <;> rfl) | rfl | (rw [hF]; simp only [Ending.returned.injEq, Value.slice.injEq, true_and, and_true]; first | omega | (simp; done)) | (rw [hF]; simp; omega), by rw [hF]; exact (HH146.so (i := 0) rfl), HH146.below⟩

open Go.Lib in
set_option maxRecDepth 100000 in
set_option maxHeartbeats 4000000 in
theorem impl_ReadStore (A0 : Option Addr) (c0 : Nat) (a0 : (List tInstr)) (a1 : List UInt8) (w : World) (h0 : Sl eInstr w (Old w) A0 c0 a0) (hG : Glob2 w) (s0 : a1.length ≤ 2000000) :
    Calls Tryz.prog 20 #[.slice A0 a0.length c0, .string (bs a1)] w fun e w' => ∃ (es0' : List Value), e = .returned (.tuple #[.agg es0'.toArray, .bool (rdStI a0 a1).2]) ∧ eStore.O w' (Fr w w') es0' (rdStI a0 a1).1 ∧ Below w.heap.size w w' := by
  have l0 := h0.len
  have HH1 := Held.start Nob w
  refine enter (n := 48) Tryz.func20 rfl rfl rfl fun a_2 HE3 => ?_
  refine wp_seq ?_
  refine rg ?_
  refine pl fun K_4 hK5 => ?_
  refine st_alloc HE3 HH1 tv_41 (wt0 rfl) rfl fun q21 a_6 w' HE7 HH8 => hK5 _ _ ?_
  refine pl_x HE7 HH8 (wt0 rfl) (x_assign rfl) rfl rfl fun a_9 HE10 => ?_
  refine wpList_nil ?_
  clear a_2 HE3 HH1 a_6 HE7 hK5 K_4
  refine nrm ?_
  refine wp_seq ?_
  refine rg ?_
  refine pl_x HE10 HH8 (wt0 rfl) (x_move rfl) rfl rfl fun a_11 HE12 => ?_
  refine pl fun K_13 hK14 => ?_
  refine st_call HE12 (wt0 rfl) rfl rfl rfl en_69 rfl rfl (Cut_1 a1 ([58]) 58 _ (HH8.glob2 hG) (by omega) (by rfl)) fun e w' hr => ?_
  have hAr22_0 := cutR_len 58 a1
  obtain ⟨rfl, hbr22⟩ := hr
  have HH15 := HH8.on hbr22
  refine ⟨_, rfl, fun a_16 HE17 => hK14 _ _ ?_⟩
  refine pl_x HE17 HH15 (wt0 rfl) (x_move rfl) rfl rfl fun a_18 HE19 => ?_
  refine pl_x HE19 HH15 (wt0 rfl) (x_extract rfl rfl) rfl rfl fun a_20 HE21 => ?_
  refine pl_x HE21 HH15 (wt0 rfl) (x_extract rfl rfl) rfl rfl fun a_22 HE23 => ?_
  refine pl_x HE23 HH15 (wt0 rfl) (x_extract rfl rfl) rfl rfl fun a_24 HE25 => ?_
  refine pl_x HE25 HH15 (wt0 rfl) (x_assign rfl) rfl rfl fun a_26 HE27 => ?_
  refine pl_x HE27 HH15 (wt0 rfl) (x_assign rfl) rfl rfl fun a_28 HE29 => ?_
  refine pl_x HE29 HH15 (wt0 rfl) (x_assign rfl) rfl rfl fun a_30 HE31 => ?_
  refine wpList_nil ?_
  clear a_9 HE10 HH8 a_11 HE12 a_16 HE17 a_18 HE19 a_20 HE21 a_22 HE23 a_24 HE25 a_26 HE27 a_28 HE29 hK14 K_13
  refine nrm ?_
  refine wp_seq ?_
  refine rg ?_
  refine pl_x HE31 HH15 (wt0 rfl) (x_move rfl) rfl rfl fun a_32 HE33 => ?_
  refine pl fun K_34 hK35 => ?_
  refine st_call HE33 (wt0 rfl) rfl rfl rfl en_70 rfl rfl (impl_ReadDecimal ((cutR 58 a1).1) _ (HH15.glob2 hG) (by omega)) fun e w' hr => ?_
  have hAr23_0 := numR_bd ((cutR 58 a1).1)
  obtain ⟨rfl, hbr23⟩ := hr
  have HH36 := HH15.on hbr23
  refine ⟨_, rfl, fun a_37 HE38 => hK35 _ _ ?_⟩
  refine pl_x HE38 HH36 (wt0 rfl) (x_move rfl) rfl rfl fun a_39 HE40 => ?_
  refine pl_x HE40 HH36 (wt0 rfl) (x_extract rfl rfl) rfl rfl fun a_41 HE42 => ?_
  refine pl_x HE42 HH36 (wt0 rfl) (x_extract rfl rfl) rfl rfl fun a_43 HE44 => ?_
  refine pl_x HE44 HH36 (wt0 rfl) (x_assign rfl) rfl rfl fun a_45 HE46 => ?_
  refine pl_x HE46 HH36 (wt0 rfl) (x_assign rfl) rfl rfl fun a_47 HE48 => ?_
  refine wpList_nil ?_
  clear a_30 HE31 HH15 a_32 HE33 a_37 HE38 a_39 HE40 a_41 HE42 a_43 HE44 a_45 HE46 hK35 K_34
  refine nrm ?_
  refine wp_seq ?_
  refine rg ?_
  refine pl_x HE48 HH36 (wt0 rfl) (x_move rfl) rfl rfl fun a_49 HE50 => ?_
  refine pl fun K_51 hK52 => ?_
  refine st_call HE50 (wt0 rfl) rfl rfl rfl en_71 rfl rfl (impl_ReadList ((cutR 58 a1).2.1) _ (HH36.glob2 hG) (by omega)) fun e w' hr => ?_
  obtain ⟨Ar24_0, cr24_0, rfl, hor24_0, hbr24⟩ := hr
  obtain ⟨Sr24, HH53⟩ := HH36.newS hbr24 hor24_0
  refine ⟨_, rfl, fun a_54 HE55 => hK52 _ _ ?_⟩
  refine pl_x HE55 HH53 (wt0 rfl) (x_move rfl) rfl rfl fun a_56 HE57 => ?_
  refine pl_x HE57 HH53 (wt0 rfl) (x_extract rfl rfl) rfl rfl fun a_58 HE59 => ?_
  refine pl_x HE59 HH53 (wt0 rfl) (x_extract rfl rfl) rfl rfl fun a_60 HE61 => ?_
  refine pl_x HE61 HH53 (wt0 rfl) (x_assign rfl) rfl rfl fun a_62 HE63 => ?_
  refine pl_x HE63 HH53 (wt0 rfl) (x_assign rfl) rfl rfl fun a_64 HE65 => ?_
  refine wpList_nil ?_
  clear a_47 HE48 HH36 a_49 HE50 a_54 HE55 a_56 HE57 a_58 HE59 a_60 HE61 a_62 HE63 hK52 K_51
  refine nrm ?_
  refine wp_seq ?_
  refine rg ?_
  refine pl_x HE65 HH53 (wt0 rfl) (x_move rfl) rfl rfl fun a_66 HE67 => ?_
  refine pl_x HE67 HH53 (wt0 rfl) (x_move rfl) rfl rfl fun a_68 HE69 => ?_
  refine pl_x HE69 HH53 (wt0 rfl) (show XS _ _ _ _ (.agg #[.int .i64 ((numR ((cutR 58 a1).1)).1), .slice Ar24_0 ((rdLsI ((cutR 58 a1).2.1)).1.length) cr24_0]) from x_build (vs := [(0, .int .i64 ((numR ((cutR 58 a1).1)).1)), (1, .slice Ar24_0 ((rdLsI ((cutR 58 a1).2.1)).1.length) cr24_0)]) tb_41 rfl (by simp [Value.oneCell'])) rfl rfl fun a_70 HE71 => ?_
  refine pl fun K_72 hK73 => ?_
  refine st_alloc HE71 HH53 tv_41 (wt0 rfl) rfl fun q25 a_74 w' HE75 HH76 => hK73 _ _ ?_
  refine pl fun K_77 hK78 => ?_
  refine st_store (vs := [.int .i64 ((numR ((cutR 58 a1).1)).1), .slice Ar24_0 ((rdLsI ((cutR 58 a1).2.1)).1.length) cr24_0]) 0 HE75 HH76 tv_41 rfl rfl rfl rfl rfl rfl (by simp [Value.oneCell']) (wt0 rfl) fun w' HH79 => hK78 _ _ ?_
  refine wpList_nil ?_
  clear a_64 HE65 a_66 HE67 a_68 HE69 a_70 HE71 HH53 K_72 hK73 HH76 hK78 K_77
  refine nrm ?_
  refine wp_seq ?_
  refine wp_seq ?_
  refine rg ?_
  refine pl_x HE75 HH79 (wt0 rfl) (x_move rfl) rfl rfl fun a_80 HE81 => ?_
  refine pl_x HE81 HH79 (wt0 rfl) (x_not rfl) rfl rfl fun a_82 HE83 => ?_
  refine pl_x HE83 HH79 (wt0 rfl) (x_move rfl) rfl rfl fun a_84 HE85 => ?_
  rcases Bool.eq_false_or_eq_true ((numR ((cutR 58 a1).1)).2) with hc26 | hc26
  · refine pl_x HE85 HH79 (wtT HE85 rfl rfl rfl (not_f hc26)) (x_move rfl) rfl rfl fun a_86 HE87 => ?_
    refine pl_x HE87 HH79 (wtT HE87 rfl rfl rfl (not_f hc26)) (x_not rfl) rfl rfl fun a_88 HE89 => ?_
    refine pl_x HE89 HH79 (wt0 rfl) (x_pickF rfl (not_f hc26) rfl) rfl rfl fun a_90 HE91 => ?_
    refine pl_x HE91 HH79 (wt0 rfl) (x_move rfl) rfl rfl fun a_92 HE93 => ?_
    rcases Bool.eq_false_or_eq_true ((rdLsI ((cutR 58 a1).2.1)).2) with hc27 | hc27
    · refine pl_x HE93 HH79 (wtT HE93 rfl rfl rfl (not_f hc27)) (x_move rfl) rfl rfl fun a_94 HE95 => ?_
      refine pl_x HE95 HH79 (wtT HE95 rfl rfl rfl (not_f hc27)) (x_loadN (cs := [.int .i64 ((numR ((cutR 58 a1).1)).1), .slice Ar24_0 ((rdLsI ((cutR 58 a1).2.1)).1.length) cr24_0]) tv_41 rfl rfl (c_blkN 0 rfl)) rfl rfl fun a_96 HE97 => ?_
      refine pl fun K_98 hK99 => ?_
      refine st_call HE97 (wtT HE97 rfl rfl rfl (not_f hc27)) rfl rfl rfl en_72 rfl rfl (impl_StoreText _ _ a0 [.int .i64 ((numR ((cutR 58 a1).1)).1), .slice Ar24_0 ((rdLsI ((cutR 58 a1).2.1)).1.length) cr24_0] ((numR ((cutR 58 a1).1)).1, (rdLsI ((cutR 58 a1).2.1)).1) _ (HH79.old h0) (rep_Store (x := ((numR ((cutR 58 a1).1)).1, (rdLsI ((cutR 58 a1).2.1)).1)) (by exact ⟨by omega, by omega⟩) (HH79.sl (i := 1) rfl)) (HH79.glob hG.1)) fun e w' hr => ?_
      obtain ⟨rfl, hbr28⟩ := hr
      have HH100 := HH79.on hbr28
      refine ⟨_, rfl, fun a_101 HE102 => hK99 _ _ ?_⟩
      refine pl_x HE102 HH100 (wtT HE102 rfl rfl rfl (not_f hc27)) (x_move rfl) rfl rfl fun a_103 HE104 => ?_
      refine pl_x HE104 HH100 (wtT HE104 rfl rfl rfl (not_f hc27)) (x_sneqB rfl rfl) rfl rfl fun a_105 HE106 => ?_
      refine pl_x HE106 HH100 (wt0 rfl) (x_pickF rfl (not_f hc27) rfl) rfl rfl fun a_107 HE108 => ?_
      refine wpList_nil ?_
      clear a_74 HE75 a_80 HE81 a_82 HE83 a_84 HE85 a_86 HE87 a_88 HE89 a_90 HE91 a_92 HE93 a_94 HE95 HH79 a_96 HE97 a_101 HE102 a_103 HE104 a_105 HE106 hK99 K_98
      refine nrm ?_
      refine cnd_nd HE108 rfl (fun hc29 => ?_) (fun hc29 => ?_)
      · refine wp_seq ?_
        refine rg ?_
        refine pl_x HE108 HH100 (wt0 rfl) (show XS _ _ _ _ (.agg #[.int .i64 (0), .slice none (0) 0]) from x_build (vs := []) tb_41 rfl (by simp [Value.oneCell'])) rfl rfl fun a_109 HE110 => ?_
        refine pl fun K_111 hK112 => ?_
        refine st_store (vs := [.int .i64 (0), .slice none (0) 0]) 2 HE110 HH100 tv_41 rfl rfl rfl rfl rfl rfl (by simp [Value.oneCell']) (wt0 rfl) fun w' HH113 => hK112 _ _ ?_
        refine pl_x HE110 HH113 (wt0 rfl) (x_assign rfl) rfl rfl fun a_114 HE115 => ?_
        refine wpList_nil ?_
        clear a_107 HE108 HH100 a_109 HE110 hK112 K_111
        refine nrm ?_
        refine wp_ret ?_
        refine (thn_ret ?_)
        refine ret2 HE115 rfl (rv_cell rfl (tv_41.loadN (cs := [.int .i64 (0), .slice none (0) 0]) rfl (c_blkN 2 rfl _ HH113))) (rv_tmp rfl) ?_
        have HH116 := HH113.flatO (E := eStore) (cs := [.int .i64 (0), .slice none (0) 0]) (x := (0, [])) (fun _ => (oPrN (oI (by exact ⟨by omega, by omega⟩)) (oSl (So.nil (Nat.zero_le _)))))
        have hF : (rdStI a0 a1) = ((0, []), false) := by
          unfold rdStI; first | (rw [if_pos ⟨⟨by assumption, by assumption⟩, by assumption⟩]; rfl) | (exact if_neg (fun hh => ff hh.1.1 (by assumption))) | (exact if_neg (fun hh => ff hh.1.2 (by assumption))) | (exact if_neg (fun hh => absurd hh.2 (by assumption)))
        exact ⟨_, by first | (rw [hF] <;> rfl) | rfl | (rw [hF]; simp only [Ending.returned.injEq, Value.slice.injEq, true_and, and_true]; first | omega | (simp; done)) | (rw [hF]; simp; omega), by rw [hF]; exact (HH116.o (i := 0) rfl), HH116.below⟩
      · refine wp_skip ?_
        refine nrm ?_
        refine wp_seq ?_
        refine rg ?_
        refine pl_x HE108 HH100 (wt0 rfl) (x_loadN (cs := [.int .i64 ((numR ((cutR 58 a1).1)).1), .slice Ar24_0 ((rdLsI ((cutR 58 a1).2.1)).1.length) cr24_0]) tv_41 rfl rfl (c_blkN 0 rfl)) rfl rfl fun a_117 HE118 => ?_
        refine pl fun K_119 hK120 => ?_
        refine st_store (vs := [.int .i64 ((numR ((cutR 58 a1).1)).1), .slice Ar24_0 ((rdLsI ((cutR 58 a1).2.1)).1.length) cr24_0]) 2 HE118 HH100 tv_41 rfl rfl rfl rfl rfl rfl (by simp [Value.oneCell']) (wt0 rfl) fun w' HH121 => hK120 _ _ ?_
        refine pl_x HE118 HH121 (wt0 rfl) (x_assign rfl) rfl rfl fun a_122 HE123 => ?_
        refine wpList_nil ?_
        clear a_107 HE108 HH100 a_117 HE118 hK120 K_119
        refine nrm ?_
        refine wp_ret ?_
        refine ret2 HE123 rfl (rv_cell rfl (tv_41.loadN (cs := [.int .i64 ((numR ((cutR 58 a1).1)).1), .slice Ar24_0 ((rdLsI ((cutR 58 a1).2.1)).1.length) cr24_0]) rfl (c_blkN 2 rfl _ HH121))) (rv_tmp rfl) ?_
        have HH124 := HH121.sel [1, 0, 2] (by decide) rfl
        have HH125 := HH124.pairF (E := eInt) (c1 := [.int .i64 ((numR ((cutR 58 a1).1)).1)]) (x := (numR ((cutR 58 a1).1)).1) (oI (by exact ⟨by omega, by omega⟩))
        obtain ⟨S30, HH126⟩ : ∃ S, Held Nob w (rO eStore S [.int .i64 ((numR ((cutR 58 a1).1)).1), .slice Ar24_0 ((rdLsI ((cutR 58 a1).2.1)).1.length) cr24_0] ((numR ((cutR 58 a1).1)).1, (rdLsI ((cutR 58 a1).2.1)).1) :: _) _ := ⟨_, HH125⟩
        have hF : (rdStI a0 a1) = (((numR ((cutR 58 a1).1)).1, (rdLsI ((cutR 58 a1).2.1)).1), true) := by
          unfold rdStI; first | (rw [if_pos ⟨⟨by assumption, by assumption⟩, by assumption⟩]; rfl) | (exact if_neg (fun hh => ff hh.1.1 (by assumption))) | (exact if_neg (fun hh => ff hh.1.2 (by assumption))) | (exact if_neg (fun hh => absurd hh.2 (by assumption)))
        exact ⟨_, by first | (rw [hF] <;> rfl) | rfl | (rw [hF]; simp only [Ending.returned.injEq, Value.slice.injEq, true_and, and_true]; first | omega | (simp; done)) | (rw [hF]; simp; omega), by rw [hF]; exact (HH126.o (i := 0) rfl), HH126.below⟩
    · refine pl_no HE93 (wtF HE93 rfl rfl rfl (not_t hc27)) rfl rfl fun a_127 HE128 => ?_
      refine pl_no HE128 (wtF HE128 rfl rfl rfl (not_t hc27)) rfl rfl fun a_129 HE130 => ?_
      refine pl_no HE130 (wtF HE130 rfl rfl rfl (not_t hc27)) rfl rfl fun a_131 HE132 => ?_
      refine pl_no HE132 (wtF HE132 rfl rfl rfl (not_t hc27)) rfl rfl fun a_133 HE134 => ?_
      refine pl_no HE134 (wtF HE134 rfl rfl rfl (not_t hc27)) rfl rfl fun a_135 HE136 => ?_
      refine pl_x HE136 HH79 (wt0 rfl) (x_pickT rfl (not_t hc27) rfl) rfl rfl fun a_137 HE138 => ?_
      refine wpList_nil ?_
      clear a_74 HE75 a_80 HE81 a_82 HE83 a_84 HE85 a_86 HE87 a_88 HE89 a_90 HE91 a_92 HE93 a_127 HE128 a_129 HE130 a_131 HE132 a_133 HE134 a_135 HE136
      refine nrm ?_
      refine cndT HE138 rfl rfl ?_
      refine wp_seq ?_
      refine rg ?_
      refine pl_x HE138 HH79 (wt0 rfl) (show XS _ _ _ _ (.agg #[.int .i64 (0), .slice none (0) 0]) from x_build (vs := []) tb_41 rfl (by simp [Value.oneCell'])) rfl rfl fun a_139 HE140 => ?_
      refine pl fun K_141 hK142 => ?_
      refine st_store (vs := [.int .i64 (0), .slice none (0) 0]) 2 HE140 HH79 tv_41 rfl rfl rfl rfl rfl rfl (by simp [Value.oneCell']) (wt0 rfl) fun w' HH143 => hK142 _ _ ?_
      refine pl_x HE140 HH143 (wt0 rfl) (x_assign rfl) rfl rfl fun a_144 HE145 => ?_
      refine wpList_nil ?_
      clear a_137 HE138 HH79 a_139 HE140 hK142 K_141
      refine nrm ?_
      refine wp_ret ?_
      refine (thn_ret ?_)
      refine ret2 HE145 rfl (rv_cell rfl (tv_41.loadN (cs := [.int .i64 (0), .slice none (0) 0]) rfl (c_blkN 2 rfl _ HH143))) (rv_tmp rfl) ?_
      have HH146 := HH143.flatO (E := eStore) (cs := [.int .i64 (0), .slice none (0) 0]) (x := (0, [])) (fun _ => (oPrN (oI (by exact ⟨by omega, by omega⟩)) (oSl (So.nil (Nat.zero_le _)))))
      have hF : (rdStI a0 a1) = ((0, []), false) := by
        unfold rdStI; first | (rw [if_pos ⟨⟨by assumption, by assumption⟩, by assumption⟩]; rfl) | (exact if_neg (fun hh => ff hh.1.1 (by assumption))) | (exact if_neg (fun hh => ff hh.1.2 (by assumption))) | (exact if_neg (fun hh => absurd hh.2 (by assumption)))
      exact ⟨_, by first | (rw [hF] <;> rfl) | rfl | (rw [hF]; simp only [Ending.returned.injEq, Value.slice.injEq, true_and, and_true]; first | omega | (simp; done)) | (rw [hF]; simp; omega), by rw [hF]; exact (HH146.o (i := 0) rfl), HH146.below⟩
  · refine pl_no HE85 (wtF HE85 rfl rfl rfl (not_t hc26)) rfl rfl fun a_147 HE148 => ?_
    refine pl_no HE148 (wtF HE148 rfl rfl rfl (not_t hc26)) rfl rfl fun a_149 HE150 => ?_
    refine pl_x HE150 HH79 (wt0 rfl) (x_pickT rfl (not_t hc26) rfl) rfl rfl fun a_151 HE152 => ?_
    refine pl_x HE152 HH79 (wt0 rfl) (x_move rfl) rfl rfl fun a_153 HE154 => ?_
    refine pl_no HE154 (wtF HE154 rfl rfl rfl rfl) rfl rfl fun a_155 HE156 => ?_
    refine pl_no HE156 (wtF HE156 rfl rfl rfl rfl) rfl rfl fun a_157 HE158 => ?_
    refine pl_no HE158 (wtF HE158 rfl rfl rfl rfl) rfl rfl fun a_159 HE160 => ?_
    refine pl_no HE160 (wtF HE160 rfl rfl rfl rfl) rfl rfl fun a_161 HE162 => ?_
    refine pl_no HE162 (wtF HE162 rfl rfl rfl rfl) rfl rfl fun a_163 HE164 => ?_
    refine pl_x HE164 HH79 (wt0 rfl) (x_pickT rfl rfl rfl) rfl rfl fun a_165 HE166 => ?_
    refine wpList_nil ?_
    clear a_74 HE75 a_80 HE81 a_82 HE83 a_84 HE85 a_147 HE148 a_149 HE150 a_151 HE152 a_153 HE154 a_155 HE156 a_157 HE158 a_159 HE160 a_161 HE162 a_163 HE164
    refine nrm ?_
    refine cndT HE166 rfl rfl ?_
    refine wp_seq ?_
    refine rg ?_
    refine pl_x HE166 HH79 (wt0 rfl) (show XS _ _ _ _ (.agg #[.int .i64 (0), .slice none (0) 0]) from x_build (vs := []) tb_41 rfl (by simp [Value.oneCell'])) rfl rfl fun a_167 HE168 => ?_
    refine pl fun K_169 hK170 => ?_
    refine st_store (vs := [.int .i64 (0), .slice none (0) 0]) 2 HE168 HH79 tv_41 rfl rfl rfl rfl rfl rfl (by simp [Value.oneCell']) (wt0 rfl) fun w' HH171 => hK170 _ _ ?_
    refine pl_x HE168 HH171 (wt0 rfl) (x_assign rfl) rfl rfl fun a_172 HE173 => ?_
    refine wpList_nil ?_
    clear a_165 HE166 HH79 a_167 HE168 hK170 K_169
    refine nrm ?_
    refine wp_ret ?_
    refine (thn_ret ?_)
    refine ret2 HE173 rfl (rv_cell rfl (tv_41.loadN (cs := [.int .i64 (0), .slice none (0) 0]) rfl (c_blkN 2 rfl _ HH171))) (rv_tmp rfl) ?_
    have HH174 := HH171.flatO (E := eStore) (cs := [.int .i64 (0), .slice none (0) 0]) (x := (0, [])) (fun _ => (oPrN (oI (by exact ⟨by omega, by omega⟩)) (oSl (So.nil (Nat.zero_le _)))))
    have hF : (rdStI a0 a1) = ((0, []), false) := by
      unfold rdStI; first | (rw [if_pos ⟨⟨by assumption, by assumption⟩, by assumption⟩]; rfl) | (exact if_neg (fun hh => ff hh.1.1 (by assumption))) | (exact if_neg (fun hh => ff hh.1.2 (by assumption))) | (exact if_neg (fun hh => absurd hh.2 (by assumption)))
    exact ⟨_, by first | (rw [hF] <;> rfl) | rfl | (rw [hF]; simp only [Ending.returned.injEq, Value.slice.injEq, true_and, and_true]; first | omega | (simp; done)) | (rw [hF]; simp; omega), by rw [hF]; exact (HH174.o (i := 0) rfl), HH174.below⟩

open Go.Lib in
set_option maxRecDepth 100000 in
set_option maxHeartbeats 4000000 in
theorem spec_ReadStore (A0 : Option Addr) (c0 : Nat) (a0 : (List tInstr)) (a1 : List UInt8) (w : World) (h0 : Sl eInstr w (Old w) A0 c0 a0) (s0 : a1.length ≤ 2000000) :
    Calls Tryz.prog 18 #[.slice A0 a0.length c0, .string (bs a1)] w fun e w' => ∃ (es0' : List Value), e = .returned (.tuple #[.agg es0'.toArray, .bool (rdStI a0 a1).2]) ∧ eStore.O w' (Fr w w') es0' (rdStI a0 a1).1 ∧ Below w.heap.size w w' := by
  have l0 := h0.len
  have HH1 := Held.start Nob w
  refine enter (n := 53) Tryz.func18 rfl rfl rfl fun a_2 HE3 => ?_
  refine wp_seq ?_
  refine rg ?_
  refine pl fun K_4 hK5 => ?_
  refine st_alloc HE3 HH1 tv_41 (wt0 rfl) rfl fun q21 a_6 w' HE7 HH8 => hK5 _ _ ?_
  refine pl_x HE7 HH8 (wt0 rfl) (x_assign rfl) rfl rfl fun a_9 HE10 => ?_
  refine wpList_nil ?_
  clear a_2 HE3 HH1 a_6 HE7 hK5 K_4
  refine nrm ?_
  refine wp_seq ?_
  refine rg ?_
  refine pl_x HE10 HH8 (wt0 rfl) (x_move rfl) rfl rfl fun a_11 HE12 => ?_
  refine pl fun K_13 hK14 => ?_
  refine st_call HE12 (wt0 rfl) rfl rfl rfl en_63 rfl rfl (spec_l01Split a1 _ 58 _ (by omega) (by rfl)) fun e w' hr => ?_
  have hAr22_0 := splitR_len 58 a1
  have hAr22_1 := splitR_piece 58 a1
  obtain ⟨Ar22_0, cr22_0, rfl, hor22_0, hbr22⟩ := hr
  obtain ⟨Sr22, HH15⟩ := HH8.newS hbr22 hor22_0
  refine ⟨_, rfl, fun a_16 HE17 => hK14 _ _ ?_⟩
  refine pl_x HE17 HH15 (wt0 rfl) (x_assign rfl) rfl rfl fun a_18 HE19 => ?_
  refine wpList_nil ?_
  clear a_9 HE10 HH8 a_11 HE12 a_16 HE17 hK14 K_13
  refine nrm ?_
  refine wp_seq ?_
  refine wp_seq ?_
  refine rg ?_
  refine pl_x HE19 HH15 (wt0 rfl) (x_move rfl) rfl rfl fun a_20 HE21 => ?_
  refine pl fun K_22 hK23 => ?_
  refine st_call HE21 (wt0 rfl) rfl rfl rfl en_64 rfl rfl (spec_l07Is _ _ a0 _ (HH15.old h0)) fun e w' hr => ?_
  obtain ⟨rfl, hbr23⟩ := hr
  have HH24 := HH15.on hbr23
  refine ⟨_, rfl, fun a_25 HE26 => hK23 _ _ ?_⟩
  refine pl_x HE26 HH24 (wt0 rfl) (x_not rfl) rfl rfl fun a_27 HE28 => ?_
  refine pl_x HE28 HH24 (wt0 rfl) (x_move rfl) rfl rfl fun a_29 HE30 => ?_
  rcases Bool.eq_false_or_eq_true ((validProg a0)) with hc24 | hc24
  · refine pl_x HE30 HH24 (wtT HE30 rfl rfl rfl (not_f hc24)) (x_move rfl) rfl rfl fun a_31 HE32 => ?_
    refine pl_x HE32 HH24 (wtT HE32 rfl rfl rfl (not_f hc24)) (x_len Tryz.underlying78 rfl) rfl rfl fun a_33 HE34 => ?_
    refine pl_x HE34 HH24 (wtT HE34 rfl rfl rfl (not_f hc24)) (x_neq rfl rfl) rfl rfl fun a_35 HE36 => ?_
    refine pl_x HE36 HH24 (wt0 rfl) (x_pickF rfl (not_f hc24) rfl) rfl rfl fun a_37 HE38 => ?_
    refine wpList_nil ?_
    clear a_18 HE19 HH15 a_20 HE21 a_25 HE26 a_27 HE28 a_29 HE30 a_31 HE32 a_33 HE34 a_35 HE36 hK23 K_22
    refine nrm ?_
    refine cnd_ne HE38 rfl (fun hc25 => ?_) (fun hc25 => ?_)
    · refine wp_seq ?_
      refine rg ?_
      refine pl_x HE38 HH24 (wt0 rfl) (show XS _ _ _ _ (.agg #[.int .i64 (0), .slice none (0) 0]) from x_build (vs := []) tb_41 rfl (by simp [Value.oneCell'])) rfl rfl fun a_39 HE40 => ?_
      refine pl fun K_41 hK42 => ?_
      refine st_store (vs := [.int .i64 (0), .slice none (0) 0]) 1 HE40 HH24 tv_41 rfl rfl rfl rfl rfl rfl (by simp [Value.oneCell']) (wt0 rfl) fun w' HH43 => hK42 _ _ ?_
      refine pl_x HE40 HH43 (wt0 rfl) (x_assign rfl) rfl rfl fun a_44 HE45 => ?_
      refine wpList_nil ?_
      clear a_37 HE38 HH24 a_39 HE40 hK42 K_41
      refine nrm ?_
      refine wp_ret ?_
      refine (thn_ret ?_)
      refine ret2 HE45 rfl (rv_cell rfl (tv_41.loadN (cs := [.int .i64 (0), .slice none (0) 0]) rfl (c_blkN 1 rfl _ HH43))) (rv_tmp rfl) ?_
      have HH46 := HH43.flatO (E := eStore) (cs := [.int .i64 (0), .slice none (0) 0]) (x := (0, [])) (fun _ => (oPrN (oI (by exact ⟨by omega, by omega⟩)) (oSl (So.nil (Nat.zero_le _)))))
      have hF : (rdStI a0 a1) = ((0, []), false) := by
        rw [← rdSt_eq]; first | (unfold rdStS; exact if_neg (fun hh => ff hh.1 (by assumption))) | (unfold rdStS; exact if_neg (fun hh => by omega)) | (rw [rdStS_eq (by assumption) rfl (by omega) (by omega) hz0 hz1]; first | (rw [if_pos ⟨⟨by assumption, by assumption⟩, by assumption⟩]; rfl) | (exact if_neg (fun hh => ff hh.1.1 (by assumption))) | (exact if_neg (fun hh => ff hh.1.2 (by assumption))) | (exact if_neg (fun hh => ff hh.2 (by assumption))))
      exact ⟨_, by first | (rw [hF] <;> rfl) | rfl | (rw [hF]; simp only [Ending.returned.injEq, Value.slice.injEq, true_and, and_true]; first | omega | (simp; done)) | (rw [hF]; simp; omega), by rw [hF]; exact (HH46.o (i := 0) rfl), HH46.below⟩
    · refine wp_skip ?_
      refine nrm ?_
      refine wp_seq ?_
      refine rg ?_
      refine pl_x HE38 HH24 (wt0 rfl) (x_move rfl) rfl rfl fun a_47 HE48 => ?_
      have ke26 : 0 < (splitR 58 a1).length := by omega
      obtain ⟨be26, fe26, rfl⟩ := el_own HH24 (i := 0) rfl ke26
      refine pl_x HE48 HH24 (wt0 rfl) (x_indexAddr ts_78 rfl rfl rfl rfl ke26) rfl rfl fun a_49 HE50 => ?_
      obtain ⟨y27, xy27⟩ : ∃ y_, y_ = (splitR 58 a1)[0]'(by first | exact ke26 | (simp only [List.length_set]; exact ke26) | omega | (simp only [List.length_set]; omega) | (simp; omega)) := ⟨_, rfl⟩
      have jy27 : List.length y27 ≤ 9223372036854775807 := by rw [xy27]; exact i_ownS HH24 0 rfl _
      have hz0 := xy27
      have hpy27 := splitR_piece 58 _ y27 (by rw [xy27]; exact List.getElem_mem _)
      refine pl_x HE50 HH24 (wt0 rfl) (x_load1 tv_9 rfl (c_ownS 0 rfl (by first | exact ke26 | (simp only [List.length_set]; exact ke26) | omega | (simp only [List.length_set]; omega) | (simp; omega)) xy27.symm)) rfl rfl fun a_51 HE52 => ?_
      refine pl fun K_53 hK54 => ?_
      refine st_call HE52 (wt0 rfl) rfl rfl rfl en_65 rfl rfl (spec_l01Number y27 _ (by omega)) fun e w' hr => ?_
      have hAr28_0 := numC_bd y27
      obtain ⟨rfl, hbr28⟩ := hr
      have HH55 := HH24.on hbr28
      refine ⟨_, rfl, fun a_56 HE57 => hK54 _ _ ?_⟩
      refine pl_x HE57 HH55 (wt0 rfl) (x_move rfl) rfl rfl fun a_58 HE59 => ?_
      refine pl_x HE59 HH55 (wt0 rfl) (x_extract rfl rfl) rfl rfl fun a_60 HE61 => ?_
      refine pl_x HE61 HH55 (wt0 rfl) (x_extract rfl rfl) rfl rfl fun a_62 HE63 => ?_
      refine pl_x HE63 HH55 (wt0 rfl) (x_assign rfl) rfl rfl fun a_64 HE65 => ?_
      refine pl_x HE65 HH55 (wt0 rfl) (x_assign rfl) rfl rfl fun a_66 HE67 => ?_
      refine wpList_nil ?_
      clear a_37 HE38 a_47 HE48 a_49 HE50 HH24 a_51 HE52 a_56 HE57 a_58 HE59 a_60 HE61 a_62 HE63 a_64 HE65 hK54 K_53
      refine nrm ?_
      refine wp_seq ?_
      refine rg ?_
      refine pl_x HE67 HH55 (wt0 rfl) (x_move rfl) rfl rfl fun a_68 HE69 => ?_
      have ke29 : 1 < (splitR 58 a1).length := by omega
      refine pl_x HE69 HH55 (wt0 rfl) (x_indexAddr ts_78 rfl rfl rfl rfl ke29) rfl rfl fun a_70 HE71 => ?_
      obtain ⟨y30, xy30⟩ : ∃ y_, y_ = (splitR 58 a1)[1]'(by first | exact ke29 | (simp only [List.length_set]; exact ke29) | omega | (simp only [List.length_set]; omega) | (simp; omega)) := ⟨_, rfl⟩
      have jy30 : List.length y30 ≤ 9223372036854775807 := by rw [xy30]; exact i_ownS HH55 0 rfl _
      have hz1 := xy30
      have hpy30 := splitR_piece 58 _ y30 (by rw [xy30]; exact List.getElem_mem _)
      refine pl_x HE71 HH55 (wt0 rfl) (x_load1 tv_9 rfl (c_ownS 0 rfl (by first | exact ke29 | (simp only [List.length_set]; exact ke29) | omega | (simp only [List.length_set]; omega) | (simp; omega)) xy30.symm)) rfl rfl fun a_72 HE73 => ?_
      refine pl fun K_74 hK75 => ?_
      refine st_call HE73 (wt0 rfl) rfl rfl rfl en_66 rfl rfl (spec_ReadList y30 _ (by omega)) fun e w' hr => ?_
      obtain ⟨Ar31_0, cr31_0, rfl, hor31_0, hbr31⟩ := hr
      obtain ⟨Sr31, HH76⟩ := HH55.newS hbr31 hor31_0
      refine ⟨_, rfl, fun a_77 HE78 => hK75 _ _ ?_⟩
      refine pl_x HE78 HH76 (wt0 rfl) (x_move rfl) rfl rfl fun a_79 HE80 => ?_
      refine pl_x HE80 HH76 (wt0 rfl) (x_extract rfl rfl) rfl rfl fun a_81 HE82 => ?_
      refine pl_x HE82 HH76 (wt0 rfl) (x_extract rfl rfl) rfl rfl fun a_83 HE84 => ?_
      refine pl_x HE84 HH76 (wt0 rfl) (x_assign rfl) rfl rfl fun a_85 HE86 => ?_
      refine pl_x HE86 HH76 (wt0 rfl) (x_assign rfl) rfl rfl fun a_87 HE88 => ?_
      refine wpList_nil ?_
      clear a_66 HE67 a_68 HE69 a_70 HE71 HH55 a_72 HE73 a_77 HE78 a_79 HE80 a_81 HE82 a_83 HE84 a_85 HE86 hK75 K_74
      refine nrm ?_
      refine wp_seq ?_
      refine rg ?_
      refine pl_x HE88 HH76 (wt0 rfl) (x_move rfl) rfl rfl fun a_89 HE90 => ?_
      refine pl_x HE90 HH76 (wt0 rfl) (x_move rfl) rfl rfl fun a_91 HE92 => ?_
      refine pl_x HE92 HH76 (wt0 rfl) (show XS _ _ _ _ (.agg #[.int .i64 ((numC y27).1), .slice Ar31_0 ((rdLsI y30).1.length) cr31_0]) from x_build (vs := [(0, .int .i64 ((numC y27).1)), (1, .slice Ar31_0 ((rdLsI y30).1.length) cr31_0)]) tb_41 rfl (by simp [Value.oneCell'])) rfl rfl fun a_93 HE94 => ?_
      refine pl fun K_95 hK96 => ?_
      refine st_alloc HE94 HH76 tv_41 (wt0 rfl) rfl fun q32 a_97 w' HE98 HH99 => hK96 _ _ ?_
      refine pl fun K_100 hK101 => ?_
      refine st_store (vs := [.int .i64 ((numC y27).1), .slice Ar31_0 ((rdLsI y30).1.length) cr31_0]) 0 HE98 HH99 tv_41 rfl rfl rfl rfl rfl rfl (by simp [Value.oneCell']) (wt0 rfl) fun w' HH102 => hK101 _ _ ?_
      refine wpList_nil ?_
      clear a_87 HE88 a_89 HE90 a_91 HE92 a_93 HE94 HH76 K_95 hK96 HH99 hK101 K_100
      refine nrm ?_
      refine wp_seq ?_
      refine wp_seq ?_
      refine rg ?_
      refine pl_x HE98 HH102 (wt0 rfl) (x_move rfl) rfl rfl fun a_103 HE104 => ?_
      refine pl_x HE104 HH102 (wt0 rfl) (x_not rfl) rfl rfl fun a_105 HE106 => ?_
      refine pl_x HE106 HH102 (wt0 rfl) (x_move rfl) rfl rfl fun a_107 HE108 => ?_
      rcases Bool.eq_false_or_eq_true ((numC y27).2) with hc33 | hc33
      · refine pl_x HE108 HH102 (wtT HE108 rfl rfl rfl (not_f hc33)) (x_move rfl) rfl rfl fun a_109 HE110 => ?_
        refine pl_x HE110 HH102 (wtT HE110 rfl rfl rfl (not_f hc33)) (x_not rfl) rfl rfl fun a_111 HE112 => ?_
        refine pl_x HE112 HH102 (wt0 rfl) (x_pickF rfl (not_f hc33) rfl) rfl rfl fun a_113 HE114 => ?_
        refine pl_x HE114 HH102 (wt0 rfl) (x_move rfl) rfl rfl fun a_115 HE116 => ?_
        rcases Bool.eq_false_or_eq_true ((rdLsI y30).2) with hc34 | hc34
        · refine pl_x HE116 HH102 (wtT HE116 rfl rfl rfl (not_f hc34)) (x_move rfl) rfl rfl fun a_117 HE118 => ?_
          refine pl fun K_119 hK120 => ?_
          refine st_call HE118 (wtT HE118 rfl rfl rfl (not_f hc34)) rfl rfl rfl en_67 rfl rfl (spec_l07GoodP _ _ a0 _ _ _ ((numC y27).1, (rdLsI y30).1) _ (HH102.old h0) (rep_Store (x := ((numC y27).1, (rdLsI y30).1)) (by exact ⟨by omega, by omega⟩) (HH102.sl (i := 1) rfl)) (c_blkN 0 rfl _ HH102)) fun e w' hr => ?_
          obtain ⟨rfl, rfl⟩ := hr
          refine ⟨_, rfl, fun a_121 HE122 => hK120 _ _ ?_⟩
          refine pl_x HE122 HH102 (wtT HE122 rfl rfl rfl (not_f hc34)) (x_not rfl) rfl rfl fun a_123 HE124 => ?_
          refine pl_x HE124 HH102 (wt0 rfl) (x_pickF rfl (not_f hc34) rfl) rfl rfl fun a_125 HE126 => ?_
          refine wpList_nil ?_
          clear a_97 HE98 a_103 HE104 a_105 HE106 a_107 HE108 a_109 HE110 a_111 HE112 a_113 HE114 a_115 HE116 a_117 HE118 a_121 HE122 a_123 HE124 hK120 K_119
          refine nrm ?_
          refine cnd_nb HE126 rfl (fun hc36 => ?_) (fun hc36 => ?_)
          · refine wp_seq ?_
            refine rg ?_
            refine pl_x HE126 HH102 (wt0 rfl) (show XS _ _ _ _ (.agg #[.int .i64 (0), .slice none (0) 0]) from x_build (vs := []) tb_41 rfl (by simp [Value.oneCell'])) rfl rfl fun a_127 HE128 => ?_
            refine pl fun K_129 hK130 => ?_
            refine st_store (vs := [.int .i64 (0), .slice none (0) 0]) 3 HE128 HH102 tv_41 rfl rfl rfl rfl rfl rfl (by simp [Value.oneCell']) (wt0 rfl) fun w' HH131 => hK130 _ _ ?_
            refine pl_x HE128 HH131 (wt0 rfl) (x_assign rfl) rfl rfl fun a_132 HE133 => ?_
            refine wpList_nil ?_
            clear a_125 HE126 HH102 a_127 HE128 hK130 K_129
            refine nrm ?_
            refine wp_ret ?_
            refine (thn_ret ?_)
            refine ret2 HE133 rfl (rv_cell rfl (tv_41.loadN (cs := [.int .i64 (0), .slice none (0) 0]) rfl (c_blkN 3 rfl _ HH131))) (rv_tmp rfl) ?_
            have HH134 := HH131.flatO (E := eStore) (cs := [.int .i64 (0), .slice none (0) 0]) (x := (0, [])) (fun _ => (oPrN (oI (by exact ⟨by omega, by omega⟩)) (oSl (So.nil (Nat.zero_le _)))))
            have hF : (rdStI a0 a1) = ((0, []), false) := by
              rw [← rdSt_eq]; first | (unfold rdStS; exact if_neg (fun hh => ff hh.1 (by assumption))) | (unfold rdStS; exact if_neg (fun hh => by omega)) | (rw [rdStS_eq (by assumption) rfl (by omega) (by omega) hz0 hz1]; first | (rw [if_pos ⟨⟨by assumption, by assumption⟩, by assumption⟩]; rfl) | (exact if_neg (fun hh => ff hh.1.1 (by assumption))) | (exact if_neg (fun hh => ff hh.1.2 (by assumption))) | (exact if_neg (fun hh => ff hh.2 (by assumption))))
            exact ⟨_, by first | (rw [hF] <;> rfl) | rfl | (rw [hF]; simp only [Ending.returned.injEq, Value.slice.injEq, true_and, and_true]; first | omega | (simp; done)) | (rw [hF]; simp; omega), by rw [hF]; exact (HH134.o (i := 0) rfl), HH134.below⟩
          · refine wp_skip ?_
            refine nrm ?_
            refine wp_seq ?_
            refine rg ?_
            refine pl_x HE126 HH102 (wt0 rfl) (x_loadN (cs := [.int .i64 ((numC y27).1), .slice Ar31_0 ((rdLsI y30).1.length) cr31_0]) tv_41 rfl rfl (c_blkN 0 rfl)) rfl rfl fun a_135 HE136 => ?_
            refine pl fun K_137 hK138 => ?_
            refine st_store (vs := [.int .i64 ((numC y27).1), .slice Ar31_0 ((rdLsI y30).1.length) cr31_0]) 3 HE136 HH102 tv_41 rfl rfl rfl rfl rfl rfl (by simp [Value.oneCell']) (wt0 rfl) fun w' HH139 => hK138 _ _ ?_
            refine pl_x HE136 HH139 (wt0 rfl) (x_assign rfl) rfl rfl fun a_140 HE141 => ?_
            refine wpList_nil ?_
            clear a_125 HE126 HH102 a_135 HE136 hK138 K_137
            refine nrm ?_
            refine wp_ret ?_
            refine ret2 HE141 rfl (rv_cell rfl (tv_41.loadN (cs := [.int .i64 ((numC y27).1), .slice Ar31_0 ((rdLsI y30).1.length) cr31_0]) rfl (c_blkN 3 rfl _ HH139))) (rv_tmp rfl) ?_
            have HH142 := HH139.sel [1, 0, 2, 3] (by decide) rfl
            have HH143 := HH142.pairF (E := eInt) (c1 := [.int .i64 ((numC y27).1)]) (x := (numC y27).1) (oI (by exact ⟨by omega, by omega⟩))
            obtain ⟨S37, HH144⟩ : ∃ S, Held Nob w (rO eStore S [.int .i64 ((numC y27).1), .slice Ar31_0 ((rdLsI y30).1.length) cr31_0] ((numC y27).1, (rdLsI y30).1) :: _) _ := ⟨_, HH143⟩
            have hF : (rdStI a0 a1) = (((numC y27).1, (rdLsI y30).1), true) := by
              rw [← rdSt_eq]; first | (unfold rdStS; exact if_neg (fun hh => ff hh.1 (by assumption))) | (unfold rdStS; exact if_neg (fun hh => by omega)) | (rw [rdStS_eq (by assumption) rfl (by omega) (by omega) hz0 hz1]; first | (rw [if_pos ⟨⟨by assumption, by assumption⟩, by assumption⟩]; rfl) | (exact if_neg (fun hh => ff hh.1.1 (by assumption))) | (exact if_neg (fun hh => ff hh.1.2 (by assumption))) | (exact if_neg (fun hh => ff hh.2 (by assumption))))
            exact ⟨_, by first | (rw [hF] <;> rfl) | rfl | (rw [hF]; simp only [Ending.returned.injEq, Value.slice.injEq, true_and, and_true]; first | omega | (simp; done)) | (rw [hF]; simp; omega), by rw [hF]; exact (HH144.o (i := 0) rfl), HH144.below⟩
        · refine pl_no HE116 (wtF HE116 rfl rfl rfl (not_t hc34)) rfl rfl fun a_145 HE146 => ?_
          refine pl_no HE146 (wtF HE146 rfl rfl rfl (not_t hc34)) rfl rfl fun a_147 HE148 => ?_
          refine pl_no HE148 (wtF HE148 rfl rfl rfl (not_t hc34)) rfl rfl fun a_149 HE150 => ?_
          refine pl_x HE150 HH102 (wt0 rfl) (x_pickT rfl (not_t hc34) rfl) rfl rfl fun a_151 HE152 => ?_
          refine wpList_nil ?_
          clear a_97 HE98 a_103 HE104 a_105 HE106 a_107 HE108 a_109 HE110 a_111 HE112 a_113 HE114 a_115 HE116 a_145 HE146 a_147 HE148 a_149 HE150
          refine nrm ?_
          refine cndT HE152 rfl rfl ?_
          refine wp_seq ?_
          refine rg ?_
          refine pl_x HE152 HH102 (wt0 rfl) (show XS _ _ _ _ (.agg #[.int .i64 (0), .slice none (0) 0]) from x_build (vs := []) tb_41 rfl (by simp [Value.oneCell'])) rfl rfl fun a_153 HE154 => ?_
          refine pl fun K_155 hK156 => ?_
          refine st_store (vs := [.int .i64 (0), .slice none (0) 0]) 3 HE154 HH102 tv_41 rfl rfl rfl rfl rfl rfl (by simp [Value.oneCell']) (wt0 rfl) fun w' HH157 => hK156 _ _ ?_
          refine pl_x HE154 HH157 (wt0 rfl) (x_assign rfl) rfl rfl fun a_158 HE159 => ?_
          refine wpList_nil ?_
          clear a_151 HE152 HH102 a_153 HE154 hK156 K_155
          refine nrm ?_
          refine wp_ret ?_
          refine (thn_ret ?_)
          refine ret2 HE159 rfl (rv_cell rfl (tv_41.loadN (cs := [.int .i64 (0), .slice none (0) 0]) rfl (c_blkN 3 rfl _ HH157))) (rv_tmp rfl) ?_
          have HH160 := HH157.flatO (E := eStore) (cs := [.int .i64 (0), .slice none (0) 0]) (x := (0, [])) (fun _ => (oPrN (oI (by exact ⟨by omega, by omega⟩)) (oSl (So.nil (Nat.zero_le _)))))
          have hF : (rdStI a0 a1) = ((0, []), false) := by
            rw [← rdSt_eq]; first | (unfold rdStS; exact if_neg (fun hh => ff hh.1 (by assumption))) | (unfold rdStS; exact if_neg (fun hh => by omega)) | (rw [rdStS_eq (by assumption) rfl (by omega) (by omega) hz0 hz1]; first | (rw [if_pos ⟨⟨by assumption, by assumption⟩, by assumption⟩]; rfl) | (exact if_neg (fun hh => ff hh.1.1 (by assumption))) | (exact if_neg (fun hh => ff hh.1.2 (by assumption))) | (exact if_neg (fun hh => ff hh.2 (by assumption))))
          exact ⟨_, by first | (rw [hF] <;> rfl) | rfl | (rw [hF]; simp only [Ending.returned.injEq, Value.slice.injEq, true_and, and_true]; first | omega | (simp; done)) | (rw [hF]; simp; omega), by rw [hF]; exact (HH160.o (i := 0) rfl), HH160.below⟩
      · refine pl_no HE108 (wtF HE108 rfl rfl rfl (not_t hc33)) rfl rfl fun a_161 HE162 => ?_
        refine pl_no HE162 (wtF HE162 rfl rfl rfl (not_t hc33)) rfl rfl fun a_163 HE164 => ?_
        refine pl_x HE164 HH102 (wt0 rfl) (x_pickT rfl (not_t hc33) rfl) rfl rfl fun a_165 HE166 => ?_
        refine pl_x HE166 HH102 (wt0 rfl) (x_move rfl) rfl rfl fun a_167 HE168 => ?_
        refine pl_no HE168 (wtF HE168 rfl rfl rfl rfl) rfl rfl fun a_169 HE170 => ?_
        refine pl_no HE170 (wtF HE170 rfl rfl rfl rfl) rfl rfl fun a_171 HE172 => ?_
        refine pl_no HE172 (wtF HE172 rfl rfl rfl rfl) rfl rfl fun a_173 HE174 => ?_
        refine pl_x HE174 HH102 (wt0 rfl) (x_pickT rfl rfl rfl) rfl rfl fun a_175 HE176 => ?_
        refine wpList_nil ?_
        clear a_97 HE98 a_103 HE104 a_105 HE106 a_107 HE108 a_161 HE162 a_163 HE164 a_165 HE166 a_167 HE168 a_169 HE170 a_171 HE172 a_173 HE174
        refine nrm ?_
        refine cndT HE176 rfl rfl ?_
        refine wp_seq ?_
        refine rg ?_
        refine pl_x HE176 HH102 (wt0 rfl) (show XS _ _ _ _ (.agg #[.int .i64 (0), .slice none (0) 0]) from x_build (vs := []) tb_41 rfl (by simp [Value.oneCell'])) rfl rfl fun a_177 HE178 => ?_
        refine pl fun K_179 hK180 => ?_
        refine st_store (vs := [.int .i64 (0), .slice none (0) 0]) 3 HE178 HH102 tv_41 rfl rfl rfl rfl rfl rfl (by simp [Value.oneCell']) (wt0 rfl) fun w' HH181 => hK180 _ _ ?_
        refine pl_x HE178 HH181 (wt0 rfl) (x_assign rfl) rfl rfl fun a_182 HE183 => ?_
        refine wpList_nil ?_
        clear a_175 HE176 HH102 a_177 HE178 hK180 K_179
        refine nrm ?_
        refine wp_ret ?_
        refine (thn_ret ?_)
        refine ret2 HE183 rfl (rv_cell rfl (tv_41.loadN (cs := [.int .i64 (0), .slice none (0) 0]) rfl (c_blkN 3 rfl _ HH181))) (rv_tmp rfl) ?_
        have HH184 := HH181.flatO (E := eStore) (cs := [.int .i64 (0), .slice none (0) 0]) (x := (0, [])) (fun _ => (oPrN (oI (by exact ⟨by omega, by omega⟩)) (oSl (So.nil (Nat.zero_le _)))))
        have hF : (rdStI a0 a1) = ((0, []), false) := by
          rw [← rdSt_eq]; first | (unfold rdStS; exact if_neg (fun hh => ff hh.1 (by assumption))) | (unfold rdStS; exact if_neg (fun hh => by omega)) | (rw [rdStS_eq (by assumption) rfl (by omega) (by omega) hz0 hz1]; first | (rw [if_pos ⟨⟨by assumption, by assumption⟩, by assumption⟩]; rfl) | (exact if_neg (fun hh => ff hh.1.1 (by assumption))) | (exact if_neg (fun hh => ff hh.1.2 (by assumption))) | (exact if_neg (fun hh => ff hh.2 (by assumption))))
        exact ⟨_, by first | (rw [hF] <;> rfl) | rfl | (rw [hF]; simp only [Ending.returned.injEq, Value.slice.injEq, true_and, and_true]; first | omega | (simp; done)) | (rw [hF]; simp; omega), by rw [hF]; exact (HH184.o (i := 0) rfl), HH184.below⟩
  · refine pl_no HE30 (wtF HE30 rfl rfl rfl (not_t hc24)) rfl rfl fun a_185 HE186 => ?_
    refine pl_no HE186 (wtF HE186 rfl rfl rfl (not_t hc24)) rfl rfl fun a_187 HE188 => ?_
    refine pl_no HE188 (wtF HE188 rfl rfl rfl (not_t hc24)) rfl rfl fun a_189 HE190 => ?_
    refine pl_x HE190 HH24 (wt0 rfl) (x_pickT rfl (not_t hc24) rfl) rfl rfl fun a_191 HE192 => ?_
    refine wpList_nil ?_
    clear a_18 HE19 HH15 a_20 HE21 a_25 HE26 a_27 HE28 a_29 HE30 a_185 HE186 a_187 HE188 a_189 HE190 hK23 K_22
    refine nrm ?_
    refine cndT HE192 rfl rfl ?_
    refine wp_seq ?_
    refine rg ?_
    refine pl_x HE192 HH24 (wt0 rfl) (show XS _ _ _ _ (.agg #[.int .i64 (0), .slice none (0) 0]) from x_build (vs := []) tb_41 rfl (by simp [Value.oneCell'])) rfl rfl fun a_193 HE194 => ?_
    refine pl fun K_195 hK196 => ?_
    refine st_store (vs := [.int .i64 (0), .slice none (0) 0]) 1 HE194 HH24 tv_41 rfl rfl rfl rfl rfl rfl (by simp [Value.oneCell']) (wt0 rfl) fun w' HH197 => hK196 _ _ ?_
    refine pl_x HE194 HH197 (wt0 rfl) (x_assign rfl) rfl rfl fun a_198 HE199 => ?_
    refine wpList_nil ?_
    clear a_191 HE192 HH24 a_193 HE194 hK196 K_195
    refine nrm ?_
    refine wp_ret ?_
    refine (thn_ret ?_)
    refine ret2 HE199 rfl (rv_cell rfl (tv_41.loadN (cs := [.int .i64 (0), .slice none (0) 0]) rfl (c_blkN 1 rfl _ HH197))) (rv_tmp rfl) ?_
    have HH200 := HH197.flatO (E := eStore) (cs := [.int .i64 (0), .slice none (0) 0]) (x := (0, [])) (fun _ => (oPrN (oI (by exact ⟨by omega, by omega⟩)) (oSl (So.nil (Nat.zero_le _)))))
    have hF : (rdStI a0 a1) = ((0, []), false) := by
      rw [← rdSt_eq]; first | (unfold rdStS; exact if_neg (fun hh => ff hh.1 (by assumption))) | (unfold rdStS; exact if_neg (fun hh => by omega)) | (rw [rdStS_eq (by assumption) rfl (by omega) (by omega) hz0 hz1]; first | (rw [if_pos ⟨⟨by assumption, by assumption⟩, by assumption⟩]; rfl) | (exact if_neg (fun hh => ff hh.1.1 (by assumption))) | (exact if_neg (fun hh => ff hh.1.2 (by assumption))) | (exact if_neg (fun hh => ff hh.2 (by assumption))))
    exact ⟨_, by first | (rw [hF] <;> rfl) | rfl | (rw [hF]; simp only [Ending.returned.injEq, Value.slice.injEq, true_and, and_true]; first | omega | (simp; done)) | (rw [hF]; simp; omega), by rw [hF]; exact (HH200.o (i := 0) rfl), HH200.below⟩

open Go.Lib in
set_option maxRecDepth 100000 in
set_option maxHeartbeats 4000000 in
theorem law_ReadStore (A0 : Option Addr) (c0 : Nat) (a0 : (List tInstr)) (a1 : List UInt8) (w : World) (h0 : Sl eInstr w (Old w) A0 c0 a0) (h1 : a1.length ≤ 9223372036854775807) (hG : Glob2 w) :
    Calls Tryz.prog 4 #[.slice A0 a0.length c0, .string (bs a1)] w fun e w' => e = .returned (.bool true) ∧ Below w.heap.size w w' := by
  have l0 := h0.len
  have m0 := ct_cost_SInstr a0
  have n0 : (cv_Store (rdStI a0 a1).1 : Int) ≤ 1000000000 := rdSt_ct a0 a1
  have HH1 := Held.start Nob w
  refine enter (n := 104) Tryz.func4 rfl rfl rfl fun a_2 HE3 => ?_
  refine wp_seq ?_
  refine rg ?_
  refine pl_x HE3 HH1 (wt0 rfl) (x_assign rfl) rfl rfl fun a_4 HE5 => ?_
  refine wpList_nil ?_
  clear a_2 HE3
  refine nrm ?_
  refine wp_seq ?_
  refine wp_seq ?_
  refine rg ?_
  refine pl_x HE5 HH1 (wt0 rfl) (x_move rfl) rfl rfl fun a_6 HE7 => ?_
  refine pl_x HE7 HH1 (wt0 rfl) (x_lenB Tryz.underlying9 rfl) rfl rfl fun a_8 HE9 => ?_
  refine pl_x HE9 HH1 (wt0 rfl) (x_gtr rfl rfl) rfl rfl fun a_10 HE11 => ?_
  refine wpList_nil ?_
  clear a_4 HE5 a_6 HE7 a_8 HE9
  refine nrm ?_
  refine cnd_d HE11 rfl (fun hc21 => ?_) (fun hc21 => ?_)
  · refine wp_seq ?_
    refine rg ?_
    refine pl_x HE11 HH1 (wt0 rfl) (x_assign rfl) rfl rfl fun a_12 HE13 => ?_
    refine wpList_nil ?_
    clear a_10 HE11
    refine nrm ?_
    refine wp_ret ?_
    refine (thn_ret ?_)
    refine ret1 HE13 rfl (rv_tmp rfl) ?_
    have hF : true = true := by
      first | rfl | (exfalso; omega)
    exact ⟨by first | (rw [hF] <;> rfl) | rfl | (rw [hF]; simp only [Ending.returned.injEq, Value.slice.injEq, true_and, and_true]; first | omega | (simp; done)) | (rw [hF]; simp; omega), HH1.below⟩
  · refine wp_skip ?_
    refine nrm ?_
    refine wp_seq ?_
    refine rg ?_
    refine pl_x HE11 HH1 (wt0 rfl) (x_assign rfl) rfl rfl fun a_14 HE15 => ?_
    refine wpList_nil ?_
    clear a_10 HE11
    refine nrm ?_
    refine wp_seq ?_
    refine rg ?_
    refine pl_x HE15 HH1 (wt0 rfl) (x_move rfl) rfl rfl fun a_16 HE17 => ?_
    refine pl_x HE17 HH1 (wt0 rfl) (x_move rfl) rfl rfl fun a_18 HE19 => ?_
    refine pl fun K_20 hK21 => ?_
    refine st_call HE19 (wt0 rfl) rfl rfl rfl en_17 rfl rfl (sz_InstrS _ _ a0 1048576 _ (HH1.old h0) (by omega) (by omega)) fun e w' hr => ?_
    obtain ⟨rfl, hbr22⟩ := hr
    have HH22 := HH1.on hbr22
    clear hbr22
    refine ⟨_, rfl, fun a_23 HE24 => hK21 _ _ ?_⟩
    refine pl_x HE24 HH22 (wt0 rfl) (x_assign rfl) rfl rfl fun a_25 HE26 => ?_
    refine wpList_nil ?_
    clear a_14 HE15 a_16 HE17 HH1 a_18 HE19 a_23 HE24 hK21 K_20
    refine nrm ?_
    refine wp_seq ?_
    refine wp_seq ?_
    refine rg ?_
    refine pl_x HE26 HH22 (wt0 rfl) (x_move rfl) rfl rfl fun a_27 HE28 => ?_
    refine pl_x HE28 HH22 (wt0 rfl) (x_lss rfl rfl) rfl rfl fun a_29 HE30 => ?_
    refine wpList_nil ?_
    clear a_25 HE26 a_27 HE28
    refine nrm ?_
    refine cnd_d HE30 rfl (fun hc23 => ?_) (fun hc23 => ?_)
    · refine wp_seq ?_
      refine rg ?_
      refine pl_x HE30 HH22 (wt0 rfl) (x_assign rfl) rfl rfl fun a_31 HE32 => ?_
      refine wpList_nil ?_
      clear a_29 HE30
      refine nrm ?_
      refine wp_ret ?_
      refine (thn_ret ?_)
      refine ret1 HE32 rfl (rv_tmp rfl) ?_
      have hF : true = true := by
        first | rfl | (exfalso; omega)
      exact ⟨by first | (rw [hF] <;> rfl) | rfl | (rw [hF]; simp only [Ending.returned.injEq, Value.slice.injEq, true_and, and_true]; first | omega | (simp; done)) | (rw [hF]; simp; omega), HH22.below⟩
    · have zr22 := left_ok hc23
      refine wp_skip ?_
      refine nrm ?_
      refine wp_seq ?_
      refine rg ?_
      refine pl_x HE30 HH22 (wt0 rfl) (x_move rfl) rfl rfl fun a_33 HE34 => ?_
      refine pl fun K_35 hK36 => ?_
      refine st_call HE34 (wt0 rfl) rfl rfl rfl en_19 rfl rfl (to_InstrS _ _ a0 _ (HH22.old h0) (by omega)) fun e w' hr => ?_
      obtain ⟨Ar24, cr24, rfl, hor24, hbr24⟩ := hr
      obtain ⟨Sr24, HH37⟩ := HH22.newS hbr24 hor24
      clear hbr24 hor24
      refine ⟨_, rfl, fun a_38 HE39 => hK36 _ _ ?_⟩
      refine pl_x HE39 HH37 (wt0 rfl) (x_move rfl) rfl rfl fun a_40 HE41 => ?_
      refine pl fun K_42 hK43 => ?_
      refine st_call HE41 (wt0 rfl) rfl rfl rfl en_18 rfl rfl (spec_ReadStore _ _ a0 a1 _ (HH37.sl (i := 0) rfl) (by omega)) fun e w' hr => ?_
      obtain ⟨esr25_0, rfl, hor25_0, hbr25⟩ := hr
      have hr := eStore.read hor25_0
      obtain ⟨Sr25, HH44⟩ := HH37.newO hbr25 hor25_0
      obtain ⟨Ar25_0_1, cr25_0_1, rfl, gr25_0_0, gr25_0_1⟩ := shape_Store hr
      have jr25_0_0 := gr25_0_0; unfold I64 at jr25_0_0
      refine ⟨_, rfl, fun a_45 HE46 => hK43 _ _ ?_⟩
      refine pl_x HE46 HH44 (wt0 rfl) (x_move rfl) rfl rfl fun a_47 HE48 => ?_
      refine pl_x HE48 HH44 (wt0 rfl) (x_extract rfl rfl) rfl rfl fun a_49 HE50 => ?_
      refine pl_x HE50 HH44 (wt0 rfl) (x_extract rfl rfl) rfl rfl fun a_51 HE52 => ?_
      refine pl fun K_53 hK54 => ?_
      refine st_alloc HE52 HH44 tv_41 (wt0 rfl) rfl fun q26 a_55 w' HE56 HH57 => hK54 _ _ ?_
      refine pl fun K_58 hK59 => ?_
      refine st_store (vs := [.int .i64 ((rdStI a0 a1).1.1), .slice Ar25_0_1 ((rdStI a0 a1).1.2.length) cr25_0_1]) 0 HE56 HH57 tv_41 rfl rfl rfl rfl rfl rfl (by simp [Value.oneCell']) (wt0 rfl) fun w' HH60 => hK59 _ _ ?_
      refine pl_x HE56 HH60 (wt0 rfl) (x_assign rfl) rfl rfl fun a_61 HE62 => ?_
      refine wpList_nil ?_
      clear a_29 HE30 HH22 a_33 HE34 a_38 HE39 K_35 hK36 HH37 a_40 HE41 a_45 HE46 a_47 HE48 a_49 HE50 K_42 hK43 a_51 HE52 HH44 K_53 hK54 HH57 a_55 HE56 hK59 K_58
      refine nrm ?_
      refine wp_seq ?_
      refine rg ?_
      refine pl_x HE62 HH60 (wt0 rfl) (x_move rfl) rfl rfl fun a_63 HE64 => ?_
      refine pl fun K_65 hK66 => ?_
      refine st_call HE64 (wt0 rfl) rfl rfl rfl en_19 rfl rfl (to_InstrS _ _ a0 _ (HH60.old h0) (by omega)) fun e w' hr => ?_
      obtain ⟨Ar27, cr27, rfl, hor27, hbr27⟩ := hr
      obtain ⟨Sr27, HH67⟩ := HH60.newS hbr27 hor27
      clear hbr27 hor27
      refine ⟨_, rfl, fun a_68 HE69 => hK66 _ _ ?_⟩
      refine pl_x HE69 HH67 (wt0 rfl) (x_assign rfl) rfl rfl fun a_70 HE71 => ?_
      refine wpList_nil ?_
      clear a_61 HE62 HH60 a_63 HE64 a_68 HE69 hK66 K_65
      refine nrm ?_
      refine wp_seq ?_
      refine rg ?_
      refine pl_x HE71 HH67 (wt0 rfl) (x_move rfl) rfl rfl fun a_72 HE73 => ?_
      refine pl_x HE73 HH67 (wt0 rfl) (x_move rfl) rfl rfl fun a_74 HE75 => ?_
      refine pl fun K_76 hK77 => ?_
      refine st_call HE75 (wt0 rfl) rfl rfl rfl en_20 rfl rfl (impl_ReadStore _ _ a0 a1 _ (HH67.sl (i := 0) rfl) (HH67.glob2 hG) (by omega)) fun e w' hr => ?_
      obtain ⟨esr28_0, rfl, hor28_0, hbr28⟩ := hr
      have hr := eStore.read hor28_0
      obtain ⟨Sr28, HH78⟩ := HH67.newO hbr28 hor28_0
      obtain ⟨Ar28_0_1, cr28_0_1, rfl, gr28_0_0, gr28_0_1⟩ := shape_Store hr
      have jr28_0_0 := gr28_0_0; unfold I64 at jr28_0_0
      refine ⟨_, rfl, fun a_79 HE80 => hK77 _ _ ?_⟩
      refine pl_x HE80 HH78 (wt0 rfl) (x_move rfl) rfl rfl fun a_81 HE82 => ?_
      refine pl_x HE82 HH78 (wt0 rfl) (x_extract rfl rfl) rfl rfl fun a_83 HE84 => ?_
      refine pl_x HE84 HH78 (wt0 rfl) (x_extract rfl rfl) rfl rfl fun a_85 HE86 => ?_
      refine pl fun K_87 hK88 => ?_
      refine st_alloc HE86 HH78 tv_41 (wt0 rfl) rfl fun q29 a_89 w' HE90 HH91 => hK88 _ _ ?_
      refine pl fun K_92 hK93 => ?_
      refine st_store (vs := [.int .i64 ((rdStI a0 a1).1.1), .slice Ar28_0_1 ((rdStI a0 a1).1.2.length) cr28_0_1]) 0 HE90 HH91 tv_41 rfl rfl rfl rfl rfl rfl (by simp [Value.oneCell']) (wt0 rfl) fun w' HH94 => hK93 _ _ ?_
      refine pl_x HE90 HH94 (wt0 rfl) (x_assign rfl) rfl rfl fun a_95 HE96 => ?_
      refine wpList_nil ?_
      clear a_70 HE71 a_72 HE73 HH67 a_74 HE75 a_79 HE80 a_81 HE82 a_83 HE84 K_76 hK77 a_85 HE86 HH78 K_87 hK88 HH91 a_89 HE90 hK93 K_92
      refine nrm ?_
      refine wp_seq ?_
      refine wp_seq ?_
      refine rg ?_
      refine pl_x HE96 HH94 (wt0 rfl) (x_loadN (cs := [.int .i64 ((rdStI a0 a1).1.1), .slice Ar28_0_1 ((rdStI a0 a1).1.2.length) cr28_0_1]) tv_41 rfl rfl (c_blkN 0 rfl)) rfl rfl fun a_97 HE98 => ?_
      refine pl_x HE98 HH94 (wt0 rfl) (x_loadN (cs := [.int .i64 ((rdStI a0 a1).1.1), .slice Ar25_0_1 ((rdStI a0 a1).1.2.length) cr25_0_1]) tv_41 rfl rfl (c_blkN 3 rfl)) rfl rfl fun a_99 HE100 => ?_
      refine pl fun K_101 hK102 => ?_
      refine st_call HE100 (wt0 rfl) rfl rfl rfl en_21 rfl rfl (eq_Store_c [.int .i64 ((rdStI a0 a1).1.1), .slice Ar28_0_1 ((rdStI a0 a1).1.2.length) cr28_0_1] [.int .i64 ((rdStI a0 a1).1.1), .slice Ar25_0_1 ((rdStI a0 a1).1.2.length) cr25_0_1] ((rdStI a0 a1).1) ((rdStI a0 a1).1) _ (HH94.rd (i := 1) rfl) (HH94.rd (i := 4) rfl)) fun e w' hr => ?_
      obtain ⟨rfl, hbr30⟩ := hr
      have HH103 := HH94.on hbr30
      clear hbr30
      refine ⟨_, rfl, fun a_104 HE105 => hK102 _ _ ?_⟩
      refine pl_x HE105 HH103 (wt0 rfl) (x_not rfl) rfl rfl fun a_106 HE107 => ?_
      refine pl_x HE107 HH103 (wt0 rfl) (x_move rfl) rfl rfl fun a_108 HE109 => ?_
      refine pl_x HE109 HH103 (wtT HE109 rfl rfl rfl (not_f (eq_Store_refl _))) (x_move rfl) rfl rfl fun a_110 HE111 => ?_
      refine pl_x HE111 HH103 (wtT HE111 rfl rfl rfl (not_f (eq_Store_refl _))) (x_move rfl) rfl rfl fun a_112 HE113 => ?_
      refine pl_x HE113 HH103 (wtT HE113 rfl rfl rfl (not_f (eq_Store_refl _))) (x_bneq Tryz.underlying4 rfl rfl) rfl rfl fun a_114 HE115 => ?_
      refine pl_x HE115 HH103 (wt0 rfl) (x_pickF rfl (not_f (eq_Store_refl _)) rfl) rfl rfl fun a_116 HE117 => ?_
      refine wpList_nil ?_
      clear a_95 HE96 a_97 HE98 HH94 a_99 HE100 a_104 HE105 a_106 HE107 a_108 HE109 a_110 HE111 a_112 HE113 a_114 HE115 hK102 K_101
      refine nrm ?_
      refine cndF HE117 rfl (not_f (beq_self_eq_true _)) ?_
      refine wp_skip ?_
      refine nrm ?_
      refine wp_seq ?_
      refine wp_seq ?_
      refine rg ?_
      refine pl_x HE117 HH103 (wt0 rfl) (x_move rfl) rfl rfl fun a_118 HE119 => ?_
      refine pl_x HE119 HH103 (wt0 rfl) (x_move rfl) rfl rfl fun a_120 HE121 => ?_
      refine pl fun K_122 hK123 => ?_
      refine st_call HE121 (wt0 rfl) rfl rfl rfl en_19 rfl rfl (to_InstrS _ _ a0 _ (HH103.old h0) (by omega)) fun e w' hr => ?_
      obtain ⟨Ar31, cr31, rfl, hor31, hbr31⟩ := hr
      obtain ⟨Sr31, HH124⟩ := HH103.newS hbr31 hor31
      clear hbr31 hor31
      refine ⟨_, rfl, fun a_125 HE126 => hK123 _ _ ?_⟩
      refine pl fun K_127 hK128 => ?_
      refine st_call HE126 (wt0 rfl) rfl rfl rfl en_22 rfl rfl (eq_SInstr_c _ _ _ _ a0 a0 _ (HH124.sl (i := 3) rfl) (HH124.sl (i := 0) rfl)) fun e w' hr => ?_
      obtain ⟨rfl, hbr32⟩ := hr
      have HH129 := HH124.on hbr32
      clear hbr32
      refine ⟨_, rfl, fun a_130 HE131 => hK128 _ _ ?_⟩
      refine pl_x HE131 HH129 (wt0 rfl) (x_not rfl) rfl rfl fun a_132 HE133 => ?_
      refine wpList_nil ?_
      clear a_116 HE117 a_118 HE119 HH103 a_120 HE121 K_122 hK123 HH124 a_125 HE126 a_130 HE131 hK128 K_127
      refine nrm ?_
      refine cndF HE133 rfl (not_f (eq_SInstr_refl _)) ?_
      refine wp_skip ?_
      refine nrm ?_
      refine wp_seq ?_
      refine rg ?_
      refine pl_x HE133 HH129 (wt0 rfl) (x_assign rfl) rfl rfl fun a_134 HE135 => ?_
      refine wpList_nil ?_
      clear a_132 HE133
      refine nrm ?_
      refine wp_seq ?_
      refine rg ?_
      refine pl_x HE135 HH129 (wt0 rfl) (x_move rfl) rfl rfl fun a_136 HE137 => ?_
      refine pl_x HE137 HH129 (wt0 rfl) (x_move rfl) rfl rfl fun a_138 HE139 => ?_
      refine pl fun K_140 hK141 => ?_
      refine st_call HE139 (wt0 rfl) rfl rfl rfl en_23 rfl rfl (mark_SInstr_c _ _ a0 1 _ _ (so_of_o (HH129.get (i := 3) rfl)) (HH129.lt (i := 3) rfl) (by omega) (by omega)) fun e w' hr => ?_
      obtain ⟨rfl, hsr33, hcr33⟩ := hr
      have HH142 := HH129.mut (i := 3) rfl hcr33 (rSo eInstr Sr27 Ar27 cr27 (mk_SInstr a0 1)) (oSl hsr33) (fun b hb => .inl hb)
      clear hsr33 hcr33
      refine ⟨_, rfl, fun a_143 HE144 => hK141 _ _ ?_⟩
      refine pl_x HE144 HH142 (wt0 rfl) (x_assign rfl) rfl rfl fun a_145 HE146 => ?_
      refine wpList_nil ?_
      clear a_134 HE135 a_136 HE137 HH129 a_138 HE139 a_143 HE144 hK141 K_140
      refine nrm ?_
      refine wp_seq ?_
      refine wp_seq ?_
      refine rg ?_
      refine pl_x HE146 HH142 (wt0 rfl) (x_move rfl) rfl rfl fun a_147 HE148 => ?_
      refine pl_x HE148 HH142 (wt0 rfl) (x_lss rfl rfl) rfl rfl fun a_149 HE150 => ?_
      refine pl_x HE150 HH142 (wt0 rfl) (x_move rfl) rfl rfl fun a_151 HE152 => ?_
      by_cases hc34 : (1 + (ct_SInstr a0 : Int)) < 0
      · refine pl_no HE152 (wtF HE152 rfl rfl rfl (decide_eq_true hc34)) rfl rfl fun a_153 HE154 => ?_
        refine pl_no HE154 (wtF HE154 rfl rfl rfl (decide_eq_true hc34)) rfl rfl fun a_155 HE156 => ?_
        refine pl_no HE156 (wtF HE156 rfl rfl rfl (decide_eq_true hc34)) rfl rfl fun a_157 HE158 => ?_
        refine pl_no HE158 (wtF HE158 rfl rfl rfl (decide_eq_true hc34)) rfl rfl fun a_159 HE160 => ?_
        refine pl_x HE160 HH142 (wt0 rfl) (x_pickT rfl (decide_eq_true hc34) rfl) rfl rfl fun a_161 HE162 => ?_
        refine pl_x HE162 HH142 (wt0 rfl) (x_move rfl) rfl rfl fun a_163 HE164 => ?_
        refine pl_no HE164 (wtF HE164 rfl rfl rfl rfl) rfl rfl fun a_165 HE166 => ?_
        refine pl_no HE166 (wtF HE166 rfl rfl rfl rfl) rfl rfl fun a_167 HE168 => ?_
        refine pl_no HE168 (wtF HE168 rfl rfl rfl rfl) rfl rfl fun a_169 HE170 => ?_
        refine pl_x HE170 HH142 (wt0 rfl) (x_pickT rfl rfl rfl) rfl rfl fun a_171 HE172 => ?_
        refine wpList_nil ?_
        clear a_145 HE146 a_147 HE148 a_149 HE150 a_151 HE152 a_153 HE154 a_155 HE156 a_157 HE158 a_159 HE160 a_161 HE162 a_163 HE164 a_165 HE166 a_167 HE168 a_169 HE170
        refine nrm ?_
        refine cndT HE172 rfl rfl ?_
        refine wp_seq ?_
        refine rg ?_
        refine pl_x HE172 HH142 (wt0 rfl) (x_assign rfl) rfl rfl fun a_173 HE174 => ?_
        refine wpList_nil ?_
        clear a_171 HE172
        refine nrm ?_
        refine wp_ret ?_
        refine (thn_ret ?_)
        refine ret1 HE174 rfl (rv_tmp rfl) ?_
        have hF : true = false := by
          first | rfl | (exfalso; omega)
        exact ⟨by first | (rw [hF] <;> rfl) | rfl | (rw [hF]; simp only [Ending.returned.injEq, Value.slice.injEq, true_and, and_true]; first | omega | (simp; done)) | (rw [hF]; simp; omega), HH142.below⟩
      · refine pl_x HE152 HH142 (wtT HE152 rfl rfl rfl (decide_eq_false hc34)) (x_loadN (cs := [.int .i64 ((rdStI a0 a1).1.1), .slice Ar28_0_1 ((rdStI a0 a1).1.2.length) cr28_0_1]) tv_41 rfl rfl (c_blkN 1 rfl)) rfl rfl fun a_175 HE176 => ?_
        refine pl_x HE176 HH142 (wtT HE176 rfl rfl rfl (decide_eq_false hc34)) (x_loadN (cs := [.int .i64 ((rdStI a0 a1).1.1), .slice Ar25_0_1 ((rdStI a0 a1).1.2.length) cr25_0_1]) tv_41 rfl rfl (c_blkN 4 rfl)) rfl rfl fun a_177 HE178 => ?_
        refine pl fun K_179 hK180 => ?_
        refine st_call HE178 (wtT HE178 rfl rfl rfl (decide_eq_false hc34)) rfl rfl rfl en_21 rfl rfl (eq_Store_c [.int .i64 ((rdStI a0 a1).1.1), .slice Ar28_0_1 ((rdStI a0 a1).1.2.length) cr28_0_1] [.int .i64 ((rdStI a0 a1).1.1), .slice Ar25_0_1 ((rdStI a0 a1).1.2.length) cr25_0_1] ((rdStI a0 a1).1) ((rdStI a0 a1).1) _ (HH142.rd (i := 2) rfl) (HH142.rd (i := 5) rfl)) fun e w' hr => ?_
        obtain ⟨rfl, hbr35⟩ := hr
        have HH181 := HH142.on hbr35
        clear hbr35
        refine ⟨_, rfl, fun a_182 HE183 => hK180 _ _ ?_⟩
        refine pl_x HE183 HH181 (wtT HE183 rfl rfl rfl (decide_eq_false hc34)) (x_not rfl) rfl rfl fun a_184 HE185 => ?_
        refine pl_x HE185 HH181 (wt0 rfl) (x_pickF rfl (decide_eq_false hc34) rfl) rfl rfl fun a_186 HE187 => ?_
        refine pl_x HE187 HH181 (wt0 rfl) (x_move rfl) rfl rfl fun a_188 HE189 => ?_
        refine pl_x HE189 HH181 (wtT HE189 rfl rfl rfl (not_f (eq_Store_refl _))) (x_move rfl) rfl rfl fun a_190 HE191 => ?_
        refine pl_x HE191 HH181 (wtT HE191 rfl rfl rfl (not_f (eq_Store_refl _))) (x_move rfl) rfl rfl fun a_192 HE193 => ?_
        refine pl_x HE193 HH181 (wtT HE193 rfl rfl rfl (not_f (eq_Store_refl _))) (x_bneq Tryz.underlying4 rfl rfl) rfl rfl fun a_194 HE195 => ?_
        refine pl_x HE195 HH181 (wt0 rfl) (x_pickF rfl (not_f (eq_Store_refl _)) rfl) rfl rfl fun a_196 HE197 => ?_
        refine wpList_nil ?_
        clear a_145 HE146 a_147 HE148 a_149 HE150 a_151 HE152 a_175 HE176 HH142 a_177 HE178 a_182 HE183 a_184 HE185 a_186 HE187 a_188 HE189 a_190 HE191 a_192 HE193 a_194 HE195 hK180 K_179
        refine nrm ?_
        refine cndF HE197 rfl (not_f (beq_self_eq_true _)) ?_
        refine wp_skip ?_
        refine nrm ?_
        refine wp_seq ?_
        refine rg ?_
        refine pl_x HE197 HH181 (wt0 rfl) (x_assign rfl) rfl rfl fun a_198 HE199 => ?_
        refine wpList_nil ?_
        clear a_196 HE197
        refine nrm ?_
        refine wp_seq ?_
        refine rg ?_
        refine pl_x HE199 HH181 (wt0 rfl) (x_loadN (cs := [.int .i64 ((rdStI a0 a1).1.1), .slice Ar28_0_1 ((rdStI a0 a1).1.2.length) cr28_0_1]) tv_41 rfl rfl (c_blkN 1 rfl)) rfl rfl fun a_200 HE201 => ?_
        refine pl_x HE201 HH181 (wt0 rfl) (x_move rfl) rfl rfl fun a_202 HE203 => ?_
        refine pl fun K_204 hK205 => ?_
        refine st_call HE203 (wt0 rfl) rfl rfl rfl en_24 rfl rfl (mark_Store_c [.int .i64 ((rdStI a0 a1).1.1), .slice Ar28_0_1 ((rdStI a0 a1).1.2.length) cr28_0_1] ((rdStI a0 a1).1) 1 _ _ (HH181.get (i := 2) rfl) (HH181.lt (i := 2) rfl) (by omega) (by omega)) fun e w' hr => ?_
        obtain ⟨rfl, hsr36, hcr36⟩ := hr
        have HH206 := HH181.mut (i := 2) rfl hcr36 (rO eStore Sr28 [.int .i64 ((rdStI a0 a1).1.1), .slice Ar28_0_1 ((rdStI a0 a1).1.2.length) cr28_0_1] (mv_Store ((rdStI a0 a1).1) 1)) hsr36 (fun b hb => .inl hb)
        clear hsr36 hcr36
        refine ⟨_, rfl, fun a_207 HE208 => hK205 _ _ ?_⟩
        refine pl_x HE208 HH206 (wt0 rfl) (x_assign rfl) rfl rfl fun a_209 HE210 => ?_
        refine wpList_nil ?_
        clear a_198 HE199 a_200 HE201 HH181 a_202 HE203 a_207 HE208 hK205 K_204
        refine nrm ?_
        refine wp_seq ?_
        refine rg ?_
        refine pl_x HE210 HH206 (wt0 rfl) (x_assign rfl) rfl rfl fun a_211 HE212 => ?_
        refine wpList_nil ?_
        clear a_209 HE210
        refine nrm ?_
        refine wp_seq ?_
        refine rg ?_
        refine pl_x HE212 HH206 (wt0 rfl) (x_loadN (cs := [.int .i64 ((rdStI a0 a1).1.1), .slice Ar28_0_1 ((rdStI a0 a1).1.2.length) cr28_0_1]) tv_41 rfl rfl (c_blkN 1 rfl)) rfl rfl fun a_213 HE214 => ?_
        refine pl_x HE214 HH206 (wt0 rfl) (x_move rfl) rfl rfl fun a_215 HE216 => ?_
        refine pl fun K_217 hK218 => ?_
        refine st_call HE216 (wt0 rfl) rfl rfl rfl en_25 rfl rfl (held_Store_c [.int .i64 ((rdStI a0 a1).1.1), .slice Ar28_0_1 ((rdStI a0 a1).1.2.length) cr28_0_1] ((rdStI a0 a1).1) 1 _ (HH206.rd (i := 2) rfl) (by omega) (by omega)) fun e w' hr => ?_
        obtain ⟨rfl, hbr37⟩ := hr
        have HH219 := HH206.on hbr37
        clear hbr37
        refine ⟨_, rfl, fun a_220 HE221 => hK218 _ _ ?_⟩
        refine pl_x HE221 HH219 (wt0 rfl) (x_assign rfl) rfl rfl fun a_222 HE223 => ?_
        refine wpList_nil ?_
        clear a_211 HE212 a_213 HE214 HH206 a_215 HE216 a_220 HE221 hK218 K_217
        refine nrm ?_
        refine wp_seq ?_
        refine wp_seq ?_
        refine rg ?_
        refine pl_x HE223 HH219 (wt0 rfl) (x_move rfl) rfl rfl fun a_224 HE225 => ?_
        refine pl_x HE225 HH219 (wt0 rfl) (x_lss rfl rfl) rfl rfl fun a_226 HE227 => ?_
        refine wpList_nil ?_
        clear a_222 HE223 a_224 HE225
        refine nrm ?_
        refine cnd_d HE227 rfl (fun hc38 => ?_) (fun hc38 => ?_)
        · refine wp_seq ?_
          refine rg ?_
          refine pl_x HE227 HH219 (wt0 rfl) (x_assign rfl) rfl rfl fun a_228 HE229 => ?_
          refine wpList_nil ?_
          clear a_226 HE227
          refine nrm ?_
          refine wp_ret ?_
          refine (thn_ret ?_)
          refine ret1 HE229 rfl (rv_tmp rfl) ?_
          have hF : true = false := by
            first | rfl | (exfalso; omega)
          exact ⟨by first | (rw [hF] <;> rfl) | rfl | (rw [hF]; simp only [Ending.returned.injEq, Value.slice.injEq, true_and, and_true]; first | omega | (simp; done)) | (rw [hF]; simp; omega), HH219.below⟩
        · refine wp_skip ?_
          refine nrm ?_
          refine wp_seq ?_
          refine wp_seq ?_
          refine rg ?_
          refine pl_x HE227 HH219 (wt0 rfl) (x_move rfl) rfl rfl fun a_230 HE231 => ?_
          refine pl_x HE231 HH219 (wt0 rfl) (x_move rfl) rfl rfl fun a_232 HE233 => ?_
          refine pl_x HE233 HH219 (wt0 rfl) (x_neq rfl rfl) rfl rfl fun a_234 HE235 => ?_
          refine wpList_nil ?_
          clear a_226 HE227 a_230 HE231 a_232 HE233
          refine nrm ?_
          refine cndF HE235 rfl (bne_f rfl) ?_
          refine wp_skip ?_
          refine nrm ?_
          refine wp_seq ?_
          refine rg ?_
          refine pl_x HE235 HH219 (wt0 rfl) (x_move rfl) rfl rfl fun a_236 HE237 => ?_
          refine pl fun K_238 hK239 => ?_
          refine st_call HE237 (wt0 rfl) rfl rfl rfl en_19 rfl rfl (to_InstrS _ _ a0 _ (HH219.old h0) (by omega)) fun e w' hr => ?_
          obtain ⟨Ar39, cr39, rfl, hor39, hbr39⟩ := hr
          obtain ⟨Sr39, HH240⟩ := HH219.newS hbr39 hor39
          clear hbr39 hor39
          refine ⟨_, rfl, fun a_241 HE242 => hK239 _ _ ?_⟩
          refine pl_x HE242 HH240 (wt0 rfl) (x_move rfl) rfl rfl fun a_243 HE244 => ?_
          refine pl fun K_245 hK246 => ?_
          refine st_call HE244 (wt0 rfl) rfl rfl rfl en_20 rfl rfl (impl_ReadStore _ _ a0 a1 _ (HH240.sl (i := 0) rfl) (HH240.glob2 hG) (by omega)) fun e w' hr => ?_
          obtain ⟨esr40_0, rfl, hor40_0, hbr40⟩ := hr
          have hr := eStore.read hor40_0
          obtain ⟨Sr40, HH247⟩ := HH240.newO hbr40 hor40_0
          obtain ⟨Ar40_0_1, cr40_0_1, rfl, gr40_0_0, gr40_0_1⟩ := shape_Store hr
          have jr40_0_0 := gr40_0_0; unfold I64 at jr40_0_0
          refine ⟨_, rfl, fun a_248 HE249 => hK246 _ _ ?_⟩
          refine pl_x HE249 HH247 (wt0 rfl) (x_move rfl) rfl rfl fun a_250 HE251 => ?_
          refine pl_x HE251 HH247 (wt0 rfl) (x_extract rfl rfl) rfl rfl fun a_252 HE253 => ?_
          refine pl_x HE253 HH247 (wt0 rfl) (x_extract rfl rfl) rfl rfl fun a_254 HE255 => ?_
          refine pl fun K_256 hK257 => ?_
          refine st_alloc HE255 HH247 tv_41 (wt0 rfl) rfl fun q41 a_258 w' HE259 HH260 => hK257 _ _ ?_
          refine pl fun K_261 hK262 => ?_
          refine st_store (vs := [.int .i64 ((rdStI a0 a1).1.1), .slice Ar40_0_1 ((rdStI a0 a1).1.2.length) cr40_0_1]) 0 HE259 HH260 tv_41 rfl rfl rfl rfl rfl rfl (by simp [Value.oneCell']) (wt0 rfl) fun w' HH263 => hK262 _ _ ?_
          refine pl_x HE259 HH263 (wt0 rfl) (x_assign rfl) rfl rfl fun a_264 HE265 => ?_
          refine wpList_nil ?_
          clear a_234 HE235 HH219 a_236 HE237 a_241 HE242 K_238 hK239 HH240 a_243 HE244 a_248 HE249 a_250 HE251 a_252 HE253 K_245 hK246 a_254 HE255 HH247 K_256 hK257 HH260 a_258 HE259 hK262 K_261
          refine nrm ?_
          refine wp_seq ?_
          refine wp_seq ?_
          refine rg ?_
          refine pl_x HE265 HH263 (wt0 rfl) (x_loadN (cs := [.int .i64 ((rdStI a0 a1).1.1), .slice Ar40_0_1 ((rdStI a0 a1).1.2.length) cr40_0_1]) tv_41 rfl rfl (c_blkN 0 rfl)) rfl rfl fun a_266 HE267 => ?_
          refine pl_x HE267 HH263 (wt0 rfl) (x_loadN (cs := [.int .i64 ((rdStI a0 a1).1.1), .slice Ar25_0_1 ((rdStI a0 a1).1.2.length) cr25_0_1]) tv_41 rfl rfl (c_blkN 7 rfl)) rfl rfl fun a_268 HE269 => ?_
          refine pl fun K_270 hK271 => ?_
          refine st_call HE269 (wt0 rfl) rfl rfl rfl en_21 rfl rfl (eq_Store_c [.int .i64 ((rdStI a0 a1).1.1), .slice Ar40_0_1 ((rdStI a0 a1).1.2.length) cr40_0_1] [.int .i64 ((rdStI a0 a1).1.1), .slice Ar25_0_1 ((rdStI a0 a1).1.2.length) cr25_0_1] ((rdStI a0 a1).1) ((rdStI a0 a1).1) _ (HH263.rd (i := 1) rfl) (HH263.rd (i := 8) rfl)) fun e w' hr => ?_
          obtain ⟨rfl, hbr42⟩ := hr
          have HH272 := HH263.on hbr42
          clear hbr42
          refine ⟨_, rfl, fun a_273 HE274 => hK271 _ _ ?_⟩
          refine pl_x HE274 HH272 (wt0 rfl) (x_not rfl) rfl rfl fun a_275 HE276 => ?_
          refine pl_x HE276 HH272 (wt0 rfl) (x_move rfl) rfl rfl fun a_277 HE278 => ?_
          refine pl_x HE278 HH272 (wtT HE278 rfl rfl rfl (not_f (eq_Store_refl _))) (x_move rfl) rfl rfl fun a_279 HE280 => ?_
          refine pl_x HE280 HH272 (wtT HE280 rfl rfl rfl (not_f (eq_Store_refl _))) (x_move rfl) rfl rfl fun a_281 HE282 => ?_
          refine pl_x HE282 HH272 (wtT HE282 rfl rfl rfl (not_f (eq_Store_refl _))) (x_bneq Tryz.underlying4 rfl rfl) rfl rfl fun a_283 HE284 => ?_
          refine pl_x HE284 HH272 (wt0 rfl) (x_pickF rfl (not_f (eq_Store_refl _)) rfl) rfl rfl fun a_285 HE286 => ?_
          refine wpList_nil ?_
          clear a_264 HE265 a_266 HE267 HH263 a_268 HE269 a_273 HE274 a_275 HE276 a_277 HE278 a_279 HE280 a_281 HE282 a_283 HE284 hK271 K_270
          refine nrm ?_
          refine cndF HE286 rfl (not_f (beq_self_eq_true _)) ?_
          refine wp_skip ?_
          refine nrm ?_
          refine wp_seq ?_
          refine rg ?_
          refine pl_x HE286 HH272 (wt0 rfl) (x_assign rfl) rfl rfl fun a_287 HE288 => ?_
          refine wpList_nil ?_
          clear a_285 HE286
          refine nrm ?_
          refine wp_seq ?_
          refine rg ?_
          refine pl_x HE288 HH272 (wt0 rfl) (x_loadN (cs := [.int .i64 ((rdStI a0 a1).1.1), .slice Ar28_0_1 ((rdStI a0 a1).1.2.length) cr28_0_1]) tv_41 rfl rfl (c_blkN 4 rfl)) rfl rfl fun a_289 HE290 => ?_
          refine pl_x HE290 HH272 (wt0 rfl) (x_move rfl) rfl rfl fun a_291 HE292 => ?_
          refine pl fun K_293 hK294 => ?_
          refine st_call HE292 (wt0 rfl) rfl rfl rfl en_25 rfl rfl (held_Store_c [.int .i64 ((rdStI a0 a1).1.1), .slice Ar28_0_1 ((rdStI a0 a1).1.2.length) cr28_0_1] ((rdStI a0 a1).1) 1 _ (HH272.rd (i := 5) rfl) (by omega) (by omega)) fun e w' hr => ?_
          obtain ⟨rfl, hbr43⟩ := hr
          have HH295 := HH272.on hbr43
          clear hbr43
          refine ⟨_, rfl, fun a_296 HE297 => hK294 _ _ ?_⟩
          refine pl_x HE297 HH295 (wt0 rfl) (x_assign rfl) rfl rfl fun a_298 HE299 => ?_
          refine wpList_nil ?_
          clear a_287 HE288 a_289 HE290 HH272 a_291 HE292 a_296 HE297 hK294 K_293
          refine nrm ?_
          refine wp_seq ?_
          refine wp_seq ?_
          refine rg ?_
          refine pl_x HE299 HH295 (wt0 rfl) (x_move rfl) rfl rfl fun a_300 HE301 => ?_
          refine pl_x HE301 HH295 (wt0 rfl) (x_lss rfl rfl) rfl rfl fun a_302 HE303 => ?_
          refine wpList_nil ?_
          clear a_298 HE299 a_300 HE301
          refine nrm ?_
          refine cndF HE303 rfl (decide_eq_false hc38) ?_
          refine wp_skip ?_
          refine nrm ?_
          refine wp_seq ?_
          refine wp_seq ?_
          refine rg ?_
          refine pl_x HE303 HH295 (wt0 rfl) (x_move rfl) rfl rfl fun a_304 HE305 => ?_
          refine pl_x HE305 HH295 (wt0 rfl) (x_move rfl) rfl rfl fun a_306 HE307 => ?_
          refine pl_x HE307 HH295 (wt0 rfl) (x_neq rfl rfl) rfl rfl fun a_308 HE309 => ?_
          refine wpList_nil ?_
          clear a_302 HE303 a_304 HE305 a_306 HE307
          refine nrm ?_
          refine cndF HE309 rfl (bne_f rfl) ?_
          refine wp_skip ?_
          refine nrm ?_
          refine wp_seq ?_
          refine rg ?_
          refine pl_x HE309 HH295 (wt0 rfl) (x_assign rfl) rfl rfl fun a_310 HE311 => ?_
          refine wpList_nil ?_
          clear a_308 HE309
          refine nrm ?_
          refine wp_ret ?_
          refine ret1 HE311 rfl (rv_tmp rfl) ?_
          have hF : true = true := by
            first | rfl | (exfalso; omega)
          exact ⟨by first | (rw [hF] <;> rfl) | rfl | (rw [hF]; simp only [Ending.returned.injEq, Value.slice.injEq, true_and, and_true]; first | omega | (simp; done)) | (rw [hF]; simp; omega), HH295.below⟩

end Go.Proofs.YtcfdkckchbdafaaGreatDoor
