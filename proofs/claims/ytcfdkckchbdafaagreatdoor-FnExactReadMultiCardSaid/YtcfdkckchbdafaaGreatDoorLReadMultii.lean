/- What the proof of FnExactReadMulti needs: contracts of the functions that it reaches, each once. -/
import Derived.Test.YtcfdkckchbdafaaGreatDoorProg
import Derived.Test.YtcfdkckchbdafaaGreatDoorQMem
import Derived.Test.YtcfdkckchbdafaaGreatDoorQOpen
import Derived.Test.YtcfdkckchbdafaaGreatDoorLReadMultia
import Derived.Test.YtcfdkckchbdafaaGreatDoorLReadMultib
import Derived.Test.YtcfdkckchbdafaaGreatDoorLReadMultic
import Derived.Test.YtcfdkckchbdafaaGreatDoorLReadMultid
import Derived.Test.YtcfdkckchbdafaaGreatDoorLReadMultie
import Derived.Test.YtcfdkckchbdafaaGreatDoorLReadMultif
import Derived.Test.YtcfdkckchbdafaaGreatDoorLReadMultig
import Derived.Test.YtcfdkckchbdafaaGreatDoorLReadMultih
import Derived.WalkKit
import Derived.WalkSpells
import Derived.Below
import Derived.LoopTactic
import Derived.Outline
import Derived.Deep.QuietTactic
import Derived.BigQuiet
import Derived.Deep.LoopGhost
import Derived.Handy
import Derived.Lib.Hide
import Derived.Shelf.Abstract
import Derived.StillTailTactics
import Derived.OwnWalk
import Derived.Maps.AppendAt
import Derived.RegionTactic
import Derived.Deep.RegionHeld3
import Derived.IntWalk
import Derived.Deep.Upon
import Derived.Laws.OwnMore
import Derived.Maps.AppendAt
import Derived.Laws.BytesString
import Derived.Laws.Strings
import Derived.Lib.Bytes
import Derived.Lib.Strings
import Derived.Lib.FrozenHead
import Derived.Lib.RuneBytes
import Derived.Lib.LaidTab
import Derived.Laws.StructEq
import Derived.Lib.MapLaws
import Derived.Lib.OthersKept
import Derived.Laws.RangeAny
import Derived.Scope
import Derived.Lib.ItoaLen
import Derived.Lib.Join
import Derived.Shelf.Strconv.Itoa4
import Derived.Shelf.Strings.OnBuilder
import Derived.Shelf.Strings.BuilderK
import Derived.Shelf.Strings.BuilderRune
import Derived.Shelf.LaysM
import Derived.Ground.NamesProg
import Derived.Lib.ParseIntBTie
import Derived.Lib.SplitLaws
import Derived.Lib.Replace
import Derived.Shelf.LaysC
import Derived.Shelf.Strconv.ErrVarParseInt
import Derived.Shelf.Strconv.ParseIntPublic10
import Derived.Shelf.Strings.Prefix
import Derived.Shelf.Strings.Cut
import Derived.Shelf.Strings.Split
import Derived.Shelf.Strings.Replace
import Derived.Shelf.Small.Wraps
import Derived.Stop.IfaceNil
import Derived.Shelf.Small.Utf8
import Derived.Shelf.Strings.Runes
namespace Go.Proofs.YtcfdkckchbdafaaGreatDoor
open Go.RowKit

open Go.Lib in
set_option maxRecDepth 100000 in
set_option maxHeartbeats 4000000 in
theorem spec_ReadMulti (a0 : List UInt8) (w : World) (s0 : a0.length ≤ 2000000) :
    Calls Tryz.prog 36 #[.string (bs a0)] w fun e w' => ∃ (es0' : List Value), e = .returned (.tuple #[.agg es0'.toArray, .bool (rdMuI a0).2]) ∧ eMulti.O w' (Fr w w') es0' (rdMuI a0).1 ∧ Below w.heap.size w w' := by
  have hA0 := splitR_len 10 a0
  have HH1 := Held.start Nob w
  refine enter (n := 162) Tryz.func36 rfl rfl rfl fun a_2 HE3 => ?_
  refine wp_seq ?_
  refine rg ?_
  refine pl fun K_4 hK5 => ?_
  refine st_alloc HE3 HH1 tv_68 (wt0 rfl) rfl fun q21 a_6 w' HE7 HH8 => hK5 _ _ ?_
  refine pl_x HE7 HH8 (wt0 rfl) (x_assign rfl) rfl rfl fun a_9 HE10 => ?_
  refine wpList_nil ?_
  clear a_2 HE3 HH1 a_6 HE7 hK5 K_4
  refine nrm ?_
  refine wp_seq ?_
  refine rg ?_
  refine pl_x HE10 HH8 (wt0 rfl) (x_move rfl) rfl rfl fun a_11 HE12 => ?_
  refine pl fun K_13 hK14 => ?_
  refine st_call HE12 (wt0 rfl) rfl rfl rfl en_63 rfl rfl (spec_l01Split a0 _ 10 _ (by omega) (by rfl)) fun e w' hr => ?_
  have hAr22_0 := splitR_len 10 a0
  have hAr22_1 := splitR_piece 10 a0
  obtain ⟨Ar22_0, cr22_0, rfl, hor22_0, hbr22⟩ := hr
  obtain ⟨Sr22, HH15⟩ := HH8.newS hbr22 hor22_0
  refine ⟨_, rfl, fun a_16 HE17 => hK14 _ _ ?_⟩
  refine pl_x HE17 HH15 (wt0 rfl) (x_assign rfl) rfl rfl fun a_18 HE19 => ?_
  refine wpList_nil ?_
  clear a_9 HE10 HH8 a_11 HE12 a_16 HE17 hK14 K_13
  refine nrm ?_
  refine wp_seq ?_
  refine wp_seq ?_
  refine rg ?_
  refine pl_x HE19 HH15 (wt0 rfl) (x_move rfl) rfl rfl fun a_20 HE21 => ?_
  refine pl_x HE21 HH15 (wt0 rfl) (x_len Tryz.underlying78 rfl) rfl rfl fun a_22 HE23 => ?_
  refine pl_x HE23 HH15 (wt0 rfl) (x_gtr rfl rfl) rfl rfl fun a_24 HE25 => ?_
  refine wpList_nil ?_
  clear a_18 HE19 a_20 HE21 a_22 HE23
  refine nrm ?_
  refine cnd_d HE25 rfl (fun hc23 => ?_) (fun hc23 => ?_)
  · refine wp_seq ?_
    refine rg ?_
    refine pl_x HE25 HH15 (wt0 rfl) (show XS _ _ _ _ (.agg #[.int .i64 (0), .int .i64 (0), .int .i64 (0), .slice none (0) 0]) from x_build (vs := []) tb_68 rfl (by simp [Value.oneCell'])) rfl rfl fun a_26 HE27 => ?_
    refine pl fun K_28 hK29 => ?_
    refine st_store (vs := [.int .i64 (0), .int .i64 (0), .int .i64 (0), .slice none (0) 0]) 1 HE27 HH15 tv_68 rfl rfl rfl rfl rfl rfl (by simp [Value.oneCell']) (wt0 rfl) fun w' HH30 => hK29 _ _ ?_
    refine pl_x HE27 HH30 (wt0 rfl) (x_assign rfl) rfl rfl fun a_31 HE32 => ?_
    refine wpList_nil ?_
    clear a_24 HE25 HH15 a_26 HE27 hK29 K_28
    refine nrm ?_
    refine wp_ret ?_
    refine (thn_ret ?_)
    refine ret2 HE32 rfl (rv_cell rfl (tv_68.loadN (cs := [.int .i64 (0), .int .i64 (0), .int .i64 (0), .slice none (0) 0]) rfl (c_blkN 1 rfl _ HH30))) (rv_tmp rfl) ?_
    have HH33 := HH30.flatO (E := eMulti) (cs := [.int .i64 (0), .int .i64 (0), .int .i64 (0), .slice none (0) 0]) (x := (0, 0, 0, [])) (fun _ => (oPrN (oI (by exact ⟨by omega, by omega⟩)) (oPrN (oI (by exact ⟨by omega, by omega⟩)) (oPrN (oI (by exact ⟨by omega, by omega⟩)) (oSl (So.nil (Nat.zero_le _)))))))
    have hF : (rdMuI a0) = ((0, 0, 0, []), false) := by
      rw [← rdMu_eq]; first | exact rdMuS_61 (by omega) | exact rdMuS_3 rfl (by omega) hx0 (by omega) | exact rdMuS_line rfl (by omega) hx0 (lineK_5 (by omega)) | exact rdMuS_ok (by assumption) | (rw [rdMuS_eq rfl (by omega) (by omega) hl0 (by omega) (by assumption) (by omega) hM]; first | (rw [if_pos ⟨by assumption, by assumption⟩]; done) | (exact if_neg (fun hh => ff hh.1 (by assumption))) | (exact if_neg (fun hh => absurd hh.2 (by assumption))))
    exact ⟨_, by first | (rw [hF] <;> rfl) | rfl | (rw [hF]; simp only [Ending.returned.injEq, Value.slice.injEq, true_and, and_true]; first | omega | (simp; done)) | (rw [hF]; simp; omega), by rw [hF]; exact (HH33.o (i := 0) rfl), HH33.below⟩
  · refine wp_skip ?_
    refine nrm ?_
    refine wp_seq ?_
    refine rg ?_
    refine pl_x HE25 HH15 (wt0 rfl) (x_move rfl) rfl rfl fun a_34 HE35 => ?_
    have ke24 : 0 < (splitR 10 a0).length := by omega
    obtain ⟨be24, fe24, rfl⟩ := el_own HH15 (i := 0) rfl ke24
    refine pl_x HE35 HH15 (wt0 rfl) (x_indexAddr ts_78 rfl rfl rfl rfl ke24) rfl rfl fun a_36 HE37 => ?_
    obtain ⟨y25, xy25⟩ : ∃ y_, y_ = (splitR 10 a0)[0]'(by first | exact ke24 | (simp only [List.length_set]; exact ke24) | omega | (simp only [List.length_set]; omega) | (simp; omega)) := ⟨_, rfl⟩
    have jy25 : List.length y25 ≤ 9223372036854775807 := by rw [xy25]; exact i_ownS HH15 0 rfl _
    have hx0 := xy25
    have hpy25 := splitR_piece 10 a0 y25 (by rw [xy25]; exact List.getElem_mem _)
    refine pl_x HE37 HH15 (wt0 rfl) (x_load1 tv_9 rfl (c_ownS 0 rfl (by first | exact ke24 | (simp only [List.length_set]; exact ke24) | omega | (simp only [List.length_set]; omega) | (simp; omega)) xy25.symm)) rfl rfl fun a_38 HE39 => ?_
    refine pl fun K_40 hK41 => ?_
    refine st_call HE39 (wt0 rfl) rfl rfl rfl en_63 rfl rfl (spec_l01Split y25 _ 32 _ (by omega) (by rfl)) fun e w' hr => ?_
    have hAr26_0 := splitR_len 32 y25
    have hAr26_1 := splitR_piece 32 y25
    obtain ⟨Ar26_0, cr26_0, rfl, hor26_0, hbr26⟩ := hr
    obtain ⟨Sr26, HH42⟩ := HH15.newS hbr26 hor26_0
    refine ⟨_, rfl, fun a_43 HE44 => hK41 _ _ ?_⟩
    refine pl_x HE44 HH42 (wt0 rfl) (x_assign rfl) rfl rfl fun a_45 HE46 => ?_
    refine wpList_nil ?_
    clear a_24 HE25 a_34 HE35 a_36 HE37 HH15 a_38 HE39 a_43 HE44 hK41 K_40
    refine nrm ?_
    refine wp_seq ?_
    refine wp_seq ?_
    refine rg ?_
    refine pl_x HE46 HH42 (wt0 rfl) (x_move rfl) rfl rfl fun a_47 HE48 => ?_
    refine pl_x HE48 HH42 (wt0 rfl) (x_len Tryz.underlying78 rfl) rfl rfl fun a_49 HE50 => ?_
    refine pl_x HE50 HH42 (wt0 rfl) (x_neq rfl rfl) rfl rfl fun a_51 HE52 => ?_
    refine wpList_nil ?_
    clear a_45 HE46 a_47 HE48 a_49 HE50
    refine nrm ?_
    refine cnd_ne HE52 rfl (fun hc27 => ?_) (fun hc27 => ?_)
    · refine wp_seq ?_
      refine rg ?_
      refine pl_x HE52 HH42 (wt0 rfl) (show XS _ _ _ _ (.agg #[.int .i64 (0), .int .i64 (0), .int .i64 (0), .slice none (0) 0]) from x_build (vs := []) tb_68 rfl (by simp [Value.oneCell'])) rfl rfl fun a_53 HE54 => ?_
      refine pl fun K_55 hK56 => ?_
      refine st_store (vs := [.int .i64 (0), .int .i64 (0), .int .i64 (0), .slice none (0) 0]) 2 HE54 HH42 tv_68 rfl rfl rfl rfl rfl rfl (by simp [Value.oneCell']) (wt0 rfl) fun w' HH57 => hK56 _ _ ?_
      refine pl_x HE54 HH57 (wt0 rfl) (x_assign rfl) rfl rfl fun a_58 HE59 => ?_
      refine wpList_nil ?_
      clear a_51 HE52 HH42 a_53 HE54 hK56 K_55
      refine nrm ?_
      refine wp_ret ?_
      refine (thn_ret ?_)
      refine ret2 HE59 rfl (rv_cell rfl (tv_68.loadN (cs := [.int .i64 (0), .int .i64 (0), .int .i64 (0), .slice none (0) 0]) rfl (c_blkN 2 rfl _ HH57))) (rv_tmp rfl) ?_
      have HH60 := HH57.flatO (E := eMulti) (cs := [.int .i64 (0), .int .i64 (0), .int .i64 (0), .slice none (0) 0]) (x := (0, 0, 0, [])) (fun _ => (oPrN (oI (by exact ⟨by omega, by omega⟩)) (oPrN (oI (by exact ⟨by omega, by omega⟩)) (oPrN (oI (by exact ⟨by omega, by omega⟩)) (oSl (So.nil (Nat.zero_le _)))))))
      have hF : (rdMuI a0) = ((0, 0, 0, []), false) := by
        rw [← rdMu_eq]; first | exact rdMuS_61 (by omega) | exact rdMuS_3 rfl (by omega) hx0 (by omega) | exact rdMuS_line rfl (by omega) hx0 (lineK_5 (by omega)) | exact rdMuS_ok (by assumption) | (rw [rdMuS_eq rfl (by omega) (by omega) hl0 (by omega) (by assumption) (by omega) hM]; first | (rw [if_pos ⟨by assumption, by assumption⟩]; done) | (exact if_neg (fun hh => ff hh.1 (by assumption))) | (exact if_neg (fun hh => absurd hh.2 (by assumption))))
      exact ⟨_, by first | (rw [hF] <;> rfl) | rfl | (rw [hF]; simp only [Ending.returned.injEq, Value.slice.injEq, true_and, and_true]; first | omega | (simp; done)) | (rw [hF]; simp; omega), by rw [hF]; exact (HH60.o (i := 0) rfl), HH60.below⟩
    · refine wp_skip ?_
      refine nrm ?_
      refine wp_seq ?_
      refine rg ?_
      refine pl_x HE52 HH42 (wt0 rfl) (x_move rfl) rfl rfl fun a_61 HE62 => ?_
      have ke28 : 0 < (splitR 32 y25).length := by omega
      obtain ⟨be28, fe28, rfl⟩ := el_own HH42 (i := 0) rfl ke28
      refine pl_x HE62 HH42 (wt0 rfl) (x_indexAddr ts_78 rfl rfl rfl rfl ke28) rfl rfl fun a_63 HE64 => ?_
      obtain ⟨y29, xy29⟩ : ∃ y_, y_ = (splitR 32 y25)[0]'(by first | exact ke28 | (simp only [List.length_set]; exact ke28) | omega | (simp only [List.length_set]; omega) | (simp; omega)) := ⟨_, rfl⟩
      have jy29 : List.length y29 ≤ 9223372036854775807 := by rw [xy29]; exact i_ownS HH42 0 rfl _
      have hz0 := xy29
      have hpy29 := splitR_piece 32 _ y29 (by rw [xy29]; exact List.getElem_mem _)
      refine pl_x HE64 HH42 (wt0 rfl) (x_load1 tv_9 rfl (c_ownS 0 rfl (by first | exact ke28 | (simp only [List.length_set]; exact ke28) | omega | (simp only [List.length_set]; omega) | (simp; omega)) xy29.symm)) rfl rfl fun a_65 HE66 => ?_
      refine pl fun K_67 hK68 => ?_
      refine st_call HE66 (wt0 rfl) rfl rfl rfl en_65 rfl rfl (spec_l01Number y29 _ (by omega)) fun e w' hr => ?_
      have hAr30_0 := numC_bd y29
      obtain ⟨rfl, hbr30⟩ := hr
      have HH69 := HH42.on hbr30
      refine ⟨_, rfl, fun a_70 HE71 => hK68 _ _ ?_⟩
      refine pl_x HE71 HH69 (wt0 rfl) (x_move rfl) rfl rfl fun a_72 HE73 => ?_
      refine pl_x HE73 HH69 (wt0 rfl) (x_extract rfl rfl) rfl rfl fun a_74 HE75 => ?_
      refine pl_x HE75 HH69 (wt0 rfl) (x_extract rfl rfl) rfl rfl fun a_76 HE77 => ?_
      refine pl_x HE77 HH69 (wt0 rfl) (x_assign rfl) rfl rfl fun a_78 HE79 => ?_
      refine pl_x HE79 HH69 (wt0 rfl) (x_assign rfl) rfl rfl fun a_80 HE81 => ?_
      refine wpList_nil ?_
      clear a_51 HE52 a_61 HE62 a_63 HE64 HH42 a_65 HE66 a_70 HE71 a_72 HE73 a_74 HE75 a_76 HE77 a_78 HE79 hK68 K_67
      refine nrm ?_
      refine wp_seq ?_
      refine rg ?_
      refine pl_x HE81 HH69 (wt0 rfl) (x_move rfl) rfl rfl fun a_82 HE83 => ?_
      have ke31 : 1 < (splitR 32 y25).length := by omega
      refine pl_x HE83 HH69 (wt0 rfl) (x_indexAddr ts_78 rfl rfl rfl rfl ke31) rfl rfl fun a_84 HE85 => ?_
      obtain ⟨y32, xy32⟩ : ∃ y_, y_ = (splitR 32 y25)[1]'(by first | exact ke31 | (simp only [List.length_set]; exact ke31) | omega | (simp only [List.length_set]; omega) | (simp; omega)) := ⟨_, rfl⟩
      have jy32 : List.length y32 ≤ 9223372036854775807 := by rw [xy32]; exact i_ownS HH69 0 rfl _
      have hz1 := xy32
      have hpy32 := splitR_piece 32 _ y32 (by rw [xy32]; exact List.getElem_mem _)
      refine pl_x HE85 HH69 (wt0 rfl) (x_load1 tv_9 rfl (c_ownS 0 rfl (by first | exact ke31 | (simp only [List.length_set]; exact ke31) | omega | (simp only [List.length_set]; omega) | (simp; omega)) xy32.symm)) rfl rfl fun a_86 HE87 => ?_
      refine pl fun K_88 hK89 => ?_
      refine st_call HE87 (wt0 rfl) rfl rfl rfl en_65 rfl rfl (spec_l01Number y32 _ (by omega)) fun e w' hr => ?_
      have hAr33_0 := numC_bd y32
      obtain ⟨rfl, hbr33⟩ := hr
      have HH90 := HH69.on hbr33
      refine ⟨_, rfl, fun a_91 HE92 => hK89 _ _ ?_⟩
      refine pl_x HE92 HH90 (wt0 rfl) (x_move rfl) rfl rfl fun a_93 HE94 => ?_
      refine pl_x HE94 HH90 (wt0 rfl) (x_extract rfl rfl) rfl rfl fun a_95 HE96 => ?_
      refine pl_x HE96 HH90 (wt0 rfl) (x_extract rfl rfl) rfl rfl fun a_97 HE98 => ?_
      refine pl_x HE98 HH90 (wt0 rfl) (x_assign rfl) rfl rfl fun a_99 HE100 => ?_
      refine pl_x HE100 HH90 (wt0 rfl) (x_assign rfl) rfl rfl fun a_101 HE102 => ?_
      refine wpList_nil ?_
      clear a_80 HE81 a_82 HE83 a_84 HE85 HH69 a_86 HE87 a_91 HE92 a_93 HE94 a_95 HE96 a_97 HE98 a_99 HE100 hK89 K_88
      refine nrm ?_
      refine wp_seq ?_
      refine rg ?_
      refine pl_x HE102 HH90 (wt0 rfl) (x_move rfl) rfl rfl fun a_103 HE104 => ?_
      have ke34 : 2 < (splitR 32 y25).length := by omega
      refine pl_x HE104 HH90 (wt0 rfl) (x_indexAddr ts_78 rfl rfl rfl rfl ke34) rfl rfl fun a_105 HE106 => ?_
      obtain ⟨y35, xy35⟩ : ∃ y_, y_ = (splitR 32 y25)[2]'(by first | exact ke34 | (simp only [List.length_set]; exact ke34) | omega | (simp only [List.length_set]; omega) | (simp; omega)) := ⟨_, rfl⟩
      have jy35 : List.length y35 ≤ 9223372036854775807 := by rw [xy35]; exact i_ownS HH90 0 rfl _
      have hz2 := xy35
      have hpy35 := splitR_piece 32 _ y35 (by rw [xy35]; exact List.getElem_mem _)
      refine pl_x HE106 HH90 (wt0 rfl) (x_load1 tv_9 rfl (c_ownS 0 rfl (by first | exact ke34 | (simp only [List.length_set]; exact ke34) | omega | (simp only [List.length_set]; omega) | (simp; omega)) xy35.symm)) rfl rfl fun a_107 HE108 => ?_
      refine pl fun K_109 hK110 => ?_
      refine st_call HE108 (wt0 rfl) rfl rfl rfl en_65 rfl rfl (spec_l01Number y35 _ (by omega)) fun e w' hr => ?_
      have hAr36_0 := numC_bd y35
      obtain ⟨rfl, hbr36⟩ := hr
      have HH111 := HH90.on hbr36
      refine ⟨_, rfl, fun a_112 HE113 => hK110 _ _ ?_⟩
      refine pl_x HE113 HH111 (wt0 rfl) (x_move rfl) rfl rfl fun a_114 HE115 => ?_
      refine pl_x HE115 HH111 (wt0 rfl) (x_extract rfl rfl) rfl rfl fun a_116 HE117 => ?_
      refine pl_x HE117 HH111 (wt0 rfl) (x_extract rfl rfl) rfl rfl fun a_118 HE119 => ?_
      refine pl_x HE119 HH111 (wt0 rfl) (x_assign rfl) rfl rfl fun a_120 HE121 => ?_
      refine pl_x HE121 HH111 (wt0 rfl) (x_assign rfl) rfl rfl fun a_122 HE123 => ?_
      refine wpList_nil ?_
      clear a_101 HE102 a_103 HE104 a_105 HE106 HH90 a_107 HE108 a_112 HE113 a_114 HE115 a_116 HE117 a_118 HE119 a_120 HE121 hK110 K_109
      refine nrm ?_
      refine wp_seq ?_
      refine rg ?_
      refine pl_x HE123 HH111 (wt0 rfl) (x_move rfl) rfl rfl fun a_124 HE125 => ?_
      refine pl_x HE125 HH111 (wt0 rfl) (x_move rfl) rfl rfl fun a_126 HE127 => ?_
      refine pl_x HE127 HH111 (wt0 rfl) (x_move rfl) rfl rfl fun a_128 HE129 => ?_
      refine pl_x HE129 HH111 (wt0 rfl) (show XS _ _ _ _ (.agg #[.int .i64 ((numC y29).1), .int .i64 ((numC y32).1), .int .i64 ((numC y35).1), .slice none (0) 0]) from x_build (vs := [(0, .int .i64 ((numC y29).1)), (1, .int .i64 ((numC y32).1)), (2, .int .i64 ((numC y35).1))]) tb_68 rfl (by simp [Value.oneCell'])) rfl rfl fun a_130 HE131 => ?_
      refine pl fun K_132 hK133 => ?_
      refine st_alloc HE131 HH111 tv_68 (wt0 rfl) rfl fun q37 a_134 w' HE135 HH136 => hK133 _ _ ?_
      refine pl fun K_137 hK138 => ?_
      refine st_store (vs := [.int .i64 ((numC y29).1), .int .i64 ((numC y32).1), .int .i64 ((numC y35).1), .slice none (0) 0]) 0 HE135 HH136 tv_68 rfl rfl rfl rfl rfl rfl (by simp [Value.oneCell']) (wt0 rfl) fun w' HH139 => hK138 _ _ ?_
      refine wpList_nil ?_
      clear a_122 HE123 a_124 HE125 a_126 HE127 a_128 HE129 a_130 HE131 HH111 K_132 hK133 HH136 hK138 K_137
      refine nrm ?_
      refine wp_seq ?_
      refine rg ?_
      refine pl_x HE135 HH139 (wt0 rfl) (x_move rfl) rfl rfl fun a_140 HE141 => ?_
      refine pl_x HE141 HH139 (wt0 rfl) (x_move rfl) rfl rfl fun a_142 HE143 => ?_
      rcases Bool.eq_false_or_eq_true ((numC y29).2) with hc38 | hc38
      · refine pl_x HE143 HH139 (wtT HE143 rfl rfl rfl hc38) (x_move rfl) rfl rfl fun a_144 HE145 => ?_
        refine pl_x HE145 HH139 (wt0 rfl) (x_pickT rfl hc38 rfl) rfl rfl fun a_146 HE147 => ?_
        refine pl_x HE147 HH139 (wt0 rfl) (x_move rfl) rfl rfl fun a_148 HE149 => ?_
        rcases Bool.eq_false_or_eq_true ((numC y32).2) with hc39 | hc39
        · refine pl_x HE149 HH139 (wtT HE149 rfl rfl rfl hc39) (x_move rfl) rfl rfl fun a_150 HE151 => ?_
          refine pl_x HE151 HH139 (wt0 rfl) (x_pickT rfl hc39 rfl) rfl rfl fun a_152 HE153 => ?_
          refine pl_x HE153 HH139 (wt0 rfl) (x_assign rfl) rfl rfl fun a_154 HE155 => ?_
          refine wpList_nil ?_
          clear a_134 HE135 a_140 HE141 a_142 HE143 a_144 HE145 a_146 HE147 a_148 HE149 a_150 HE151 a_152 HE153
          refine nrm ?_
          refine wp_seq ?_
          refine wp_seq ?_
          refine rg ?_
          refine pl_x HE155 HH139 (wt0 rfl) (x_assign rfl) rfl rfl fun a_156 HE157 => ?_
          refine wpList_nil ?_
          clear a_154 HE155
          refine nrm ?_
          refine wp_block ?_
          obtain ⟨hH0, hH1, hH2, hH3⟩ := muS_head rfl (by omega) hx0 rfl (by omega) hz0 hz1 hz2
          have hl0 := hx0
          have HH158 := HH139.vecNil eMultiRule 123
          refine lp (fun m a w' => ∃ (j : Nat) (A_12_3 : Option Addr) (c_12_3 : Nat) (S_12_3 : Nat → Prop), m = List.length (splitR 10 a0) - 1 - j ∧ Env 162 [(13, .bool (hdK (splitR 32 ((splitR 10 a0)[0]?.getD [])) && (((splitR 10 a0).drop 1).take j).all lineK)), (14, .int .i64 ((j : Int) + 1)), (0, .string (bs a0)), (2, .pointer (some ⟨q21, 0, none⟩)), (4, .slice (some ⟨be24, fe24, none⟩) ((splitR 10 a0).length) cr22_0), (12, .pointer (some ⟨q37, 0, none⟩))] a ∧ Held Nob w [rVec eMultiRule 123 S_12_3 A_12_3 c_12_3 ((((splitR 10 a0).drop 1).take j).map lineS), rBlk q37 68 [.int .i64 (muS a0).1, .int .i64 (muS a0).2.1, .int .i64 (muS a0).2.2.1, .slice A_12_3 (List.length ((((splitR 10 a0).drop 1).take j).map lineS)) c_12_3], rSo eTxt Sr26 (some ⟨be28, fe28, none⟩) cr26_0 (splitR 32 y25), rSo eTxt Sr22 (some ⟨be24, fe24, none⟩) cr22_0 (splitR 10 a0), rBlk q21 68 [.int .i64 (0), .int .i64 (0), .int .i64 (0), .slice none (0) 0]] w' ∧ (j + 1 ≤ List.length (splitR 10 a0))) (List.length (splitR 10 a0) - 1 - (0)) ?_ ?_
          · have E40 : ((((splitR 10 a0).drop 1).take 0).map lineS) = [] := by
              simp
            have E41 : (muS a0).1 = (numC y29).1 := by exact hH1
            have E42 : (muS a0).2.1 = (numC y32).1 := by exact hH2
            have E43 : (muS a0).2.2.1 = (numC y35).1 := by exact hH3
            exact ⟨0, none, 0, Nob, rfl, HE157.sub ⟨(lkB rfl (by rw [hH0]; first | grind | simp [hc23, hc27, hc38, hc39])), (lkI rfl (by rfl)), rfl, rfl, rfl, rfl, trivial⟩, ((HH158.sel [0, 1, 2, 3, 4] (by decide) rfl).to (by first | rfl | (rw [E40, E41, E42, E43]; done) | (rw [E40, E41, E42, E43]; rfl) | (simp only [E40, E41, E42, E43]; done) | (simp only [E40, E41, E42, E43]; rfl) | (rw [E40, E41, E42, E43]; simp only [List.length_set]; done))), (by first | omega | assumption | (simp; done) | simp_all)⟩
          · rintro m a_159 w' ⟨j, A_12_3, c_12_3, S_12_3, rfl, HE160, HH161, p44_0⟩
            have hn0 : ((((splitR 10 a0).drop 1).take j).map lineS).length ≤ 61 := by rw [List.length_map, List.length_take]; omega
            refine wp_seq ?_
            refine wp_seq ?_
            refine rg ?_
            refine pl_x HE160 HH161 (wt0 rfl) (x_move rfl) rfl rfl fun a_162 HE163 => ?_
            refine pl_x HE163 HH161 (wt0 rfl) (x_move rfl) rfl rfl fun a_164 HE165 => ?_
            refine pl_x HE165 HH161 (wt0 rfl) (x_len Tryz.underlying78 rfl) rfl rfl fun a_166 HE167 => ?_
            refine pl_x HE167 HH161 (wt0 rfl) (x_lss rfl rfl) rfl rfl fun a_168 HE169 => ?_
            refine pl_x HE169 HH161 (wt0 rfl) (x_move rfl) rfl rfl fun a_170 HE171 => ?_
            by_cases hc45 : ((j : Int) + 1) < ((splitR 10 a0).length : Int)
            · refine pl_x HE171 HH161 (wtT HE171 rfl rfl rfl (decide_eq_true hc45)) (x_move rfl) rfl rfl fun a_172 HE173 => ?_
              refine pl_x HE173 HH161 (wt0 rfl) (x_pickT rfl (decide_eq_true hc45) rfl) rfl rfl fun a_174 HE175 => ?_
              refine wpList_nil ?_
              clear HH139 a_156 HE157 HH158 a_159 HE160 a_162 HE163 a_164 HE165 a_166 HE167 a_168 HE169 a_170 HE171 a_172 HE173
              refine nrm ?_
              refine cnd_b HE175 rfl (fun hc46 => ?_) (fun hc46 => ?_)
              · refine wp_skip ?_
                refine nrm ?_
                refine wp_seq ?_
                refine wp_block ?_
                refine wp_seq ?_
                refine rg ?_
                refine pl_x HE175 HH161 (wt0 rfl) (x_move rfl) rfl rfl fun a_176 HE177 => ?_
                refine pl_x HE177 HH161 (wt0 rfl) (x_move rfl) rfl rfl fun a_178 HE179 => ?_
                have ke47 : (j + 1) < (splitR 10 a0).length := by omega
                refine pl_x HE179 HH161 (wt0 rfl) (x_indexAddr ts_78 rfl rfl rfl (by omega) ke47) rfl rfl fun a_180 HE181 => ?_
                obtain ⟨y48, xy48⟩ : ∃ y_, y_ = (splitR 10 a0)[(j + 1)]'(by first | exact ke47 | (simp only [List.length_set]; exact ke47) | omega | (simp only [List.length_set]; omega) | (simp; omega)) := ⟨_, rfl⟩
                have jy48 : List.length y48 ≤ 9223372036854775807 := by rw [xy48]; exact i_ownS HH161 3 rfl _
                have hx0 := xy48
                have hpy48 := splitR_piece 10 a0 y48 (by rw [xy48]; exact List.getElem_mem _)
                refine pl_x HE181 HH161 (wt0 rfl) (x_load1 tv_9 rfl (c_ownS 3 rfl (by first | exact ke47 | (simp only [List.length_set]; exact ke47) | omega | (simp only [List.length_set]; omega) | (simp; omega)) xy48.symm)) rfl rfl fun a_182 HE183 => ?_
                refine pl fun K_184 hK185 => ?_
                refine st_call HE183 (wt0 rfl) rfl rfl rfl en_63 rfl rfl (spec_l01Split y48 _ 32 _ (by omega) (by rfl)) fun e w' hr => ?_
                have hAr49_0 := splitR_len 32 y48
                have hAr49_1 := splitR_piece 32 y48
                obtain ⟨Ar49_0, cr49_0, rfl, hor49_0, hbr49⟩ := hr
                obtain ⟨Sr49, HH186⟩ := HH161.newS hbr49 hor49_0
                refine ⟨_, rfl, fun a_187 HE188 => hK185 _ _ ?_⟩
                refine pl_x HE188 HH186 (wt0 rfl) (x_assign rfl) rfl rfl fun a_189 HE190 => ?_
                refine wpList_nil ?_
                clear a_174 HE175 a_176 HE177 a_178 HE179 a_180 HE181 HH161 a_182 HE183 a_187 HE188 hK185 K_184
                refine nrm ?_
                refine wp_seq ?_
                refine wp_seq ?_
                refine rg ?_
                refine pl_x HE190 HH186 (wt0 rfl) (x_move rfl) rfl rfl fun a_191 HE192 => ?_
                refine pl_x HE192 HH186 (wt0 rfl) (x_len Tryz.underlying78 rfl) rfl rfl fun a_193 HE194 => ?_
                refine pl_x HE194 HH186 (wt0 rfl) (x_neq rfl rfl) rfl rfl fun a_195 HE196 => ?_
                refine wpList_nil ?_
                clear a_189 HE190 a_191 HE192 a_193 HE194
                refine nrm ?_
                refine cnd_ne HE196 rfl (fun hc50 => ?_) (fun hc50 => ?_)
                · refine wp_seq ?_
                  refine rg ?_
                  refine pl_x HE196 HH186 (wt0 rfl) (show XS _ _ _ _ (.agg #[.int .i64 (0), .int .i64 (0), .int .i64 (0), .slice none (0) 0]) from x_build (vs := []) tb_68 rfl (by simp [Value.oneCell'])) rfl rfl fun a_197 HE198 => ?_
                  refine pl fun K_199 hK200 => ?_
                  refine st_store (vs := [.int .i64 (0), .int .i64 (0), .int .i64 (0), .slice none (0) 0]) 5 HE198 HH186 tv_68 rfl rfl rfl rfl rfl rfl (by simp [Value.oneCell']) (wt0 rfl) fun w' HH201 => hK200 _ _ ?_
                  refine pl_x HE198 HH201 (wt0 rfl) (x_assign rfl) rfl rfl fun a_202 HE203 => ?_
                  refine wpList_nil ?_
                  clear a_195 HE196 HH186 a_197 HE198 hK200 K_199
                  refine nrm ?_
                  refine wp_ret ?_
                  refine (thn_ret (blk_ret (thn_ret (thn_ret (blk_ret (thn_ret ?_))))))
                  refine ret2 HE203 rfl (rv_cell rfl (tv_68.loadN (cs := [.int .i64 (0), .int .i64 (0), .int .i64 (0), .slice none (0) 0]) rfl (c_blkN 5 rfl _ HH201))) (rv_tmp rfl) ?_
                  have HH204 := HH201.flatO (E := eMulti) (cs := [.int .i64 (0), .int .i64 (0), .int .i64 (0), .slice none (0) 0]) (x := (0, 0, 0, [])) (fun _ => (oPrN (oI (by exact ⟨by omega, by omega⟩)) (oPrN (oI (by exact ⟨by omega, by omega⟩)) (oPrN (oI (by exact ⟨by omega, by omega⟩)) (oSl (So.nil (Nat.zero_le _)))))))
                  have hF : (rdMuI a0) = ((0, 0, 0, []), false) := by
                    rw [← rdMu_eq]; first | exact rdMuS_61 (by omega) | exact rdMuS_3 rfl (by omega) hx0 (by omega) | exact rdMuS_line rfl (by omega) hx0 (lineK_5 (by omega)) | exact rdMuS_ok (by assumption) | (rw [rdMuS_eq rfl (by omega) (by omega) hl0 (by omega) (by assumption) (by omega) hM]; first | (rw [if_pos ⟨by assumption, by assumption⟩]; done) | (exact if_neg (fun hh => ff hh.1 (by assumption))) | (exact if_neg (fun hh => absurd hh.2 (by assumption))))
                  exact ⟨_, by first | (rw [hF] <;> rfl) | rfl | (rw [hF]; simp only [Ending.returned.injEq, Value.slice.injEq, true_and, and_true]; first | omega | (simp; done)) | (rw [hF]; simp; omega), by rw [hF]; exact (HH204.o (i := 0) rfl), HH204.below⟩
                · refine wp_skip ?_
                  refine nrm ?_
                  refine wp_seq ?_
                  refine rg ?_
                  refine pl_x HE196 HH186 (wt0 rfl) (x_move rfl) rfl rfl fun a_205 HE206 => ?_
                  have ke51 : 0 < (splitR 32 y48).length := by omega
                  obtain ⟨be51, fe51, rfl⟩ := el_own HH186 (i := 0) rfl ke51
                  refine pl_x HE206 HH186 (wt0 rfl) (x_indexAddr ts_78 rfl rfl rfl rfl ke51) rfl rfl fun a_207 HE208 => ?_
                  obtain ⟨y52, xy52⟩ : ∃ y_, y_ = (splitR 32 y48)[0]'(by first | exact ke51 | (simp only [List.length_set]; exact ke51) | omega | (simp only [List.length_set]; omega) | (simp; omega)) := ⟨_, rfl⟩
                  have jy52 : List.length y52 ≤ 9223372036854775807 := by rw [xy52]; exact i_ownS HH186 0 rfl _
                  have hz0 := xy52
                  have hpy52 := splitR_piece 32 _ y52 (by rw [xy52]; exact List.getElem_mem _)
                  refine pl_x HE208 HH186 (wt0 rfl) (x_load1 tv_9 rfl (c_ownS 0 rfl (by first | exact ke51 | (simp only [List.length_set]; exact ke51) | omega | (simp only [List.length_set]; omega) | (simp; omega)) xy52.symm)) rfl rfl fun a_209 HE210 => ?_
                  refine pl fun K_211 hK212 => ?_
                  refine st_call HE210 (wt0 rfl) rfl rfl rfl en_65 rfl rfl (spec_l01Number y52 _ (by omega)) fun e w' hr => ?_
                  have hAr53_0 := numC_bd y52
                  obtain ⟨rfl, hbr53⟩ := hr
                  have HH213 := HH186.on hbr53
                  refine ⟨_, rfl, fun a_214 HE215 => hK212 _ _ ?_⟩
                  refine pl_x HE215 HH213 (wt0 rfl) (x_move rfl) rfl rfl fun a_216 HE217 => ?_
                  refine pl_x HE217 HH213 (wt0 rfl) (x_extract rfl rfl) rfl rfl fun a_218 HE219 => ?_
                  refine pl_x HE219 HH213 (wt0 rfl) (x_extract rfl rfl) rfl rfl fun a_220 HE221 => ?_
                  refine pl_x HE221 HH213 (wt0 rfl) (x_assign rfl) rfl rfl fun a_222 HE223 => ?_
                  refine pl_x HE223 HH213 (wt0 rfl) (x_assign rfl) rfl rfl fun a_224 HE225 => ?_
                  refine wpList_nil ?_
                  clear a_195 HE196 a_205 HE206 a_207 HE208 HH186 a_209 HE210 a_214 HE215 a_216 HE217 a_218 HE219 a_220 HE221 a_222 HE223 hK212 K_211
                  refine nrm ?_
                  refine wp_seq ?_
                  refine rg ?_
                  refine pl_x HE225 HH213 (wt0 rfl) (x_move rfl) rfl rfl fun a_226 HE227 => ?_
                  have ke54 : 1 < (splitR 32 y48).length := by omega
                  refine pl_x HE227 HH213 (wt0 rfl) (x_indexAddr ts_78 rfl rfl rfl rfl ke54) rfl rfl fun a_228 HE229 => ?_
                  obtain ⟨y55, xy55⟩ : ∃ y_, y_ = (splitR 32 y48)[1]'(by first | exact ke54 | (simp only [List.length_set]; exact ke54) | omega | (simp only [List.length_set]; omega) | (simp; omega)) := ⟨_, rfl⟩
                  have jy55 : List.length y55 ≤ 9223372036854775807 := by rw [xy55]; exact i_ownS HH213 0 rfl _
                  have hz1 := xy55
                  have hpy55 := splitR_piece 32 _ y55 (by rw [xy55]; exact List.getElem_mem _)
                  refine pl_x HE229 HH213 (wt0 rfl) (x_load1 tv_9 rfl (c_ownS 0 rfl (by first | exact ke54 | (simp only [List.length_set]; exact ke54) | omega | (simp only [List.length_set]; omega) | (simp; omega)) xy55.symm)) rfl rfl fun a_230 HE231 => ?_
                  refine pl fun K_232 hK233 => ?_
                  refine st_call HE231 (wt0 rfl) rfl rfl rfl en_93 rfl rfl (spec_l06ReadDigits y55 _ (by omega)) fun e w' hr => ?_
                  have hAr56_0 := l06D_len y55
                  obtain ⟨Ar56_0, cr56_0, rfl, hor56_0, hbr56⟩ := hr
                  obtain ⟨Sr56, HH234⟩ := HH213.newS hbr56 hor56_0
                  refine ⟨_, rfl, fun a_235 HE236 => hK233 _ _ ?_⟩
                  refine pl_x HE236 HH234 (wt0 rfl) (x_move rfl) rfl rfl fun a_237 HE238 => ?_
                  refine pl_x HE238 HH234 (wt0 rfl) (x_extract rfl rfl) rfl rfl fun a_239 HE240 => ?_
                  refine pl_x HE240 HH234 (wt0 rfl) (x_extract rfl rfl) rfl rfl fun a_241 HE242 => ?_
                  refine pl_x HE242 HH234 (wt0 rfl) (x_assign rfl) rfl rfl fun a_243 HE244 => ?_
                  refine pl_x HE244 HH234 (wt0 rfl) (x_assign rfl) rfl rfl fun a_245 HE246 => ?_
                  refine wpList_nil ?_
                  clear a_224 HE225 a_226 HE227 a_228 HE229 HH213 a_230 HE231 a_235 HE236 a_237 HE238 a_239 HE240 a_241 HE242 a_243 HE244 hK233 K_232
                  refine nrm ?_
                  refine wp_seq ?_
                  refine rg ?_
                  refine pl_x HE246 HH234 (wt0 rfl) (x_move rfl) rfl rfl fun a_247 HE248 => ?_
                  have ke57 : 2 < (splitR 32 y48).length := by omega
                  refine pl_x HE248 HH234 (wt0 rfl) (x_indexAddr ts_78 rfl rfl rfl rfl ke57) rfl rfl fun a_249 HE250 => ?_
                  obtain ⟨y58, xy58⟩ : ∃ y_, y_ = (splitR 32 y48)[2]'(by first | exact ke57 | (simp only [List.length_set]; exact ke57) | omega | (simp only [List.length_set]; omega) | (simp; omega)) := ⟨_, rfl⟩
                  have jy58 : List.length y58 ≤ 9223372036854775807 := by rw [xy58]; exact i_ownS HH234 1 rfl _
                  have hz2 := xy58
                  have hpy58 := splitR_piece 32 _ y58 (by rw [xy58]; exact List.getElem_mem _)
                  refine pl_x HE250 HH234 (wt0 rfl) (x_load1 tv_9 rfl (c_ownS 1 rfl (by first | exact ke57 | (simp only [List.length_set]; exact ke57) | omega | (simp only [List.length_set]; omega) | (simp; omega)) xy58.symm)) rfl rfl fun a_251 HE252 => ?_
                  refine pl fun K_253 hK254 => ?_
                  refine st_call HE252 (wt0 rfl) rfl rfl rfl en_93 rfl rfl (spec_l06ReadDigits y58 _ (by omega)) fun e w' hr => ?_
                  have hAr59_0 := l06D_len y58
                  obtain ⟨Ar59_0, cr59_0, rfl, hor59_0, hbr59⟩ := hr
                  obtain ⟨Sr59, HH255⟩ := HH234.newS hbr59 hor59_0
                  refine ⟨_, rfl, fun a_256 HE257 => hK254 _ _ ?_⟩
                  refine pl_x HE257 HH255 (wt0 rfl) (x_move rfl) rfl rfl fun a_258 HE259 => ?_
                  refine pl_x HE259 HH255 (wt0 rfl) (x_extract rfl rfl) rfl rfl fun a_260 HE261 => ?_
                  refine pl_x HE261 HH255 (wt0 rfl) (x_extract rfl rfl) rfl rfl fun a_262 HE263 => ?_
                  refine pl_x HE263 HH255 (wt0 rfl) (x_assign rfl) rfl rfl fun a_264 HE265 => ?_
                  refine pl_x HE265 HH255 (wt0 rfl) (x_assign rfl) rfl rfl fun a_266 HE267 => ?_
                  refine wpList_nil ?_
                  clear a_245 HE246 a_247 HE248 a_249 HE250 HH234 a_251 HE252 a_256 HE257 a_258 HE259 a_260 HE261 a_262 HE263 a_264 HE265 hK254 K_253
                  refine nrm ?_
                  refine wp_seq ?_
                  refine rg ?_
                  refine pl_x HE267 HH255 (wt0 rfl) (x_move rfl) rfl rfl fun a_268 HE269 => ?_
                  have ke60 : 3 < (splitR 32 y48).length := by omega
                  refine pl_x HE269 HH255 (wt0 rfl) (x_indexAddr ts_78 rfl rfl rfl rfl ke60) rfl rfl fun a_270 HE271 => ?_
                  obtain ⟨y61, xy61⟩ : ∃ y_, y_ = (splitR 32 y48)[3]'(by first | exact ke60 | (simp only [List.length_set]; exact ke60) | omega | (simp only [List.length_set]; omega) | (simp; omega)) := ⟨_, rfl⟩
                  have jy61 : List.length y61 ≤ 9223372036854775807 := by rw [xy61]; exact i_ownS HH255 2 rfl _
                  have hz3 := xy61
                  have hpy61 := splitR_piece 32 _ y61 (by rw [xy61]; exact List.getElem_mem _)
                  refine pl_x HE271 HH255 (wt0 rfl) (x_load1 tv_9 rfl (c_ownS 2 rfl (by first | exact ke60 | (simp only [List.length_set]; exact ke60) | omega | (simp only [List.length_set]; omega) | (simp; omega)) xy61.symm)) rfl rfl fun a_272 HE273 => ?_
                  refine pl fun K_274 hK275 => ?_
                  refine st_call HE273 (wt0 rfl) rfl rfl rfl en_94 rfl rfl (spec_l06ReadMoves y61 _ (by omega)) fun e w' hr => ?_
                  have hAr62_0 := movS_len y61
                  obtain ⟨Ar62_0, cr62_0, rfl, hor62_0, hbr62⟩ := hr
                  obtain ⟨Sr62, HH276⟩ := HH255.newS hbr62 hor62_0
                  refine ⟨_, rfl, fun a_277 HE278 => hK275 _ _ ?_⟩
                  refine pl_x HE278 HH276 (wt0 rfl) (x_move rfl) rfl rfl fun a_279 HE280 => ?_
                  refine pl_x HE280 HH276 (wt0 rfl) (x_extract rfl rfl) rfl rfl fun a_281 HE282 => ?_
                  refine pl_x HE282 HH276 (wt0 rfl) (x_extract rfl rfl) rfl rfl fun a_283 HE284 => ?_
                  refine pl_x HE284 HH276 (wt0 rfl) (x_assign rfl) rfl rfl fun a_285 HE286 => ?_
                  refine pl_x HE286 HH276 (wt0 rfl) (x_assign rfl) rfl rfl fun a_287 HE288 => ?_
                  refine wpList_nil ?_
                  clear a_266 HE267 a_268 HE269 a_270 HE271 HH255 a_272 HE273 a_277 HE278 a_279 HE280 a_281 HE282 a_283 HE284 a_285 HE286 hK275 K_274
                  refine nrm ?_
                  refine wp_seq ?_
                  refine rg ?_
                  refine pl_x HE288 HH276 (wt0 rfl) (x_move rfl) rfl rfl fun a_289 HE290 => ?_
                  have ke63 : 4 < (splitR 32 y48).length := by omega
                  refine pl_x HE290 HH276 (wt0 rfl) (x_indexAddr ts_78 rfl rfl rfl rfl ke63) rfl rfl fun a_291 HE292 => ?_
                  obtain ⟨y64, xy64⟩ : ∃ y_, y_ = (splitR 32 y48)[4]'(by first | exact ke63 | (simp only [List.length_set]; exact ke63) | omega | (simp only [List.length_set]; omega) | (simp; omega)) := ⟨_, rfl⟩
                  have jy64 : List.length y64 ≤ 9223372036854775807 := by rw [xy64]; exact i_ownS HH276 3 rfl _
                  have hz4 := xy64
                  have hpy64 := splitR_piece 32 _ y64 (by rw [xy64]; exact List.getElem_mem _)
                  refine pl_x HE292 HH276 (wt0 rfl) (x_load1 tv_9 rfl (c_ownS 3 rfl (by first | exact ke63 | (simp only [List.length_set]; exact ke63) | omega | (simp only [List.length_set]; omega) | (simp; omega)) xy64.symm)) rfl rfl fun a_293 HE294 => ?_
                  refine pl fun K_295 hK296 => ?_
                  refine st_call HE294 (wt0 rfl) rfl rfl rfl en_65 rfl rfl (spec_l01Number y64 _ (by omega)) fun e w' hr => ?_
                  have hAr65_0 := numC_bd y64
                  obtain ⟨rfl, hbr65⟩ := hr
                  have HH297 := HH276.on hbr65
                  refine ⟨_, rfl, fun a_298 HE299 => hK296 _ _ ?_⟩
                  refine pl_x HE299 HH297 (wt0 rfl) (x_move rfl) rfl rfl fun a_300 HE301 => ?_
                  refine pl_x HE301 HH297 (wt0 rfl) (x_extract rfl rfl) rfl rfl fun a_302 HE303 => ?_
                  refine pl_x HE303 HH297 (wt0 rfl) (x_extract rfl rfl) rfl rfl fun a_304 HE305 => ?_
                  refine pl_x HE305 HH297 (wt0 rfl) (x_assign rfl) rfl rfl fun a_306 HE307 => ?_
                  refine pl_x HE307 HH297 (wt0 rfl) (x_assign rfl) rfl rfl fun a_308 HE309 => ?_
                  refine wpList_nil ?_
                  clear a_287 HE288 a_289 HE290 a_291 HE292 HH276 a_293 HE294 a_298 HE299 a_300 HE301 a_302 HE303 a_304 HE305 a_306 HE307 hK296 K_295
                  refine nrm ?_
                  refine wp_seq ?_
                  refine rg ?_
                  refine pl_x HE309 HH297 (wt0 rfl) (x_move rfl) rfl rfl fun a_310 HE311 => ?_
                  refine pl_x HE311 HH297 (wt0 rfl) (x_move rfl) rfl rfl fun a_312 HE313 => ?_
                  rcases Bool.eq_false_or_eq_true ((numC y52).2) with hc66 | hc66
                  · refine pl_x HE313 HH297 (wtT HE313 rfl rfl rfl hc66) (x_move rfl) rfl rfl fun a_314 HE315 => ?_
                    refine pl_x HE315 HH297 (wt0 rfl) (x_pickT rfl hc66 rfl) rfl rfl fun a_316 HE317 => ?_
                    refine pl_x HE317 HH297 (wt0 rfl) (x_move rfl) rfl rfl fun a_318 HE319 => ?_
                    rcases Bool.eq_false_or_eq_true ((l06D y55).2) with hc67 | hc67
                    · refine pl_x HE319 HH297 (wtT HE319 rfl rfl rfl hc67) (x_move rfl) rfl rfl fun a_320 HE321 => ?_
                      refine pl_x HE321 HH297 (wt0 rfl) (x_pickT rfl hc67 rfl) rfl rfl fun a_322 HE323 => ?_
                      refine pl_x HE323 HH297 (wt0 rfl) (x_move rfl) rfl rfl fun a_324 HE325 => ?_
                      rcases Bool.eq_false_or_eq_true ((l06D y58).2) with hc68 | hc68
                      · refine pl_x HE325 HH297 (wtT HE325 rfl rfl rfl hc68) (x_move rfl) rfl rfl fun a_326 HE327 => ?_
                        refine pl_x HE327 HH297 (wt0 rfl) (x_pickT rfl hc68 rfl) rfl rfl fun a_328 HE329 => ?_
                        refine pl_x HE329 HH297 (wt0 rfl) (x_move rfl) rfl rfl fun a_330 HE331 => ?_
                        rcases Bool.eq_false_or_eq_true ((movS y61).2) with hc69 | hc69
                        · refine pl_x HE331 HH297 (wtT HE331 rfl rfl rfl hc69) (x_move rfl) rfl rfl fun a_332 HE333 => ?_
                          refine pl_x HE333 HH297 (wt0 rfl) (x_pickT rfl hc69 rfl) rfl rfl fun a_334 HE335 => ?_
                          refine pl_x HE335 HH297 (wt0 rfl) (x_assign rfl) rfl rfl fun a_336 HE337 => ?_
                          refine wpList_nil ?_
                          clear a_308 HE309 a_310 HE311 a_312 HE313 a_314 HE315 a_316 HE317 a_318 HE319 a_320 HE321 a_322 HE323 a_324 HE325 a_326 HE327 a_328 HE329 a_330 HE331 a_332 HE333 a_334 HE335
                          refine nrm ?_
                          refine rg ?_
                          refine pl_x HE337 HH297 (wt0 rfl) (x_fieldAddr fa_68_3 rfl) rfl rfl fun a_338 HE339 => ?_
                          refine pl_x HE339 HH297 (wt0 rfl) (x_load1 tv_66 rfl (c_blk 5 rfl rfl)) rfl rfl fun a_340 HE341 => ?_
                          refine pl_x HE341 HH297 (wt0 rfl) (x_move rfl) rfl rfl fun a_342 HE343 => ?_
                          refine pl_x HE343 HH297 (wt0 rfl) (x_move rfl) rfl rfl fun a_344 HE345 => ?_
                          refine pl_x HE345 HH297 (wt0 rfl) (x_move rfl) rfl rfl fun a_346 HE347 => ?_
                          refine pl_x HE347 HH297 (wt0 rfl) (x_move rfl) rfl rfl fun a_348 HE349 => ?_
                          refine pl_x HE349 HH297 (wt0 rfl) (x_move rfl) rfl rfl fun a_350 HE351 => ?_
                          refine pl_x HE351 HH297 (wt0 rfl) (show XS _ _ _ _ (.agg #[.int .i64 ((numC y52).1), .slice Ar56_0 ((l06D y55).1.length) cr56_0, .slice Ar59_0 ((l06D y58).1.length) cr59_0, .slice Ar62_0 ((movS y61).1.length) cr62_0, .int .i64 ((numC y64).1)]) from x_build (vs := [(0, .int .i64 ((numC y52).1)), (1, .slice Ar56_0 ((l06D y55).1.length) cr56_0), (2, .slice Ar59_0 ((l06D y58).1.length) cr59_0), (3, .slice Ar62_0 ((movS y61).1.length) cr62_0), (4, .int .i64 ((numC y64).1))]) tb_123 rfl (by simp [Value.oneCell'])) rfl rfl fun a_352 HE353 => ?_
                          refine pl fun K_354 hK355 => ?_
                          refine st_lit (m := 1) (cs := [.int .i64 ((numC y52).1), .slice Ar56_0 ((l06D y55).1.length) cr56_0, .slice Ar59_0 ((l06D y58).1.length) cr59_0, .slice Ar62_0 ((movS y61).1.length) cr62_0, .int .i64 ((numC y64).1)]) (e := 123) HE353 HH297 (run_lit ts_66 HE353 (vs := [.agg #[.int .i64 ((numC y52).1), .slice Ar56_0 ((l06D y55).1.length) cr56_0, .slice Ar59_0 ((l06D y58).1.length) cr59_0, .slice Ar62_0 ((movS y61).1.length) cr62_0, .int .i64 ((numC y64).1)]]) rfl rfl (by simp [Value.cells]) rfl (by decide)) (wt0 rfl) rfl rfl fun q70 a_356 w' HE357 HH358 => hK355 _ _ ?_
                          refine pl fun K_359 hK360 => ?_
                          have HH361 := HH358.sel [3, 2, 1, 0, 4, 5, 6, 7, 8, 9] (by decide) rfl
                          have HH362 := HH361.sel [2, 0, 1, 3, 4, 5, 6, 7, 8, 9] (by decide) rfl
                          have HH363 := HH362.pairB (F := eInt) (c2 := [.int .i64 ((numC y64).1)]) (y := (numC y64).1) (oI (by exact ⟨by omega, by omega⟩))
                          have HH364 := HH363.sel [2, 0, 1, 3, 4, 5, 6, 7, 8, 9] (by decide) rfl
                          have HH365 := HH364.pair
                          have HH366 := HH365.sel [1, 0, 2, 3, 4, 5, 6, 7, 8] (by decide) rfl
                          have HH367 := HH366.pair
                          have HH368 := HH367.pairF (E := eInt) (c1 := [.int .i64 ((numC y52).1)]) (x := (numC y52).1) (oI (by exact ⟨by omega, by omega⟩))
                          obtain ⟨S74, HH369⟩ : ∃ S, Held Nob w (rO eMultiRule S [.int .i64 ((numC y52).1), .slice Ar56_0 ((l06D y55).1.length) cr56_0, .slice Ar59_0 ((l06D y58).1.length) cr59_0, .slice Ar62_0 ((movS y61).1.length) cr62_0, .int .i64 ((numC y64).1)] ((numC y52).1, (l06D y55).1, (l06D y58).1, (movS y61).1, (numC y64).1) :: _) _ := ⟨_, HH368⟩
                          refine st_app1 HE357 HH369 ts_66 [3, 0, 1, 2, 4, 5, 6, 7] (by decide) rfl rfl rfl (by simp [Value.oneCell']) (by unfold maxLen; first | omega | (simp; done) | (simp; omega)) (by first | omega | (simp; done) | (simp; omega)) (wt0 rfl) rfl fun A71 c72 S73 a_370 w' HE371 HH372 => hK360 _ _ ?_
                          refine pl_x HE371 HH372 (wt0 rfl) (x_fieldAddr fa_68_3 rfl) rfl rfl fun a_373 HE374 => ?_
                          refine pl fun K_375 hK376 => ?_
                          refine st_store (vs := [.slice A71 ((((((splitR 10 a0).drop 1).take j).map lineS) ++ [((numC y52).1, (l06D y55).1, (l06D y58).1, (movS y61).1, (numC y64).1)]).length) c72]) 3 HE374 HH372 tv_66 rfl rfl rfl rfl rfl rfl (by simp [Value.oneCell']) (wt0 rfl) fun w' HH377 => hK376 _ _ ?_
                          refine wpList_nil ?_
                          clear a_336 HE337 a_338 HE339 a_340 HE341 a_342 HE343 a_344 HE345 a_346 HE347 a_348 HE349 a_350 HE351 a_352 HE353 HH297 K_354 hK355 HH358 HH361 HH362 HH363 HH364 HH365 HH366 HH367 HH368 a_356 HE357 HH369 a_370 HE371 K_359 hK360 HH372 hK376 K_375
                          refine blk_n ?_
                          refine nrm ?_
                          refine rg ?_
                          refine pl_x HE374 HH377 (wt0 rfl) (x_move rfl) rfl rfl fun a_378 HE379 => ?_
                          refine pl_x HE379 HH377 (wt0 rfl) (x_add rfl rfl (by exact ⟨by omega, by omega⟩)) rfl rfl fun a_380 HE381 => ?_
                          refine pl_x HE381 HH377 (wt0 rfl) (x_assign rfl) rfl rfl fun a_382 HE383 => ?_
                          refine wpList_nil ?_
                          clear a_373 HE374 a_378 HE379 a_380 HE381
                          have hLk := lineK_eq rfl (by omega) (by omega) hz0 hz1 hz2 hz3 hz4
                          have E75 : ((((splitR 10 a0).drop 1).take (j + 1)).map lineS) = (((((splitR 10 a0).drop 1).take j).map lineS) ++ [((numC y52).1, (l06D y55).1, (l06D y58).1, (movS y61).1, (numC y64).1)]) := by
                            exact lines_snoc (by omega) hx0 hLk.2
                          exact nrm ⟨List.length (splitR 10 a0) - 1 - (j + 1), (by omega), j + 1, A71, c72, S73, rfl, HE383.sub ⟨(lkB rfl (by rw [lineK_snoc (by omega) hx0 _, hLk.1, (by assumption : (hdK (splitR 32 ((splitR 10 a0)[0]?.getD [])) && (((splitR 10 a0).drop 1).take j).all lineK) = true)]; first | grind | simp [hc23, hc27, hc38, hc39, hc45, hc46, hc50, hc66, hc67, hc68, hc69])), (lkI rfl (by first | rfl | omega | (simp [hc23, xy25, hc27, xy29, xy32, xy35, hc38, hc39, p44_0, hc45, hc46, xy48, hc50, xy52, xy55, xy58, xy61, xy64, hc66, hc67, hc68, hc69]; done))), rfl, rfl, rfl, rfl, trivial⟩, ((HH377.sel [0, 3, 4, 5, 6] (by decide) rfl).to (by first | rfl | (rw [E75]; done) | (rw [E75]; rfl) | (simp only [E75]; done) | (simp only [E75]; rfl) | (rw [E75]; simp only [List.length_set]; done))), (by first | omega | assumption | (simp; done) | simp_all)⟩
                        · refine pl_no HE331 (wtF HE331 rfl rfl rfl hc69) rfl rfl fun a_384 HE385 => ?_
                          refine pl_x HE385 HH297 (wt0 rfl) (x_pickF rfl hc69 rfl) rfl rfl fun a_386 HE387 => ?_
                          refine pl_x HE387 HH297 (wt0 rfl) (x_assign rfl) rfl rfl fun a_388 HE389 => ?_
                          refine wpList_nil ?_
                          clear a_308 HE309 a_310 HE311 a_312 HE313 a_314 HE315 a_316 HE317 a_318 HE319 a_320 HE321 a_322 HE323 a_324 HE325 a_326 HE327 a_328 HE329 a_330 HE331 a_384 HE385 a_386 HE387
                          refine nrm ?_
                          refine rg ?_
                          refine pl_x HE389 HH297 (wt0 rfl) (x_fieldAddr fa_68_3 rfl) rfl rfl fun a_390 HE391 => ?_
                          refine pl_x HE391 HH297 (wt0 rfl) (x_load1 tv_66 rfl (c_blk 5 rfl rfl)) rfl rfl fun a_392 HE393 => ?_
                          refine pl_x HE393 HH297 (wt0 rfl) (x_move rfl) rfl rfl fun a_394 HE395 => ?_
                          refine pl_x HE395 HH297 (wt0 rfl) (x_move rfl) rfl rfl fun a_396 HE397 => ?_
                          refine pl_x HE397 HH297 (wt0 rfl) (x_move rfl) rfl rfl fun a_398 HE399 => ?_
                          refine pl_x HE399 HH297 (wt0 rfl) (x_move rfl) rfl rfl fun a_400 HE401 => ?_
                          refine pl_x HE401 HH297 (wt0 rfl) (x_move rfl) rfl rfl fun a_402 HE403 => ?_
                          refine pl_x HE403 HH297 (wt0 rfl) (show XS _ _ _ _ (.agg #[.int .i64 ((numC y52).1), .slice Ar56_0 ((l06D y55).1.length) cr56_0, .slice Ar59_0 ((l06D y58).1.length) cr59_0, .slice Ar62_0 ((movS y61).1.length) cr62_0, .int .i64 ((numC y64).1)]) from x_build (vs := [(0, .int .i64 ((numC y52).1)), (1, .slice Ar56_0 ((l06D y55).1.length) cr56_0), (2, .slice Ar59_0 ((l06D y58).1.length) cr59_0), (3, .slice Ar62_0 ((movS y61).1.length) cr62_0), (4, .int .i64 ((numC y64).1))]) tb_123 rfl (by simp [Value.oneCell'])) rfl rfl fun a_404 HE405 => ?_
                          refine pl fun K_406 hK407 => ?_
                          refine st_lit (m := 1) (cs := [.int .i64 ((numC y52).1), .slice Ar56_0 ((l06D y55).1.length) cr56_0, .slice Ar59_0 ((l06D y58).1.length) cr59_0, .slice Ar62_0 ((movS y61).1.length) cr62_0, .int .i64 ((numC y64).1)]) (e := 123) HE405 HH297 (run_lit ts_66 HE405 (vs := [.agg #[.int .i64 ((numC y52).1), .slice Ar56_0 ((l06D y55).1.length) cr56_0, .slice Ar59_0 ((l06D y58).1.length) cr59_0, .slice Ar62_0 ((movS y61).1.length) cr62_0, .int .i64 ((numC y64).1)]]) rfl rfl (by simp [Value.cells]) rfl (by decide)) (wt0 rfl) rfl rfl fun q76 a_408 w' HE409 HH410 => hK407 _ _ ?_
                          refine pl fun K_411 hK412 => ?_
                          have HH413 := HH410.sel [3, 2, 1, 0, 4, 5, 6, 7, 8, 9] (by decide) rfl
                          have HH414 := HH413.sel [2, 0, 1, 3, 4, 5, 6, 7, 8, 9] (by decide) rfl
                          have HH415 := HH414.pairB (F := eInt) (c2 := [.int .i64 ((numC y64).1)]) (y := (numC y64).1) (oI (by exact ⟨by omega, by omega⟩))
                          have HH416 := HH415.sel [2, 0, 1, 3, 4, 5, 6, 7, 8, 9] (by decide) rfl
                          have HH417 := HH416.pair
                          have HH418 := HH417.sel [1, 0, 2, 3, 4, 5, 6, 7, 8] (by decide) rfl
                          have HH419 := HH418.pair
                          have HH420 := HH419.pairF (E := eInt) (c1 := [.int .i64 ((numC y52).1)]) (x := (numC y52).1) (oI (by exact ⟨by omega, by omega⟩))
                          obtain ⟨S80, HH421⟩ : ∃ S, Held Nob w (rO eMultiRule S [.int .i64 ((numC y52).1), .slice Ar56_0 ((l06D y55).1.length) cr56_0, .slice Ar59_0 ((l06D y58).1.length) cr59_0, .slice Ar62_0 ((movS y61).1.length) cr62_0, .int .i64 ((numC y64).1)] ((numC y52).1, (l06D y55).1, (l06D y58).1, (movS y61).1, (numC y64).1) :: _) _ := ⟨_, HH420⟩
                          refine st_app1 HE409 HH421 ts_66 [3, 0, 1, 2, 4, 5, 6, 7] (by decide) rfl rfl rfl (by simp [Value.oneCell']) (by unfold maxLen; first | omega | (simp; done) | (simp; omega)) (by first | omega | (simp; done) | (simp; omega)) (wt0 rfl) rfl fun A77 c78 S79 a_422 w' HE423 HH424 => hK412 _ _ ?_
                          refine pl_x HE423 HH424 (wt0 rfl) (x_fieldAddr fa_68_3 rfl) rfl rfl fun a_425 HE426 => ?_
                          refine pl fun K_427 hK428 => ?_
                          refine st_store (vs := [.slice A77 ((((((splitR 10 a0).drop 1).take j).map lineS) ++ [((numC y52).1, (l06D y55).1, (l06D y58).1, (movS y61).1, (numC y64).1)]).length) c78]) 3 HE426 HH424 tv_66 rfl rfl rfl rfl rfl rfl (by simp [Value.oneCell']) (wt0 rfl) fun w' HH429 => hK428 _ _ ?_
                          refine wpList_nil ?_
                          clear a_388 HE389 a_390 HE391 a_392 HE393 a_394 HE395 a_396 HE397 a_398 HE399 a_400 HE401 a_402 HE403 a_404 HE405 HH297 K_406 hK407 HH410 HH413 HH414 HH415 HH416 HH417 HH418 HH419 HH420 a_408 HE409 HH421 a_422 HE423 K_411 hK412 HH424 hK428 K_427
                          refine blk_n ?_
                          refine nrm ?_
                          refine rg ?_
                          refine pl_x HE426 HH429 (wt0 rfl) (x_move rfl) rfl rfl fun a_430 HE431 => ?_
                          refine pl_x HE431 HH429 (wt0 rfl) (x_add rfl rfl (by exact ⟨by omega, by omega⟩)) rfl rfl fun a_432 HE433 => ?_
                          refine pl_x HE433 HH429 (wt0 rfl) (x_assign rfl) rfl rfl fun a_434 HE435 => ?_
                          refine wpList_nil ?_
                          clear a_425 HE426 a_430 HE431 a_432 HE433
                          have hLk := lineK_eq rfl (by omega) (by omega) hz0 hz1 hz2 hz3 hz4
                          have E81 : ((((splitR 10 a0).drop 1).take (j + 1)).map lineS) = (((((splitR 10 a0).drop 1).take j).map lineS) ++ [((numC y52).1, (l06D y55).1, (l06D y58).1, (movS y61).1, (numC y64).1)]) := by
                            exact lines_snoc (by omega) hx0 hLk.2
                          exact nrm ⟨List.length (splitR 10 a0) - 1 - (j + 1), (by omega), j + 1, A77, c78, S79, rfl, HE435.sub ⟨(lkB rfl (by rw [lineK_snoc (by omega) hx0 _, hLk.1, (by assumption : (hdK (splitR 32 ((splitR 10 a0)[0]?.getD [])) && (((splitR 10 a0).drop 1).take j).all lineK) = true)]; first | grind | simp [hc23, hc27, hc38, hc39, hc45, hc46, hc50, hc66, hc67, hc68, hc69])), (lkI rfl (by first | rfl | omega | (simp [hc23, xy25, hc27, xy29, xy32, xy35, hc38, hc39, p44_0, hc45, hc46, xy48, hc50, xy52, xy55, xy58, xy61, xy64, hc66, hc67, hc68, hc69]; done))), rfl, rfl, rfl, rfl, trivial⟩, ((HH429.sel [0, 3, 4, 5, 6] (by decide) rfl).to (by first | rfl | (rw [E81]; done) | (rw [E81]; rfl) | (simp only [E81]; done) | (simp only [E81]; rfl) | (rw [E81]; simp only [List.length_set]; done))), (by first | omega | assumption | (simp; done) | simp_all)⟩
                      · refine pl_no HE325 (wtF HE325 rfl rfl rfl hc68) rfl rfl fun a_436 HE437 => ?_
                        refine pl_x HE437 HH297 (wt0 rfl) (x_pickF rfl hc68 rfl) rfl rfl fun a_438 HE439 => ?_
                        refine pl_x HE439 HH297 (wt0 rfl) (x_move rfl) rfl rfl fun a_440 HE441 => ?_
                        refine pl_no HE441 (wtF HE441 rfl rfl rfl rfl) rfl rfl fun a_442 HE443 => ?_
                        refine pl_x HE443 HH297 (wt0 rfl) (x_pickF rfl rfl rfl) rfl rfl fun a_444 HE445 => ?_
                        refine pl_x HE445 HH297 (wt0 rfl) (x_assign rfl) rfl rfl fun a_446 HE447 => ?_
                        refine wpList_nil ?_
                        clear a_308 HE309 a_310 HE311 a_312 HE313 a_314 HE315 a_316 HE317 a_318 HE319 a_320 HE321 a_322 HE323 a_324 HE325 a_436 HE437 a_438 HE439 a_440 HE441 a_442 HE443 a_444 HE445
                        refine nrm ?_
                        refine rg ?_
                        refine pl_x HE447 HH297 (wt0 rfl) (x_fieldAddr fa_68_3 rfl) rfl rfl fun a_448 HE449 => ?_
                        refine pl_x HE449 HH297 (wt0 rfl) (x_load1 tv_66 rfl (c_blk 5 rfl rfl)) rfl rfl fun a_450 HE451 => ?_
                        refine pl_x HE451 HH297 (wt0 rfl) (x_move rfl) rfl rfl fun a_452 HE453 => ?_
                        refine pl_x HE453 HH297 (wt0 rfl) (x_move rfl) rfl rfl fun a_454 HE455 => ?_
                        refine pl_x HE455 HH297 (wt0 rfl) (x_move rfl) rfl rfl fun a_456 HE457 => ?_
                        refine pl_x HE457 HH297 (wt0 rfl) (x_move rfl) rfl rfl fun a_458 HE459 => ?_
                        refine pl_x HE459 HH297 (wt0 rfl) (x_move rfl) rfl rfl fun a_460 HE461 => ?_
                        refine pl_x HE461 HH297 (wt0 rfl) (show XS _ _ _ _ (.agg #[.int .i64 ((numC y52).1), .slice Ar56_0 ((l06D y55).1.length) cr56_0, .slice Ar59_0 ((l06D y58).1.length) cr59_0, .slice Ar62_0 ((movS y61).1.length) cr62_0, .int .i64 ((numC y64).1)]) from x_build (vs := [(0, .int .i64 ((numC y52).1)), (1, .slice Ar56_0 ((l06D y55).1.length) cr56_0), (2, .slice Ar59_0 ((l06D y58).1.length) cr59_0), (3, .slice Ar62_0 ((movS y61).1.length) cr62_0), (4, .int .i64 ((numC y64).1))]) tb_123 rfl (by simp [Value.oneCell'])) rfl rfl fun a_462 HE463 => ?_
                        refine pl fun K_464 hK465 => ?_
                        refine st_lit (m := 1) (cs := [.int .i64 ((numC y52).1), .slice Ar56_0 ((l06D y55).1.length) cr56_0, .slice Ar59_0 ((l06D y58).1.length) cr59_0, .slice Ar62_0 ((movS y61).1.length) cr62_0, .int .i64 ((numC y64).1)]) (e := 123) HE463 HH297 (run_lit ts_66 HE463 (vs := [.agg #[.int .i64 ((numC y52).1), .slice Ar56_0 ((l06D y55).1.length) cr56_0, .slice Ar59_0 ((l06D y58).1.length) cr59_0, .slice Ar62_0 ((movS y61).1.length) cr62_0, .int .i64 ((numC y64).1)]]) rfl rfl (by simp [Value.cells]) rfl (by decide)) (wt0 rfl) rfl rfl fun q82 a_466 w' HE467 HH468 => hK465 _ _ ?_
                        refine pl fun K_469 hK470 => ?_
                        have HH471 := HH468.sel [3, 2, 1, 0, 4, 5, 6, 7, 8, 9] (by decide) rfl
                        have HH472 := HH471.sel [2, 0, 1, 3, 4, 5, 6, 7, 8, 9] (by decide) rfl
                        have HH473 := HH472.pairB (F := eInt) (c2 := [.int .i64 ((numC y64).1)]) (y := (numC y64).1) (oI (by exact ⟨by omega, by omega⟩))
                        have HH474 := HH473.sel [2, 0, 1, 3, 4, 5, 6, 7, 8, 9] (by decide) rfl
                        have HH475 := HH474.pair
                        have HH476 := HH475.sel [1, 0, 2, 3, 4, 5, 6, 7, 8] (by decide) rfl
                        have HH477 := HH476.pair
                        have HH478 := HH477.pairF (E := eInt) (c1 := [.int .i64 ((numC y52).1)]) (x := (numC y52).1) (oI (by exact ⟨by omega, by omega⟩))
                        obtain ⟨S86, HH479⟩ : ∃ S, Held Nob w (rO eMultiRule S [.int .i64 ((numC y52).1), .slice Ar56_0 ((l06D y55).1.length) cr56_0, .slice Ar59_0 ((l06D y58).1.length) cr59_0, .slice Ar62_0 ((movS y61).1.length) cr62_0, .int .i64 ((numC y64).1)] ((numC y52).1, (l06D y55).1, (l06D y58).1, (movS y61).1, (numC y64).1) :: _) _ := ⟨_, HH478⟩
                        refine st_app1 HE467 HH479 ts_66 [3, 0, 1, 2, 4, 5, 6, 7] (by decide) rfl rfl rfl (by simp [Value.oneCell']) (by unfold maxLen; first | omega | (simp; done) | (simp; omega)) (by first | omega | (simp; done) | (simp; omega)) (wt0 rfl) rfl fun A83 c84 S85 a_480 w' HE481 HH482 => hK470 _ _ ?_
                        refine pl_x HE481 HH482 (wt0 rfl) (x_fieldAddr fa_68_3 rfl) rfl rfl fun a_483 HE484 => ?_
                        refine pl fun K_485 hK486 => ?_
                        refine st_store (vs := [.slice A83 ((((((splitR 10 a0).drop 1).take j).map lineS) ++ [((numC y52).1, (l06D y55).1, (l06D y58).1, (movS y61).1, (numC y64).1)]).length) c84]) 3 HE484 HH482 tv_66 rfl rfl rfl rfl rfl rfl (by simp [Value.oneCell']) (wt0 rfl) fun w' HH487 => hK486 _ _ ?_
                        refine wpList_nil ?_
                        clear a_446 HE447 a_448 HE449 a_450 HE451 a_452 HE453 a_454 HE455 a_456 HE457 a_458 HE459 a_460 HE461 a_462 HE463 HH297 K_464 hK465 HH468 HH471 HH472 HH473 HH474 HH475 HH476 HH477 HH478 a_466 HE467 HH479 a_480 HE481 K_469 hK470 HH482 hK486 K_485
                        refine blk_n ?_
                        refine nrm ?_
                        refine rg ?_
                        refine pl_x HE484 HH487 (wt0 rfl) (x_move rfl) rfl rfl fun a_488 HE489 => ?_
                        refine pl_x HE489 HH487 (wt0 rfl) (x_add rfl rfl (by exact ⟨by omega, by omega⟩)) rfl rfl fun a_490 HE491 => ?_
                        refine pl_x HE491 HH487 (wt0 rfl) (x_assign rfl) rfl rfl fun a_492 HE493 => ?_
                        refine wpList_nil ?_
                        clear a_483 HE484 a_488 HE489 a_490 HE491
                        have hLk := lineK_eq rfl (by omega) (by omega) hz0 hz1 hz2 hz3 hz4
                        have E87 : ((((splitR 10 a0).drop 1).take (j + 1)).map lineS) = (((((splitR 10 a0).drop 1).take j).map lineS) ++ [((numC y52).1, (l06D y55).1, (l06D y58).1, (movS y61).1, (numC y64).1)]) := by
                          exact lines_snoc (by omega) hx0 hLk.2
                        exact nrm ⟨List.length (splitR 10 a0) - 1 - (j + 1), (by omega), j + 1, A83, c84, S85, rfl, HE493.sub ⟨(lkB rfl (by rw [lineK_snoc (by omega) hx0 _, hLk.1, (by assumption : (hdK (splitR 32 ((splitR 10 a0)[0]?.getD [])) && (((splitR 10 a0).drop 1).take j).all lineK) = true)]; first | grind | simp [hc23, hc27, hc38, hc39, hc45, hc46, hc50, hc66, hc67, hc68])), (lkI rfl (by first | rfl | omega | (simp [hc23, xy25, hc27, xy29, xy32, xy35, hc38, hc39, p44_0, hc45, hc46, xy48, hc50, xy52, xy55, xy58, xy61, xy64, hc66, hc67, hc68]; done))), rfl, rfl, rfl, rfl, trivial⟩, ((HH487.sel [0, 3, 4, 5, 6] (by decide) rfl).to (by first | rfl | (rw [E87]; done) | (rw [E87]; rfl) | (simp only [E87]; done) | (simp only [E87]; rfl) | (rw [E87]; simp only [List.length_set]; done))), (by first | omega | assumption | (simp; done) | simp_all)⟩
                    · refine pl_no HE319 (wtF HE319 rfl rfl rfl hc67) rfl rfl fun a_494 HE495 => ?_
                      refine pl_x HE495 HH297 (wt0 rfl) (x_pickF rfl hc67 rfl) rfl rfl fun a_496 HE497 => ?_
                      refine pl_x HE497 HH297 (wt0 rfl) (x_move rfl) rfl rfl fun a_498 HE499 => ?_
                      refine pl_no HE499 (wtF HE499 rfl rfl rfl rfl) rfl rfl fun a_500 HE501 => ?_
                      refine pl_x HE501 HH297 (wt0 rfl) (x_pickF rfl rfl rfl) rfl rfl fun a_502 HE503 => ?_
                      refine pl_x HE503 HH297 (wt0 rfl) (x_move rfl) rfl rfl fun a_504 HE505 => ?_
                      refine pl_no HE505 (wtF HE505 rfl rfl rfl rfl) rfl rfl fun a_506 HE507 => ?_
                      refine pl_x HE507 HH297 (wt0 rfl) (x_pickF rfl rfl rfl) rfl rfl fun a_508 HE509 => ?_
                      refine pl_x HE509 HH297 (wt0 rfl) (x_assign rfl) rfl rfl fun a_510 HE511 => ?_
                      refine wpList_nil ?_
                      clear a_308 HE309 a_310 HE311 a_312 HE313 a_314 HE315 a_316 HE317 a_318 HE319 a_494 HE495 a_496 HE497 a_498 HE499 a_500 HE501 a_502 HE503 a_504 HE505 a_506 HE507 a_508 HE509
                      refine nrm ?_
                      refine rg ?_
                      refine pl_x HE511 HH297 (wt0 rfl) (x_fieldAddr fa_68_3 rfl) rfl rfl fun a_512 HE513 => ?_
                      refine pl_x HE513 HH297 (wt0 rfl) (x_load1 tv_66 rfl (c_blk 5 rfl rfl)) rfl rfl fun a_514 HE515 => ?_
                      refine pl_x HE515 HH297 (wt0 rfl) (x_move rfl) rfl rfl fun a_516 HE517 => ?_
                      refine pl_x HE517 HH297 (wt0 rfl) (x_move rfl) rfl rfl fun a_518 HE519 => ?_
                      refine pl_x HE519 HH297 (wt0 rfl) (x_move rfl) rfl rfl fun a_520 HE521 => ?_
                      refine pl_x HE521 HH297 (wt0 rfl) (x_move rfl) rfl rfl fun a_522 HE523 => ?_
                      refine pl_x HE523 HH297 (wt0 rfl) (x_move rfl) rfl rfl fun a_524 HE525 => ?_
                      refine pl_x HE525 HH297 (wt0 rfl) (show XS _ _ _ _ (.agg #[.int .i64 ((numC y52).1), .slice Ar56_0 ((l06D y55).1.length) cr56_0, .slice Ar59_0 ((l06D y58).1.length) cr59_0, .slice Ar62_0 ((movS y61).1.length) cr62_0, .int .i64 ((numC y64).1)]) from x_build (vs := [(0, .int .i64 ((numC y52).1)), (1, .slice Ar56_0 ((l06D y55).1.length) cr56_0), (2, .slice Ar59_0 ((l06D y58).1.length) cr59_0), (3, .slice Ar62_0 ((movS y61).1.length) cr62_0), (4, .int .i64 ((numC y64).1))]) tb_123 rfl (by simp [Value.oneCell'])) rfl rfl fun a_526 HE527 => ?_
                      refine pl fun K_528 hK529 => ?_
                      refine st_lit (m := 1) (cs := [.int .i64 ((numC y52).1), .slice Ar56_0 ((l06D y55).1.length) cr56_0, .slice Ar59_0 ((l06D y58).1.length) cr59_0, .slice Ar62_0 ((movS y61).1.length) cr62_0, .int .i64 ((numC y64).1)]) (e := 123) HE527 HH297 (run_lit ts_66 HE527 (vs := [.agg #[.int .i64 ((numC y52).1), .slice Ar56_0 ((l06D y55).1.length) cr56_0, .slice Ar59_0 ((l06D y58).1.length) cr59_0, .slice Ar62_0 ((movS y61).1.length) cr62_0, .int .i64 ((numC y64).1)]]) rfl rfl (by simp [Value.cells]) rfl (by decide)) (wt0 rfl) rfl rfl fun q88 a_530 w' HE531 HH532 => hK529 _ _ ?_
                      refine pl fun K_533 hK534 => ?_
                      have HH535 := HH532.sel [3, 2, 1, 0, 4, 5, 6, 7, 8, 9] (by decide) rfl
                      have HH536 := HH535.sel [2, 0, 1, 3, 4, 5, 6, 7, 8, 9] (by decide) rfl
                      have HH537 := HH536.pairB (F := eInt) (c2 := [.int .i64 ((numC y64).1)]) (y := (numC y64).1) (oI (by exact ⟨by omega, by omega⟩))
                      have HH538 := HH537.sel [2, 0, 1, 3, 4, 5, 6, 7, 8, 9] (by decide) rfl
                      have HH539 := HH538.pair
                      have HH540 := HH539.sel [1, 0, 2, 3, 4, 5, 6, 7, 8] (by decide) rfl
                      have HH541 := HH540.pair
                      have HH542 := HH541.pairF (E := eInt) (c1 := [.int .i64 ((numC y52).1)]) (x := (numC y52).1) (oI (by exact ⟨by omega, by omega⟩))
                      obtain ⟨S92, HH543⟩ : ∃ S, Held Nob w (rO eMultiRule S [.int .i64 ((numC y52).1), .slice Ar56_0 ((l06D y55).1.length) cr56_0, .slice Ar59_0 ((l06D y58).1.length) cr59_0, .slice Ar62_0 ((movS y61).1.length) cr62_0, .int .i64 ((numC y64).1)] ((numC y52).1, (l06D y55).1, (l06D y58).1, (movS y61).1, (numC y64).1) :: _) _ := ⟨_, HH542⟩
                      refine st_app1 HE531 HH543 ts_66 [3, 0, 1, 2, 4, 5, 6, 7] (by decide) rfl rfl rfl (by simp [Value.oneCell']) (by unfold maxLen; first | omega | (simp; done) | (simp; omega)) (by first | omega | (simp; done) | (simp; omega)) (wt0 rfl) rfl fun A89 c90 S91 a_544 w' HE545 HH546 => hK534 _ _ ?_
                      refine pl_x HE545 HH546 (wt0 rfl) (x_fieldAddr fa_68_3 rfl) rfl rfl fun a_547 HE548 => ?_
                      refine pl fun K_549 hK550 => ?_
                      refine st_store (vs := [.slice A89 ((((((splitR 10 a0).drop 1).take j).map lineS) ++ [((numC y52).1, (l06D y55).1, (l06D y58).1, (movS y61).1, (numC y64).1)]).length) c90]) 3 HE548 HH546 tv_66 rfl rfl rfl rfl rfl rfl (by simp [Value.oneCell']) (wt0 rfl) fun w' HH551 => hK550 _ _ ?_
                      refine wpList_nil ?_
                      clear a_510 HE511 a_512 HE513 a_514 HE515 a_516 HE517 a_518 HE519 a_520 HE521 a_522 HE523 a_524 HE525 a_526 HE527 HH297 K_528 hK529 HH532 HH535 HH536 HH537 HH538 HH539 HH540 HH541 HH542 a_530 HE531 HH543 a_544 HE545 K_533 hK534 HH546 hK550 K_549
                      refine blk_n ?_
                      refine nrm ?_
                      refine rg ?_
                      refine pl_x HE548 HH551 (wt0 rfl) (x_move rfl) rfl rfl fun a_552 HE553 => ?_
                      refine pl_x HE553 HH551 (wt0 rfl) (x_add rfl rfl (by exact ⟨by omega, by omega⟩)) rfl rfl fun a_554 HE555 => ?_
                      refine pl_x HE555 HH551 (wt0 rfl) (x_assign rfl) rfl rfl fun a_556 HE557 => ?_
                      refine wpList_nil ?_
                      clear a_547 HE548 a_552 HE553 a_554 HE555
                      have hLk := lineK_eq rfl (by omega) (by omega) hz0 hz1 hz2 hz3 hz4
                      have E93 : ((((splitR 10 a0).drop 1).take (j + 1)).map lineS) = (((((splitR 10 a0).drop 1).take j).map lineS) ++ [((numC y52).1, (l06D y55).1, (l06D y58).1, (movS y61).1, (numC y64).1)]) := by
                        exact lines_snoc (by omega) hx0 hLk.2
                      exact nrm ⟨List.length (splitR 10 a0) - 1 - (j + 1), (by omega), j + 1, A89, c90, S91, rfl, HE557.sub ⟨(lkB rfl (by rw [lineK_snoc (by omega) hx0 _, hLk.1, (by assumption : (hdK (splitR 32 ((splitR 10 a0)[0]?.getD [])) && (((splitR 10 a0).drop 1).take j).all lineK) = true)]; first | grind | simp [hc23, hc27, hc38, hc39, hc45, hc46, hc50, hc66, hc67])), (lkI rfl (by first | rfl | omega | (simp [hc23, xy25, hc27, xy29, xy32, xy35, hc38, hc39, p44_0, hc45, hc46, xy48, hc50, xy52, xy55, xy58, xy61, xy64, hc66, hc67]; done))), rfl, rfl, rfl, rfl, trivial⟩, ((HH551.sel [0, 3, 4, 5, 6] (by decide) rfl).to (by first | rfl | (rw [E93]; done) | (rw [E93]; rfl) | (simp only [E93]; done) | (simp only [E93]; rfl) | (rw [E93]; simp only [List.length_set]; done))), (by first | omega | assumption | (simp; done) | simp_all)⟩
                  · refine pl_no HE313 (wtF HE313 rfl rfl rfl hc66) rfl rfl fun a_558 HE559 => ?_
                    refine pl_x HE559 HH297 (wt0 rfl) (x_pickF rfl hc66 rfl) rfl rfl fun a_560 HE561 => ?_
                    refine pl_x HE561 HH297 (wt0 rfl) (x_move rfl) rfl rfl fun a_562 HE563 => ?_
                    refine pl_no HE563 (wtF HE563 rfl rfl rfl rfl) rfl rfl fun a_564 HE565 => ?_
                    refine pl_x HE565 HH297 (wt0 rfl) (x_pickF rfl rfl rfl) rfl rfl fun a_566 HE567 => ?_
                    refine pl_x HE567 HH297 (wt0 rfl) (x_move rfl) rfl rfl fun a_568 HE569 => ?_
                    refine pl_no HE569 (wtF HE569 rfl rfl rfl rfl) rfl rfl fun a_570 HE571 => ?_
                    refine pl_x HE571 HH297 (wt0 rfl) (x_pickF rfl rfl rfl) rfl rfl fun a_572 HE573 => ?_
                    refine pl_x HE573 HH297 (wt0 rfl) (x_move rfl) rfl rfl fun a_574 HE575 => ?_
                    refine pl_no HE575 (wtF HE575 rfl rfl rfl rfl) rfl rfl fun a_576 HE577 => ?_
                    refine pl_x HE577 HH297 (wt0 rfl) (x_pickF rfl rfl rfl) rfl rfl fun a_578 HE579 => ?_
                    refine pl_x HE579 HH297 (wt0 rfl) (x_assign rfl) rfl rfl fun a_580 HE581 => ?_
                    refine wpList_nil ?_
                    clear a_308 HE309 a_310 HE311 a_312 HE313 a_558 HE559 a_560 HE561 a_562 HE563 a_564 HE565 a_566 HE567 a_568 HE569 a_570 HE571 a_572 HE573 a_574 HE575 a_576 HE577 a_578 HE579
                    refine nrm ?_
                    refine rg ?_
                    refine pl_x HE581 HH297 (wt0 rfl) (x_fieldAddr fa_68_3 rfl) rfl rfl fun a_582 HE583 => ?_
                    refine pl_x HE583 HH297 (wt0 rfl) (x_load1 tv_66 rfl (c_blk 5 rfl rfl)) rfl rfl fun a_584 HE585 => ?_
                    refine pl_x HE585 HH297 (wt0 rfl) (x_move rfl) rfl rfl fun a_586 HE587 => ?_
                    refine pl_x HE587 HH297 (wt0 rfl) (x_move rfl) rfl rfl fun a_588 HE589 => ?_
                    refine pl_x HE589 HH297 (wt0 rfl) (x_move rfl) rfl rfl fun a_590 HE591 => ?_
                    refine pl_x HE591 HH297 (wt0 rfl) (x_move rfl) rfl rfl fun a_592 HE593 => ?_
                    refine pl_x HE593 HH297 (wt0 rfl) (x_move rfl) rfl rfl fun a_594 HE595 => ?_
                    refine pl_x HE595 HH297 (wt0 rfl) (show XS _ _ _ _ (.agg #[.int .i64 ((numC y52).1), .slice Ar56_0 ((l06D y55).1.length) cr56_0, .slice Ar59_0 ((l06D y58).1.length) cr59_0, .slice Ar62_0 ((movS y61).1.length) cr62_0, .int .i64 ((numC y64).1)]) from x_build (vs := [(0, .int .i64 ((numC y52).1)), (1, .slice Ar56_0 ((l06D y55).1.length) cr56_0), (2, .slice Ar59_0 ((l06D y58).1.length) cr59_0), (3, .slice Ar62_0 ((movS y61).1.length) cr62_0), (4, .int .i64 ((numC y64).1))]) tb_123 rfl (by simp [Value.oneCell'])) rfl rfl fun a_596 HE597 => ?_
                    refine pl fun K_598 hK599 => ?_
                    refine st_lit (m := 1) (cs := [.int .i64 ((numC y52).1), .slice Ar56_0 ((l06D y55).1.length) cr56_0, .slice Ar59_0 ((l06D y58).1.length) cr59_0, .slice Ar62_0 ((movS y61).1.length) cr62_0, .int .i64 ((numC y64).1)]) (e := 123) HE597 HH297 (run_lit ts_66 HE597 (vs := [.agg #[.int .i64 ((numC y52).1), .slice Ar56_0 ((l06D y55).1.length) cr56_0, .slice Ar59_0 ((l06D y58).1.length) cr59_0, .slice Ar62_0 ((movS y61).1.length) cr62_0, .int .i64 ((numC y64).1)]]) rfl rfl (by simp [Value.cells]) rfl (by decide)) (wt0 rfl) rfl rfl fun q94 a_600 w' HE601 HH602 => hK599 _ _ ?_
                    refine pl fun K_603 hK604 => ?_
                    have HH605 := HH602.sel [3, 2, 1, 0, 4, 5, 6, 7, 8, 9] (by decide) rfl
                    have HH606 := HH605.sel [2, 0, 1, 3, 4, 5, 6, 7, 8, 9] (by decide) rfl
                    have HH607 := HH606.pairB (F := eInt) (c2 := [.int .i64 ((numC y64).1)]) (y := (numC y64).1) (oI (by exact ⟨by omega, by omega⟩))
                    have HH608 := HH607.sel [2, 0, 1, 3, 4, 5, 6, 7, 8, 9] (by decide) rfl
                    have HH609 := HH608.pair
                    have HH610 := HH609.sel [1, 0, 2, 3, 4, 5, 6, 7, 8] (by decide) rfl
                    have HH611 := HH610.pair
                    have HH612 := HH611.pairF (E := eInt) (c1 := [.int .i64 ((numC y52).1)]) (x := (numC y52).1) (oI (by exact ⟨by omega, by omega⟩))
                    obtain ⟨S98, HH613⟩ : ∃ S, Held Nob w (rO eMultiRule S [.int .i64 ((numC y52).1), .slice Ar56_0 ((l06D y55).1.length) cr56_0, .slice Ar59_0 ((l06D y58).1.length) cr59_0, .slice Ar62_0 ((movS y61).1.length) cr62_0, .int .i64 ((numC y64).1)] ((numC y52).1, (l06D y55).1, (l06D y58).1, (movS y61).1, (numC y64).1) :: _) _ := ⟨_, HH612⟩
                    refine st_app1 HE601 HH613 ts_66 [3, 0, 1, 2, 4, 5, 6, 7] (by decide) rfl rfl rfl (by simp [Value.oneCell']) (by unfold maxLen; first | omega | (simp; done) | (simp; omega)) (by first | omega | (simp; done) | (simp; omega)) (wt0 rfl) rfl fun A95 c96 S97 a_614 w' HE615 HH616 => hK604 _ _ ?_
                    refine pl_x HE615 HH616 (wt0 rfl) (x_fieldAddr fa_68_3 rfl) rfl rfl fun a_617 HE618 => ?_
                    refine pl fun K_619 hK620 => ?_
                    refine st_store (vs := [.slice A95 ((((((splitR 10 a0).drop 1).take j).map lineS) ++ [((numC y52).1, (l06D y55).1, (l06D y58).1, (movS y61).1, (numC y64).1)]).length) c96]) 3 HE618 HH616 tv_66 rfl rfl rfl rfl rfl rfl (by simp [Value.oneCell']) (wt0 rfl) fun w' HH621 => hK620 _ _ ?_
                    refine wpList_nil ?_
                    clear a_580 HE581 a_582 HE583 a_584 HE585 a_586 HE587 a_588 HE589 a_590 HE591 a_592 HE593 a_594 HE595 a_596 HE597 HH297 K_598 hK599 HH602 HH605 HH606 HH607 HH608 HH609 HH610 HH611 HH612 a_600 HE601 HH613 a_614 HE615 K_603 hK604 HH616 hK620 K_619
                    refine blk_n ?_
                    refine nrm ?_
                    refine rg ?_
                    refine pl_x HE618 HH621 (wt0 rfl) (x_move rfl) rfl rfl fun a_622 HE623 => ?_
                    refine pl_x HE623 HH621 (wt0 rfl) (x_add rfl rfl (by exact ⟨by omega, by omega⟩)) rfl rfl fun a_624 HE625 => ?_
                    refine pl_x HE625 HH621 (wt0 rfl) (x_assign rfl) rfl rfl fun a_626 HE627 => ?_
                    refine wpList_nil ?_
                    clear a_617 HE618 a_622 HE623 a_624 HE625
                    have hLk := lineK_eq rfl (by omega) (by omega) hz0 hz1 hz2 hz3 hz4
                    have E99 : ((((splitR 10 a0).drop 1).take (j + 1)).map lineS) = (((((splitR 10 a0).drop 1).take j).map lineS) ++ [((numC y52).1, (l06D y55).1, (l06D y58).1, (movS y61).1, (numC y64).1)]) := by
                      exact lines_snoc (by omega) hx0 hLk.2
                    exact nrm ⟨List.length (splitR 10 a0) - 1 - (j + 1), (by omega), j + 1, A95, c96, S97, rfl, HE627.sub ⟨(lkB rfl (by rw [lineK_snoc (by omega) hx0 _, hLk.1, (by assumption : (hdK (splitR 32 ((splitR 10 a0)[0]?.getD [])) && (((splitR 10 a0).drop 1).take j).all lineK) = true)]; first | grind | simp [hc23, hc27, hc38, hc39, hc45, hc46, hc50, hc66])), (lkI rfl (by first | rfl | omega | (simp [hc23, xy25, hc27, xy29, xy32, xy35, hc38, hc39, p44_0, hc45, hc46, xy48, hc50, xy52, xy55, xy58, xy61, xy64, hc66]; done))), rfl, rfl, rfl, rfl, trivial⟩, ((HH621.sel [0, 3, 4, 5, 6] (by decide) rfl).to (by first | rfl | (rw [E99]; done) | (rw [E99]; rfl) | (simp only [E99]; done) | (simp only [E99]; rfl) | (rw [E99]; simp only [List.length_set]; done))), (by first | omega | assumption | (simp; done) | simp_all)⟩
              · refine wp_exit ?_
                refine (thn_exit (thn_exit (blk_hit ?_)))
                refine nrm ?_
                refine wp_seq ?_
                refine wp_seq ?_
                refine rg ?_
                refine pl_x HE175 HH161 (wt0 rfl) (x_move rfl) rfl rfl fun a_628 HE629 => ?_
                refine pl_x HE629 HH161 (wt0 rfl) (x_not rfl) rfl rfl fun a_630 HE631 => ?_
                refine pl_x HE631 HH161 (wt0 rfl) (x_move rfl) rfl rfl fun a_632 HE633 => ?_
                refine pl_no HE633 (wtF HE633 rfl rfl rfl (not_t hc46)) rfl rfl fun a_634 HE635 => ?_
                refine pl_no HE635 (wtF HE635 rfl rfl rfl (not_t hc46)) rfl rfl fun a_636 HE637 => ?_
                refine pl_x HE637 HH161 (wt0 rfl) (x_pickT rfl (not_t hc46) rfl) rfl rfl fun a_638 HE639 => ?_
                refine pl_x HE639 HH161 (wt0 rfl) (x_move rfl) rfl rfl fun a_640 HE641 => ?_
                refine pl_no HE641 (wtF HE641 rfl rfl rfl rfl) rfl rfl fun a_642 HE643 => ?_
                refine pl_no HE643 (wtF HE643 rfl rfl rfl rfl) rfl rfl fun a_644 HE645 => ?_
                refine pl_no HE645 (wtF HE645 rfl rfl rfl rfl) rfl rfl fun a_646 HE647 => ?_
                refine pl_x HE647 HH161 (wt0 rfl) (x_pickT rfl rfl rfl) rfl rfl fun a_648 HE649 => ?_
                refine wpList_nil ?_
                clear a_174 HE175 a_628 HE629 a_630 HE631 a_632 HE633 a_634 HE635 a_636 HE637 a_638 HE639 a_640 HE641 a_642 HE643 a_644 HE645 a_646 HE647
                refine nrm ?_
                refine cndT HE649 rfl rfl ?_
                refine wp_seq ?_
                refine rg ?_
                refine pl_x HE649 HH161 (wt0 rfl) (show XS _ _ _ _ (.agg #[.int .i64 (0), .int .i64 (0), .int .i64 (0), .slice none (0) 0]) from x_build (vs := []) tb_68 rfl (by simp [Value.oneCell'])) rfl rfl fun a_650 HE651 => ?_
                refine pl fun K_652 hK653 => ?_
                refine st_store (vs := [.int .i64 (0), .int .i64 (0), .int .i64 (0), .slice none (0) 0]) 4 HE651 HH161 tv_68 rfl rfl rfl rfl rfl rfl (by simp [Value.oneCell']) (wt0 rfl) fun w' HH654 => hK653 _ _ ?_
                refine pl_x HE651 HH654 (wt0 rfl) (x_assign rfl) rfl rfl fun a_655 HE656 => ?_
                refine wpList_nil ?_
                clear a_648 HE649 HH161 a_650 HE651 hK653 K_652
                refine nrm ?_
                refine wp_ret ?_
                refine (thn_ret ?_)
                refine ret2 HE656 rfl (rv_cell rfl (tv_68.loadN (cs := [.int .i64 (0), .int .i64 (0), .int .i64 (0), .slice none (0) 0]) rfl (c_blkN 4 rfl _ HH654))) (rv_tmp rfl) ?_
                have HH657 := HH654.flatO (E := eMulti) (cs := [.int .i64 (0), .int .i64 (0), .int .i64 (0), .slice none (0) 0]) (x := (0, 0, 0, [])) (fun _ => (oPrN (oI (by exact ⟨by omega, by omega⟩)) (oPrN (oI (by exact ⟨by omega, by omega⟩)) (oPrN (oI (by exact ⟨by omega, by omega⟩)) (oSl (So.nil (Nat.zero_le _)))))))
                have hF : (rdMuI a0) = ((0, 0, 0, []), false) := by
                  rw [← rdMu_eq]; first | exact rdMuS_61 (by omega) | exact rdMuS_3 rfl (by omega) hx0 (by omega) | exact rdMuS_line rfl (by omega) hx0 (lineK_5 (by omega)) | exact rdMuS_ok (by assumption) | (rw [rdMuS_eq rfl (by omega) (by omega) hl0 (by omega) (by assumption) (by omega) hM]; first | (rw [if_pos ⟨by assumption, by assumption⟩]; done) | (exact if_neg (fun hh => ff hh.1 (by assumption))) | (exact if_neg (fun hh => absurd hh.2 (by assumption))))
                exact ⟨_, by first | (rw [hF] <;> rfl) | rfl | (rw [hF]; simp only [Ending.returned.injEq, Value.slice.injEq, true_and, and_true]; first | omega | (simp; done)) | (rw [hF]; simp; omega), by rw [hF]; exact (HH657.o (i := 0) rfl), HH657.below⟩
            · have hM := muS_full (s := a0) (j := j) (by omega)
              refine pl_no HE171 (wtF HE171 rfl rfl rfl (decide_eq_false hc45)) rfl rfl fun a_658 HE659 => ?_
              refine pl_x HE659 HH161 (wt0 rfl) (x_pickF rfl (decide_eq_false hc45) rfl) rfl rfl fun a_660 HE661 => ?_
              refine wpList_nil ?_
              clear HH139 a_156 HE157 HH158 a_159 HE160 a_162 HE163 a_164 HE165 a_166 HE167 a_168 HE169 a_170 HE171 a_658 HE659
              refine nrm ?_
              refine cndF HE661 rfl rfl ?_
              refine wp_exit ?_
              refine (thn_exit (thn_exit (blk_hit ?_)))
              refine nrm ?_
              refine wp_seq ?_
              refine wp_seq ?_
              refine rg ?_
              refine pl_x HE661 HH161 (wt0 rfl) (x_move rfl) rfl rfl fun a_662 HE663 => ?_
              refine pl_x HE663 HH161 (wt0 rfl) (x_not rfl) rfl rfl fun a_664 HE665 => ?_
              refine pl_x HE665 HH161 (wt0 rfl) (x_move rfl) rfl rfl fun a_666 HE667 => ?_
              rcases Bool.eq_false_or_eq_true ((hdK (splitR 32 ((splitR 10 a0)[0]?.getD [])) && (((splitR 10 a0).drop 1).take j).all lineK)) with hc100 | hc100
              · refine pl fun K_668 hK669 => ?_
                refine st_call HE667 (wtT HE667 rfl rfl rfl (not_f hc100)) rfl rfl rfl en_95 rfl rfl (spec_l06Is _ _ _ ((muS a0).1, (muS a0).2.1, (muS a0).2.2.1, ((((splitR 10 a0).drop 1).take j).map lineS)) _ (rep_Multi (x := ((muS a0).1, (muS a0).2.1, (muS a0).2.2.1, ((((splitR 10 a0).drop 1).take j).map lineS))) (by first | exact ⟨by omega, by omega⟩ | (dsimp only; exact ⟨by omega, by omega⟩)) (by first | exact ⟨by omega, by omega⟩ | (dsimp only; exact ⟨by omega, by omega⟩)) (by first | exact ⟨by omega, by omega⟩ | (dsimp only; exact ⟨by omega, by omega⟩)) (HH161.vecSl (i := 0) rfl)) (c_blkN 1 rfl _ HH161)) fun e w' hr => ?_
                obtain ⟨rfl, hbr101⟩ := hr
                have HH670 := HH161.on hbr101
                refine ⟨_, rfl, fun a_671 HE672 => hK669 _ _ ?_⟩
                refine pl_x HE672 HH670 (wtT HE672 rfl rfl rfl (not_f hc100)) (x_not rfl) rfl rfl fun a_673 HE674 => ?_
                refine pl_x HE674 HH670 (wt0 rfl) (x_pickF rfl (not_f hc100) rfl) rfl rfl fun a_675 HE676 => ?_
                refine pl_x HE676 HH670 (wt0 rfl) (x_move rfl) rfl rfl fun a_677 HE678 => ?_
                rcases Bool.eq_false_or_eq_true ((validMulti ((muS a0).1, (muS a0).2.1, (muS a0).2.2.1, ((((splitR 10 a0).drop 1).take j).map lineS)))) with hc102 | hc102
                · obtain ⟨v0, v1, v2, v3⟩ := validMulti_facts hc102
                  have v4 := validMulti_ok hc102
                  refine pl fun K_679 hK680 => ?_
                  refine st_call HE678 (wtT HE678 rfl rfl rfl (not_f hc102)) rfl rfl rfl en_96 rfl rfl (spec_l06Text _ _ _ ((muS a0).1, (muS a0).2.1, (muS a0).2.2.1, ((((splitR 10 a0).drop 1).take j).map lineS)) _ (rep_Multi (x := ((muS a0).1, (muS a0).2.1, (muS a0).2.2.1, ((((splitR 10 a0).drop 1).take j).map lineS))) (by first | exact ⟨by omega, by omega⟩ | (dsimp only; exact ⟨by omega, by omega⟩)) (by first | exact ⟨by omega, by omega⟩ | (dsimp only; exact ⟨by omega, by omega⟩)) (by first | exact ⟨by omega, by omega⟩ | (dsimp only; exact ⟨by omega, by omega⟩)) (HH670.vecSl (i := 0) rfl)) (c_blkN 1 rfl _ HH670) (by exact ⟨v0, v1, v2⟩) (by omega) (by assumption)) fun e w' hr => ?_
                  obtain ⟨rfl, hbr103⟩ := hr
                  have HH681 := HH670.on hbr103
                  refine ⟨_, rfl, fun a_682 HE683 => hK680 _ _ ?_⟩
                  refine pl_x HE683 HH681 (wtT HE683 rfl rfl rfl (not_f hc102)) (x_move rfl) rfl rfl fun a_684 HE685 => ?_
                  refine pl_x HE685 HH681 (wtT HE685 rfl rfl rfl (not_f hc102)) (x_sneqB rfl rfl) rfl rfl fun a_686 HE687 => ?_
                  refine pl_x HE687 HH681 (wt0 rfl) (x_pickF rfl (not_f hc102) rfl) rfl rfl fun a_688 HE689 => ?_
                  refine wpList_nil ?_
                  clear a_660 HE661 a_662 HE663 a_664 HE665 HH161 a_666 HE667 a_671 HE672 a_673 HE674 a_675 HE676 K_668 hK669 HH670 a_677 HE678 a_682 HE683 a_684 HE685 a_686 HE687 hK680 K_679
                  refine nrm ?_
                  refine cnd_nd HE689 rfl (fun hc104 => ?_) (fun hc104 => ?_)
                  · refine wp_seq ?_
                    refine rg ?_
                    refine pl_x HE689 HH681 (wt0 rfl) (show XS _ _ _ _ (.agg #[.int .i64 (0), .int .i64 (0), .int .i64 (0), .slice none (0) 0]) from x_build (vs := []) tb_68 rfl (by simp [Value.oneCell'])) rfl rfl fun a_690 HE691 => ?_
                    refine pl fun K_692 hK693 => ?_
                    refine st_store (vs := [.int .i64 (0), .int .i64 (0), .int .i64 (0), .slice none (0) 0]) 4 HE691 HH681 tv_68 rfl rfl rfl rfl rfl rfl (by simp [Value.oneCell']) (wt0 rfl) fun w' HH694 => hK693 _ _ ?_
                    refine pl_x HE691 HH694 (wt0 rfl) (x_assign rfl) rfl rfl fun a_695 HE696 => ?_
                    refine wpList_nil ?_
                    clear a_688 HE689 HH681 a_690 HE691 hK693 K_692
                    refine nrm ?_
                    refine wp_ret ?_
                    refine (thn_ret ?_)
                    refine ret2 HE696 rfl (rv_cell rfl (tv_68.loadN (cs := [.int .i64 (0), .int .i64 (0), .int .i64 (0), .slice none (0) 0]) rfl (c_blkN 4 rfl _ HH694))) (rv_tmp rfl) ?_
                    have HH697 := HH694.flatO (E := eMulti) (cs := [.int .i64 (0), .int .i64 (0), .int .i64 (0), .slice none (0) 0]) (x := (0, 0, 0, [])) (fun _ => (oPrN (oI (by exact ⟨by omega, by omega⟩)) (oPrN (oI (by exact ⟨by omega, by omega⟩)) (oPrN (oI (by exact ⟨by omega, by omega⟩)) (oSl (So.nil (Nat.zero_le _)))))))
                    have hF : (rdMuI a0) = ((0, 0, 0, []), false) := by
                      rw [← rdMu_eq]; first | exact rdMuS_61 (by omega) | exact rdMuS_3 rfl (by omega) hx0 (by omega) | exact rdMuS_line rfl (by omega) hx0 (lineK_5 (by omega)) | exact rdMuS_ok (by assumption) | (rw [rdMuS_eq rfl (by omega) (by omega) hl0 (by omega) (by assumption) (by omega) hM]; first | (rw [if_pos ⟨by assumption, by assumption⟩]; done) | (exact if_neg (fun hh => ff hh.1 (by assumption))) | (exact if_neg (fun hh => absurd hh.2 (by assumption))))
                    exact ⟨_, by first | (rw [hF] <;> rfl) | rfl | (rw [hF]; simp only [Ending.returned.injEq, Value.slice.injEq, true_and, and_true]; first | omega | (simp; done)) | (rw [hF]; simp; omega), by rw [hF]; exact (HH697.o (i := 0) rfl), HH697.below⟩
                  · refine wp_skip ?_
                    refine nrm ?_
                    refine wp_seq ?_
                    refine rg ?_
                    refine pl_x HE689 HH681 (wt0 rfl) (x_loadN (cs := [.int .i64 ((muS a0).1), .int .i64 ((muS a0).2.1), .int .i64 ((muS a0).2.2.1), .slice A_12_3 ((List.length ((((splitR 10 a0).drop 1).take j).map lineS))) c_12_3]) tv_68 rfl rfl (c_blkN 1 rfl)) rfl rfl fun a_698 HE699 => ?_
                    refine pl fun K_700 hK701 => ?_
                    refine st_store (vs := [.int .i64 ((muS a0).1), .int .i64 ((muS a0).2.1), .int .i64 ((muS a0).2.2.1), .slice A_12_3 ((List.length ((((splitR 10 a0).drop 1).take j).map lineS))) c_12_3]) 4 HE699 HH681 tv_68 rfl rfl rfl rfl rfl rfl (by simp [Value.oneCell']) (wt0 rfl) fun w' HH702 => hK701 _ _ ?_
                    refine pl_x HE699 HH702 (wt0 rfl) (x_assign rfl) rfl rfl fun a_703 HE704 => ?_
                    refine wpList_nil ?_
                    clear a_688 HE689 HH681 a_698 HE699 hK701 K_700
                    refine nrm ?_
                    refine wp_ret ?_
                    refine ret2 HE704 rfl (rv_cell rfl (tv_68.loadN (cs := [.int .i64 ((muS a0).1), .int .i64 ((muS a0).2.1), .int .i64 ((muS a0).2.2.1), .slice A_12_3 ((List.length ((((splitR 10 a0).drop 1).take j).map lineS))) c_12_3]) rfl (c_blkN 4 rfl _ HH702))) (rv_tmp rfl) ?_
                    have HH705 := HH702.vecSo
                    have HH706 := HH705.pairF (E := eInt) (c1 := [.int .i64 ((muS a0).2.2.1)]) (x := (muS a0).2.2.1) (oI (by exact ⟨by omega, by omega⟩))
                    have HH707 := HH706.pairF (E := eInt) (c1 := [.int .i64 ((muS a0).2.1)]) (x := (muS a0).2.1) (oI (by exact ⟨by omega, by omega⟩))
                    have HH708 := HH707.pairF (E := eInt) (c1 := [.int .i64 ((muS a0).1)]) (x := (muS a0).1) (oI (by exact ⟨by omega, by omega⟩))
                    obtain ⟨S105, HH709⟩ : ∃ S, Held Nob w (rO eMulti S [.int .i64 ((muS a0).1), .int .i64 ((muS a0).2.1), .int .i64 ((muS a0).2.2.1), .slice A_12_3 ((List.length ((((splitR 10 a0).drop 1).take j).map lineS))) c_12_3] ((muS a0).1, (muS a0).2.1, (muS a0).2.2.1, ((((splitR 10 a0).drop 1).take j).map lineS)) :: _) _ := ⟨_, HH708⟩
                    have hF : (rdMuI a0) = (((muS a0).1, (muS a0).2.1, (muS a0).2.2.1, ((((splitR 10 a0).drop 1).take j).map lineS)), true) := by
                      rw [← rdMu_eq]; first | exact rdMuS_61 (by omega) | exact rdMuS_3 rfl (by omega) hx0 (by omega) | exact rdMuS_line rfl (by omega) hx0 (lineK_5 (by omega)) | exact rdMuS_ok (by assumption) | (rw [rdMuS_eq rfl (by omega) (by omega) hl0 (by omega) (by assumption) (by omega) hM]; first | (rw [if_pos ⟨by assumption, by assumption⟩]; done) | (exact if_neg (fun hh => ff hh.1 (by assumption))) | (exact if_neg (fun hh => absurd hh.2 (by assumption))))
                    exact ⟨_, by first | (rw [hF] <;> rfl) | rfl | (rw [hF]; simp only [Ending.returned.injEq, Value.slice.injEq, true_and, and_true]; first | omega | (simp; done)) | (rw [hF]; simp; omega), by rw [hF]; exact (HH709.o (i := 0) rfl), HH709.below⟩
                · refine pl_no HE678 (wtF HE678 rfl rfl rfl (not_t hc102)) rfl rfl fun a_710 HE711 => ?_
                  refine pl_no HE711 (wtF HE711 rfl rfl rfl (not_t hc102)) rfl rfl fun a_712 HE713 => ?_
                  refine pl_no HE713 (wtF HE713 rfl rfl rfl (not_t hc102)) rfl rfl fun a_714 HE715 => ?_
                  refine pl_x HE715 HH670 (wt0 rfl) (x_pickT rfl (not_t hc102) rfl) rfl rfl fun a_716 HE717 => ?_
                  refine wpList_nil ?_
                  clear a_660 HE661 a_662 HE663 a_664 HE665 HH161 a_666 HE667 a_671 HE672 a_673 HE674 a_675 HE676 a_677 HE678 a_710 HE711 a_712 HE713 a_714 HE715 hK669 K_668
                  refine nrm ?_
                  refine cndT HE717 rfl rfl ?_
                  refine wp_seq ?_
                  refine rg ?_
                  refine pl_x HE717 HH670 (wt0 rfl) (show XS _ _ _ _ (.agg #[.int .i64 (0), .int .i64 (0), .int .i64 (0), .slice none (0) 0]) from x_build (vs := []) tb_68 rfl (by simp [Value.oneCell'])) rfl rfl fun a_718 HE719 => ?_
                  refine pl fun K_720 hK721 => ?_
                  refine st_store (vs := [.int .i64 (0), .int .i64 (0), .int .i64 (0), .slice none (0) 0]) 4 HE719 HH670 tv_68 rfl rfl rfl rfl rfl rfl (by simp [Value.oneCell']) (wt0 rfl) fun w' HH722 => hK721 _ _ ?_
                  refine pl_x HE719 HH722 (wt0 rfl) (x_assign rfl) rfl rfl fun a_723 HE724 => ?_
                  refine wpList_nil ?_
                  clear a_716 HE717 HH670 a_718 HE719 hK721 K_720
                  refine nrm ?_
                  refine wp_ret ?_
                  refine (thn_ret ?_)
                  refine ret2 HE724 rfl (rv_cell rfl (tv_68.loadN (cs := [.int .i64 (0), .int .i64 (0), .int .i64 (0), .slice none (0) 0]) rfl (c_blkN 4 rfl _ HH722))) (rv_tmp rfl) ?_
                  have HH725 := HH722.flatO (E := eMulti) (cs := [.int .i64 (0), .int .i64 (0), .int .i64 (0), .slice none (0) 0]) (x := (0, 0, 0, [])) (fun _ => (oPrN (oI (by exact ⟨by omega, by omega⟩)) (oPrN (oI (by exact ⟨by omega, by omega⟩)) (oPrN (oI (by exact ⟨by omega, by omega⟩)) (oSl (So.nil (Nat.zero_le _)))))))
                  have hF : (rdMuI a0) = ((0, 0, 0, []), false) := by
                    rw [← rdMu_eq]; first | exact rdMuS_61 (by omega) | exact rdMuS_3 rfl (by omega) hx0 (by omega) | exact rdMuS_line rfl (by omega) hx0 (lineK_5 (by omega)) | exact rdMuS_ok (by assumption) | (rw [rdMuS_eq rfl (by omega) (by omega) hl0 (by omega) (by assumption) (by omega) hM]; first | (rw [if_pos ⟨by assumption, by assumption⟩]; done) | (exact if_neg (fun hh => ff hh.1 (by assumption))) | (exact if_neg (fun hh => absurd hh.2 (by assumption))))
                  exact ⟨_, by first | (rw [hF] <;> rfl) | rfl | (rw [hF]; simp only [Ending.returned.injEq, Value.slice.injEq, true_and, and_true]; first | omega | (simp; done)) | (rw [hF]; simp; omega), by rw [hF]; exact (HH725.o (i := 0) rfl), HH725.below⟩
              · refine pl_no HE667 (wtF HE667 rfl rfl rfl (not_t hc100)) rfl rfl fun a_726 HE727 => ?_
                refine pl_no HE727 (wtF HE727 rfl rfl rfl (not_t hc100)) rfl rfl fun a_728 HE729 => ?_
                refine pl_x HE729 HH161 (wt0 rfl) (x_pickT rfl (not_t hc100) rfl) rfl rfl fun a_730 HE731 => ?_
                refine pl_x HE731 HH161 (wt0 rfl) (x_move rfl) rfl rfl fun a_732 HE733 => ?_
                refine pl_no HE733 (wtF HE733 rfl rfl rfl rfl) rfl rfl fun a_734 HE735 => ?_
                refine pl_no HE735 (wtF HE735 rfl rfl rfl rfl) rfl rfl fun a_736 HE737 => ?_
                refine pl_no HE737 (wtF HE737 rfl rfl rfl rfl) rfl rfl fun a_738 HE739 => ?_
                refine pl_x HE739 HH161 (wt0 rfl) (x_pickT rfl rfl rfl) rfl rfl fun a_740 HE741 => ?_
                refine wpList_nil ?_
                clear a_660 HE661 a_662 HE663 a_664 HE665 a_666 HE667 a_726 HE727 a_728 HE729 a_730 HE731 a_732 HE733 a_734 HE735 a_736 HE737 a_738 HE739
                refine nrm ?_
                refine cndT HE741 rfl rfl ?_
                refine wp_seq ?_
                refine rg ?_
                refine pl_x HE741 HH161 (wt0 rfl) (show XS _ _ _ _ (.agg #[.int .i64 (0), .int .i64 (0), .int .i64 (0), .slice none (0) 0]) from x_build (vs := []) tb_68 rfl (by simp [Value.oneCell'])) rfl rfl fun a_742 HE743 => ?_
                refine pl fun K_744 hK745 => ?_
                refine st_store (vs := [.int .i64 (0), .int .i64 (0), .int .i64 (0), .slice none (0) 0]) 4 HE743 HH161 tv_68 rfl rfl rfl rfl rfl rfl (by simp [Value.oneCell']) (wt0 rfl) fun w' HH746 => hK745 _ _ ?_
                refine pl_x HE743 HH746 (wt0 rfl) (x_assign rfl) rfl rfl fun a_747 HE748 => ?_
                refine wpList_nil ?_
                clear a_740 HE741 HH161 a_742 HE743 hK745 K_744
                refine nrm ?_
                refine wp_ret ?_
                refine (thn_ret ?_)
                refine ret2 HE748 rfl (rv_cell rfl (tv_68.loadN (cs := [.int .i64 (0), .int .i64 (0), .int .i64 (0), .slice none (0) 0]) rfl (c_blkN 4 rfl _ HH746))) (rv_tmp rfl) ?_
                have HH749 := HH746.flatO (E := eMulti) (cs := [.int .i64 (0), .int .i64 (0), .int .i64 (0), .slice none (0) 0]) (x := (0, 0, 0, [])) (fun _ => (oPrN (oI (by exact ⟨by omega, by omega⟩)) (oPrN (oI (by exact ⟨by omega, by omega⟩)) (oPrN (oI (by exact ⟨by omega, by omega⟩)) (oSl (So.nil (Nat.zero_le _)))))))
                have hF : (rdMuI a0) = ((0, 0, 0, []), false) := by
                  rw [← rdMu_eq]; first | exact rdMuS_61 (by omega) | exact rdMuS_3 rfl (by omega) hx0 (by omega) | exact rdMuS_line rfl (by omega) hx0 (lineK_5 (by omega)) | exact rdMuS_ok (by assumption) | (rw [rdMuS_eq rfl (by omega) (by omega) hl0 (by omega) (by assumption) (by omega) hM]; first | (rw [if_pos ⟨by assumption, by assumption⟩]; done) | (exact if_neg (fun hh => ff hh.1 (by assumption))) | (exact if_neg (fun hh => absurd hh.2 (by assumption))))
                exact ⟨_, by first | (rw [hF] <;> rfl) | rfl | (rw [hF]; simp only [Ending.returned.injEq, Value.slice.injEq, true_and, and_true]; first | omega | (simp; done)) | (rw [hF]; simp; omega), by rw [hF]; exact (HH749.o (i := 0) rfl), HH749.below⟩
        · refine pl_no HE149 (wtF HE149 rfl rfl rfl hc39) rfl rfl fun a_750 HE751 => ?_
          refine pl_x HE751 HH139 (wt0 rfl) (x_pickF rfl hc39 rfl) rfl rfl fun a_752 HE753 => ?_
          refine pl_x HE753 HH139 (wt0 rfl) (x_assign rfl) rfl rfl fun a_754 HE755 => ?_
          refine wpList_nil ?_
          clear a_134 HE135 a_140 HE141 a_142 HE143 a_144 HE145 a_146 HE147 a_148 HE149 a_750 HE751 a_752 HE753
          refine nrm ?_
          refine wp_seq ?_
          refine wp_seq ?_
          refine rg ?_
          refine pl_x HE755 HH139 (wt0 rfl) (x_assign rfl) rfl rfl fun a_756 HE757 => ?_
          refine wpList_nil ?_
          clear a_754 HE755
          refine nrm ?_
          refine wp_block ?_
          obtain ⟨hH0, hH1, hH2, hH3⟩ := muS_head rfl (by omega) hx0 rfl (by omega) hz0 hz1 hz2
          have hl0 := hx0
          have HH758 := HH139.vecNil eMultiRule 123
          refine lp (fun m a w' => ∃ (j : Nat) (A_12_3 : Option Addr) (c_12_3 : Nat) (S_12_3 : Nat → Prop), m = List.length (splitR 10 a0) - 1 - j ∧ Env 162 [(13, .bool (hdK (splitR 32 ((splitR 10 a0)[0]?.getD [])) && (((splitR 10 a0).drop 1).take j).all lineK)), (14, .int .i64 ((j : Int) + 1)), (0, .string (bs a0)), (2, .pointer (some ⟨q21, 0, none⟩)), (4, .slice (some ⟨be24, fe24, none⟩) ((splitR 10 a0).length) cr22_0), (12, .pointer (some ⟨q37, 0, none⟩))] a ∧ Held Nob w [rVec eMultiRule 123 S_12_3 A_12_3 c_12_3 ((((splitR 10 a0).drop 1).take j).map lineS), rBlk q37 68 [.int .i64 (muS a0).1, .int .i64 (muS a0).2.1, .int .i64 (muS a0).2.2.1, .slice A_12_3 (List.length ((((splitR 10 a0).drop 1).take j).map lineS)) c_12_3], rSo eTxt Sr26 (some ⟨be28, fe28, none⟩) cr26_0 (splitR 32 y25), rSo eTxt Sr22 (some ⟨be24, fe24, none⟩) cr22_0 (splitR 10 a0), rBlk q21 68 [.int .i64 (0), .int .i64 (0), .int .i64 (0), .slice none (0) 0]] w' ∧ (j + 1 ≤ List.length (splitR 10 a0))) (List.length (splitR 10 a0) - 1 - (0)) ?_ ?_
          · have E106 : ((((splitR 10 a0).drop 1).take 0).map lineS) = [] := by
              simp
            have E107 : (muS a0).1 = (numC y29).1 := by exact hH1
            have E108 : (muS a0).2.1 = (numC y32).1 := by exact hH2
            have E109 : (muS a0).2.2.1 = (numC y35).1 := by exact hH3
            exact ⟨0, none, 0, Nob, rfl, HE757.sub ⟨(lkB rfl (by rw [hH0]; first | grind | simp [hc23, hc27, hc38, hc39])), (lkI rfl (by rfl)), rfl, rfl, rfl, rfl, trivial⟩, ((HH758.sel [0, 1, 2, 3, 4] (by decide) rfl).to (by first | rfl | (rw [E106, E107, E108, E109]; done) | (rw [E106, E107, E108, E109]; rfl) | (simp only [E106, E107, E108, E109]; done) | (simp only [E106, E107, E108, E109]; rfl) | (rw [E106, E107, E108, E109]; simp only [List.length_set]; done))), (by first | omega | assumption | (simp; done) | simp_all)⟩
          · rintro m a_759 w' ⟨j, A_12_3, c_12_3, S_12_3, rfl, HE760, HH761, p110_0⟩
            have hn0 : ((((splitR 10 a0).drop 1).take j).map lineS).length ≤ 61 := by rw [List.length_map, List.length_take]; omega
            refine wp_seq ?_
            refine wp_seq ?_
            refine rg ?_
            refine pl_x HE760 HH761 (wt0 rfl) (x_move rfl) rfl rfl fun a_762 HE763 => ?_
            refine pl_x HE763 HH761 (wt0 rfl) (x_move rfl) rfl rfl fun a_764 HE765 => ?_
            refine pl_x HE765 HH761 (wt0 rfl) (x_len Tryz.underlying78 rfl) rfl rfl fun a_766 HE767 => ?_
            refine pl_x HE767 HH761 (wt0 rfl) (x_lss rfl rfl) rfl rfl fun a_768 HE769 => ?_
            refine pl_x HE769 HH761 (wt0 rfl) (x_move rfl) rfl rfl fun a_770 HE771 => ?_
            by_cases hc111 : ((j : Int) + 1) < ((splitR 10 a0).length : Int)
            · refine pl_x HE771 HH761 (wtT HE771 rfl rfl rfl (decide_eq_true hc111)) (x_move rfl) rfl rfl fun a_772 HE773 => ?_
              refine pl_x HE773 HH761 (wt0 rfl) (x_pickT rfl (decide_eq_true hc111) rfl) rfl rfl fun a_774 HE775 => ?_
              refine wpList_nil ?_
              clear HH139 a_756 HE757 HH758 a_759 HE760 a_762 HE763 a_764 HE765 a_766 HE767 a_768 HE769 a_770 HE771 a_772 HE773
              refine nrm ?_
              refine cnd_b HE775 rfl (fun hc112 => ?_) (fun hc112 => ?_)
              · refine wp_skip ?_
                refine nrm ?_
                refine wp_seq ?_
                refine wp_block ?_
                refine wp_seq ?_
                refine rg ?_
                refine pl_x HE775 HH761 (wt0 rfl) (x_move rfl) rfl rfl fun a_776 HE777 => ?_
                refine pl_x HE777 HH761 (wt0 rfl) (x_move rfl) rfl rfl fun a_778 HE779 => ?_
                have ke113 : (j + 1) < (splitR 10 a0).length := by omega
                refine pl_x HE779 HH761 (wt0 rfl) (x_indexAddr ts_78 rfl rfl rfl (by omega) ke113) rfl rfl fun a_780 HE781 => ?_
                obtain ⟨y114, xy114⟩ : ∃ y_, y_ = (splitR 10 a0)[(j + 1)]'(by first | exact ke113 | (simp only [List.length_set]; exact ke113) | omega | (simp only [List.length_set]; omega) | (simp; omega)) := ⟨_, rfl⟩
                have jy114 : List.length y114 ≤ 9223372036854775807 := by rw [xy114]; exact i_ownS HH761 3 rfl _
                have hx0 := xy114
                have hpy114 := splitR_piece 10 a0 y114 (by rw [xy114]; exact List.getElem_mem _)
                refine pl_x HE781 HH761 (wt0 rfl) (x_load1 tv_9 rfl (c_ownS 3 rfl (by first | exact ke113 | (simp only [List.length_set]; exact ke113) | omega | (simp only [List.length_set]; omega) | (simp; omega)) xy114.symm)) rfl rfl fun a_782 HE783 => ?_
                refine pl fun K_784 hK785 => ?_
                refine st_call HE783 (wt0 rfl) rfl rfl rfl en_63 rfl rfl (spec_l01Split y114 _ 32 _ (by omega) (by rfl)) fun e w' hr => ?_
                have hAr115_0 := splitR_len 32 y114
                have hAr115_1 := splitR_piece 32 y114
                obtain ⟨Ar115_0, cr115_0, rfl, hor115_0, hbr115⟩ := hr
                obtain ⟨Sr115, HH786⟩ := HH761.newS hbr115 hor115_0
                refine ⟨_, rfl, fun a_787 HE788 => hK785 _ _ ?_⟩
                refine pl_x HE788 HH786 (wt0 rfl) (x_assign rfl) rfl rfl fun a_789 HE790 => ?_
                refine wpList_nil ?_
                clear a_774 HE775 a_776 HE777 a_778 HE779 a_780 HE781 HH761 a_782 HE783 a_787 HE788 hK785 K_784
                refine nrm ?_
                refine wp_seq ?_
                refine wp_seq ?_
                refine rg ?_
                refine pl_x HE790 HH786 (wt0 rfl) (x_move rfl) rfl rfl fun a_791 HE792 => ?_
                refine pl_x HE792 HH786 (wt0 rfl) (x_len Tryz.underlying78 rfl) rfl rfl fun a_793 HE794 => ?_
                refine pl_x HE794 HH786 (wt0 rfl) (x_neq rfl rfl) rfl rfl fun a_795 HE796 => ?_
                refine wpList_nil ?_
                clear a_789 HE790 a_791 HE792 a_793 HE794
                refine nrm ?_
                refine cnd_ne HE796 rfl (fun hc116 => ?_) (fun hc116 => ?_)
                · refine wp_seq ?_
                  refine rg ?_
                  refine pl_x HE796 HH786 (wt0 rfl) (show XS _ _ _ _ (.agg #[.int .i64 (0), .int .i64 (0), .int .i64 (0), .slice none (0) 0]) from x_build (vs := []) tb_68 rfl (by simp [Value.oneCell'])) rfl rfl fun a_797 HE798 => ?_
                  refine pl fun K_799 hK800 => ?_
                  refine st_store (vs := [.int .i64 (0), .int .i64 (0), .int .i64 (0), .slice none (0) 0]) 5 HE798 HH786 tv_68 rfl rfl rfl rfl rfl rfl (by simp [Value.oneCell']) (wt0 rfl) fun w' HH801 => hK800 _ _ ?_
                  refine pl_x HE798 HH801 (wt0 rfl) (x_assign rfl) rfl rfl fun a_802 HE803 => ?_
                  refine wpList_nil ?_
                  clear a_795 HE796 HH786 a_797 HE798 hK800 K_799
                  refine nrm ?_
                  refine wp_ret ?_
                  refine (thn_ret (blk_ret (thn_ret (thn_ret (blk_ret (thn_ret ?_))))))
                  refine ret2 HE803 rfl (rv_cell rfl (tv_68.loadN (cs := [.int .i64 (0), .int .i64 (0), .int .i64 (0), .slice none (0) 0]) rfl (c_blkN 5 rfl _ HH801))) (rv_tmp rfl) ?_
                  have HH804 := HH801.flatO (E := eMulti) (cs := [.int .i64 (0), .int .i64 (0), .int .i64 (0), .slice none (0) 0]) (x := (0, 0, 0, [])) (fun _ => (oPrN (oI (by exact ⟨by omega, by omega⟩)) (oPrN (oI (by exact ⟨by omega, by omega⟩)) (oPrN (oI (by exact ⟨by omega, by omega⟩)) (oSl (So.nil (Nat.zero_le _)))))))
                  have hF : (rdMuI a0) = ((0, 0, 0, []), false) := by
                    rw [← rdMu_eq]; first | exact rdMuS_61 (by omega) | exact rdMuS_3 rfl (by omega) hx0 (by omega) | exact rdMuS_line rfl (by omega) hx0 (lineK_5 (by omega)) | exact rdMuS_ok (by assumption) | (rw [rdMuS_eq rfl (by omega) (by omega) hl0 (by omega) (by assumption) (by omega) hM]; first | (rw [if_pos ⟨by assumption, by assumption⟩]; done) | (exact if_neg (fun hh => ff hh.1 (by assumption))) | (exact if_neg (fun hh => absurd hh.2 (by assumption))))
                  exact ⟨_, by first | (rw [hF] <;> rfl) | rfl | (rw [hF]; simp only [Ending.returned.injEq, Value.slice.injEq, true_and, and_true]; first | omega | (simp; done)) | (rw [hF]; simp; omega), by rw [hF]; exact (HH804.o (i := 0) rfl), HH804.below⟩
                · refine wp_skip ?_
                  refine nrm ?_
                  refine wp_seq ?_
                  refine rg ?_
                  refine pl_x HE796 HH786 (wt0 rfl) (x_move rfl) rfl rfl fun a_805 HE806 => ?_
                  have ke117 : 0 < (splitR 32 y114).length := by omega
                  obtain ⟨be117, fe117, rfl⟩ := el_own HH786 (i := 0) rfl ke117
                  refine pl_x HE806 HH786 (wt0 rfl) (x_indexAddr ts_78 rfl rfl rfl rfl ke117) rfl rfl fun a_807 HE808 => ?_
                  obtain ⟨y118, xy118⟩ : ∃ y_, y_ = (splitR 32 y114)[0]'(by first | exact ke117 | (simp only [List.length_set]; exact ke117) | omega | (simp only [List.length_set]; omega) | (simp; omega)) := ⟨_, rfl⟩
                  have jy118 : List.length y118 ≤ 9223372036854775807 := by rw [xy118]; exact i_ownS HH786 0 rfl _
                  have hz0 := xy118
                  have hpy118 := splitR_piece 32 _ y118 (by rw [xy118]; exact List.getElem_mem _)
                  refine pl_x HE808 HH786 (wt0 rfl) (x_load1 tv_9 rfl (c_ownS 0 rfl (by first | exact ke117 | (simp only [List.length_set]; exact ke117) | omega | (simp only [List.length_set]; omega) | (simp; omega)) xy118.symm)) rfl rfl fun a_809 HE810 => ?_
                  refine pl fun K_811 hK812 => ?_
                  refine st_call HE810 (wt0 rfl) rfl rfl rfl en_65 rfl rfl (spec_l01Number y118 _ (by omega)) fun e w' hr => ?_
                  have hAr119_0 := numC_bd y118
                  obtain ⟨rfl, hbr119⟩ := hr
                  have HH813 := HH786.on hbr119
                  refine ⟨_, rfl, fun a_814 HE815 => hK812 _ _ ?_⟩
                  refine pl_x HE815 HH813 (wt0 rfl) (x_move rfl) rfl rfl fun a_816 HE817 => ?_
                  refine pl_x HE817 HH813 (wt0 rfl) (x_extract rfl rfl) rfl rfl fun a_818 HE819 => ?_
                  refine pl_x HE819 HH813 (wt0 rfl) (x_extract rfl rfl) rfl rfl fun a_820 HE821 => ?_
                  refine pl_x HE821 HH813 (wt0 rfl) (x_assign rfl) rfl rfl fun a_822 HE823 => ?_
                  refine pl_x HE823 HH813 (wt0 rfl) (x_assign rfl) rfl rfl fun a_824 HE825 => ?_
                  refine wpList_nil ?_
                  clear a_795 HE796 a_805 HE806 a_807 HE808 HH786 a_809 HE810 a_814 HE815 a_816 HE817 a_818 HE819 a_820 HE821 a_822 HE823 hK812 K_811
                  refine nrm ?_
                  refine wp_seq ?_
                  refine rg ?_
                  refine pl_x HE825 HH813 (wt0 rfl) (x_move rfl) rfl rfl fun a_826 HE827 => ?_
                  have ke120 : 1 < (splitR 32 y114).length := by omega
                  refine pl_x HE827 HH813 (wt0 rfl) (x_indexAddr ts_78 rfl rfl rfl rfl ke120) rfl rfl fun a_828 HE829 => ?_
                  obtain ⟨y121, xy121⟩ : ∃ y_, y_ = (splitR 32 y114)[1]'(by first | exact ke120 | (simp only [List.length_set]; exact ke120) | omega | (simp only [List.length_set]; omega) | (simp; omega)) := ⟨_, rfl⟩
                  have jy121 : List.length y121 ≤ 9223372036854775807 := by rw [xy121]; exact i_ownS HH813 0 rfl _
                  have hz1 := xy121
                  have hpy121 := splitR_piece 32 _ y121 (by rw [xy121]; exact List.getElem_mem _)
                  refine pl_x HE829 HH813 (wt0 rfl) (x_load1 tv_9 rfl (c_ownS 0 rfl (by first | exact ke120 | (simp only [List.length_set]; exact ke120) | omega | (simp only [List.length_set]; omega) | (simp; omega)) xy121.symm)) rfl rfl fun a_830 HE831 => ?_
                  refine pl fun K_832 hK833 => ?_
                  refine st_call HE831 (wt0 rfl) rfl rfl rfl en_93 rfl rfl (spec_l06ReadDigits y121 _ (by omega)) fun e w' hr => ?_
                  have hAr122_0 := l06D_len y121
                  obtain ⟨Ar122_0, cr122_0, rfl, hor122_0, hbr122⟩ := hr
                  obtain ⟨Sr122, HH834⟩ := HH813.newS hbr122 hor122_0
                  refine ⟨_, rfl, fun a_835 HE836 => hK833 _ _ ?_⟩
                  refine pl_x HE836 HH834 (wt0 rfl) (x_move rfl) rfl rfl fun a_837 HE838 => ?_
                  refine pl_x HE838 HH834 (wt0 rfl) (x_extract rfl rfl) rfl rfl fun a_839 HE840 => ?_
                  refine pl_x HE840 HH834 (wt0 rfl) (x_extract rfl rfl) rfl rfl fun a_841 HE842 => ?_
                  refine pl_x HE842 HH834 (wt0 rfl) (x_assign rfl) rfl rfl fun a_843 HE844 => ?_
                  refine pl_x HE844 HH834 (wt0 rfl) (x_assign rfl) rfl rfl fun a_845 HE846 => ?_
                  refine wpList_nil ?_
                  clear a_824 HE825 a_826 HE827 a_828 HE829 HH813 a_830 HE831 a_835 HE836 a_837 HE838 a_839 HE840 a_841 HE842 a_843 HE844 hK833 K_832
                  refine nrm ?_
                  refine wp_seq ?_
                  refine rg ?_
                  refine pl_x HE846 HH834 (wt0 rfl) (x_move rfl) rfl rfl fun a_847 HE848 => ?_
                  have ke123 : 2 < (splitR 32 y114).length := by omega
                  refine pl_x HE848 HH834 (wt0 rfl) (x_indexAddr ts_78 rfl rfl rfl rfl ke123) rfl rfl fun a_849 HE850 => ?_
                  obtain ⟨y124, xy124⟩ : ∃ y_, y_ = (splitR 32 y114)[2]'(by first | exact ke123 | (simp only [List.length_set]; exact ke123) | omega | (simp only [List.length_set]; omega) | (simp; omega)) := ⟨_, rfl⟩
                  have jy124 : List.length y124 ≤ 9223372036854775807 := by rw [xy124]; exact i_ownS HH834 1 rfl _
                  have hz2 := xy124
                  have hpy124 := splitR_piece 32 _ y124 (by rw [xy124]; exact List.getElem_mem _)
                  refine pl_x HE850 HH834 (wt0 rfl) (x_load1 tv_9 rfl (c_ownS 1 rfl (by first | exact ke123 | (simp only [List.length_set]; exact ke123) | omega | (simp only [List.length_set]; omega) | (simp; omega)) xy124.symm)) rfl rfl fun a_851 HE852 => ?_
                  refine pl fun K_853 hK854 => ?_
                  refine st_call HE852 (wt0 rfl) rfl rfl rfl en_93 rfl rfl (spec_l06ReadDigits y124 _ (by omega)) fun e w' hr => ?_
                  have hAr125_0 := l06D_len y124
                  obtain ⟨Ar125_0, cr125_0, rfl, hor125_0, hbr125⟩ := hr
                  obtain ⟨Sr125, HH855⟩ := HH834.newS hbr125 hor125_0
                  refine ⟨_, rfl, fun a_856 HE857 => hK854 _ _ ?_⟩
                  refine pl_x HE857 HH855 (wt0 rfl) (x_move rfl) rfl rfl fun a_858 HE859 => ?_
                  refine pl_x HE859 HH855 (wt0 rfl) (x_extract rfl rfl) rfl rfl fun a_860 HE861 => ?_
                  refine pl_x HE861 HH855 (wt0 rfl) (x_extract rfl rfl) rfl rfl fun a_862 HE863 => ?_
                  refine pl_x HE863 HH855 (wt0 rfl) (x_assign rfl) rfl rfl fun a_864 HE865 => ?_
                  refine pl_x HE865 HH855 (wt0 rfl) (x_assign rfl) rfl rfl fun a_866 HE867 => ?_
                  refine wpList_nil ?_
                  clear a_845 HE846 a_847 HE848 a_849 HE850 HH834 a_851 HE852 a_856 HE857 a_858 HE859 a_860 HE861 a_862 HE863 a_864 HE865 hK854 K_853
                  refine nrm ?_
                  refine wp_seq ?_
                  refine rg ?_
                  refine pl_x HE867 HH855 (wt0 rfl) (x_move rfl) rfl rfl fun a_868 HE869 => ?_
                  have ke126 : 3 < (splitR 32 y114).length := by omega
                  refine pl_x HE869 HH855 (wt0 rfl) (x_indexAddr ts_78 rfl rfl rfl rfl ke126) rfl rfl fun a_870 HE871 => ?_
                  obtain ⟨y127, xy127⟩ : ∃ y_, y_ = (splitR 32 y114)[3]'(by first | exact ke126 | (simp only [List.length_set]; exact ke126) | omega | (simp only [List.length_set]; omega) | (simp; omega)) := ⟨_, rfl⟩
                  have jy127 : List.length y127 ≤ 9223372036854775807 := by rw [xy127]; exact i_ownS HH855 2 rfl _
                  have hz3 := xy127
                  have hpy127 := splitR_piece 32 _ y127 (by rw [xy127]; exact List.getElem_mem _)
                  refine pl_x HE871 HH855 (wt0 rfl) (x_load1 tv_9 rfl (c_ownS 2 rfl (by first | exact ke126 | (simp only [List.length_set]; exact ke126) | omega | (simp only [List.length_set]; omega) | (simp; omega)) xy127.symm)) rfl rfl fun a_872 HE873 => ?_
                  refine pl fun K_874 hK875 => ?_
                  refine st_call HE873 (wt0 rfl) rfl rfl rfl en_94 rfl rfl (spec_l06ReadMoves y127 _ (by omega)) fun e w' hr => ?_
                  have hAr128_0 := movS_len y127
                  obtain ⟨Ar128_0, cr128_0, rfl, hor128_0, hbr128⟩ := hr
                  obtain ⟨Sr128, HH876⟩ := HH855.newS hbr128 hor128_0
                  refine ⟨_, rfl, fun a_877 HE878 => hK875 _ _ ?_⟩
                  refine pl_x HE878 HH876 (wt0 rfl) (x_move rfl) rfl rfl fun a_879 HE880 => ?_
                  refine pl_x HE880 HH876 (wt0 rfl) (x_extract rfl rfl) rfl rfl fun a_881 HE882 => ?_
                  refine pl_x HE882 HH876 (wt0 rfl) (x_extract rfl rfl) rfl rfl fun a_883 HE884 => ?_
                  refine pl_x HE884 HH876 (wt0 rfl) (x_assign rfl) rfl rfl fun a_885 HE886 => ?_
                  refine pl_x HE886 HH876 (wt0 rfl) (x_assign rfl) rfl rfl fun a_887 HE888 => ?_
                  refine wpList_nil ?_
                  clear a_866 HE867 a_868 HE869 a_870 HE871 HH855 a_872 HE873 a_877 HE878 a_879 HE880 a_881 HE882 a_883 HE884 a_885 HE886 hK875 K_874
                  refine nrm ?_
                  refine wp_seq ?_
                  refine rg ?_
                  refine pl_x HE888 HH876 (wt0 rfl) (x_move rfl) rfl rfl fun a_889 HE890 => ?_
                  have ke129 : 4 < (splitR 32 y114).length := by omega
                  refine pl_x HE890 HH876 (wt0 rfl) (x_indexAddr ts_78 rfl rfl rfl rfl ke129) rfl rfl fun a_891 HE892 => ?_
                  obtain ⟨y130, xy130⟩ : ∃ y_, y_ = (splitR 32 y114)[4]'(by first | exact ke129 | (simp only [List.length_set]; exact ke129) | omega | (simp only [List.length_set]; omega) | (simp; omega)) := ⟨_, rfl⟩
                  have jy130 : List.length y130 ≤ 9223372036854775807 := by rw [xy130]; exact i_ownS HH876 3 rfl _
                  have hz4 := xy130
                  have hpy130 := splitR_piece 32 _ y130 (by rw [xy130]; exact List.getElem_mem _)
                  refine pl_x HE892 HH876 (wt0 rfl) (x_load1 tv_9 rfl (c_ownS 3 rfl (by first | exact ke129 | (simp only [List.length_set]; exact ke129) | omega | (simp only [List.length_set]; omega) | (simp; omega)) xy130.symm)) rfl rfl fun a_893 HE894 => ?_
                  refine pl fun K_895 hK896 => ?_
                  refine st_call HE894 (wt0 rfl) rfl rfl rfl en_65 rfl rfl (spec_l01Number y130 _ (by omega)) fun e w' hr => ?_
                  have hAr131_0 := numC_bd y130
                  obtain ⟨rfl, hbr131⟩ := hr
                  have HH897 := HH876.on hbr131
                  refine ⟨_, rfl, fun a_898 HE899 => hK896 _ _ ?_⟩
                  refine pl_x HE899 HH897 (wt0 rfl) (x_move rfl) rfl rfl fun a_900 HE901 => ?_
                  refine pl_x HE901 HH897 (wt0 rfl) (x_extract rfl rfl) rfl rfl fun a_902 HE903 => ?_
                  refine pl_x HE903 HH897 (wt0 rfl) (x_extract rfl rfl) rfl rfl fun a_904 HE905 => ?_
                  refine pl_x HE905 HH897 (wt0 rfl) (x_assign rfl) rfl rfl fun a_906 HE907 => ?_
                  refine pl_x HE907 HH897 (wt0 rfl) (x_assign rfl) rfl rfl fun a_908 HE909 => ?_
                  refine wpList_nil ?_
                  clear a_887 HE888 a_889 HE890 a_891 HE892 HH876 a_893 HE894 a_898 HE899 a_900 HE901 a_902 HE903 a_904 HE905 a_906 HE907 hK896 K_895
                  refine nrm ?_
                  refine wp_seq ?_
                  refine rg ?_
                  refine pl_x HE909 HH897 (wt0 rfl) (x_move rfl) rfl rfl fun a_910 HE911 => ?_
                  refine pl_x HE911 HH897 (wt0 rfl) (x_move rfl) rfl rfl fun a_912 HE913 => ?_
                  rcases Bool.eq_false_or_eq_true ((numC y118).2) with hc132 | hc132
                  · refine pl_x HE913 HH897 (wtT HE913 rfl rfl rfl hc132) (x_move rfl) rfl rfl fun a_914 HE915 => ?_
                    refine pl_x HE915 HH897 (wt0 rfl) (x_pickT rfl hc132 rfl) rfl rfl fun a_916 HE917 => ?_
                    refine pl_x HE917 HH897 (wt0 rfl) (x_move rfl) rfl rfl fun a_918 HE919 => ?_
                    rcases Bool.eq_false_or_eq_true ((l06D y121).2) with hc133 | hc133
                    · refine pl_x HE919 HH897 (wtT HE919 rfl rfl rfl hc133) (x_move rfl) rfl rfl fun a_920 HE921 => ?_
                      refine pl_x HE921 HH897 (wt0 rfl) (x_pickT rfl hc133 rfl) rfl rfl fun a_922 HE923 => ?_
                      refine pl_x HE923 HH897 (wt0 rfl) (x_move rfl) rfl rfl fun a_924 HE925 => ?_
                      rcases Bool.eq_false_or_eq_true ((l06D y124).2) with hc134 | hc134
                      · refine pl_x HE925 HH897 (wtT HE925 rfl rfl rfl hc134) (x_move rfl) rfl rfl fun a_926 HE927 => ?_
                        refine pl_x HE927 HH897 (wt0 rfl) (x_pickT rfl hc134 rfl) rfl rfl fun a_928 HE929 => ?_
                        refine pl_x HE929 HH897 (wt0 rfl) (x_move rfl) rfl rfl fun a_930 HE931 => ?_
                        rcases Bool.eq_false_or_eq_true ((movS y127).2) with hc135 | hc135
                        · refine pl_x HE931 HH897 (wtT HE931 rfl rfl rfl hc135) (x_move rfl) rfl rfl fun a_932 HE933 => ?_
                          refine pl_x HE933 HH897 (wt0 rfl) (x_pickT rfl hc135 rfl) rfl rfl fun a_934 HE935 => ?_
                          refine pl_x HE935 HH897 (wt0 rfl) (x_assign rfl) rfl rfl fun a_936 HE937 => ?_
                          refine wpList_nil ?_
                          clear a_908 HE909 a_910 HE911 a_912 HE913 a_914 HE915 a_916 HE917 a_918 HE919 a_920 HE921 a_922 HE923 a_924 HE925 a_926 HE927 a_928 HE929 a_930 HE931 a_932 HE933 a_934 HE935
                          refine nrm ?_
                          refine rg ?_
                          refine pl_x HE937 HH897 (wt0 rfl) (x_fieldAddr fa_68_3 rfl) rfl rfl fun a_938 HE939 => ?_
                          refine pl_x HE939 HH897 (wt0 rfl) (x_load1 tv_66 rfl (c_blk 5 rfl rfl)) rfl rfl fun a_940 HE941 => ?_
                          refine pl_x HE941 HH897 (wt0 rfl) (x_move rfl) rfl rfl fun a_942 HE943 => ?_
                          refine pl_x HE943 HH897 (wt0 rfl) (x_move rfl) rfl rfl fun a_944 HE945 => ?_
                          refine pl_x HE945 HH897 (wt0 rfl) (x_move rfl) rfl rfl fun a_946 HE947 => ?_
                          refine pl_x HE947 HH897 (wt0 rfl) (x_move rfl) rfl rfl fun a_948 HE949 => ?_
                          refine pl_x HE949 HH897 (wt0 rfl) (x_move rfl) rfl rfl fun a_950 HE951 => ?_
                          refine pl_x HE951 HH897 (wt0 rfl) (show XS _ _ _ _ (.agg #[.int .i64 ((numC y118).1), .slice Ar122_0 ((l06D y121).1.length) cr122_0, .slice Ar125_0 ((l06D y124).1.length) cr125_0, .slice Ar128_0 ((movS y127).1.length) cr128_0, .int .i64 ((numC y130).1)]) from x_build (vs := [(0, .int .i64 ((numC y118).1)), (1, .slice Ar122_0 ((l06D y121).1.length) cr122_0), (2, .slice Ar125_0 ((l06D y124).1.length) cr125_0), (3, .slice Ar128_0 ((movS y127).1.length) cr128_0), (4, .int .i64 ((numC y130).1))]) tb_123 rfl (by simp [Value.oneCell'])) rfl rfl fun a_952 HE953 => ?_
                          refine pl fun K_954 hK955 => ?_
                          refine st_lit (m := 1) (cs := [.int .i64 ((numC y118).1), .slice Ar122_0 ((l06D y121).1.length) cr122_0, .slice Ar125_0 ((l06D y124).1.length) cr125_0, .slice Ar128_0 ((movS y127).1.length) cr128_0, .int .i64 ((numC y130).1)]) (e := 123) HE953 HH897 (run_lit ts_66 HE953 (vs := [.agg #[.int .i64 ((numC y118).1), .slice Ar122_0 ((l06D y121).1.length) cr122_0, .slice Ar125_0 ((l06D y124).1.length) cr125_0, .slice Ar128_0 ((movS y127).1.length) cr128_0, .int .i64 ((numC y130).1)]]) rfl rfl (by simp [Value.cells]) rfl (by decide)) (wt0 rfl) rfl rfl fun q136 a_956 w' HE957 HH958 => hK955 _ _ ?_
                          refine pl fun K_959 hK960 => ?_
                          have HH961 := HH958.sel [3, 2, 1, 0, 4, 5, 6, 7, 8, 9] (by decide) rfl
                          have HH962 := HH961.sel [2, 0, 1, 3, 4, 5, 6, 7, 8, 9] (by decide) rfl
                          have HH963 := HH962.pairB (F := eInt) (c2 := [.int .i64 ((numC y130).1)]) (y := (numC y130).1) (oI (by exact ⟨by omega, by omega⟩))
                          have HH964 := HH963.sel [2, 0, 1, 3, 4, 5, 6, 7, 8, 9] (by decide) rfl
                          have HH965 := HH964.pair
                          have HH966 := HH965.sel [1, 0, 2, 3, 4, 5, 6, 7, 8] (by decide) rfl
                          have HH967 := HH966.pair
                          have HH968 := HH967.pairF (E := eInt) (c1 := [.int .i64 ((numC y118).1)]) (x := (numC y118).1) (oI (by exact ⟨by omega, by omega⟩))
                          obtain ⟨S140, HH969⟩ : ∃ S, Held Nob w (rO eMultiRule S [.int .i64 ((numC y118).1), .slice Ar122_0 ((l06D y121).1.length) cr122_0, .slice Ar125_0 ((l06D y124).1.length) cr125_0, .slice Ar128_0 ((movS y127).1.length) cr128_0, .int .i64 ((numC y130).1)] ((numC y118).1, (l06D y121).1, (l06D y124).1, (movS y127).1, (numC y130).1) :: _) _ := ⟨_, HH968⟩
                          refine st_app1 HE957 HH969 ts_66 [3, 0, 1, 2, 4, 5, 6, 7] (by decide) rfl rfl rfl (by simp [Value.oneCell']) (by unfold maxLen; first | omega | (simp; done) | (simp; omega)) (by first | omega | (simp; done) | (simp; omega)) (wt0 rfl) rfl fun A137 c138 S139 a_970 w' HE971 HH972 => hK960 _ _ ?_
                          refine pl_x HE971 HH972 (wt0 rfl) (x_fieldAddr fa_68_3 rfl) rfl rfl fun a_973 HE974 => ?_
                          refine pl fun K_975 hK976 => ?_
                          refine st_store (vs := [.slice A137 ((((((splitR 10 a0).drop 1).take j).map lineS) ++ [((numC y118).1, (l06D y121).1, (l06D y124).1, (movS y127).1, (numC y130).1)]).length) c138]) 3 HE974 HH972 tv_66 rfl rfl rfl rfl rfl rfl (by simp [Value.oneCell']) (wt0 rfl) fun w' HH977 => hK976 _ _ ?_
                          refine wpList_nil ?_
                          clear a_936 HE937 a_938 HE939 a_940 HE941 a_942 HE943 a_944 HE945 a_946 HE947 a_948 HE949 a_950 HE951 a_952 HE953 HH897 K_954 hK955 HH958 HH961 HH962 HH963 HH964 HH965 HH966 HH967 HH968 a_956 HE957 HH969 a_970 HE971 K_959 hK960 HH972 hK976 K_975
                          refine blk_n ?_
                          refine nrm ?_
                          refine rg ?_
                          refine pl_x HE974 HH977 (wt0 rfl) (x_move rfl) rfl rfl fun a_978 HE979 => ?_
                          refine pl_x HE979 HH977 (wt0 rfl) (x_add rfl rfl (by exact ⟨by omega, by omega⟩)) rfl rfl fun a_980 HE981 => ?_
                          refine pl_x HE981 HH977 (wt0 rfl) (x_assign rfl) rfl rfl fun a_982 HE983 => ?_
                          refine wpList_nil ?_
                          clear a_973 HE974 a_978 HE979 a_980 HE981
                          have hLk := lineK_eq rfl (by omega) (by omega) hz0 hz1 hz2 hz3 hz4
                          have E141 : ((((splitR 10 a0).drop 1).take (j + 1)).map lineS) = (((((splitR 10 a0).drop 1).take j).map lineS) ++ [((numC y118).1, (l06D y121).1, (l06D y124).1, (movS y127).1, (numC y130).1)]) := by
                            exact lines_snoc (by omega) hx0 hLk.2
                          exact nrm ⟨List.length (splitR 10 a0) - 1 - (j + 1), (by omega), j + 1, A137, c138, S139, rfl, HE983.sub ⟨(lkB rfl (by rw [lineK_snoc (by omega) hx0 _, hLk.1, (by assumption : (hdK (splitR 32 ((splitR 10 a0)[0]?.getD [])) && (((splitR 10 a0).drop 1).take j).all lineK) = true)]; first | grind | simp [hc23, hc27, hc38, hc39, hc111, hc112, hc116, hc132, hc133, hc134, hc135])), (lkI rfl (by first | rfl | omega | (simp [hc23, xy25, hc27, xy29, xy32, xy35, hc38, hc39, p110_0, hc111, hc112, xy114, hc116, xy118, xy121, xy124, xy127, xy130, hc132, hc133, hc134, hc135]; done))), rfl, rfl, rfl, rfl, trivial⟩, ((HH977.sel [0, 3, 4, 5, 6] (by decide) rfl).to (by first | rfl | (rw [E141]; done) | (rw [E141]; rfl) | (simp only [E141]; done) | (simp only [E141]; rfl) | (rw [E141]; simp only [List.length_set]; done))), (by first | omega | assumption | (simp; done) | simp_all)⟩
                        · refine pl_no HE931 (wtF HE931 rfl rfl rfl hc135) rfl rfl fun a_984 HE985 => ?_
                          refine pl_x HE985 HH897 (wt0 rfl) (x_pickF rfl hc135 rfl) rfl rfl fun a_986 HE987 => ?_
                          refine pl_x HE987 HH897 (wt0 rfl) (x_assign rfl) rfl rfl fun a_988 HE989 => ?_
                          refine wpList_nil ?_
                          clear a_908 HE909 a_910 HE911 a_912 HE913 a_914 HE915 a_916 HE917 a_918 HE919 a_920 HE921 a_922 HE923 a_924 HE925 a_926 HE927 a_928 HE929 a_930 HE931 a_984 HE985 a_986 HE987
                          refine nrm ?_
                          refine rg ?_
                          refine pl_x HE989 HH897 (wt0 rfl) (x_fieldAddr fa_68_3 rfl) rfl rfl fun a_990 HE991 => ?_
                          refine pl_x HE991 HH897 (wt0 rfl) (x_load1 tv_66 rfl (c_blk 5 rfl rfl)) rfl rfl fun a_992 HE993 => ?_
                          refine pl_x HE993 HH897 (wt0 rfl) (x_move rfl) rfl rfl fun a_994 HE995 => ?_
                          refine pl_x HE995 HH897 (wt0 rfl) (x_move rfl) rfl rfl fun a_996 HE997 => ?_
                          refine pl_x HE997 HH897 (wt0 rfl) (x_move rfl) rfl rfl fun a_998 HE999 => ?_
                          refine pl_x HE999 HH897 (wt0 rfl) (x_move rfl) rfl rfl fun a_1000 HE1001 => ?_
                          refine pl_x HE1001 HH897 (wt0 rfl) (x_move rfl) rfl rfl fun a_1002 HE1003 => ?_
                          refine pl_x HE1003 HH897 (wt0 rfl) (show XS _ _ _ _ (.agg #[.int .i64 ((numC y118).1), .slice Ar122_0 ((l06D y121).1.length) cr122_0, .slice Ar125_0 ((l06D y124).1.length) cr125_0, .slice Ar128_0 ((movS y127).1.length) cr128_0, .int .i64 ((numC y130).1)]) from x_build (vs := [(0, .int .i64 ((numC y118).1)), (1, .slice Ar122_0 ((l06D y121).1.length) cr122_0), (2, .slice Ar125_0 ((l06D y124).1.length) cr125_0), (3, .slice Ar128_0 ((movS y127).1.length) cr128_0), (4, .int .i64 ((numC y130).1))]) tb_123 rfl (by simp [Value.oneCell'])) rfl rfl fun a_1004 HE1005 => ?_
                          refine pl fun K_1006 hK1007 => ?_
                          refine st_lit (m := 1) (cs := [.int .i64 ((numC y118).1), .slice Ar122_0 ((l06D y121).1.length) cr122_0, .slice Ar125_0 ((l06D y124).1.length) cr125_0, .slice Ar128_0 ((movS y127).1.length) cr128_0, .int .i64 ((numC y130).1)]) (e := 123) HE1005 HH897 (run_lit ts_66 HE1005 (vs := [.agg #[.int .i64 ((numC y118).1), .slice Ar122_0 ((l06D y121).1.length) cr122_0, .slice Ar125_0 ((l06D y124).1.length) cr125_0, .slice Ar128_0 ((movS y127).1.length) cr128_0, .int .i64 ((numC y130).1)]]) rfl rfl (by simp [Value.cells]) rfl (by decide)) (wt0 rfl) rfl rfl fun q142 a_1008 w' HE1009 HH1010 => hK1007 _ _ ?_
                          refine pl fun K_1011 hK1012 => ?_
                          have HH1013 := HH1010.sel [3, 2, 1, 0, 4, 5, 6, 7, 8, 9] (by decide) rfl
                          have HH1014 := HH1013.sel [2, 0, 1, 3, 4, 5, 6, 7, 8, 9] (by decide) rfl
                          have HH1015 := HH1014.pairB (F := eInt) (c2 := [.int .i64 ((numC y130).1)]) (y := (numC y130).1) (oI (by exact ⟨by omega, by omega⟩))
                          have HH1016 := HH1015.sel [2, 0, 1, 3, 4, 5, 6, 7, 8, 9] (by decide) rfl
                          have HH1017 := HH1016.pair
                          have HH1018 := HH1017.sel [1, 0, 2, 3, 4, 5, 6, 7, 8] (by decide) rfl
                          have HH1019 := HH1018.pair
                          have HH1020 := HH1019.pairF (E := eInt) (c1 := [.int .i64 ((numC y118).1)]) (x := (numC y118).1) (oI (by exact ⟨by omega, by omega⟩))
                          obtain ⟨S146, HH1021⟩ : ∃ S, Held Nob w (rO eMultiRule S [.int .i64 ((numC y118).1), .slice Ar122_0 ((l06D y121).1.length) cr122_0, .slice Ar125_0 ((l06D y124).1.length) cr125_0, .slice Ar128_0 ((movS y127).1.length) cr128_0, .int .i64 ((numC y130).1)] ((numC y118).1, (l06D y121).1, (l06D y124).1, (movS y127).1, (numC y130).1) :: _) _ := ⟨_, HH1020⟩
                          refine st_app1 HE1009 HH1021 ts_66 [3, 0, 1, 2, 4, 5, 6, 7] (by decide) rfl rfl rfl (by simp [Value.oneCell']) (by unfold maxLen; first | omega | (simp; done) | (simp; omega)) (by first | omega | (simp; done) | (simp; omega)) (wt0 rfl) rfl fun A143 c144 S145 a_1022 w' HE1023 HH1024 => hK1012 _ _ ?_
                          refine pl_x HE1023 HH1024 (wt0 rfl) (x_fieldAddr fa_68_3 rfl) rfl rfl fun a_1025 HE1026 => ?_
                          refine pl fun K_1027 hK1028 => ?_
                          refine st_store (vs := [.slice A143 ((((((splitR 10 a0).drop 1).take j).map lineS) ++ [((numC y118).1, (l06D y121).1, (l06D y124).1, (movS y127).1, (numC y130).1)]).length) c144]) 3 HE1026 HH1024 tv_66 rfl rfl rfl rfl rfl rfl (by simp [Value.oneCell']) (wt0 rfl) fun w' HH1029 => hK1028 _ _ ?_
                          refine wpList_nil ?_
                          clear a_988 HE989 a_990 HE991 a_992 HE993 a_994 HE995 a_996 HE997 a_998 HE999 a_1000 HE1001 a_1002 HE1003 a_1004 HE1005 HH897 K_1006 hK1007 HH1010 HH1013 HH1014 HH1015 HH1016 HH1017 HH1018 HH1019 HH1020 a_1008 HE1009 HH1021 a_1022 HE1023 K_1011 hK1012 HH1024 hK1028 K_1027
                          refine blk_n ?_
                          refine nrm ?_
                          refine rg ?_
                          refine pl_x HE1026 HH1029 (wt0 rfl) (x_move rfl) rfl rfl fun a_1030 HE1031 => ?_
                          refine pl_x HE1031 HH1029 (wt0 rfl) (x_add rfl rfl (by exact ⟨by omega, by omega⟩)) rfl rfl fun a_1032 HE1033 => ?_
                          refine pl_x HE1033 HH1029 (wt0 rfl) (x_assign rfl) rfl rfl fun a_1034 HE1035 => ?_
                          refine wpList_nil ?_
                          clear a_1025 HE1026 a_1030 HE1031 a_1032 HE1033
                          have hLk := lineK_eq rfl (by omega) (by omega) hz0 hz1 hz2 hz3 hz4
                          have E147 : ((((splitR 10 a0).drop 1).take (j + 1)).map lineS) = (((((splitR 10 a0).drop 1).take j).map lineS) ++ [((numC y118).1, (l06D y121).1, (l06D y124).1, (movS y127).1, (numC y130).1)]) := by
                            exact lines_snoc (by omega) hx0 hLk.2
                          exact nrm ⟨List.length (splitR 10 a0) - 1 - (j + 1), (by omega), j + 1, A143, c144, S145, rfl, HE1035.sub ⟨(lkB rfl (by rw [lineK_snoc (by omega) hx0 _, hLk.1, (by assumption : (hdK (splitR 32 ((splitR 10 a0)[0]?.getD [])) && (((splitR 10 a0).drop 1).take j).all lineK) = true)]; first | grind | simp [hc23, hc27, hc38, hc39, hc111, hc112, hc116, hc132, hc133, hc134, hc135])), (lkI rfl (by first | rfl | omega | (simp [hc23, xy25, hc27, xy29, xy32, xy35, hc38, hc39, p110_0, hc111, hc112, xy114, hc116, xy118, xy121, xy124, xy127, xy130, hc132, hc133, hc134, hc135]; done))), rfl, rfl, rfl, rfl, trivial⟩, ((HH1029.sel [0, 3, 4, 5, 6] (by decide) rfl).to (by first | rfl | (rw [E147]; done) | (rw [E147]; rfl) | (simp only [E147]; done) | (simp only [E147]; rfl) | (rw [E147]; simp only [List.length_set]; done))), (by first | omega | assumption | (simp; done) | simp_all)⟩
                      · refine pl_no HE925 (wtF HE925 rfl rfl rfl hc134) rfl rfl fun a_1036 HE1037 => ?_
                        refine pl_x HE1037 HH897 (wt0 rfl) (x_pickF rfl hc134 rfl) rfl rfl fun a_1038 HE1039 => ?_
                        refine pl_x HE1039 HH897 (wt0 rfl) (x_move rfl) rfl rfl fun a_1040 HE1041 => ?_
                        refine pl_no HE1041 (wtF HE1041 rfl rfl rfl rfl) rfl rfl fun a_1042 HE1043 => ?_
                        refine pl_x HE1043 HH897 (wt0 rfl) (x_pickF rfl rfl rfl) rfl rfl fun a_1044 HE1045 => ?_
                        refine pl_x HE1045 HH897 (wt0 rfl) (x_assign rfl) rfl rfl fun a_1046 HE1047 => ?_
                        refine wpList_nil ?_
                        clear a_908 HE909 a_910 HE911 a_912 HE913 a_914 HE915 a_916 HE917 a_918 HE919 a_920 HE921 a_922 HE923 a_924 HE925 a_1036 HE1037 a_1038 HE1039 a_1040 HE1041 a_1042 HE1043 a_1044 HE1045
                        refine nrm ?_
                        refine rg ?_
                        refine pl_x HE1047 HH897 (wt0 rfl) (x_fieldAddr fa_68_3 rfl) rfl rfl fun a_1048 HE1049 => ?_
                        refine pl_x HE1049 HH897 (wt0 rfl) (x_load1 tv_66 rfl (c_blk 5 rfl rfl)) rfl rfl fun a_1050 HE1051 => ?_
                        refine pl_x HE1051 HH897 (wt0 rfl) (x_move rfl) rfl rfl fun a_1052 HE1053 => ?_
                        refine pl_x HE1053 HH897 (wt0 rfl) (x_move rfl) rfl rfl fun a_1054 HE1055 => ?_
                        refine pl_x HE1055 HH897 (wt0 rfl) (x_move rfl) rfl rfl fun a_1056 HE1057 => ?_
                        refine pl_x HE1057 HH897 (wt0 rfl) (x_move rfl) rfl rfl fun a_1058 HE1059 => ?_
                        refine pl_x HE1059 HH897 (wt0 rfl) (x_move rfl) rfl rfl fun a_1060 HE1061 => ?_
                        refine pl_x HE1061 HH897 (wt0 rfl) (show XS _ _ _ _ (.agg #[.int .i64 ((numC y118).1), .slice Ar122_0 ((l06D y121).1.length) cr122_0, .slice Ar125_0 ((l06D y124).1.length) cr125_0, .slice Ar128_0 ((movS y127).1.length) cr128_0, .int .i64 ((numC y130).1)]) from x_build (vs := [(0, .int .i64 ((numC y118).1)), (1, .slice Ar122_0 ((l06D y121).1.length) cr122_0), (2, .slice Ar125_0 ((l06D y124).1.length) cr125_0), (3, .slice Ar128_0 ((movS y127).1.length) cr128_0), (4, .int .i64 ((numC y130).1))]) tb_123 rfl (by simp [Value.oneCell'])) rfl rfl fun a_1062 HE1063 => ?_
                        refine pl fun K_1064 hK1065 => ?_
                        refine st_lit (m := 1) (cs := [.int .i64 ((numC y118).1), .slice Ar122_0 ((l06D y121).1.length) cr122_0, .slice Ar125_0 ((l06D y124).1.length) cr125_0, .slice Ar128_0 ((movS y127).1.length) cr128_0, .int .i64 ((numC y130).1)]) (e := 123) HE1063 HH897 (run_lit ts_66 HE1063 (vs := [.agg #[.int .i64 ((numC y118).1), .slice Ar122_0 ((l06D y121).1.length) cr122_0, .slice Ar125_0 ((l06D y124).1.length) cr125_0, .slice Ar128_0 ((movS y127).1.length) cr128_0, .int .i64 ((numC y130).1)]]) rfl rfl (by simp [Value.cells]) rfl (by decide)) (wt0 rfl) rfl rfl fun q148 a_1066 w' HE1067 HH1068 => hK1065 _ _ ?_
                        refine pl fun K_1069 hK1070 => ?_
                        have HH1071 := HH1068.sel [3, 2, 1, 0, 4, 5, 6, 7, 8, 9] (by decide) rfl
                        have HH1072 := HH1071.sel [2, 0, 1, 3, 4, 5, 6, 7, 8, 9] (by decide) rfl
                        have HH1073 := HH1072.pairB (F := eInt) (c2 := [.int .i64 ((numC y130).1)]) (y := (numC y130).1) (oI (by exact ⟨by omega, by omega⟩))
                        have HH1074 := HH1073.sel [2, 0, 1, 3, 4, 5, 6, 7, 8, 9] (by decide) rfl
                        have HH1075 := HH1074.pair
                        have HH1076 := HH1075.sel [1, 0, 2, 3, 4, 5, 6, 7, 8] (by decide) rfl
                        have HH1077 := HH1076.pair
                        have HH1078 := HH1077.pairF (E := eInt) (c1 := [.int .i64 ((numC y118).1)]) (x := (numC y118).1) (oI (by exact ⟨by omega, by omega⟩))
                        obtain ⟨S152, HH1079⟩ : ∃ S, Held Nob w (rO eMultiRule S [.int .i64 ((numC y118).1), .slice Ar122_0 ((l06D y121).1.length) cr122_0, .slice Ar125_0 ((l06D y124).1.length) cr125_0, .slice Ar128_0 ((movS y127).1.length) cr128_0, .int .i64 ((numC y130).1)] ((numC y118).1, (l06D y121).1, (l06D y124).1, (movS y127).1, (numC y130).1) :: _) _ := ⟨_, HH1078⟩
                        refine st_app1 HE1067 HH1079 ts_66 [3, 0, 1, 2, 4, 5, 6, 7] (by decide) rfl rfl rfl (by simp [Value.oneCell']) (by unfold maxLen; first | omega | (simp; done) | (simp; omega)) (by first | omega | (simp; done) | (simp; omega)) (wt0 rfl) rfl fun A149 c150 S151 a_1080 w' HE1081 HH1082 => hK1070 _ _ ?_
                        refine pl_x HE1081 HH1082 (wt0 rfl) (x_fieldAddr fa_68_3 rfl) rfl rfl fun a_1083 HE1084 => ?_
                        refine pl fun K_1085 hK1086 => ?_
                        refine st_store (vs := [.slice A149 ((((((splitR 10 a0).drop 1).take j).map lineS) ++ [((numC y118).1, (l06D y121).1, (l06D y124).1, (movS y127).1, (numC y130).1)]).length) c150]) 3 HE1084 HH1082 tv_66 rfl rfl rfl rfl rfl rfl (by simp [Value.oneCell']) (wt0 rfl) fun w' HH1087 => hK1086 _ _ ?_
                        refine wpList_nil ?_
                        clear a_1046 HE1047 a_1048 HE1049 a_1050 HE1051 a_1052 HE1053 a_1054 HE1055 a_1056 HE1057 a_1058 HE1059 a_1060 HE1061 a_1062 HE1063 HH897 K_1064 hK1065 HH1068 HH1071 HH1072 HH1073 HH1074 HH1075 HH1076 HH1077 HH1078 a_1066 HE1067 HH1079 a_1080 HE1081 K_1069 hK1070 HH1082 hK1086 K_1085
                        refine blk_n ?_
                        refine nrm ?_
                        refine rg ?_
                        refine pl_x HE1084 HH1087 (wt0 rfl) (x_move rfl) rfl rfl fun a_1088 HE1089 => ?_
                        refine pl_x HE1089 HH1087 (wt0 rfl) (x_add rfl rfl (by exact ⟨by omega, by omega⟩)) rfl rfl fun a_1090 HE1091 => ?_
                        refine pl_x HE1091 HH1087 (wt0 rfl) (x_assign rfl) rfl rfl fun a_1092 HE1093 => ?_
                        refine wpList_nil ?_
                        clear a_1083 HE1084 a_1088 HE1089 a_1090 HE1091
                        have hLk := lineK_eq rfl (by omega) (by omega) hz0 hz1 hz2 hz3 hz4
                        have E153 : ((((splitR 10 a0).drop 1).take (j + 1)).map lineS) = (((((splitR 10 a0).drop 1).take j).map lineS) ++ [((numC y118).1, (l06D y121).1, (l06D y124).1, (movS y127).1, (numC y130).1)]) := by
                          exact lines_snoc (by omega) hx0 hLk.2
                        exact nrm ⟨List.length (splitR 10 a0) - 1 - (j + 1), (by omega), j + 1, A149, c150, S151, rfl, HE1093.sub ⟨(lkB rfl (by rw [lineK_snoc (by omega) hx0 _, hLk.1, (by assumption : (hdK (splitR 32 ((splitR 10 a0)[0]?.getD [])) && (((splitR 10 a0).drop 1).take j).all lineK) = true)]; first | grind | simp [hc23, hc27, hc38, hc39, hc111, hc112, hc116, hc132, hc133, hc134])), (lkI rfl (by first | rfl | omega | (simp [hc23, xy25, hc27, xy29, xy32, xy35, hc38, hc39, p110_0, hc111, hc112, xy114, hc116, xy118, xy121, xy124, xy127, xy130, hc132, hc133, hc134]; done))), rfl, rfl, rfl, rfl, trivial⟩, ((HH1087.sel [0, 3, 4, 5, 6] (by decide) rfl).to (by first | rfl | (rw [E153]; done) | (rw [E153]; rfl) | (simp only [E153]; done) | (simp only [E153]; rfl) | (rw [E153]; simp only [List.length_set]; done))), (by first | omega | assumption | (simp; done) | simp_all)⟩
                    · refine pl_no HE919 (wtF HE919 rfl rfl rfl hc133) rfl rfl fun a_1094 HE1095 => ?_
                      refine pl_x HE1095 HH897 (wt0 rfl) (x_pickF rfl hc133 rfl) rfl rfl fun a_1096 HE1097 => ?_
                      refine pl_x HE1097 HH897 (wt0 rfl) (x_move rfl) rfl rfl fun a_1098 HE1099 => ?_
                      refine pl_no HE1099 (wtF HE1099 rfl rfl rfl rfl) rfl rfl fun a_1100 HE1101 => ?_
                      refine pl_x HE1101 HH897 (wt0 rfl) (x_pickF rfl rfl rfl) rfl rfl fun a_1102 HE1103 => ?_
                      refine pl_x HE1103 HH897 (wt0 rfl) (x_move rfl) rfl rfl fun a_1104 HE1105 => ?_
                      refine pl_no HE1105 (wtF HE1105 rfl rfl rfl rfl) rfl rfl fun a_1106 HE1107 => ?_
                      refine pl_x HE1107 HH897 (wt0 rfl) (x_pickF rfl rfl rfl) rfl rfl fun a_1108 HE1109 => ?_
                      refine pl_x HE1109 HH897 (wt0 rfl) (x_assign rfl) rfl rfl fun a_1110 HE1111 => ?_
                      refine wpList_nil ?_
                      clear a_908 HE909 a_910 HE911 a_912 HE913 a_914 HE915 a_916 HE917 a_918 HE919 a_1094 HE1095 a_1096 HE1097 a_1098 HE1099 a_1100 HE1101 a_1102 HE1103 a_1104 HE1105 a_1106 HE1107 a_1108 HE1109
                      refine nrm ?_
                      refine rg ?_
                      refine pl_x HE1111 HH897 (wt0 rfl) (x_fieldAddr fa_68_3 rfl) rfl rfl fun a_1112 HE1113 => ?_
                      refine pl_x HE1113 HH897 (wt0 rfl) (x_load1 tv_66 rfl (c_blk 5 rfl rfl)) rfl rfl fun a_1114 HE1115 => ?_
                      refine pl_x HE1115 HH897 (wt0 rfl) (x_move rfl) rfl rfl fun a_1116 HE1117 => ?_
                      refine pl_x HE1117 HH897 (wt0 rfl) (x_move rfl) rfl rfl fun a_1118 HE1119 => ?_
                      refine pl_x HE1119 HH897 (wt0 rfl) (x_move rfl) rfl rfl fun a_1120 HE1121 => ?_
                      refine pl_x HE1121 HH897 (wt0 rfl) (x_move rfl) rfl rfl fun a_1122 HE1123 => ?_
                      refine pl_x HE1123 HH897 (wt0 rfl) (x_move rfl) rfl rfl fun a_1124 HE1125 => ?_
                      refine pl_x HE1125 HH897 (wt0 rfl) (show XS _ _ _ _ (.agg #[.int .i64 ((numC y118).1), .slice Ar122_0 ((l06D y121).1.length) cr122_0, .slice Ar125_0 ((l06D y124).1.length) cr125_0, .slice Ar128_0 ((movS y127).1.length) cr128_0, .int .i64 ((numC y130).1)]) from x_build (vs := [(0, .int .i64 ((numC y118).1)), (1, .slice Ar122_0 ((l06D y121).1.length) cr122_0), (2, .slice Ar125_0 ((l06D y124).1.length) cr125_0), (3, .slice Ar128_0 ((movS y127).1.length) cr128_0), (4, .int .i64 ((numC y130).1))]) tb_123 rfl (by simp [Value.oneCell'])) rfl rfl fun a_1126 HE1127 => ?_
                      refine pl fun K_1128 hK1129 => ?_
                      refine st_lit (m := 1) (cs := [.int .i64 ((numC y118).1), .slice Ar122_0 ((l06D y121).1.length) cr122_0, .slice Ar125_0 ((l06D y124).1.length) cr125_0, .slice Ar128_0 ((movS y127).1.length) cr128_0, .int .i64 ((numC y130).1)]) (e := 123) HE1127 HH897 (run_lit ts_66 HE1127 (vs := [.agg #[.int .i64 ((numC y118).1), .slice Ar122_0 ((l06D y121).1.length) cr122_0, .slice Ar125_0 ((l06D y124).1.length) cr125_0, .slice Ar128_0 ((movS y127).1.length) cr128_0, .int .i64 ((numC y130).1)]]) rfl rfl (by simp [Value.cells]) rfl (by decide)) (wt0 rfl) rfl rfl fun q154 a_1130 w' HE1131 HH1132 => hK1129 _ _ ?_
                      refine pl fun K_1133 hK1134 => ?_
                      have HH1135 := HH1132.sel [3, 2, 1, 0, 4, 5, 6, 7, 8, 9] (by decide) rfl
                      have HH1136 := HH1135.sel [2, 0, 1, 3, 4, 5, 6, 7, 8, 9] (by decide) rfl
                      have HH1137 := HH1136.pairB (F := eInt) (c2 := [.int .i64 ((numC y130).1)]) (y := (numC y130).1) (oI (by exact ⟨by omega, by omega⟩))
                      have HH1138 := HH1137.sel [2, 0, 1, 3, 4, 5, 6, 7, 8, 9] (by decide) rfl
                      have HH1139 := HH1138.pair
                      have HH1140 := HH1139.sel [1, 0, 2, 3, 4, 5, 6, 7, 8] (by decide) rfl
                      have HH1141 := HH1140.pair
                      have HH1142 := HH1141.pairF (E := eInt) (c1 := [.int .i64 ((numC y118).1)]) (x := (numC y118).1) (oI (by exact ⟨by omega, by omega⟩))
                      obtain ⟨S158, HH1143⟩ : ∃ S, Held Nob w (rO eMultiRule S [.int .i64 ((numC y118).1), .slice Ar122_0 ((l06D y121).1.length) cr122_0, .slice Ar125_0 ((l06D y124).1.length) cr125_0, .slice Ar128_0 ((movS y127).1.length) cr128_0, .int .i64 ((numC y130).1)] ((numC y118).1, (l06D y121).1, (l06D y124).1, (movS y127).1, (numC y130).1) :: _) _ := ⟨_, HH1142⟩
                      refine st_app1 HE1131 HH1143 ts_66 [3, 0, 1, 2, 4, 5, 6, 7] (by decide) rfl rfl rfl (by simp [Value.oneCell']) (by unfold maxLen; first | omega | (simp; done) | (simp; omega)) (by first | omega | (simp; done) | (simp; omega)) (wt0 rfl) rfl fun A155 c156 S157 a_1144 w' HE1145 HH1146 => hK1134 _ _ ?_
                      refine pl_x HE1145 HH1146 (wt0 rfl) (x_fieldAddr fa_68_3 rfl) rfl rfl fun a_1147 HE1148 => ?_
                      refine pl fun K_1149 hK1150 => ?_
                      refine st_store (vs := [.slice A155 ((((((splitR 10 a0).drop 1).take j).map lineS) ++ [((numC y118).1, (l06D y121).1, (l06D y124).1, (movS y127).1, (numC y130).1)]).length) c156]) 3 HE1148 HH1146 tv_66 rfl rfl rfl rfl rfl rfl (by simp [Value.oneCell']) (wt0 rfl) fun w' HH1151 => hK1150 _ _ ?_
                      refine wpList_nil ?_
                      clear a_1110 HE1111 a_1112 HE1113 a_1114 HE1115 a_1116 HE1117 a_1118 HE1119 a_1120 HE1121 a_1122 HE1123 a_1124 HE1125 a_1126 HE1127 HH897 K_1128 hK1129 HH1132 HH1135 HH1136 HH1137 HH1138 HH1139 HH1140 HH1141 HH1142 a_1130 HE1131 HH1143 a_1144 HE1145 K_1133 hK1134 HH1146 hK1150 K_1149
                      refine blk_n ?_
                      refine nrm ?_
                      refine rg ?_
                      refine pl_x HE1148 HH1151 (wt0 rfl) (x_move rfl) rfl rfl fun a_1152 HE1153 => ?_
                      refine pl_x HE1153 HH1151 (wt0 rfl) (x_add rfl rfl (by exact ⟨by omega, by omega⟩)) rfl rfl fun a_1154 HE1155 => ?_
                      refine pl_x HE1155 HH1151 (wt0 rfl) (x_assign rfl) rfl rfl fun a_1156 HE1157 => ?_
                      refine wpList_nil ?_
                      clear a_1147 HE1148 a_1152 HE1153 a_1154 HE1155
                      have hLk := lineK_eq rfl (by omega) (by omega) hz0 hz1 hz2 hz3 hz4
                      have E159 : ((((splitR 10 a0).drop 1).take (j + 1)).map lineS) = (((((splitR 10 a0).drop 1).take j).map lineS) ++ [((numC y118).1, (l06D y121).1, (l06D y124).1, (movS y127).1, (numC y130).1)]) := by
                        exact lines_snoc (by omega) hx0 hLk.2
                      exact nrm ⟨List.length (splitR 10 a0) - 1 - (j + 1), (by omega), j + 1, A155, c156, S157, rfl, HE1157.sub ⟨(lkB rfl (by rw [lineK_snoc (by omega) hx0 _, hLk.1, (by assumption : (hdK (splitR 32 ((splitR 10 a0)[0]?.getD [])) && (((splitR 10 a0).drop 1).take j).all lineK) = true)]; first | grind | simp [hc23, hc27, hc38, hc39, hc111, hc112, hc116, hc132, hc133])), (lkI rfl (by first | rfl | omega | (simp [hc23, xy25, hc27, xy29, xy32, xy35, hc38, hc39, p110_0, hc111, hc112, xy114, hc116, xy118, xy121, xy124, xy127, xy130, hc132, hc133]; done))), rfl, rfl, rfl, rfl, trivial⟩, ((HH1151.sel [0, 3, 4, 5, 6] (by decide) rfl).to (by first | rfl | (rw [E159]; done) | (rw [E159]; rfl) | (simp only [E159]; done) | (simp only [E159]; rfl) | (rw [E159]; simp only [List.length_set]; done))), (by first | omega | assumption | (simp; done) | simp_all)⟩
                  · refine pl_no HE913 (wtF HE913 rfl rfl rfl hc132) rfl rfl fun a_1158 HE1159 => ?_
                    refine pl_x HE1159 HH897 (wt0 rfl) (x_pickF rfl hc132 rfl) rfl rfl fun a_1160 HE1161 => ?_
                    refine pl_x HE1161 HH897 (wt0 rfl) (x_move rfl) rfl rfl fun a_1162 HE1163 => ?_
                    refine pl_no HE1163 (wtF HE1163 rfl rfl rfl rfl) rfl rfl fun a_1164 HE1165 => ?_
                    refine pl_x HE1165 HH897 (wt0 rfl) (x_pickF rfl rfl rfl) rfl rfl fun a_1166 HE1167 => ?_
                    refine pl_x HE1167 HH897 (wt0 rfl) (x_move rfl) rfl rfl fun a_1168 HE1169 => ?_
                    refine pl_no HE1169 (wtF HE1169 rfl rfl rfl rfl) rfl rfl fun a_1170 HE1171 => ?_
                    refine pl_x HE1171 HH897 (wt0 rfl) (x_pickF rfl rfl rfl) rfl rfl fun a_1172 HE1173 => ?_
                    refine pl_x HE1173 HH897 (wt0 rfl) (x_move rfl) rfl rfl fun a_1174 HE1175 => ?_
                    refine pl_no HE1175 (wtF HE1175 rfl rfl rfl rfl) rfl rfl fun a_1176 HE1177 => ?_
                    refine pl_x HE1177 HH897 (wt0 rfl) (x_pickF rfl rfl rfl) rfl rfl fun a_1178 HE1179 => ?_
                    refine pl_x HE1179 HH897 (wt0 rfl) (x_assign rfl) rfl rfl fun a_1180 HE1181 => ?_
                    refine wpList_nil ?_
                    clear a_908 HE909 a_910 HE911 a_912 HE913 a_1158 HE1159 a_1160 HE1161 a_1162 HE1163 a_1164 HE1165 a_1166 HE1167 a_1168 HE1169 a_1170 HE1171 a_1172 HE1173 a_1174 HE1175 a_1176 HE1177 a_1178 HE1179
                    refine nrm ?_
                    refine rg ?_
                    refine pl_x HE1181 HH897 (wt0 rfl) (x_fieldAddr fa_68_3 rfl) rfl rfl fun a_1182 HE1183 => ?_
                    refine pl_x HE1183 HH897 (wt0 rfl) (x_load1 tv_66 rfl (c_blk 5 rfl rfl)) rfl rfl fun a_1184 HE1185 => ?_
                    refine pl_x HE1185 HH897 (wt0 rfl) (x_move rfl) rfl rfl fun a_1186 HE1187 => ?_
                    refine pl_x HE1187 HH897 (wt0 rfl) (x_move rfl) rfl rfl fun a_1188 HE1189 => ?_
                    refine pl_x HE1189 HH897 (wt0 rfl) (x_move rfl) rfl rfl fun a_1190 HE1191 => ?_
                    refine pl_x HE1191 HH897 (wt0 rfl) (x_move rfl) rfl rfl fun a_1192 HE1193 => ?_
                    refine pl_x HE1193 HH897 (wt0 rfl) (x_move rfl) rfl rfl fun a_1194 HE1195 => ?_
                    refine pl_x HE1195 HH897 (wt0 rfl) (show XS _ _ _ _ (.agg #[.int .i64 ((numC y118).1), .slice Ar122_0 ((l06D y121).1.length) cr122_0, .slice Ar125_0 ((l06D y124).1.length) cr125_0, .slice Ar128_0 ((movS y127).1.length) cr128_0, .int .i64 ((numC y130).1)]) from x_build (vs := [(0, .int .i64 ((numC y118).1)), (1, .slice Ar122_0 ((l06D y121).1.length) cr122_0), (2, .slice Ar125_0 ((l06D y124).1.length) cr125_0), (3, .slice Ar128_0 ((movS y127).1.length) cr128_0), (4, .int .i64 ((numC y130).1))]) tb_123 rfl (by simp [Value.oneCell'])) rfl rfl fun a_1196 HE1197 => ?_
                    refine pl fun K_1198 hK1199 => ?_
                    refine st_lit (m := 1) (cs := [.int .i64 ((numC y118).1), .slice Ar122_0 ((l06D y121).1.length) cr122_0, .slice Ar125_0 ((l06D y124).1.length) cr125_0, .slice Ar128_0 ((movS y127).1.length) cr128_0, .int .i64 ((numC y130).1)]) (e := 123) HE1197 HH897 (run_lit ts_66 HE1197 (vs := [.agg #[.int .i64 ((numC y118).1), .slice Ar122_0 ((l06D y121).1.length) cr122_0, .slice Ar125_0 ((l06D y124).1.length) cr125_0, .slice Ar128_0 ((movS y127).1.length) cr128_0, .int .i64 ((numC y130).1)]]) rfl rfl (by simp [Value.cells]) rfl (by decide)) (wt0 rfl) rfl rfl fun q160 a_1200 w' HE1201 HH1202 => hK1199 _ _ ?_
                    refine pl fun K_1203 hK1204 => ?_
                    have HH1205 := HH1202.sel [3, 2, 1, 0, 4, 5, 6, 7, 8, 9] (by decide) rfl
                    have HH1206 := HH1205.sel [2, 0, 1, 3, 4, 5, 6, 7, 8, 9] (by decide) rfl
                    have HH1207 := HH1206.pairB (F := eInt) (c2 := [.int .i64 ((numC y130).1)]) (y := (numC y130).1) (oI (by exact ⟨by omega, by omega⟩))
                    have HH1208 := HH1207.sel [2, 0, 1, 3, 4, 5, 6, 7, 8, 9] (by decide) rfl
                    have HH1209 := HH1208.pair
                    have HH1210 := HH1209.sel [1, 0, 2, 3, 4, 5, 6, 7, 8] (by decide) rfl
                    have HH1211 := HH1210.pair
                    have HH1212 := HH1211.pairF (E := eInt) (c1 := [.int .i64 ((numC y118).1)]) (x := (numC y118).1) (oI (by exact ⟨by omega, by omega⟩))
                    obtain ⟨S164, HH1213⟩ : ∃ S, Held Nob w (rO eMultiRule S [.int .i64 ((numC y118).1), .slice Ar122_0 ((l06D y121).1.length) cr122_0, .slice Ar125_0 ((l06D y124).1.length) cr125_0, .slice Ar128_0 ((movS y127).1.length) cr128_0, .int .i64 ((numC y130).1)] ((numC y118).1, (l06D y121).1, (l06D y124).1, (movS y127).1, (numC y130).1) :: _) _ := ⟨_, HH1212⟩
                    refine st_app1 HE1201 HH1213 ts_66 [3, 0, 1, 2, 4, 5, 6, 7] (by decide) rfl rfl rfl (by simp [Value.oneCell']) (by unfold maxLen; first | omega | (simp; done) | (simp; omega)) (by first | omega | (simp; done) | (simp; omega)) (wt0 rfl) rfl fun A161 c162 S163 a_1214 w' HE1215 HH1216 => hK1204 _ _ ?_
                    refine pl_x HE1215 HH1216 (wt0 rfl) (x_fieldAddr fa_68_3 rfl) rfl rfl fun a_1217 HE1218 => ?_
                    refine pl fun K_1219 hK1220 => ?_
                    refine st_store (vs := [.slice A161 ((((((splitR 10 a0).drop 1).take j).map lineS) ++ [((numC y118).1, (l06D y121).1, (l06D y124).1, (movS y127).1, (numC y130).1)]).length) c162]) 3 HE1218 HH1216 tv_66 rfl rfl rfl rfl rfl rfl (by simp [Value.oneCell']) (wt0 rfl) fun w' HH1221 => hK1220 _ _ ?_
                    refine wpList_nil ?_
                    clear a_1180 HE1181 a_1182 HE1183 a_1184 HE1185 a_1186 HE1187 a_1188 HE1189 a_1190 HE1191 a_1192 HE1193 a_1194 HE1195 a_1196 HE1197 HH897 K_1198 hK1199 HH1202 HH1205 HH1206 HH1207 HH1208 HH1209 HH1210 HH1211 HH1212 a_1200 HE1201 HH1213 a_1214 HE1215 K_1203 hK1204 HH1216 hK1220 K_1219
                    refine blk_n ?_
                    refine nrm ?_
                    refine rg ?_
                    refine pl_x HE1218 HH1221 (wt0 rfl) (x_move rfl) rfl rfl fun a_1222 HE1223 => ?_
                    refine pl_x HE1223 HH1221 (wt0 rfl) (x_add rfl rfl (by exact ⟨by omega, by omega⟩)) rfl rfl fun a_1224 HE1225 => ?_
                    refine pl_x HE1225 HH1221 (wt0 rfl) (x_assign rfl) rfl rfl fun a_1226 HE1227 => ?_
                    refine wpList_nil ?_
                    clear a_1217 HE1218 a_1222 HE1223 a_1224 HE1225
                    have hLk := lineK_eq rfl (by omega) (by omega) hz0 hz1 hz2 hz3 hz4
                    have E165 : ((((splitR 10 a0).drop 1).take (j + 1)).map lineS) = (((((splitR 10 a0).drop 1).take j).map lineS) ++ [((numC y118).1, (l06D y121).1, (l06D y124).1, (movS y127).1, (numC y130).1)]) := by
                      exact lines_snoc (by omega) hx0 hLk.2
                    exact nrm ⟨List.length (splitR 10 a0) - 1 - (j + 1), (by omega), j + 1, A161, c162, S163, rfl, HE1227.sub ⟨(lkB rfl (by rw [lineK_snoc (by omega) hx0 _, hLk.1, (by assumption : (hdK (splitR 32 ((splitR 10 a0)[0]?.getD [])) && (((splitR 10 a0).drop 1).take j).all lineK) = true)]; first | grind | simp [hc23, hc27, hc38, hc39, hc111, hc112, hc116, hc132])), (lkI rfl (by first | rfl | omega | (simp [hc23, xy25, hc27, xy29, xy32, xy35, hc38, hc39, p110_0, hc111, hc112, xy114, hc116, xy118, xy121, xy124, xy127, xy130, hc132]; done))), rfl, rfl, rfl, rfl, trivial⟩, ((HH1221.sel [0, 3, 4, 5, 6] (by decide) rfl).to (by first | rfl | (rw [E165]; done) | (rw [E165]; rfl) | (simp only [E165]; done) | (simp only [E165]; rfl) | (rw [E165]; simp only [List.length_set]; done))), (by first | omega | assumption | (simp; done) | simp_all)⟩
              · refine wp_exit ?_
                refine (thn_exit (thn_exit (blk_hit ?_)))
                refine nrm ?_
                refine wp_seq ?_
                refine wp_seq ?_
                refine rg ?_
                refine pl_x HE775 HH761 (wt0 rfl) (x_move rfl) rfl rfl fun a_1228 HE1229 => ?_
                refine pl_x HE1229 HH761 (wt0 rfl) (x_not rfl) rfl rfl fun a_1230 HE1231 => ?_
                refine pl_x HE1231 HH761 (wt0 rfl) (x_move rfl) rfl rfl fun a_1232 HE1233 => ?_
                refine pl_no HE1233 (wtF HE1233 rfl rfl rfl (not_t hc112)) rfl rfl fun a_1234 HE1235 => ?_
                refine pl_no HE1235 (wtF HE1235 rfl rfl rfl (not_t hc112)) rfl rfl fun a_1236 HE1237 => ?_
                refine pl_x HE1237 HH761 (wt0 rfl) (x_pickT rfl (not_t hc112) rfl) rfl rfl fun a_1238 HE1239 => ?_
                refine pl_x HE1239 HH761 (wt0 rfl) (x_move rfl) rfl rfl fun a_1240 HE1241 => ?_
                refine pl_no HE1241 (wtF HE1241 rfl rfl rfl rfl) rfl rfl fun a_1242 HE1243 => ?_
                refine pl_no HE1243 (wtF HE1243 rfl rfl rfl rfl) rfl rfl fun a_1244 HE1245 => ?_
                refine pl_no HE1245 (wtF HE1245 rfl rfl rfl rfl) rfl rfl fun a_1246 HE1247 => ?_
                refine pl_x HE1247 HH761 (wt0 rfl) (x_pickT rfl rfl rfl) rfl rfl fun a_1248 HE1249 => ?_
                refine wpList_nil ?_
                clear a_774 HE775 a_1228 HE1229 a_1230 HE1231 a_1232 HE1233 a_1234 HE1235 a_1236 HE1237 a_1238 HE1239 a_1240 HE1241 a_1242 HE1243 a_1244 HE1245 a_1246 HE1247
                refine nrm ?_
                refine cndT HE1249 rfl rfl ?_
                refine wp_seq ?_
                refine rg ?_
                refine pl_x HE1249 HH761 (wt0 rfl) (show XS _ _ _ _ (.agg #[.int .i64 (0), .int .i64 (0), .int .i64 (0), .slice none (0) 0]) from x_build (vs := []) tb_68 rfl (by simp [Value.oneCell'])) rfl rfl fun a_1250 HE1251 => ?_
                refine pl fun K_1252 hK1253 => ?_
                refine st_store (vs := [.int .i64 (0), .int .i64 (0), .int .i64 (0), .slice none (0) 0]) 4 HE1251 HH761 tv_68 rfl rfl rfl rfl rfl rfl (by simp [Value.oneCell']) (wt0 rfl) fun w' HH1254 => hK1253 _ _ ?_
                refine pl_x HE1251 HH1254 (wt0 rfl) (x_assign rfl) rfl rfl fun a_1255 HE1256 => ?_
                refine wpList_nil ?_
                clear a_1248 HE1249 HH761 a_1250 HE1251 hK1253 K_1252
                refine nrm ?_
                refine wp_ret ?_
                refine (thn_ret ?_)
                refine ret2 HE1256 rfl (rv_cell rfl (tv_68.loadN (cs := [.int .i64 (0), .int .i64 (0), .int .i64 (0), .slice none (0) 0]) rfl (c_blkN 4 rfl _ HH1254))) (rv_tmp rfl) ?_
                have HH1257 := HH1254.flatO (E := eMulti) (cs := [.int .i64 (0), .int .i64 (0), .int .i64 (0), .slice none (0) 0]) (x := (0, 0, 0, [])) (fun _ => (oPrN (oI (by exact ⟨by omega, by omega⟩)) (oPrN (oI (by exact ⟨by omega, by omega⟩)) (oPrN (oI (by exact ⟨by omega, by omega⟩)) (oSl (So.nil (Nat.zero_le _)))))))
                have hF : (rdMuI a0) = ((0, 0, 0, []), false) := by
                  rw [← rdMu_eq]; first | exact rdMuS_61 (by omega) | exact rdMuS_3 rfl (by omega) hx0 (by omega) | exact rdMuS_line rfl (by omega) hx0 (lineK_5 (by omega)) | exact rdMuS_ok (by assumption) | (rw [rdMuS_eq rfl (by omega) (by omega) hl0 (by omega) (by assumption) (by omega) hM]; first | (rw [if_pos ⟨by assumption, by assumption⟩]; done) | (exact if_neg (fun hh => ff hh.1 (by assumption))) | (exact if_neg (fun hh => absurd hh.2 (by assumption))))
                exact ⟨_, by first | (rw [hF] <;> rfl) | rfl | (rw [hF]; simp only [Ending.returned.injEq, Value.slice.injEq, true_and, and_true]; first | omega | (simp; done)) | (rw [hF]; simp; omega), by rw [hF]; exact (HH1257.o (i := 0) rfl), HH1257.below⟩
            · have hM := muS_full (s := a0) (j := j) (by omega)
              refine pl_no HE771 (wtF HE771 rfl rfl rfl (decide_eq_false hc111)) rfl rfl fun a_1258 HE1259 => ?_
              refine pl_x HE1259 HH761 (wt0 rfl) (x_pickF rfl (decide_eq_false hc111) rfl) rfl rfl fun a_1260 HE1261 => ?_
              refine wpList_nil ?_
              clear HH139 a_756 HE757 HH758 a_759 HE760 a_762 HE763 a_764 HE765 a_766 HE767 a_768 HE769 a_770 HE771 a_1258 HE1259
              refine nrm ?_
              refine cndF HE1261 rfl rfl ?_
              refine wp_exit ?_
              refine (thn_exit (thn_exit (blk_hit ?_)))
              refine nrm ?_
              refine wp_seq ?_
              refine wp_seq ?_
              refine rg ?_
              refine pl_x HE1261 HH761 (wt0 rfl) (x_move rfl) rfl rfl fun a_1262 HE1263 => ?_
              refine pl_x HE1263 HH761 (wt0 rfl) (x_not rfl) rfl rfl fun a_1264 HE1265 => ?_
              refine pl_x HE1265 HH761 (wt0 rfl) (x_move rfl) rfl rfl fun a_1266 HE1267 => ?_
              rcases Bool.eq_false_or_eq_true ((hdK (splitR 32 ((splitR 10 a0)[0]?.getD [])) && (((splitR 10 a0).drop 1).take j).all lineK)) with hc166 | hc166
              · refine pl fun K_1268 hK1269 => ?_
                refine st_call HE1267 (wtT HE1267 rfl rfl rfl (not_f hc166)) rfl rfl rfl en_95 rfl rfl (spec_l06Is _ _ _ ((muS a0).1, (muS a0).2.1, (muS a0).2.2.1, ((((splitR 10 a0).drop 1).take j).map lineS)) _ (rep_Multi (x := ((muS a0).1, (muS a0).2.1, (muS a0).2.2.1, ((((splitR 10 a0).drop 1).take j).map lineS))) (by first | exact ⟨by omega, by omega⟩ | (dsimp only; exact ⟨by omega, by omega⟩)) (by first | exact ⟨by omega, by omega⟩ | (dsimp only; exact ⟨by omega, by omega⟩)) (by first | exact ⟨by omega, by omega⟩ | (dsimp only; exact ⟨by omega, by omega⟩)) (HH761.vecSl (i := 0) rfl)) (c_blkN 1 rfl _ HH761)) fun e w' hr => ?_
                obtain ⟨rfl, hbr167⟩ := hr
                have HH1270 := HH761.on hbr167
                refine ⟨_, rfl, fun a_1271 HE1272 => hK1269 _ _ ?_⟩
                refine pl_x HE1272 HH1270 (wtT HE1272 rfl rfl rfl (not_f hc166)) (x_not rfl) rfl rfl fun a_1273 HE1274 => ?_
                refine pl_x HE1274 HH1270 (wt0 rfl) (x_pickF rfl (not_f hc166) rfl) rfl rfl fun a_1275 HE1276 => ?_
                refine pl_x HE1276 HH1270 (wt0 rfl) (x_move rfl) rfl rfl fun a_1277 HE1278 => ?_
                rcases Bool.eq_false_or_eq_true ((validMulti ((muS a0).1, (muS a0).2.1, (muS a0).2.2.1, ((((splitR 10 a0).drop 1).take j).map lineS)))) with hc168 | hc168
                · obtain ⟨v0, v1, v2, v3⟩ := validMulti_facts hc168
                  have v4 := validMulti_ok hc168
                  refine pl fun K_1279 hK1280 => ?_
                  refine st_call HE1278 (wtT HE1278 rfl rfl rfl (not_f hc168)) rfl rfl rfl en_96 rfl rfl (spec_l06Text _ _ _ ((muS a0).1, (muS a0).2.1, (muS a0).2.2.1, ((((splitR 10 a0).drop 1).take j).map lineS)) _ (rep_Multi (x := ((muS a0).1, (muS a0).2.1, (muS a0).2.2.1, ((((splitR 10 a0).drop 1).take j).map lineS))) (by first | exact ⟨by omega, by omega⟩ | (dsimp only; exact ⟨by omega, by omega⟩)) (by first | exact ⟨by omega, by omega⟩ | (dsimp only; exact ⟨by omega, by omega⟩)) (by first | exact ⟨by omega, by omega⟩ | (dsimp only; exact ⟨by omega, by omega⟩)) (HH1270.vecSl (i := 0) rfl)) (c_blkN 1 rfl _ HH1270) (by exact ⟨v0, v1, v2⟩) (by omega) (by assumption)) fun e w' hr => ?_
                  obtain ⟨rfl, hbr169⟩ := hr
                  have HH1281 := HH1270.on hbr169
                  refine ⟨_, rfl, fun a_1282 HE1283 => hK1280 _ _ ?_⟩
                  refine pl_x HE1283 HH1281 (wtT HE1283 rfl rfl rfl (not_f hc168)) (x_move rfl) rfl rfl fun a_1284 HE1285 => ?_
                  refine pl_x HE1285 HH1281 (wtT HE1285 rfl rfl rfl (not_f hc168)) (x_sneqB rfl rfl) rfl rfl fun a_1286 HE1287 => ?_
                  refine pl_x HE1287 HH1281 (wt0 rfl) (x_pickF rfl (not_f hc168) rfl) rfl rfl fun a_1288 HE1289 => ?_
                  refine wpList_nil ?_
                  clear a_1260 HE1261 a_1262 HE1263 a_1264 HE1265 HH761 a_1266 HE1267 a_1271 HE1272 a_1273 HE1274 a_1275 HE1276 K_1268 hK1269 HH1270 a_1277 HE1278 a_1282 HE1283 a_1284 HE1285 a_1286 HE1287 hK1280 K_1279
                  refine nrm ?_
                  refine cnd_nd HE1289 rfl (fun hc170 => ?_) (fun hc170 => ?_)
                  · refine wp_seq ?_
                    refine rg ?_
                    refine pl_x HE1289 HH1281 (wt0 rfl) (show XS _ _ _ _ (.agg #[.int .i64 (0), .int .i64 (0), .int .i64 (0), .slice none (0) 0]) from x_build (vs := []) tb_68 rfl (by simp [Value.oneCell'])) rfl rfl fun a_1290 HE1291 => ?_
                    refine pl fun K_1292 hK1293 => ?_
                    refine st_store (vs := [.int .i64 (0), .int .i64 (0), .int .i64 (0), .slice none (0) 0]) 4 HE1291 HH1281 tv_68 rfl rfl rfl rfl rfl rfl (by simp [Value.oneCell']) (wt0 rfl) fun w' HH1294 => hK1293 _ _ ?_
                    refine pl_x HE1291 HH1294 (wt0 rfl) (x_assign rfl) rfl rfl fun a_1295 HE1296 => ?_
                    refine wpList_nil ?_
                    clear a_1288 HE1289 HH1281 a_1290 HE1291 hK1293 K_1292
                    refine nrm ?_
                    refine wp_ret ?_
                    refine (thn_ret ?_)
                    refine ret2 HE1296 rfl (rv_cell rfl (tv_68.loadN (cs := [.int .i64 (0), .int .i64 (0), .int .i64 (0), .slice none (0) 0]) rfl (c_blkN 4 rfl _ HH1294))) (rv_tmp rfl) ?_
                    have HH1297 := HH1294.flatO (E := eMulti) (cs := [.int .i64 (0), .int .i64 (0), .int .i64 (0), .slice none (0) 0]) (x := (0, 0, 0, [])) (fun _ => (oPrN (oI (by exact ⟨by omega, by omega⟩)) (oPrN (oI (by exact ⟨by omega, by omega⟩)) (oPrN (oI (by exact ⟨by omega, by omega⟩)) (oSl (So.nil (Nat.zero_le _)))))))
                    have hF : (rdMuI a0) = ((0, 0, 0, []), false) := by
                      rw [← rdMu_eq]; first | exact rdMuS_61 (by omega) | exact rdMuS_3 rfl (by omega) hx0 (by omega) | exact rdMuS_line rfl (by omega) hx0 (lineK_5 (by omega)) | exact rdMuS_ok (by assumption) | (rw [rdMuS_eq rfl (by omega) (by omega) hl0 (by omega) (by assumption) (by omega) hM]; first | (rw [if_pos ⟨by assumption, by assumption⟩]; done) | (exact if_neg (fun hh => ff hh.1 (by assumption))) | (exact if_neg (fun hh => absurd hh.2 (by assumption))))
                    exact ⟨_, by first | (rw [hF] <;> rfl) | rfl | (rw [hF]; simp only [Ending.returned.injEq, Value.slice.injEq, true_and, and_true]; first | omega | (simp; done)) | (rw [hF]; simp; omega), by rw [hF]; exact (HH1297.o (i := 0) rfl), HH1297.below⟩
                  · refine wp_skip ?_
                    refine nrm ?_
                    refine wp_seq ?_
                    refine rg ?_
                    refine pl_x HE1289 HH1281 (wt0 rfl) (x_loadN (cs := [.int .i64 ((muS a0).1), .int .i64 ((muS a0).2.1), .int .i64 ((muS a0).2.2.1), .slice A_12_3 ((List.length ((((splitR 10 a0).drop 1).take j).map lineS))) c_12_3]) tv_68 rfl rfl (c_blkN 1 rfl)) rfl rfl fun a_1298 HE1299 => ?_
                    refine pl fun K_1300 hK1301 => ?_
                    refine st_store (vs := [.int .i64 ((muS a0).1), .int .i64 ((muS a0).2.1), .int .i64 ((muS a0).2.2.1), .slice A_12_3 ((List.length ((((splitR 10 a0).drop 1).take j).map lineS))) c_12_3]) 4 HE1299 HH1281 tv_68 rfl rfl rfl rfl rfl rfl (by simp [Value.oneCell']) (wt0 rfl) fun w' HH1302 => hK1301 _ _ ?_
                    refine pl_x HE1299 HH1302 (wt0 rfl) (x_assign rfl) rfl rfl fun a_1303 HE1304 => ?_
                    refine wpList_nil ?_
                    clear a_1288 HE1289 HH1281 a_1298 HE1299 hK1301 K_1300
                    refine nrm ?_
                    refine wp_ret ?_
                    refine ret2 HE1304 rfl (rv_cell rfl (tv_68.loadN (cs := [.int .i64 ((muS a0).1), .int .i64 ((muS a0).2.1), .int .i64 ((muS a0).2.2.1), .slice A_12_3 ((List.length ((((splitR 10 a0).drop 1).take j).map lineS))) c_12_3]) rfl (c_blkN 4 rfl _ HH1302))) (rv_tmp rfl) ?_
                    have HH1305 := HH1302.vecSo
                    have HH1306 := HH1305.pairF (E := eInt) (c1 := [.int .i64 ((muS a0).2.2.1)]) (x := (muS a0).2.2.1) (oI (by exact ⟨by omega, by omega⟩))
                    have HH1307 := HH1306.pairF (E := eInt) (c1 := [.int .i64 ((muS a0).2.1)]) (x := (muS a0).2.1) (oI (by exact ⟨by omega, by omega⟩))
                    have HH1308 := HH1307.pairF (E := eInt) (c1 := [.int .i64 ((muS a0).1)]) (x := (muS a0).1) (oI (by exact ⟨by omega, by omega⟩))
                    obtain ⟨S171, HH1309⟩ : ∃ S, Held Nob w (rO eMulti S [.int .i64 ((muS a0).1), .int .i64 ((muS a0).2.1), .int .i64 ((muS a0).2.2.1), .slice A_12_3 ((List.length ((((splitR 10 a0).drop 1).take j).map lineS))) c_12_3] ((muS a0).1, (muS a0).2.1, (muS a0).2.2.1, ((((splitR 10 a0).drop 1).take j).map lineS)) :: _) _ := ⟨_, HH1308⟩
                    have hF : (rdMuI a0) = (((muS a0).1, (muS a0).2.1, (muS a0).2.2.1, ((((splitR 10 a0).drop 1).take j).map lineS)), true) := by
                      rw [← rdMu_eq]; first | exact rdMuS_61 (by omega) | exact rdMuS_3 rfl (by omega) hx0 (by omega) | exact rdMuS_line rfl (by omega) hx0 (lineK_5 (by omega)) | exact rdMuS_ok (by assumption) | (rw [rdMuS_eq rfl (by omega) (by omega) hl0 (by omega) (by assumption) (by omega) hM]; first | (rw [if_pos ⟨by assumption, by assumption⟩]; done) | (exact if_neg (fun hh => ff hh.1 (by assumption))) | (exact if_neg (fun hh => absurd hh.2 (by assumption))))
                    exact ⟨_, by first | (rw [hF] <;> rfl) | rfl | (rw [hF]; simp only [Ending.returned.injEq, Value.slice.injEq, true_and, and_true]; first | omega | (simp; done)) | (rw [hF]; simp; omega), by rw [hF]; exact (HH1309.o (i := 0) rfl), HH1309.below⟩
                · refine pl_no HE1278 (wtF HE1278 rfl rfl rfl (not_t hc168)) rfl rfl fun a_1310 HE1311 => ?_
                  refine pl_no HE1311 (wtF HE1311 rfl rfl rfl (not_t hc168)) rfl rfl fun a_1312 HE1313 => ?_
                  refine pl_no HE1313 (wtF HE1313 rfl rfl rfl (not_t hc168)) rfl rfl fun a_1314 HE1315 => ?_
                  refine pl_x HE1315 HH1270 (wt0 rfl) (x_pickT rfl (not_t hc168) rfl) rfl rfl fun a_1316 HE1317 => ?_
                  refine wpList_nil ?_
                  clear a_1260 HE1261 a_1262 HE1263 a_1264 HE1265 HH761 a_1266 HE1267 a_1271 HE1272 a_1273 HE1274 a_1275 HE1276 a_1277 HE1278 a_1310 HE1311 a_1312 HE1313 a_1314 HE1315 hK1269 K_1268
                  refine nrm ?_
                  refine cndT HE1317 rfl rfl ?_
                  refine wp_seq ?_
                  refine rg ?_
                  refine pl_x HE1317 HH1270 (wt0 rfl) (show XS _ _ _ _ (.agg #[.int .i64 (0), .int .i64 (0), .int .i64 (0), .slice none (0) 0]) from x_build (vs := []) tb_68 rfl (by simp [Value.oneCell'])) rfl rfl fun a_1318 HE1319 => ?_
                  refine pl fun K_1320 hK1321 => ?_
                  refine st_store (vs := [.int .i64 (0), .int .i64 (0), .int .i64 (0), .slice none (0) 0]) 4 HE1319 HH1270 tv_68 rfl rfl rfl rfl rfl rfl (by simp [Value.oneCell']) (wt0 rfl) fun w' HH1322 => hK1321 _ _ ?_
                  refine pl_x HE1319 HH1322 (wt0 rfl) (x_assign rfl) rfl rfl fun a_1323 HE1324 => ?_
                  refine wpList_nil ?_
                  clear a_1316 HE1317 HH1270 a_1318 HE1319 hK1321 K_1320
                  refine nrm ?_
                  refine wp_ret ?_
                  refine (thn_ret ?_)
                  refine ret2 HE1324 rfl (rv_cell rfl (tv_68.loadN (cs := [.int .i64 (0), .int .i64 (0), .int .i64 (0), .slice none (0) 0]) rfl (c_blkN 4 rfl _ HH1322))) (rv_tmp rfl) ?_
                  have HH1325 := HH1322.flatO (E := eMulti) (cs := [.int .i64 (0), .int .i64 (0), .int .i64 (0), .slice none (0) 0]) (x := (0, 0, 0, [])) (fun _ => (oPrN (oI (by exact ⟨by omega, by omega⟩)) (oPrN (oI (by exact ⟨by omega, by omega⟩)) (oPrN (oI (by exact ⟨by omega, by omega⟩)) (oSl (So.nil (Nat.zero_le _)))))))
                  have hF : (rdMuI a0) = ((0, 0, 0, []), false) := by
                    rw [← rdMu_eq]; first | exact rdMuS_61 (by omega) | exact rdMuS_3 rfl (by omega) hx0 (by omega) | exact rdMuS_line rfl (by omega) hx0 (lineK_5 (by omega)) | exact rdMuS_ok (by assumption) | (rw [rdMuS_eq rfl (by omega) (by omega) hl0 (by omega) (by assumption) (by omega) hM]; first | (rw [if_pos ⟨by assumption, by assumption⟩]; done) | (exact if_neg (fun hh => ff hh.1 (by assumption))) | (exact if_neg (fun hh => absurd hh.2 (by assumption))))
                  exact ⟨_, by first | (rw [hF] <;> rfl) | rfl | (rw [hF]; simp only [Ending.returned.injEq, Value.slice.injEq, true_and, and_true]; first | omega | (simp; done)) | (rw [hF]; simp; omega), by rw [hF]; exact (HH1325.o (i := 0) rfl), HH1325.below⟩
              · refine pl_no HE1267 (wtF HE1267 rfl rfl rfl (not_t hc166)) rfl rfl fun a_1326 HE1327 => ?_
                refine pl_no HE1327 (wtF HE1327 rfl rfl rfl (not_t hc166)) rfl rfl fun a_1328 HE1329 => ?_
                refine pl_x HE1329 HH761 (wt0 rfl) (x_pickT rfl (not_t hc166) rfl) rfl rfl fun a_1330 HE1331 => ?_
                refine pl_x HE1331 HH761 (wt0 rfl) (x_move rfl) rfl rfl fun a_1332 HE1333 => ?_
                refine pl_no HE1333 (wtF HE1333 rfl rfl rfl rfl) rfl rfl fun a_1334 HE1335 => ?_
                refine pl_no HE1335 (wtF HE1335 rfl rfl rfl rfl) rfl rfl fun a_1336 HE1337 => ?_
                refine pl_no HE1337 (wtF HE1337 rfl rfl rfl rfl) rfl rfl fun a_1338 HE1339 => ?_
                refine pl_x HE1339 HH761 (wt0 rfl) (x_pickT rfl rfl rfl) rfl rfl fun a_1340 HE1341 => ?_
                refine wpList_nil ?_
                clear a_1260 HE1261 a_1262 HE1263 a_1264 HE1265 a_1266 HE1267 a_1326 HE1327 a_1328 HE1329 a_1330 HE1331 a_1332 HE1333 a_1334 HE1335 a_1336 HE1337 a_1338 HE1339
                refine nrm ?_
                refine cndT HE1341 rfl rfl ?_
                refine wp_seq ?_
                refine rg ?_
                refine pl_x HE1341 HH761 (wt0 rfl) (show XS _ _ _ _ (.agg #[.int .i64 (0), .int .i64 (0), .int .i64 (0), .slice none (0) 0]) from x_build (vs := []) tb_68 rfl (by simp [Value.oneCell'])) rfl rfl fun a_1342 HE1343 => ?_
                refine pl fun K_1344 hK1345 => ?_
                refine st_store (vs := [.int .i64 (0), .int .i64 (0), .int .i64 (0), .slice none (0) 0]) 4 HE1343 HH761 tv_68 rfl rfl rfl rfl rfl rfl (by simp [Value.oneCell']) (wt0 rfl) fun w' HH1346 => hK1345 _ _ ?_
                refine pl_x HE1343 HH1346 (wt0 rfl) (x_assign rfl) rfl rfl fun a_1347 HE1348 => ?_
                refine wpList_nil ?_
                clear a_1340 HE1341 HH761 a_1342 HE1343 hK1345 K_1344
                refine nrm ?_
                refine wp_ret ?_
                refine (thn_ret ?_)
                refine ret2 HE1348 rfl (rv_cell rfl (tv_68.loadN (cs := [.int .i64 (0), .int .i64 (0), .int .i64 (0), .slice none (0) 0]) rfl (c_blkN 4 rfl _ HH1346))) (rv_tmp rfl) ?_
                have HH1349 := HH1346.flatO (E := eMulti) (cs := [.int .i64 (0), .int .i64 (0), .int .i64 (0), .slice none (0) 0]) (x := (0, 0, 0, [])) (fun _ => (oPrN (oI (by exact ⟨by omega, by omega⟩)) (oPrN (oI (by exact ⟨by omega, by omega⟩)) (oPrN (oI (by exact ⟨by omega, by omega⟩)) (oSl (So.nil (Nat.zero_le _)))))))
                have hF : (rdMuI a0) = ((0, 0, 0, []), false) := by
                  rw [← rdMu_eq]; first | exact rdMuS_61 (by omega) | exact rdMuS_3 rfl (by omega) hx0 (by omega) | exact rdMuS_line rfl (by omega) hx0 (lineK_5 (by omega)) | exact rdMuS_ok (by assumption) | (rw [rdMuS_eq rfl (by omega) (by omega) hl0 (by omega) (by assumption) (by omega) hM]; first | (rw [if_pos ⟨by assumption, by assumption⟩]; done) | (exact if_neg (fun hh => ff hh.1 (by assumption))) | (exact if_neg (fun hh => absurd hh.2 (by assumption))))
                exact ⟨_, by first | (rw [hF] <;> rfl) | rfl | (rw [hF]; simp only [Ending.returned.injEq, Value.slice.injEq, true_and, and_true]; first | omega | (simp; done)) | (rw [hF]; simp; omega), by rw [hF]; exact (HH1349.o (i := 0) rfl), HH1349.below⟩
      · refine pl_no HE143 (wtF HE143 rfl rfl rfl hc38) rfl rfl fun a_1350 HE1351 => ?_
        refine pl_x HE1351 HH139 (wt0 rfl) (x_pickF rfl hc38 rfl) rfl rfl fun a_1352 HE1353 => ?_
        refine pl_x HE1353 HH139 (wt0 rfl) (x_move rfl) rfl rfl fun a_1354 HE1355 => ?_
        refine pl_no HE1355 (wtF HE1355 rfl rfl rfl rfl) rfl rfl fun a_1356 HE1357 => ?_
        refine pl_x HE1357 HH139 (wt0 rfl) (x_pickF rfl rfl rfl) rfl rfl fun a_1358 HE1359 => ?_
        refine pl_x HE1359 HH139 (wt0 rfl) (x_assign rfl) rfl rfl fun a_1360 HE1361 => ?_
        refine wpList_nil ?_
        clear a_134 HE135 a_140 HE141 a_142 HE143 a_1350 HE1351 a_1352 HE1353 a_1354 HE1355 a_1356 HE1357 a_1358 HE1359
        refine nrm ?_
        refine wp_seq ?_
        refine wp_seq ?_
        refine rg ?_
        refine pl_x HE1361 HH139 (wt0 rfl) (x_assign rfl) rfl rfl fun a_1362 HE1363 => ?_
        refine wpList_nil ?_
        clear a_1360 HE1361
        refine nrm ?_
        refine wp_block ?_
        obtain ⟨hH0, hH1, hH2, hH3⟩ := muS_head rfl (by omega) hx0 rfl (by omega) hz0 hz1 hz2
        have hl0 := hx0
        have HH1364 := HH139.vecNil eMultiRule 123
        refine lp (fun m a w' => ∃ (j : Nat) (A_12_3 : Option Addr) (c_12_3 : Nat) (S_12_3 : Nat → Prop), m = List.length (splitR 10 a0) - 1 - j ∧ Env 162 [(13, .bool (hdK (splitR 32 ((splitR 10 a0)[0]?.getD [])) && (((splitR 10 a0).drop 1).take j).all lineK)), (14, .int .i64 ((j : Int) + 1)), (0, .string (bs a0)), (2, .pointer (some ⟨q21, 0, none⟩)), (4, .slice (some ⟨be24, fe24, none⟩) ((splitR 10 a0).length) cr22_0), (12, .pointer (some ⟨q37, 0, none⟩))] a ∧ Held Nob w [rVec eMultiRule 123 S_12_3 A_12_3 c_12_3 ((((splitR 10 a0).drop 1).take j).map lineS), rBlk q37 68 [.int .i64 (muS a0).1, .int .i64 (muS a0).2.1, .int .i64 (muS a0).2.2.1, .slice A_12_3 (List.length ((((splitR 10 a0).drop 1).take j).map lineS)) c_12_3], rSo eTxt Sr26 (some ⟨be28, fe28, none⟩) cr26_0 (splitR 32 y25), rSo eTxt Sr22 (some ⟨be24, fe24, none⟩) cr22_0 (splitR 10 a0), rBlk q21 68 [.int .i64 (0), .int .i64 (0), .int .i64 (0), .slice none (0) 0]] w' ∧ (j + 1 ≤ List.length (splitR 10 a0))) (List.length (splitR 10 a0) - 1 - (0)) ?_ ?_
        · have E172 : ((((splitR 10 a0).drop 1).take 0).map lineS) = [] := by
            simp
          have E173 : (muS a0).1 = (numC y29).1 := by exact hH1
          have E174 : (muS a0).2.1 = (numC y32).1 := by exact hH2
          have E175 : (muS a0).2.2.1 = (numC y35).1 := by exact hH3
          exact ⟨0, none, 0, Nob, rfl, HE1363.sub ⟨(lkB rfl (by rw [hH0]; first | grind | simp [hc23, hc27, hc38])), (lkI rfl (by rfl)), rfl, rfl, rfl, rfl, trivial⟩, ((HH1364.sel [0, 1, 2, 3, 4] (by decide) rfl).to (by first | rfl | (rw [E172, E173, E174, E175]; done) | (rw [E172, E173, E174, E175]; rfl) | (simp only [E172, E173, E174, E175]; done) | (simp only [E172, E173, E174, E175]; rfl) | (rw [E172, E173, E174, E175]; simp only [List.length_set]; done))), (by first | omega | assumption | (simp; done) | simp_all)⟩
        · rintro m a_1365 w' ⟨j, A_12_3, c_12_3, S_12_3, rfl, HE1366, HH1367, p176_0⟩
          have hn0 : ((((splitR 10 a0).drop 1).take j).map lineS).length ≤ 61 := by rw [List.length_map, List.length_take]; omega
          refine wp_seq ?_
          refine wp_seq ?_
          refine rg ?_
          refine pl_x HE1366 HH1367 (wt0 rfl) (x_move rfl) rfl rfl fun a_1368 HE1369 => ?_
          refine pl_x HE1369 HH1367 (wt0 rfl) (x_move rfl) rfl rfl fun a_1370 HE1371 => ?_
          refine pl_x HE1371 HH1367 (wt0 rfl) (x_len Tryz.underlying78 rfl) rfl rfl fun a_1372 HE1373 => ?_
          refine pl_x HE1373 HH1367 (wt0 rfl) (x_lss rfl rfl) rfl rfl fun a_1374 HE1375 => ?_
          refine pl_x HE1375 HH1367 (wt0 rfl) (x_move rfl) rfl rfl fun a_1376 HE1377 => ?_
          by_cases hc177 : ((j : Int) + 1) < ((splitR 10 a0).length : Int)
          · refine pl_x HE1377 HH1367 (wtT HE1377 rfl rfl rfl (decide_eq_true hc177)) (x_move rfl) rfl rfl fun a_1378 HE1379 => ?_
            refine pl_x HE1379 HH1367 (wt0 rfl) (x_pickT rfl (decide_eq_true hc177) rfl) rfl rfl fun a_1380 HE1381 => ?_
            refine wpList_nil ?_
            clear HH139 a_1362 HE1363 HH1364 a_1365 HE1366 a_1368 HE1369 a_1370 HE1371 a_1372 HE1373 a_1374 HE1375 a_1376 HE1377 a_1378 HE1379
            refine nrm ?_
            refine cnd_b HE1381 rfl (fun hc178 => ?_) (fun hc178 => ?_)
            · refine wp_skip ?_
              refine nrm ?_
              refine wp_seq ?_
              refine wp_block ?_
              refine wp_seq ?_
              refine rg ?_
              refine pl_x HE1381 HH1367 (wt0 rfl) (x_move rfl) rfl rfl fun a_1382 HE1383 => ?_
              refine pl_x HE1383 HH1367 (wt0 rfl) (x_move rfl) rfl rfl fun a_1384 HE1385 => ?_
              have ke179 : (j + 1) < (splitR 10 a0).length := by omega
              refine pl_x HE1385 HH1367 (wt0 rfl) (x_indexAddr ts_78 rfl rfl rfl (by omega) ke179) rfl rfl fun a_1386 HE1387 => ?_
              obtain ⟨y180, xy180⟩ : ∃ y_, y_ = (splitR 10 a0)[(j + 1)]'(by first | exact ke179 | (simp only [List.length_set]; exact ke179) | omega | (simp only [List.length_set]; omega) | (simp; omega)) := ⟨_, rfl⟩
              have jy180 : List.length y180 ≤ 9223372036854775807 := by rw [xy180]; exact i_ownS HH1367 3 rfl _
              have hx0 := xy180
              have hpy180 := splitR_piece 10 a0 y180 (by rw [xy180]; exact List.getElem_mem _)
              refine pl_x HE1387 HH1367 (wt0 rfl) (x_load1 tv_9 rfl (c_ownS 3 rfl (by first | exact ke179 | (simp only [List.length_set]; exact ke179) | omega | (simp only [List.length_set]; omega) | (simp; omega)) xy180.symm)) rfl rfl fun a_1388 HE1389 => ?_
              refine pl fun K_1390 hK1391 => ?_
              refine st_call HE1389 (wt0 rfl) rfl rfl rfl en_63 rfl rfl (spec_l01Split y180 _ 32 _ (by omega) (by rfl)) fun e w' hr => ?_
              have hAr181_0 := splitR_len 32 y180
              have hAr181_1 := splitR_piece 32 y180
              obtain ⟨Ar181_0, cr181_0, rfl, hor181_0, hbr181⟩ := hr
              obtain ⟨Sr181, HH1392⟩ := HH1367.newS hbr181 hor181_0
              refine ⟨_, rfl, fun a_1393 HE1394 => hK1391 _ _ ?_⟩
              refine pl_x HE1394 HH1392 (wt0 rfl) (x_assign rfl) rfl rfl fun a_1395 HE1396 => ?_
              refine wpList_nil ?_
              clear a_1380 HE1381 a_1382 HE1383 a_1384 HE1385 a_1386 HE1387 HH1367 a_1388 HE1389 a_1393 HE1394 hK1391 K_1390
              refine nrm ?_
              refine wp_seq ?_
              refine wp_seq ?_
              refine rg ?_
              refine pl_x HE1396 HH1392 (wt0 rfl) (x_move rfl) rfl rfl fun a_1397 HE1398 => ?_
              refine pl_x HE1398 HH1392 (wt0 rfl) (x_len Tryz.underlying78 rfl) rfl rfl fun a_1399 HE1400 => ?_
              refine pl_x HE1400 HH1392 (wt0 rfl) (x_neq rfl rfl) rfl rfl fun a_1401 HE1402 => ?_
              refine wpList_nil ?_
              clear a_1395 HE1396 a_1397 HE1398 a_1399 HE1400
              refine nrm ?_
              refine cnd_ne HE1402 rfl (fun hc182 => ?_) (fun hc182 => ?_)
              · refine wp_seq ?_
                refine rg ?_
                refine pl_x HE1402 HH1392 (wt0 rfl) (show XS _ _ _ _ (.agg #[.int .i64 (0), .int .i64 (0), .int .i64 (0), .slice none (0) 0]) from x_build (vs := []) tb_68 rfl (by simp [Value.oneCell'])) rfl rfl fun a_1403 HE1404 => ?_
                refine pl fun K_1405 hK1406 => ?_
                refine st_store (vs := [.int .i64 (0), .int .i64 (0), .int .i64 (0), .slice none (0) 0]) 5 HE1404 HH1392 tv_68 rfl rfl rfl rfl rfl rfl (by simp [Value.oneCell']) (wt0 rfl) fun w' HH1407 => hK1406 _ _ ?_
                refine pl_x HE1404 HH1407 (wt0 rfl) (x_assign rfl) rfl rfl fun a_1408 HE1409 => ?_
                refine wpList_nil ?_
                clear a_1401 HE1402 HH1392 a_1403 HE1404 hK1406 K_1405
                refine nrm ?_
                refine wp_ret ?_
                refine (thn_ret (blk_ret (thn_ret (thn_ret (blk_ret (thn_ret ?_))))))
                refine ret2 HE1409 rfl (rv_cell rfl (tv_68.loadN (cs := [.int .i64 (0), .int .i64 (0), .int .i64 (0), .slice none (0) 0]) rfl (c_blkN 5 rfl _ HH1407))) (rv_tmp rfl) ?_
                have HH1410 := HH1407.flatO (E := eMulti) (cs := [.int .i64 (0), .int .i64 (0), .int .i64 (0), .slice none (0) 0]) (x := (0, 0, 0, [])) (fun _ => (oPrN (oI (by exact ⟨by omega, by omega⟩)) (oPrN (oI (by exact ⟨by omega, by omega⟩)) (oPrN (oI (by exact ⟨by omega, by omega⟩)) (oSl (So.nil (Nat.zero_le _)))))))
                have hF : (rdMuI a0) = ((0, 0, 0, []), false) := by
                  rw [← rdMu_eq]; first | exact rdMuS_61 (by omega) | exact rdMuS_3 rfl (by omega) hx0 (by omega) | exact rdMuS_line rfl (by omega) hx0 (lineK_5 (by omega)) | exact rdMuS_ok (by assumption) | (rw [rdMuS_eq rfl (by omega) (by omega) hl0 (by omega) (by assumption) (by omega) hM]; first | (rw [if_pos ⟨by assumption, by assumption⟩]; done) | (exact if_neg (fun hh => ff hh.1 (by assumption))) | (exact if_neg (fun hh => absurd hh.2 (by assumption))))
                exact ⟨_, by first | (rw [hF] <;> rfl) | rfl | (rw [hF]; simp only [Ending.returned.injEq, Value.slice.injEq, true_and, and_true]; first | omega | (simp; done)) | (rw [hF]; simp; omega), by rw [hF]; exact (HH1410.o (i := 0) rfl), HH1410.below⟩
              · refine wp_skip ?_
                refine nrm ?_
                refine wp_seq ?_
                refine rg ?_
                refine pl_x HE1402 HH1392 (wt0 rfl) (x_move rfl) rfl rfl fun a_1411 HE1412 => ?_
                have ke183 : 0 < (splitR 32 y180).length := by omega
                obtain ⟨be183, fe183, rfl⟩ := el_own HH1392 (i := 0) rfl ke183
                refine pl_x HE1412 HH1392 (wt0 rfl) (x_indexAddr ts_78 rfl rfl rfl rfl ke183) rfl rfl fun a_1413 HE1414 => ?_
                obtain ⟨y184, xy184⟩ : ∃ y_, y_ = (splitR 32 y180)[0]'(by first | exact ke183 | (simp only [List.length_set]; exact ke183) | omega | (simp only [List.length_set]; omega) | (simp; omega)) := ⟨_, rfl⟩
                have jy184 : List.length y184 ≤ 9223372036854775807 := by rw [xy184]; exact i_ownS HH1392 0 rfl _
                have hz0 := xy184
                have hpy184 := splitR_piece 32 _ y184 (by rw [xy184]; exact List.getElem_mem _)
                refine pl_x HE1414 HH1392 (wt0 rfl) (x_load1 tv_9 rfl (c_ownS 0 rfl (by first | exact ke183 | (simp only [List.length_set]; exact ke183) | omega | (simp only [List.length_set]; omega) | (simp; omega)) xy184.symm)) rfl rfl fun a_1415 HE1416 => ?_
                refine pl fun K_1417 hK1418 => ?_
                refine st_call HE1416 (wt0 rfl) rfl rfl rfl en_65 rfl rfl (spec_l01Number y184 _ (by omega)) fun e w' hr => ?_
                have hAr185_0 := numC_bd y184
                obtain ⟨rfl, hbr185⟩ := hr
                have HH1419 := HH1392.on hbr185
                refine ⟨_, rfl, fun a_1420 HE1421 => hK1418 _ _ ?_⟩
                refine pl_x HE1421 HH1419 (wt0 rfl) (x_move rfl) rfl rfl fun a_1422 HE1423 => ?_
                refine pl_x HE1423 HH1419 (wt0 rfl) (x_extract rfl rfl) rfl rfl fun a_1424 HE1425 => ?_
                refine pl_x HE1425 HH1419 (wt0 rfl) (x_extract rfl rfl) rfl rfl fun a_1426 HE1427 => ?_
                refine pl_x HE1427 HH1419 (wt0 rfl) (x_assign rfl) rfl rfl fun a_1428 HE1429 => ?_
                refine pl_x HE1429 HH1419 (wt0 rfl) (x_assign rfl) rfl rfl fun a_1430 HE1431 => ?_
                refine wpList_nil ?_
                clear a_1401 HE1402 a_1411 HE1412 a_1413 HE1414 HH1392 a_1415 HE1416 a_1420 HE1421 a_1422 HE1423 a_1424 HE1425 a_1426 HE1427 a_1428 HE1429 hK1418 K_1417
                refine nrm ?_
                refine wp_seq ?_
                refine rg ?_
                refine pl_x HE1431 HH1419 (wt0 rfl) (x_move rfl) rfl rfl fun a_1432 HE1433 => ?_
                have ke186 : 1 < (splitR 32 y180).length := by omega
                refine pl_x HE1433 HH1419 (wt0 rfl) (x_indexAddr ts_78 rfl rfl rfl rfl ke186) rfl rfl fun a_1434 HE1435 => ?_
                obtain ⟨y187, xy187⟩ : ∃ y_, y_ = (splitR 32 y180)[1]'(by first | exact ke186 | (simp only [List.length_set]; exact ke186) | omega | (simp only [List.length_set]; omega) | (simp; omega)) := ⟨_, rfl⟩
                have jy187 : List.length y187 ≤ 9223372036854775807 := by rw [xy187]; exact i_ownS HH1419 0 rfl _
                have hz1 := xy187
                have hpy187 := splitR_piece 32 _ y187 (by rw [xy187]; exact List.getElem_mem _)
                refine pl_x HE1435 HH1419 (wt0 rfl) (x_load1 tv_9 rfl (c_ownS 0 rfl (by first | exact ke186 | (simp only [List.length_set]; exact ke186) | omega | (simp only [List.length_set]; omega) | (simp; omega)) xy187.symm)) rfl rfl fun a_1436 HE1437 => ?_
                refine pl fun K_1438 hK1439 => ?_
                refine st_call HE1437 (wt0 rfl) rfl rfl rfl en_93 rfl rfl (spec_l06ReadDigits y187 _ (by omega)) fun e w' hr => ?_
                have hAr188_0 := l06D_len y187
                obtain ⟨Ar188_0, cr188_0, rfl, hor188_0, hbr188⟩ := hr
                obtain ⟨Sr188, HH1440⟩ := HH1419.newS hbr188 hor188_0
                refine ⟨_, rfl, fun a_1441 HE1442 => hK1439 _ _ ?_⟩
                refine pl_x HE1442 HH1440 (wt0 rfl) (x_move rfl) rfl rfl fun a_1443 HE1444 => ?_
                refine pl_x HE1444 HH1440 (wt0 rfl) (x_extract rfl rfl) rfl rfl fun a_1445 HE1446 => ?_
                refine pl_x HE1446 HH1440 (wt0 rfl) (x_extract rfl rfl) rfl rfl fun a_1447 HE1448 => ?_
                refine pl_x HE1448 HH1440 (wt0 rfl) (x_assign rfl) rfl rfl fun a_1449 HE1450 => ?_
                refine pl_x HE1450 HH1440 (wt0 rfl) (x_assign rfl) rfl rfl fun a_1451 HE1452 => ?_
                refine wpList_nil ?_
                clear a_1430 HE1431 a_1432 HE1433 a_1434 HE1435 HH1419 a_1436 HE1437 a_1441 HE1442 a_1443 HE1444 a_1445 HE1446 a_1447 HE1448 a_1449 HE1450 hK1439 K_1438
                refine nrm ?_
                refine wp_seq ?_
                refine rg ?_
                refine pl_x HE1452 HH1440 (wt0 rfl) (x_move rfl) rfl rfl fun a_1453 HE1454 => ?_
                have ke189 : 2 < (splitR 32 y180).length := by omega
                refine pl_x HE1454 HH1440 (wt0 rfl) (x_indexAddr ts_78 rfl rfl rfl rfl ke189) rfl rfl fun a_1455 HE1456 => ?_
                obtain ⟨y190, xy190⟩ : ∃ y_, y_ = (splitR 32 y180)[2]'(by first | exact ke189 | (simp only [List.length_set]; exact ke189) | omega | (simp only [List.length_set]; omega) | (simp; omega)) := ⟨_, rfl⟩
                have jy190 : List.length y190 ≤ 9223372036854775807 := by rw [xy190]; exact i_ownS HH1440 1 rfl _
                have hz2 := xy190
                have hpy190 := splitR_piece 32 _ y190 (by rw [xy190]; exact List.getElem_mem _)
                refine pl_x HE1456 HH1440 (wt0 rfl) (x_load1 tv_9 rfl (c_ownS 1 rfl (by first | exact ke189 | (simp only [List.length_set]; exact ke189) | omega | (simp only [List.length_set]; omega) | (simp; omega)) xy190.symm)) rfl rfl fun a_1457 HE1458 => ?_
                refine pl fun K_1459 hK1460 => ?_
                refine st_call HE1458 (wt0 rfl) rfl rfl rfl en_93 rfl rfl (spec_l06ReadDigits y190 _ (by omega)) fun e w' hr => ?_
                have hAr191_0 := l06D_len y190
                obtain ⟨Ar191_0, cr191_0, rfl, hor191_0, hbr191⟩ := hr
                obtain ⟨Sr191, HH1461⟩ := HH1440.newS hbr191 hor191_0
                refine ⟨_, rfl, fun a_1462 HE1463 => hK1460 _ _ ?_⟩
                refine pl_x HE1463 HH1461 (wt0 rfl) (x_move rfl) rfl rfl fun a_1464 HE1465 => ?_
                refine pl_x HE1465 HH1461 (wt0 rfl) (x_extract rfl rfl) rfl rfl fun a_1466 HE1467 => ?_
                refine pl_x HE1467 HH1461 (wt0 rfl) (x_extract rfl rfl) rfl rfl fun a_1468 HE1469 => ?_
                refine pl_x HE1469 HH1461 (wt0 rfl) (x_assign rfl) rfl rfl fun a_1470 HE1471 => ?_
                refine pl_x HE1471 HH1461 (wt0 rfl) (x_assign rfl) rfl rfl fun a_1472 HE1473 => ?_
                refine wpList_nil ?_
                clear a_1451 HE1452 a_1453 HE1454 a_1455 HE1456 HH1440 a_1457 HE1458 a_1462 HE1463 a_1464 HE1465 a_1466 HE1467 a_1468 HE1469 a_1470 HE1471 hK1460 K_1459
                refine nrm ?_
                refine wp_seq ?_
                refine rg ?_
                refine pl_x HE1473 HH1461 (wt0 rfl) (x_move rfl) rfl rfl fun a_1474 HE1475 => ?_
                have ke192 : 3 < (splitR 32 y180).length := by omega
                refine pl_x HE1475 HH1461 (wt0 rfl) (x_indexAddr ts_78 rfl rfl rfl rfl ke192) rfl rfl fun a_1476 HE1477 => ?_
                obtain ⟨y193, xy193⟩ : ∃ y_, y_ = (splitR 32 y180)[3]'(by first | exact ke192 | (simp only [List.length_set]; exact ke192) | omega | (simp only [List.length_set]; omega) | (simp; omega)) := ⟨_, rfl⟩
                have jy193 : List.length y193 ≤ 9223372036854775807 := by rw [xy193]; exact i_ownS HH1461 2 rfl _
                have hz3 := xy193
                have hpy193 := splitR_piece 32 _ y193 (by rw [xy193]; exact List.getElem_mem _)
                refine pl_x HE1477 HH1461 (wt0 rfl) (x_load1 tv_9 rfl (c_ownS 2 rfl (by first | exact ke192 | (simp only [List.length_set]; exact ke192) | omega | (simp only [List.length_set]; omega) | (simp; omega)) xy193.symm)) rfl rfl fun a_1478 HE1479 => ?_
                refine pl fun K_1480 hK1481 => ?_
                refine st_call HE1479 (wt0 rfl) rfl rfl rfl en_94 rfl rfl (spec_l06ReadMoves y193 _ (by omega)) fun e w' hr => ?_
                have hAr194_0 := movS_len y193
                obtain ⟨Ar194_0, cr194_0, rfl, hor194_0, hbr194⟩ := hr
                obtain ⟨Sr194, HH1482⟩ := HH1461.newS hbr194 hor194_0
                refine ⟨_, rfl, fun a_1483 HE1484 => hK1481 _ _ ?_⟩
                refine pl_x HE1484 HH1482 (wt0 rfl) (x_move rfl) rfl rfl fun a_1485 HE1486 => ?_
                refine pl_x HE1486 HH1482 (wt0 rfl) (x_extract rfl rfl) rfl rfl fun a_1487 HE1488 => ?_
                refine pl_x HE1488 HH1482 (wt0 rfl) (x_extract rfl rfl) rfl rfl fun a_1489 HE1490 => ?_
                refine pl_x HE1490 HH1482 (wt0 rfl) (x_assign rfl) rfl rfl fun a_1491 HE1492 => ?_
                refine pl_x HE1492 HH1482 (wt0 rfl) (x_assign rfl) rfl rfl fun a_1493 HE1494 => ?_
                refine wpList_nil ?_
                clear a_1472 HE1473 a_1474 HE1475 a_1476 HE1477 HH1461 a_1478 HE1479 a_1483 HE1484 a_1485 HE1486 a_1487 HE1488 a_1489 HE1490 a_1491 HE1492 hK1481 K_1480
                refine nrm ?_
                refine wp_seq ?_
                refine rg ?_
                refine pl_x HE1494 HH1482 (wt0 rfl) (x_move rfl) rfl rfl fun a_1495 HE1496 => ?_
                have ke195 : 4 < (splitR 32 y180).length := by omega
                refine pl_x HE1496 HH1482 (wt0 rfl) (x_indexAddr ts_78 rfl rfl rfl rfl ke195) rfl rfl fun a_1497 HE1498 => ?_
                obtain ⟨y196, xy196⟩ : ∃ y_, y_ = (splitR 32 y180)[4]'(by first | exact ke195 | (simp only [List.length_set]; exact ke195) | omega | (simp only [List.length_set]; omega) | (simp; omega)) := ⟨_, rfl⟩
                have jy196 : List.length y196 ≤ 9223372036854775807 := by rw [xy196]; exact i_ownS HH1482 3 rfl _
                have hz4 := xy196
                have hpy196 := splitR_piece 32 _ y196 (by rw [xy196]; exact List.getElem_mem _)
                refine pl_x HE1498 HH1482 (wt0 rfl) (x_load1 tv_9 rfl (c_ownS 3 rfl (by first | exact ke195 | (simp only [List.length_set]; exact ke195) | omega | (simp only [List.length_set]; omega) | (simp; omega)) xy196.symm)) rfl rfl fun a_1499 HE1500 => ?_
                refine pl fun K_1501 hK1502 => ?_
                refine st_call HE1500 (wt0 rfl) rfl rfl rfl en_65 rfl rfl (spec_l01Number y196 _ (by omega)) fun e w' hr => ?_
                have hAr197_0 := numC_bd y196
                obtain ⟨rfl, hbr197⟩ := hr
                have HH1503 := HH1482.on hbr197
                refine ⟨_, rfl, fun a_1504 HE1505 => hK1502 _ _ ?_⟩
                refine pl_x HE1505 HH1503 (wt0 rfl) (x_move rfl) rfl rfl fun a_1506 HE1507 => ?_
                refine pl_x HE1507 HH1503 (wt0 rfl) (x_extract rfl rfl) rfl rfl fun a_1508 HE1509 => ?_
                refine pl_x HE1509 HH1503 (wt0 rfl) (x_extract rfl rfl) rfl rfl fun a_1510 HE1511 => ?_
                refine pl_x HE1511 HH1503 (wt0 rfl) (x_assign rfl) rfl rfl fun a_1512 HE1513 => ?_
                refine pl_x HE1513 HH1503 (wt0 rfl) (x_assign rfl) rfl rfl fun a_1514 HE1515 => ?_
                refine wpList_nil ?_
                clear a_1493 HE1494 a_1495 HE1496 a_1497 HE1498 HH1482 a_1499 HE1500 a_1504 HE1505 a_1506 HE1507 a_1508 HE1509 a_1510 HE1511 a_1512 HE1513 hK1502 K_1501
                refine nrm ?_
                refine wp_seq ?_
                refine rg ?_
                refine pl_x HE1515 HH1503 (wt0 rfl) (x_move rfl) rfl rfl fun a_1516 HE1517 => ?_
                refine pl_x HE1517 HH1503 (wt0 rfl) (x_move rfl) rfl rfl fun a_1518 HE1519 => ?_
                rcases Bool.eq_false_or_eq_true ((numC y184).2) with hc198 | hc198
                · refine pl_x HE1519 HH1503 (wtT HE1519 rfl rfl rfl hc198) (x_move rfl) rfl rfl fun a_1520 HE1521 => ?_
                  refine pl_x HE1521 HH1503 (wt0 rfl) (x_pickT rfl hc198 rfl) rfl rfl fun a_1522 HE1523 => ?_
                  refine pl_x HE1523 HH1503 (wt0 rfl) (x_move rfl) rfl rfl fun a_1524 HE1525 => ?_
                  rcases Bool.eq_false_or_eq_true ((l06D y187).2) with hc199 | hc199
                  · refine pl_x HE1525 HH1503 (wtT HE1525 rfl rfl rfl hc199) (x_move rfl) rfl rfl fun a_1526 HE1527 => ?_
                    refine pl_x HE1527 HH1503 (wt0 rfl) (x_pickT rfl hc199 rfl) rfl rfl fun a_1528 HE1529 => ?_
                    refine pl_x HE1529 HH1503 (wt0 rfl) (x_move rfl) rfl rfl fun a_1530 HE1531 => ?_
                    rcases Bool.eq_false_or_eq_true ((l06D y190).2) with hc200 | hc200
                    · refine pl_x HE1531 HH1503 (wtT HE1531 rfl rfl rfl hc200) (x_move rfl) rfl rfl fun a_1532 HE1533 => ?_
                      refine pl_x HE1533 HH1503 (wt0 rfl) (x_pickT rfl hc200 rfl) rfl rfl fun a_1534 HE1535 => ?_
                      refine pl_x HE1535 HH1503 (wt0 rfl) (x_move rfl) rfl rfl fun a_1536 HE1537 => ?_
                      rcases Bool.eq_false_or_eq_true ((movS y193).2) with hc201 | hc201
                      · refine pl_x HE1537 HH1503 (wtT HE1537 rfl rfl rfl hc201) (x_move rfl) rfl rfl fun a_1538 HE1539 => ?_
                        refine pl_x HE1539 HH1503 (wt0 rfl) (x_pickT rfl hc201 rfl) rfl rfl fun a_1540 HE1541 => ?_
                        refine pl_x HE1541 HH1503 (wt0 rfl) (x_assign rfl) rfl rfl fun a_1542 HE1543 => ?_
                        refine wpList_nil ?_
                        clear a_1514 HE1515 a_1516 HE1517 a_1518 HE1519 a_1520 HE1521 a_1522 HE1523 a_1524 HE1525 a_1526 HE1527 a_1528 HE1529 a_1530 HE1531 a_1532 HE1533 a_1534 HE1535 a_1536 HE1537 a_1538 HE1539 a_1540 HE1541
                        refine nrm ?_
                        refine rg ?_
                        refine pl_x HE1543 HH1503 (wt0 rfl) (x_fieldAddr fa_68_3 rfl) rfl rfl fun a_1544 HE1545 => ?_
                        refine pl_x HE1545 HH1503 (wt0 rfl) (x_load1 tv_66 rfl (c_blk 5 rfl rfl)) rfl rfl fun a_1546 HE1547 => ?_
                        refine pl_x HE1547 HH1503 (wt0 rfl) (x_move rfl) rfl rfl fun a_1548 HE1549 => ?_
                        refine pl_x HE1549 HH1503 (wt0 rfl) (x_move rfl) rfl rfl fun a_1550 HE1551 => ?_
                        refine pl_x HE1551 HH1503 (wt0 rfl) (x_move rfl) rfl rfl fun a_1552 HE1553 => ?_
                        refine pl_x HE1553 HH1503 (wt0 rfl) (x_move rfl) rfl rfl fun a_1554 HE1555 => ?_
                        refine pl_x HE1555 HH1503 (wt0 rfl) (x_move rfl) rfl rfl fun a_1556 HE1557 => ?_
                        refine pl_x HE1557 HH1503 (wt0 rfl) (show XS _ _ _ _ (.agg #[.int .i64 ((numC y184).1), .slice Ar188_0 ((l06D y187).1.length) cr188_0, .slice Ar191_0 ((l06D y190).1.length) cr191_0, .slice Ar194_0 ((movS y193).1.length) cr194_0, .int .i64 ((numC y196).1)]) from x_build (vs := [(0, .int .i64 ((numC y184).1)), (1, .slice Ar188_0 ((l06D y187).1.length) cr188_0), (2, .slice Ar191_0 ((l06D y190).1.length) cr191_0), (3, .slice Ar194_0 ((movS y193).1.length) cr194_0), (4, .int .i64 ((numC y196).1))]) tb_123 rfl (by simp [Value.oneCell'])) rfl rfl fun a_1558 HE1559 => ?_
                        refine pl fun K_1560 hK1561 => ?_
                        refine st_lit (m := 1) (cs := [.int .i64 ((numC y184).1), .slice Ar188_0 ((l06D y187).1.length) cr188_0, .slice Ar191_0 ((l06D y190).1.length) cr191_0, .slice Ar194_0 ((movS y193).1.length) cr194_0, .int .i64 ((numC y196).1)]) (e := 123) HE1559 HH1503 (run_lit ts_66 HE1559 (vs := [.agg #[.int .i64 ((numC y184).1), .slice Ar188_0 ((l06D y187).1.length) cr188_0, .slice Ar191_0 ((l06D y190).1.length) cr191_0, .slice Ar194_0 ((movS y193).1.length) cr194_0, .int .i64 ((numC y196).1)]]) rfl rfl (by simp [Value.cells]) rfl (by decide)) (wt0 rfl) rfl rfl fun q202 a_1562 w' HE1563 HH1564 => hK1561 _ _ ?_
                        refine pl fun K_1565 hK1566 => ?_
                        have HH1567 := HH1564.sel [3, 2, 1, 0, 4, 5, 6, 7, 8, 9] (by decide) rfl
                        have HH1568 := HH1567.sel [2, 0, 1, 3, 4, 5, 6, 7, 8, 9] (by decide) rfl
                        have HH1569 := HH1568.pairB (F := eInt) (c2 := [.int .i64 ((numC y196).1)]) (y := (numC y196).1) (oI (by exact ⟨by omega, by omega⟩))
                        have HH1570 := HH1569.sel [2, 0, 1, 3, 4, 5, 6, 7, 8, 9] (by decide) rfl
                        have HH1571 := HH1570.pair
                        have HH1572 := HH1571.sel [1, 0, 2, 3, 4, 5, 6, 7, 8] (by decide) rfl
                        have HH1573 := HH1572.pair
                        have HH1574 := HH1573.pairF (E := eInt) (c1 := [.int .i64 ((numC y184).1)]) (x := (numC y184).1) (oI (by exact ⟨by omega, by omega⟩))
                        obtain ⟨S206, HH1575⟩ : ∃ S, Held Nob w (rO eMultiRule S [.int .i64 ((numC y184).1), .slice Ar188_0 ((l06D y187).1.length) cr188_0, .slice Ar191_0 ((l06D y190).1.length) cr191_0, .slice Ar194_0 ((movS y193).1.length) cr194_0, .int .i64 ((numC y196).1)] ((numC y184).1, (l06D y187).1, (l06D y190).1, (movS y193).1, (numC y196).1) :: _) _ := ⟨_, HH1574⟩
                        refine st_app1 HE1563 HH1575 ts_66 [3, 0, 1, 2, 4, 5, 6, 7] (by decide) rfl rfl rfl (by simp [Value.oneCell']) (by unfold maxLen; first | omega | (simp; done) | (simp; omega)) (by first | omega | (simp; done) | (simp; omega)) (wt0 rfl) rfl fun A203 c204 S205 a_1576 w' HE1577 HH1578 => hK1566 _ _ ?_
                        refine pl_x HE1577 HH1578 (wt0 rfl) (x_fieldAddr fa_68_3 rfl) rfl rfl fun a_1579 HE1580 => ?_
                        refine pl fun K_1581 hK1582 => ?_
                        refine st_store (vs := [.slice A203 ((((((splitR 10 a0).drop 1).take j).map lineS) ++ [((numC y184).1, (l06D y187).1, (l06D y190).1, (movS y193).1, (numC y196).1)]).length) c204]) 3 HE1580 HH1578 tv_66 rfl rfl rfl rfl rfl rfl (by simp [Value.oneCell']) (wt0 rfl) fun w' HH1583 => hK1582 _ _ ?_
                        refine wpList_nil ?_
                        clear a_1542 HE1543 a_1544 HE1545 a_1546 HE1547 a_1548 HE1549 a_1550 HE1551 a_1552 HE1553 a_1554 HE1555 a_1556 HE1557 a_1558 HE1559 HH1503 K_1560 hK1561 HH1564 HH1567 HH1568 HH1569 HH1570 HH1571 HH1572 HH1573 HH1574 a_1562 HE1563 HH1575 a_1576 HE1577 K_1565 hK1566 HH1578 hK1582 K_1581
                        refine blk_n ?_
                        refine nrm ?_
                        refine rg ?_
                        refine pl_x HE1580 HH1583 (wt0 rfl) (x_move rfl) rfl rfl fun a_1584 HE1585 => ?_
                        refine pl_x HE1585 HH1583 (wt0 rfl) (x_add rfl rfl (by exact ⟨by omega, by omega⟩)) rfl rfl fun a_1586 HE1587 => ?_
                        refine pl_x HE1587 HH1583 (wt0 rfl) (x_assign rfl) rfl rfl fun a_1588 HE1589 => ?_
                        refine wpList_nil ?_
                        clear a_1579 HE1580 a_1584 HE1585 a_1586 HE1587
                        have hLk := lineK_eq rfl (by omega) (by omega) hz0 hz1 hz2 hz3 hz4
                        have E207 : ((((splitR 10 a0).drop 1).take (j + 1)).map lineS) = (((((splitR 10 a0).drop 1).take j).map lineS) ++ [((numC y184).1, (l06D y187).1, (l06D y190).1, (movS y193).1, (numC y196).1)]) := by
                          exact lines_snoc (by omega) hx0 hLk.2
                        exact nrm ⟨List.length (splitR 10 a0) - 1 - (j + 1), (by omega), j + 1, A203, c204, S205, rfl, HE1589.sub ⟨(lkB rfl (by rw [lineK_snoc (by omega) hx0 _, hLk.1, (by assumption : (hdK (splitR 32 ((splitR 10 a0)[0]?.getD [])) && (((splitR 10 a0).drop 1).take j).all lineK) = true)]; first | grind | simp [hc23, hc27, hc38, hc177, hc178, hc182, hc198, hc199, hc200, hc201])), (lkI rfl (by first | rfl | omega | (simp [hc23, xy25, hc27, xy29, xy32, xy35, hc38, p176_0, hc177, hc178, xy180, hc182, xy184, xy187, xy190, xy193, xy196, hc198, hc199, hc200, hc201]; done))), rfl, rfl, rfl, rfl, trivial⟩, ((HH1583.sel [0, 3, 4, 5, 6] (by decide) rfl).to (by first | rfl | (rw [E207]; done) | (rw [E207]; rfl) | (simp only [E207]; done) | (simp only [E207]; rfl) | (rw [E207]; simp only [List.length_set]; done))), (by first | omega | assumption | (simp; done) | simp_all)⟩
                      · refine pl_no HE1537 (wtF HE1537 rfl rfl rfl hc201) rfl rfl fun a_1590 HE1591 => ?_
                        refine pl_x HE1591 HH1503 (wt0 rfl) (x_pickF rfl hc201 rfl) rfl rfl fun a_1592 HE1593 => ?_
                        refine pl_x HE1593 HH1503 (wt0 rfl) (x_assign rfl) rfl rfl fun a_1594 HE1595 => ?_
                        refine wpList_nil ?_
                        clear a_1514 HE1515 a_1516 HE1517 a_1518 HE1519 a_1520 HE1521 a_1522 HE1523 a_1524 HE1525 a_1526 HE1527 a_1528 HE1529 a_1530 HE1531 a_1532 HE1533 a_1534 HE1535 a_1536 HE1537 a_1590 HE1591 a_1592 HE1593
                        refine nrm ?_
                        refine rg ?_
                        refine pl_x HE1595 HH1503 (wt0 rfl) (x_fieldAddr fa_68_3 rfl) rfl rfl fun a_1596 HE1597 => ?_
                        refine pl_x HE1597 HH1503 (wt0 rfl) (x_load1 tv_66 rfl (c_blk 5 rfl rfl)) rfl rfl fun a_1598 HE1599 => ?_
                        refine pl_x HE1599 HH1503 (wt0 rfl) (x_move rfl) rfl rfl fun a_1600 HE1601 => ?_
                        refine pl_x HE1601 HH1503 (wt0 rfl) (x_move rfl) rfl rfl fun a_1602 HE1603 => ?_
                        refine pl_x HE1603 HH1503 (wt0 rfl) (x_move rfl) rfl rfl fun a_1604 HE1605 => ?_
                        refine pl_x HE1605 HH1503 (wt0 rfl) (x_move rfl) rfl rfl fun a_1606 HE1607 => ?_
                        refine pl_x HE1607 HH1503 (wt0 rfl) (x_move rfl) rfl rfl fun a_1608 HE1609 => ?_
                        refine pl_x HE1609 HH1503 (wt0 rfl) (show XS _ _ _ _ (.agg #[.int .i64 ((numC y184).1), .slice Ar188_0 ((l06D y187).1.length) cr188_0, .slice Ar191_0 ((l06D y190).1.length) cr191_0, .slice Ar194_0 ((movS y193).1.length) cr194_0, .int .i64 ((numC y196).1)]) from x_build (vs := [(0, .int .i64 ((numC y184).1)), (1, .slice Ar188_0 ((l06D y187).1.length) cr188_0), (2, .slice Ar191_0 ((l06D y190).1.length) cr191_0), (3, .slice Ar194_0 ((movS y193).1.length) cr194_0), (4, .int .i64 ((numC y196).1))]) tb_123 rfl (by simp [Value.oneCell'])) rfl rfl fun a_1610 HE1611 => ?_
                        refine pl fun K_1612 hK1613 => ?_
                        refine st_lit (m := 1) (cs := [.int .i64 ((numC y184).1), .slice Ar188_0 ((l06D y187).1.length) cr188_0, .slice Ar191_0 ((l06D y190).1.length) cr191_0, .slice Ar194_0 ((movS y193).1.length) cr194_0, .int .i64 ((numC y196).1)]) (e := 123) HE1611 HH1503 (run_lit ts_66 HE1611 (vs := [.agg #[.int .i64 ((numC y184).1), .slice Ar188_0 ((l06D y187).1.length) cr188_0, .slice Ar191_0 ((l06D y190).1.length) cr191_0, .slice Ar194_0 ((movS y193).1.length) cr194_0, .int .i64 ((numC y196).1)]]) rfl rfl (by simp [Value.cells]) rfl (by decide)) (wt0 rfl) rfl rfl fun q208 a_1614 w' HE1615 HH1616 => hK1613 _ _ ?_
                        refine pl fun K_1617 hK1618 => ?_
                        have HH1619 := HH1616.sel [3, 2, 1, 0, 4, 5, 6, 7, 8, 9] (by decide) rfl
                        have HH1620 := HH1619.sel [2, 0, 1, 3, 4, 5, 6, 7, 8, 9] (by decide) rfl
                        have HH1621 := HH1620.pairB (F := eInt) (c2 := [.int .i64 ((numC y196).1)]) (y := (numC y196).1) (oI (by exact ⟨by omega, by omega⟩))
                        have HH1622 := HH1621.sel [2, 0, 1, 3, 4, 5, 6, 7, 8, 9] (by decide) rfl
                        have HH1623 := HH1622.pair
                        have HH1624 := HH1623.sel [1, 0, 2, 3, 4, 5, 6, 7, 8] (by decide) rfl
                        have HH1625 := HH1624.pair
                        have HH1626 := HH1625.pairF (E := eInt) (c1 := [.int .i64 ((numC y184).1)]) (x := (numC y184).1) (oI (by exact ⟨by omega, by omega⟩))
                        obtain ⟨S212, HH1627⟩ : ∃ S, Held Nob w (rO eMultiRule S [.int .i64 ((numC y184).1), .slice Ar188_0 ((l06D y187).1.length) cr188_0, .slice Ar191_0 ((l06D y190).1.length) cr191_0, .slice Ar194_0 ((movS y193).1.length) cr194_0, .int .i64 ((numC y196).1)] ((numC y184).1, (l06D y187).1, (l06D y190).1, (movS y193).1, (numC y196).1) :: _) _ := ⟨_, HH1626⟩
                        refine st_app1 HE1615 HH1627 ts_66 [3, 0, 1, 2, 4, 5, 6, 7] (by decide) rfl rfl rfl (by simp [Value.oneCell']) (by unfold maxLen; first | omega | (simp; done) | (simp; omega)) (by first | omega | (simp; done) | (simp; omega)) (wt0 rfl) rfl fun A209 c210 S211 a_1628 w' HE1629 HH1630 => hK1618 _ _ ?_
                        refine pl_x HE1629 HH1630 (wt0 rfl) (x_fieldAddr fa_68_3 rfl) rfl rfl fun a_1631 HE1632 => ?_
                        refine pl fun K_1633 hK1634 => ?_
                        refine st_store (vs := [.slice A209 ((((((splitR 10 a0).drop 1).take j).map lineS) ++ [((numC y184).1, (l06D y187).1, (l06D y190).1, (movS y193).1, (numC y196).1)]).length) c210]) 3 HE1632 HH1630 tv_66 rfl rfl rfl rfl rfl rfl (by simp [Value.oneCell']) (wt0 rfl) fun w' HH1635 => hK1634 _ _ ?_
                        refine wpList_nil ?_
                        clear a_1594 HE1595 a_1596 HE1597 a_1598 HE1599 a_1600 HE1601 a_1602 HE1603 a_1604 HE1605 a_1606 HE1607 a_1608 HE1609 a_1610 HE1611 HH1503 K_1612 hK1613 HH1616 HH1619 HH1620 HH1621 HH1622 HH1623 HH1624 HH1625 HH1626 a_1614 HE1615 HH1627 a_1628 HE1629 K_1617 hK1618 HH1630 hK1634 K_1633
                        refine blk_n ?_
                        refine nrm ?_
                        refine rg ?_
                        refine pl_x HE1632 HH1635 (wt0 rfl) (x_move rfl) rfl rfl fun a_1636 HE1637 => ?_
                        refine pl_x HE1637 HH1635 (wt0 rfl) (x_add rfl rfl (by exact ⟨by omega, by omega⟩)) rfl rfl fun a_1638 HE1639 => ?_
                        refine pl_x HE1639 HH1635 (wt0 rfl) (x_assign rfl) rfl rfl fun a_1640 HE1641 => ?_
                        refine wpList_nil ?_
                        clear a_1631 HE1632 a_1636 HE1637 a_1638 HE1639
                        have hLk := lineK_eq rfl (by omega) (by omega) hz0 hz1 hz2 hz3 hz4
                        have E213 : ((((splitR 10 a0).drop 1).take (j + 1)).map lineS) = (((((splitR 10 a0).drop 1).take j).map lineS) ++ [((numC y184).1, (l06D y187).1, (l06D y190).1, (movS y193).1, (numC y196).1)]) := by
                          exact lines_snoc (by omega) hx0 hLk.2
                        exact nrm ⟨List.length (splitR 10 a0) - 1 - (j + 1), (by omega), j + 1, A209, c210, S211, rfl, HE1641.sub ⟨(lkB rfl (by rw [lineK_snoc (by omega) hx0 _, hLk.1, (by assumption : (hdK (splitR 32 ((splitR 10 a0)[0]?.getD [])) && (((splitR 10 a0).drop 1).take j).all lineK) = true)]; first | grind | simp [hc23, hc27, hc38, hc177, hc178, hc182, hc198, hc199, hc200, hc201])), (lkI rfl (by first | rfl | omega | (simp [hc23, xy25, hc27, xy29, xy32, xy35, hc38, p176_0, hc177, hc178, xy180, hc182, xy184, xy187, xy190, xy193, xy196, hc198, hc199, hc200, hc201]; done))), rfl, rfl, rfl, rfl, trivial⟩, ((HH1635.sel [0, 3, 4, 5, 6] (by decide) rfl).to (by first | rfl | (rw [E213]; done) | (rw [E213]; rfl) | (simp only [E213]; done) | (simp only [E213]; rfl) | (rw [E213]; simp only [List.length_set]; done))), (by first | omega | assumption | (simp; done) | simp_all)⟩
                    · refine pl_no HE1531 (wtF HE1531 rfl rfl rfl hc200) rfl rfl fun a_1642 HE1643 => ?_
                      refine pl_x HE1643 HH1503 (wt0 rfl) (x_pickF rfl hc200 rfl) rfl rfl fun a_1644 HE1645 => ?_
                      refine pl_x HE1645 HH1503 (wt0 rfl) (x_move rfl) rfl rfl fun a_1646 HE1647 => ?_
                      refine pl_no HE1647 (wtF HE1647 rfl rfl rfl rfl) rfl rfl fun a_1648 HE1649 => ?_
                      refine pl_x HE1649 HH1503 (wt0 rfl) (x_pickF rfl rfl rfl) rfl rfl fun a_1650 HE1651 => ?_
                      refine pl_x HE1651 HH1503 (wt0 rfl) (x_assign rfl) rfl rfl fun a_1652 HE1653 => ?_
                      refine wpList_nil ?_
                      clear a_1514 HE1515 a_1516 HE1517 a_1518 HE1519 a_1520 HE1521 a_1522 HE1523 a_1524 HE1525 a_1526 HE1527 a_1528 HE1529 a_1530 HE1531 a_1642 HE1643 a_1644 HE1645 a_1646 HE1647 a_1648 HE1649 a_1650 HE1651
                      refine nrm ?_
                      refine rg ?_
                      refine pl_x HE1653 HH1503 (wt0 rfl) (x_fieldAddr fa_68_3 rfl) rfl rfl fun a_1654 HE1655 => ?_
                      refine pl_x HE1655 HH1503 (wt0 rfl) (x_load1 tv_66 rfl (c_blk 5 rfl rfl)) rfl rfl fun a_1656 HE1657 => ?_
                      refine pl_x HE1657 HH1503 (wt0 rfl) (x_move rfl) rfl rfl fun a_1658 HE1659 => ?_
                      refine pl_x HE1659 HH1503 (wt0 rfl) (x_move rfl) rfl rfl fun a_1660 HE1661 => ?_
                      refine pl_x HE1661 HH1503 (wt0 rfl) (x_move rfl) rfl rfl fun a_1662 HE1663 => ?_
                      refine pl_x HE1663 HH1503 (wt0 rfl) (x_move rfl) rfl rfl fun a_1664 HE1665 => ?_
                      refine pl_x HE1665 HH1503 (wt0 rfl) (x_move rfl) rfl rfl fun a_1666 HE1667 => ?_
                      refine pl_x HE1667 HH1503 (wt0 rfl) (show XS _ _ _ _ (.agg #[.int .i64 ((numC y184).1), .slice Ar188_0 ((l06D y187).1.length) cr188_0, .slice Ar191_0 ((l06D y190).1.length) cr191_0, .slice Ar194_0 ((movS y193).1.length) cr194_0, .int .i64 ((numC y196).1)]) from x_build (vs := [(0, .int .i64 ((numC y184).1)), (1, .slice Ar188_0 ((l06D y187).1.length) cr188_0), (2, .slice Ar191_0 ((l06D y190).1.length) cr191_0), (3, .slice Ar194_0 ((movS y193).1.length) cr194_0), (4, .int .i64 ((numC y196).1))]) tb_123 rfl (by simp [Value.oneCell'])) rfl rfl fun a_1668 HE1669 => ?_
                      refine pl fun K_1670 hK1671 => ?_
                      refine st_lit (m := 1) (cs := [.int .i64 ((numC y184).1), .slice Ar188_0 ((l06D y187).1.length) cr188_0, .slice Ar191_0 ((l06D y190).1.length) cr191_0, .slice Ar194_0 ((movS y193).1.length) cr194_0, .int .i64 ((numC y196).1)]) (e := 123) HE1669 HH1503 (run_lit ts_66 HE1669 (vs := [.agg #[.int .i64 ((numC y184).1), .slice Ar188_0 ((l06D y187).1.length) cr188_0, .slice Ar191_0 ((l06D y190).1.length) cr191_0, .slice Ar194_0 ((movS y193).1.length) cr194_0, .int .i64 ((numC y196).1)]]) rfl rfl (by simp [Value.cells]) rfl (by decide)) (wt0 rfl) rfl rfl fun q214 a_1672 w' HE1673 HH1674 => hK1671 _ _ ?_
                      refine pl fun K_1675 hK1676 => ?_
                      have HH1677 := HH1674.sel [3, 2, 1, 0, 4, 5, 6, 7, 8, 9] (by decide) rfl
                      have HH1678 := HH1677.sel [2, 0, 1, 3, 4, 5, 6, 7, 8, 9] (by decide) rfl
                      have HH1679 := HH1678.pairB (F := eInt) (c2 := [.int .i64 ((numC y196).1)]) (y := (numC y196).1) (oI (by exact ⟨by omega, by omega⟩))
                      have HH1680 := HH1679.sel [2, 0, 1, 3, 4, 5, 6, 7, 8, 9] (by decide) rfl
                      have HH1681 := HH1680.pair
                      have HH1682 := HH1681.sel [1, 0, 2, 3, 4, 5, 6, 7, 8] (by decide) rfl
                      have HH1683 := HH1682.pair
                      have HH1684 := HH1683.pairF (E := eInt) (c1 := [.int .i64 ((numC y184).1)]) (x := (numC y184).1) (oI (by exact ⟨by omega, by omega⟩))
                      obtain ⟨S218, HH1685⟩ : ∃ S, Held Nob w (rO eMultiRule S [.int .i64 ((numC y184).1), .slice Ar188_0 ((l06D y187).1.length) cr188_0, .slice Ar191_0 ((l06D y190).1.length) cr191_0, .slice Ar194_0 ((movS y193).1.length) cr194_0, .int .i64 ((numC y196).1)] ((numC y184).1, (l06D y187).1, (l06D y190).1, (movS y193).1, (numC y196).1) :: _) _ := ⟨_, HH1684⟩
                      refine st_app1 HE1673 HH1685 ts_66 [3, 0, 1, 2, 4, 5, 6, 7] (by decide) rfl rfl rfl (by simp [Value.oneCell']) (by unfold maxLen; first | omega | (simp; done) | (simp; omega)) (by first | omega | (simp; done) | (simp; omega)) (wt0 rfl) rfl fun A215 c216 S217 a_1686 w' HE1687 HH1688 => hK1676 _ _ ?_
                      refine pl_x HE1687 HH1688 (wt0 rfl) (x_fieldAddr fa_68_3 rfl) rfl rfl fun a_1689 HE1690 => ?_
                      refine pl fun K_1691 hK1692 => ?_
                      refine st_store (vs := [.slice A215 ((((((splitR 10 a0).drop 1).take j).map lineS) ++ [((numC y184).1, (l06D y187).1, (l06D y190).1, (movS y193).1, (numC y196).1)]).length) c216]) 3 HE1690 HH1688 tv_66 rfl rfl rfl rfl rfl rfl (by simp [Value.oneCell']) (wt0 rfl) fun w' HH1693 => hK1692 _ _ ?_
                      refine wpList_nil ?_
                      clear a_1652 HE1653 a_1654 HE1655 a_1656 HE1657 a_1658 HE1659 a_1660 HE1661 a_1662 HE1663 a_1664 HE1665 a_1666 HE1667 a_1668 HE1669 HH1503 K_1670 hK1671 HH1674 HH1677 HH1678 HH1679 HH1680 HH1681 HH1682 HH1683 HH1684 a_1672 HE1673 HH1685 a_1686 HE1687 K_1675 hK1676 HH1688 hK1692 K_1691
                      refine blk_n ?_
                      refine nrm ?_
                      refine rg ?_
                      refine pl_x HE1690 HH1693 (wt0 rfl) (x_move rfl) rfl rfl fun a_1694 HE1695 => ?_
                      refine pl_x HE1695 HH1693 (wt0 rfl) (x_add rfl rfl (by exact ⟨by omega, by omega⟩)) rfl rfl fun a_1696 HE1697 => ?_
                      refine pl_x HE1697 HH1693 (wt0 rfl) (x_assign rfl) rfl rfl fun a_1698 HE1699 => ?_
                      refine wpList_nil ?_
                      clear a_1689 HE1690 a_1694 HE1695 a_1696 HE1697
                      have hLk := lineK_eq rfl (by omega) (by omega) hz0 hz1 hz2 hz3 hz4
                      have E219 : ((((splitR 10 a0).drop 1).take (j + 1)).map lineS) = (((((splitR 10 a0).drop 1).take j).map lineS) ++ [((numC y184).1, (l06D y187).1, (l06D y190).1, (movS y193).1, (numC y196).1)]) := by
                        exact lines_snoc (by omega) hx0 hLk.2
                      exact nrm ⟨List.length (splitR 10 a0) - 1 - (j + 1), (by omega), j + 1, A215, c216, S217, rfl, HE1699.sub ⟨(lkB rfl (by rw [lineK_snoc (by omega) hx0 _, hLk.1, (by assumption : (hdK (splitR 32 ((splitR 10 a0)[0]?.getD [])) && (((splitR 10 a0).drop 1).take j).all lineK) = true)]; first | grind | simp [hc23, hc27, hc38, hc177, hc178, hc182, hc198, hc199, hc200])), (lkI rfl (by first | rfl | omega | (simp [hc23, xy25, hc27, xy29, xy32, xy35, hc38, p176_0, hc177, hc178, xy180, hc182, xy184, xy187, xy190, xy193, xy196, hc198, hc199, hc200]; done))), rfl, rfl, rfl, rfl, trivial⟩, ((HH1693.sel [0, 3, 4, 5, 6] (by decide) rfl).to (by first | rfl | (rw [E219]; done) | (rw [E219]; rfl) | (simp only [E219]; done) | (simp only [E219]; rfl) | (rw [E219]; simp only [List.length_set]; done))), (by first | omega | assumption | (simp; done) | simp_all)⟩
                  · refine pl_no HE1525 (wtF HE1525 rfl rfl rfl hc199) rfl rfl fun a_1700 HE1701 => ?_
                    refine pl_x HE1701 HH1503 (wt0 rfl) (x_pickF rfl hc199 rfl) rfl rfl fun a_1702 HE1703 => ?_
                    refine pl_x HE1703 HH1503 (wt0 rfl) (x_move rfl) rfl rfl fun a_1704 HE1705 => ?_
                    refine pl_no HE1705 (wtF HE1705 rfl rfl rfl rfl) rfl rfl fun a_1706 HE1707 => ?_
                    refine pl_x HE1707 HH1503 (wt0 rfl) (x_pickF rfl rfl rfl) rfl rfl fun a_1708 HE1709 => ?_
                    refine pl_x HE1709 HH1503 (wt0 rfl) (x_move rfl) rfl rfl fun a_1710 HE1711 => ?_
                    refine pl_no HE1711 (wtF HE1711 rfl rfl rfl rfl) rfl rfl fun a_1712 HE1713 => ?_
                    refine pl_x HE1713 HH1503 (wt0 rfl) (x_pickF rfl rfl rfl) rfl rfl fun a_1714 HE1715 => ?_
                    refine pl_x HE1715 HH1503 (wt0 rfl) (x_assign rfl) rfl rfl fun a_1716 HE1717 => ?_
                    refine wpList_nil ?_
                    clear a_1514 HE1515 a_1516 HE1517 a_1518 HE1519 a_1520 HE1521 a_1522 HE1523 a_1524 HE1525 a_1700 HE1701 a_1702 HE1703 a_1704 HE1705 a_1706 HE1707 a_1708 HE1709 a_1710 HE1711 a_1712 HE1713 a_1714 HE1715
                    refine nrm ?_
                    refine rg ?_
                    refine pl_x HE1717 HH1503 (wt0 rfl) (x_fieldAddr fa_68_3 rfl) rfl rfl fun a_1718 HE1719 => ?_
                    refine pl_x HE1719 HH1503 (wt0 rfl) (x_load1 tv_66 rfl (c_blk 5 rfl rfl)) rfl rfl fun a_1720 HE1721 => ?_
                    refine pl_x HE1721 HH1503 (wt0 rfl) (x_move rfl) rfl rfl fun a_1722 HE1723 => ?_
                    refine pl_x HE1723 HH1503 (wt0 rfl) (x_move rfl) rfl rfl fun a_1724 HE1725 => ?_
                    refine pl_x HE1725 HH1503 (wt0 rfl) (x_move rfl) rfl rfl fun a_1726 HE1727 => ?_
                    refine pl_x HE1727 HH1503 (wt0 rfl) (x_move rfl) rfl rfl fun a_1728 HE1729 => ?_
                    refine pl_x HE1729 HH1503 (wt0 rfl) (x_move rfl) rfl rfl fun a_1730 HE1731 => ?_
                    refine pl_x HE1731 HH1503 (wt0 rfl) (show XS _ _ _ _ (.agg #[.int .i64 ((numC y184).1), .slice Ar188_0 ((l06D y187).1.length) cr188_0, .slice Ar191_0 ((l06D y190).1.length) cr191_0, .slice Ar194_0 ((movS y193).1.length) cr194_0, .int .i64 ((numC y196).1)]) from x_build (vs := [(0, .int .i64 ((numC y184).1)), (1, .slice Ar188_0 ((l06D y187).1.length) cr188_0), (2, .slice Ar191_0 ((l06D y190).1.length) cr191_0), (3, .slice Ar194_0 ((movS y193).1.length) cr194_0), (4, .int .i64 ((numC y196).1))]) tb_123 rfl (by simp [Value.oneCell'])) rfl rfl fun a_1732 HE1733 => ?_
                    refine pl fun K_1734 hK1735 => ?_
                    refine st_lit (m := 1) (cs := [.int .i64 ((numC y184).1), .slice Ar188_0 ((l06D y187).1.length) cr188_0, .slice Ar191_0 ((l06D y190).1.length) cr191_0, .slice Ar194_0 ((movS y193).1.length) cr194_0, .int .i64 ((numC y196).1)]) (e := 123) HE1733 HH1503 (run_lit ts_66 HE1733 (vs := [.agg #[.int .i64 ((numC y184).1), .slice Ar188_0 ((l06D y187).1.length) cr188_0, .slice Ar191_0 ((l06D y190).1.length) cr191_0, .slice Ar194_0 ((movS y193).1.length) cr194_0, .int .i64 ((numC y196).1)]]) rfl rfl (by simp [Value.cells]) rfl (by decide)) (wt0 rfl) rfl rfl fun q220 a_1736 w' HE1737 HH1738 => hK1735 _ _ ?_
                    refine pl fun K_1739 hK1740 => ?_
                    have HH1741 := HH1738.sel [3, 2, 1, 0, 4, 5, 6, 7, 8, 9] (by decide) rfl
                    have HH1742 := HH1741.sel [2, 0, 1, 3, 4, 5, 6, 7, 8, 9] (by decide) rfl
                    have HH1743 := HH1742.pairB (F := eInt) (c2 := [.int .i64 ((numC y196).1)]) (y := (numC y196).1) (oI (by exact ⟨by omega, by omega⟩))
                    have HH1744 := HH1743.sel [2, 0, 1, 3, 4, 5, 6, 7, 8, 9] (by decide) rfl
                    have HH1745 := HH1744.pair
                    have HH1746 := HH1745.sel [1, 0, 2, 3, 4, 5, 6, 7, 8] (by decide) rfl
                    have HH1747 := HH1746.pair
                    have HH1748 := HH1747.pairF (E := eInt) (c1 := [.int .i64 ((numC y184).1)]) (x := (numC y184).1) (oI (by exact ⟨by omega, by omega⟩))
                    obtain ⟨S224, HH1749⟩ : ∃ S, Held Nob w (rO eMultiRule S [.int .i64 ((numC y184).1), .slice Ar188_0 ((l06D y187).1.length) cr188_0, .slice Ar191_0 ((l06D y190).1.length) cr191_0, .slice Ar194_0 ((movS y193).1.length) cr194_0, .int .i64 ((numC y196).1)] ((numC y184).1, (l06D y187).1, (l06D y190).1, (movS y193).1, (numC y196).1) :: _) _ := ⟨_, HH1748⟩
                    refine st_app1 HE1737 HH1749 ts_66 [3, 0, 1, 2, 4, 5, 6, 7] (by decide) rfl rfl rfl (by simp [Value.oneCell']) (by unfold maxLen; first | omega | (simp; done) | (simp; omega)) (by first | omega | (simp; done) | (simp; omega)) (wt0 rfl) rfl fun A221 c222 S223 a_1750 w' HE1751 HH1752 => hK1740 _ _ ?_
                    refine pl_x HE1751 HH1752 (wt0 rfl) (x_fieldAddr fa_68_3 rfl) rfl rfl fun a_1753 HE1754 => ?_
                    refine pl fun K_1755 hK1756 => ?_
                    refine st_store (vs := [.slice A221 ((((((splitR 10 a0).drop 1).take j).map lineS) ++ [((numC y184).1, (l06D y187).1, (l06D y190).1, (movS y193).1, (numC y196).1)]).length) c222]) 3 HE1754 HH1752 tv_66 rfl rfl rfl rfl rfl rfl (by simp [Value.oneCell']) (wt0 rfl) fun w' HH1757 => hK1756 _ _ ?_
                    refine wpList_nil ?_
                    clear a_1716 HE1717 a_1718 HE1719 a_1720 HE1721 a_1722 HE1723 a_1724 HE1725 a_1726 HE1727 a_1728 HE1729 a_1730 HE1731 a_1732 HE1733 HH1503 K_1734 hK1735 HH1738 HH1741 HH1742 HH1743 HH1744 HH1745 HH1746 HH1747 HH1748 a_1736 HE1737 HH1749 a_1750 HE1751 K_1739 hK1740 HH1752 hK1756 K_1755
                    refine blk_n ?_
                    refine nrm ?_
                    refine rg ?_
                    refine pl_x HE1754 HH1757 (wt0 rfl) (x_move rfl) rfl rfl fun a_1758 HE1759 => ?_
                    refine pl_x HE1759 HH1757 (wt0 rfl) (x_add rfl rfl (by exact ⟨by omega, by omega⟩)) rfl rfl fun a_1760 HE1761 => ?_
                    refine pl_x HE1761 HH1757 (wt0 rfl) (x_assign rfl) rfl rfl fun a_1762 HE1763 => ?_
                    refine wpList_nil ?_
                    clear a_1753 HE1754 a_1758 HE1759 a_1760 HE1761
                    have hLk := lineK_eq rfl (by omega) (by omega) hz0 hz1 hz2 hz3 hz4
                    have E225 : ((((splitR 10 a0).drop 1).take (j + 1)).map lineS) = (((((splitR 10 a0).drop 1).take j).map lineS) ++ [((numC y184).1, (l06D y187).1, (l06D y190).1, (movS y193).1, (numC y196).1)]) := by
                      exact lines_snoc (by omega) hx0 hLk.2
                    exact nrm ⟨List.length (splitR 10 a0) - 1 - (j + 1), (by omega), j + 1, A221, c222, S223, rfl, HE1763.sub ⟨(lkB rfl (by rw [lineK_snoc (by omega) hx0 _, hLk.1, (by assumption : (hdK (splitR 32 ((splitR 10 a0)[0]?.getD [])) && (((splitR 10 a0).drop 1).take j).all lineK) = true)]; first | grind | simp [hc23, hc27, hc38, hc177, hc178, hc182, hc198, hc199])), (lkI rfl (by first | rfl | omega | (simp [hc23, xy25, hc27, xy29, xy32, xy35, hc38, p176_0, hc177, hc178, xy180, hc182, xy184, xy187, xy190, xy193, xy196, hc198, hc199]; done))), rfl, rfl, rfl, rfl, trivial⟩, ((HH1757.sel [0, 3, 4, 5, 6] (by decide) rfl).to (by first | rfl | (rw [E225]; done) | (rw [E225]; rfl) | (simp only [E225]; done) | (simp only [E225]; rfl) | (rw [E225]; simp only [List.length_set]; done))), (by first | omega | assumption | (simp; done) | simp_all)⟩
                · refine pl_no HE1519 (wtF HE1519 rfl rfl rfl hc198) rfl rfl fun a_1764 HE1765 => ?_
                  refine pl_x HE1765 HH1503 (wt0 rfl) (x_pickF rfl hc198 rfl) rfl rfl fun a_1766 HE1767 => ?_
                  refine pl_x HE1767 HH1503 (wt0 rfl) (x_move rfl) rfl rfl fun a_1768 HE1769 => ?_
                  refine pl_no HE1769 (wtF HE1769 rfl rfl rfl rfl) rfl rfl fun a_1770 HE1771 => ?_
                  refine pl_x HE1771 HH1503 (wt0 rfl) (x_pickF rfl rfl rfl) rfl rfl fun a_1772 HE1773 => ?_
                  refine pl_x HE1773 HH1503 (wt0 rfl) (x_move rfl) rfl rfl fun a_1774 HE1775 => ?_
                  refine pl_no HE1775 (wtF HE1775 rfl rfl rfl rfl) rfl rfl fun a_1776 HE1777 => ?_
                  refine pl_x HE1777 HH1503 (wt0 rfl) (x_pickF rfl rfl rfl) rfl rfl fun a_1778 HE1779 => ?_
                  refine pl_x HE1779 HH1503 (wt0 rfl) (x_move rfl) rfl rfl fun a_1780 HE1781 => ?_
                  refine pl_no HE1781 (wtF HE1781 rfl rfl rfl rfl) rfl rfl fun a_1782 HE1783 => ?_
                  refine pl_x HE1783 HH1503 (wt0 rfl) (x_pickF rfl rfl rfl) rfl rfl fun a_1784 HE1785 => ?_
                  refine pl_x HE1785 HH1503 (wt0 rfl) (x_assign rfl) rfl rfl fun a_1786 HE1787 => ?_
                  refine wpList_nil ?_
                  clear a_1514 HE1515 a_1516 HE1517 a_1518 HE1519 a_1764 HE1765 a_1766 HE1767 a_1768 HE1769 a_1770 HE1771 a_1772 HE1773 a_1774 HE1775 a_1776 HE1777 a_1778 HE1779 a_1780 HE1781 a_1782 HE1783 a_1784 HE1785
                  refine nrm ?_
                  refine rg ?_
                  refine pl_x HE1787 HH1503 (wt0 rfl) (x_fieldAddr fa_68_3 rfl) rfl rfl fun a_1788 HE1789 => ?_
                  refine pl_x HE1789 HH1503 (wt0 rfl) (x_load1 tv_66 rfl (c_blk 5 rfl rfl)) rfl rfl fun a_1790 HE1791 => ?_
                  refine pl_x HE1791 HH1503 (wt0 rfl) (x_move rfl) rfl rfl fun a_1792 HE1793 => ?_
                  refine pl_x HE1793 HH1503 (wt0 rfl) (x_move rfl) rfl rfl fun a_1794 HE1795 => ?_
                  refine pl_x HE1795 HH1503 (wt0 rfl) (x_move rfl) rfl rfl fun a_1796 HE1797 => ?_
                  refine pl_x HE1797 HH1503 (wt0 rfl) (x_move rfl) rfl rfl fun a_1798 HE1799 => ?_
                  refine pl_x HE1799 HH1503 (wt0 rfl) (x_move rfl) rfl rfl fun a_1800 HE1801 => ?_
                  refine pl_x HE1801 HH1503 (wt0 rfl) (show XS _ _ _ _ (.agg #[.int .i64 ((numC y184).1), .slice Ar188_0 ((l06D y187).1.length) cr188_0, .slice Ar191_0 ((l06D y190).1.length) cr191_0, .slice Ar194_0 ((movS y193).1.length) cr194_0, .int .i64 ((numC y196).1)]) from x_build (vs := [(0, .int .i64 ((numC y184).1)), (1, .slice Ar188_0 ((l06D y187).1.length) cr188_0), (2, .slice Ar191_0 ((l06D y190).1.length) cr191_0), (3, .slice Ar194_0 ((movS y193).1.length) cr194_0), (4, .int .i64 ((numC y196).1))]) tb_123 rfl (by simp [Value.oneCell'])) rfl rfl fun a_1802 HE1803 => ?_
                  refine pl fun K_1804 hK1805 => ?_
                  refine st_lit (m := 1) (cs := [.int .i64 ((numC y184).1), .slice Ar188_0 ((l06D y187).1.length) cr188_0, .slice Ar191_0 ((l06D y190).1.length) cr191_0, .slice Ar194_0 ((movS y193).1.length) cr194_0, .int .i64 ((numC y196).1)]) (e := 123) HE1803 HH1503 (run_lit ts_66 HE1803 (vs := [.agg #[.int .i64 ((numC y184).1), .slice Ar188_0 ((l06D y187).1.length) cr188_0, .slice Ar191_0 ((l06D y190).1.length) cr191_0, .slice Ar194_0 ((movS y193).1.length) cr194_0, .int .i64 ((numC y196).1)]]) rfl rfl (by simp [Value.cells]) rfl (by decide)) (wt0 rfl) rfl rfl fun q226 a_1806 w' HE1807 HH1808 => hK1805 _ _ ?_
                  refine pl fun K_1809 hK1810 => ?_
                  have HH1811 := HH1808.sel [3, 2, 1, 0, 4, 5, 6, 7, 8, 9] (by decide) rfl
                  have HH1812 := HH1811.sel [2, 0, 1, 3, 4, 5, 6, 7, 8, 9] (by decide) rfl
                  have HH1813 := HH1812.pairB (F := eInt) (c2 := [.int .i64 ((numC y196).1)]) (y := (numC y196).1) (oI (by exact ⟨by omega, by omega⟩))
                  have HH1814 := HH1813.sel [2, 0, 1, 3, 4, 5, 6, 7, 8, 9] (by decide) rfl
                  have HH1815 := HH1814.pair
                  have HH1816 := HH1815.sel [1, 0, 2, 3, 4, 5, 6, 7, 8] (by decide) rfl
                  have HH1817 := HH1816.pair
                  have HH1818 := HH1817.pairF (E := eInt) (c1 := [.int .i64 ((numC y184).1)]) (x := (numC y184).1) (oI (by exact ⟨by omega, by omega⟩))
                  obtain ⟨S230, HH1819⟩ : ∃ S, Held Nob w (rO eMultiRule S [.int .i64 ((numC y184).1), .slice Ar188_0 ((l06D y187).1.length) cr188_0, .slice Ar191_0 ((l06D y190).1.length) cr191_0, .slice Ar194_0 ((movS y193).1.length) cr194_0, .int .i64 ((numC y196).1)] ((numC y184).1, (l06D y187).1, (l06D y190).1, (movS y193).1, (numC y196).1) :: _) _ := ⟨_, HH1818⟩
                  refine st_app1 HE1807 HH1819 ts_66 [3, 0, 1, 2, 4, 5, 6, 7] (by decide) rfl rfl rfl (by simp [Value.oneCell']) (by unfold maxLen; first | omega | (simp; done) | (simp; omega)) (by first | omega | (simp; done) | (simp; omega)) (wt0 rfl) rfl fun A227 c228 S229 a_1820 w' HE1821 HH1822 => hK1810 _ _ ?_
                  refine pl_x HE1821 HH1822 (wt0 rfl) (x_fieldAddr fa_68_3 rfl) rfl rfl fun a_1823 HE1824 => ?_
                  refine pl fun K_1825 hK1826 => ?_
                  refine st_store (vs := [.slice A227 ((((((splitR 10 a0).drop 1).take j).map lineS) ++ [((numC y184).1, (l06D y187).1, (l06D y190).1, (movS y193).1, (numC y196).1)]).length) c228]) 3 HE1824 HH1822 tv_66 rfl rfl rfl rfl rfl rfl (by simp [Value.oneCell']) (wt0 rfl) fun w' HH1827 => hK1826 _ _ ?_
                  refine wpList_nil ?_
                  clear a_1786 HE1787 a_1788 HE1789 a_1790 HE1791 a_1792 HE1793 a_1794 HE1795 a_1796 HE1797 a_1798 HE1799 a_1800 HE1801 a_1802 HE1803 HH1503 K_1804 hK1805 HH1808 HH1811 HH1812 HH1813 HH1814 HH1815 HH1816 HH1817 HH1818 a_1806 HE1807 HH1819 a_1820 HE1821 K_1809 hK1810 HH1822 hK1826 K_1825
                  refine blk_n ?_
                  refine nrm ?_
                  refine rg ?_
                  refine pl_x HE1824 HH1827 (wt0 rfl) (x_move rfl) rfl rfl fun a_1828 HE1829 => ?_
                  refine pl_x HE1829 HH1827 (wt0 rfl) (x_add rfl rfl (by exact ⟨by omega, by omega⟩)) rfl rfl fun a_1830 HE1831 => ?_
                  refine pl_x HE1831 HH1827 (wt0 rfl) (x_assign rfl) rfl rfl fun a_1832 HE1833 => ?_
                  refine wpList_nil ?_
                  clear a_1823 HE1824 a_1828 HE1829 a_1830 HE1831
                  have hLk := lineK_eq rfl (by omega) (by omega) hz0 hz1 hz2 hz3 hz4
                  have E231 : ((((splitR 10 a0).drop 1).take (j + 1)).map lineS) = (((((splitR 10 a0).drop 1).take j).map lineS) ++ [((numC y184).1, (l06D y187).1, (l06D y190).1, (movS y193).1, (numC y196).1)]) := by
                    exact lines_snoc (by omega) hx0 hLk.2
                  exact nrm ⟨List.length (splitR 10 a0) - 1 - (j + 1), (by omega), j + 1, A227, c228, S229, rfl, HE1833.sub ⟨(lkB rfl (by rw [lineK_snoc (by omega) hx0 _, hLk.1, (by assumption : (hdK (splitR 32 ((splitR 10 a0)[0]?.getD [])) && (((splitR 10 a0).drop 1).take j).all lineK) = true)]; first | grind | simp [hc23, hc27, hc38, hc177, hc178, hc182, hc198])), (lkI rfl (by first | rfl | omega | (simp [hc23, xy25, hc27, xy29, xy32, xy35, hc38, p176_0, hc177, hc178, xy180, hc182, xy184, xy187, xy190, xy193, xy196, hc198]; done))), rfl, rfl, rfl, rfl, trivial⟩, ((HH1827.sel [0, 3, 4, 5, 6] (by decide) rfl).to (by first | rfl | (rw [E231]; done) | (rw [E231]; rfl) | (simp only [E231]; done) | (simp only [E231]; rfl) | (rw [E231]; simp only [List.length_set]; done))), (by first | omega | assumption | (simp; done) | simp_all)⟩
            · refine wp_exit ?_
              refine (thn_exit (thn_exit (blk_hit ?_)))
              refine nrm ?_
              refine wp_seq ?_
              refine wp_seq ?_
              refine rg ?_
              refine pl_x HE1381 HH1367 (wt0 rfl) (x_move rfl) rfl rfl fun a_1834 HE1835 => ?_
              refine pl_x HE1835 HH1367 (wt0 rfl) (x_not rfl) rfl rfl fun a_1836 HE1837 => ?_
              refine pl_x HE1837 HH1367 (wt0 rfl) (x_move rfl) rfl rfl fun a_1838 HE1839 => ?_
              refine pl_no HE1839 (wtF HE1839 rfl rfl rfl (not_t hc178)) rfl rfl fun a_1840 HE1841 => ?_
              refine pl_no HE1841 (wtF HE1841 rfl rfl rfl (not_t hc178)) rfl rfl fun a_1842 HE1843 => ?_
              refine pl_x HE1843 HH1367 (wt0 rfl) (x_pickT rfl (not_t hc178) rfl) rfl rfl fun a_1844 HE1845 => ?_
              refine pl_x HE1845 HH1367 (wt0 rfl) (x_move rfl) rfl rfl fun a_1846 HE1847 => ?_
              refine pl_no HE1847 (wtF HE1847 rfl rfl rfl rfl) rfl rfl fun a_1848 HE1849 => ?_
              refine pl_no HE1849 (wtF HE1849 rfl rfl rfl rfl) rfl rfl fun a_1850 HE1851 => ?_
              refine pl_no HE1851 (wtF HE1851 rfl rfl rfl rfl) rfl rfl fun a_1852 HE1853 => ?_
              refine pl_x HE1853 HH1367 (wt0 rfl) (x_pickT rfl rfl rfl) rfl rfl fun a_1854 HE1855 => ?_
              refine wpList_nil ?_
              clear a_1380 HE1381 a_1834 HE1835 a_1836 HE1837 a_1838 HE1839 a_1840 HE1841 a_1842 HE1843 a_1844 HE1845 a_1846 HE1847 a_1848 HE1849 a_1850 HE1851 a_1852 HE1853
              refine nrm ?_
              refine cndT HE1855 rfl rfl ?_
              refine wp_seq ?_
              refine rg ?_
              refine pl_x HE1855 HH1367 (wt0 rfl) (show XS _ _ _ _ (.agg #[.int .i64 (0), .int .i64 (0), .int .i64 (0), .slice none (0) 0]) from x_build (vs := []) tb_68 rfl (by simp [Value.oneCell'])) rfl rfl fun a_1856 HE1857 => ?_
              refine pl fun K_1858 hK1859 => ?_
              refine st_store (vs := [.int .i64 (0), .int .i64 (0), .int .i64 (0), .slice none (0) 0]) 4 HE1857 HH1367 tv_68 rfl rfl rfl rfl rfl rfl (by simp [Value.oneCell']) (wt0 rfl) fun w' HH1860 => hK1859 _ _ ?_
              refine pl_x HE1857 HH1860 (wt0 rfl) (x_assign rfl) rfl rfl fun a_1861 HE1862 => ?_
              refine wpList_nil ?_
              clear a_1854 HE1855 HH1367 a_1856 HE1857 hK1859 K_1858
              refine nrm ?_
              refine wp_ret ?_
              refine (thn_ret ?_)
              refine ret2 HE1862 rfl (rv_cell rfl (tv_68.loadN (cs := [.int .i64 (0), .int .i64 (0), .int .i64 (0), .slice none (0) 0]) rfl (c_blkN 4 rfl _ HH1860))) (rv_tmp rfl) ?_
              have HH1863 := HH1860.flatO (E := eMulti) (cs := [.int .i64 (0), .int .i64 (0), .int .i64 (0), .slice none (0) 0]) (x := (0, 0, 0, [])) (fun _ => (oPrN (oI (by exact ⟨by omega, by omega⟩)) (oPrN (oI (by exact ⟨by omega, by omega⟩)) (oPrN (oI (by exact ⟨by omega, by omega⟩)) (oSl (So.nil (Nat.zero_le _)))))))
              have hF : (rdMuI a0) = ((0, 0, 0, []), false) := by
                rw [← rdMu_eq]; first | exact rdMuS_61 (by omega) | exact rdMuS_3 rfl (by omega) hx0 (by omega) | exact rdMuS_line rfl (by omega) hx0 (lineK_5 (by omega)) | exact rdMuS_ok (by assumption) | (rw [rdMuS_eq rfl (by omega) (by omega) hl0 (by omega) (by assumption) (by omega) hM]; first | (rw [if_pos ⟨by assumption, by assumption⟩]; done) | (exact if_neg (fun hh => ff hh.1 (by assumption))) | (exact if_neg (fun hh => absurd hh.2 (by assumption))))
              exact ⟨_, by first | (rw [hF] <;> rfl) | rfl | (rw [hF]; simp only [Ending.returned.injEq, Value.slice.injEq, true_and, and_true]; first | omega | (simp; done)) | (rw [hF]; simp; omega), by rw [hF]; exact (HH1863.o (i := 0) rfl), HH1863.below⟩
          · have hM := muS_full (s := a0) (j := j) (by omega)
            refine pl_no HE1377 (wtF HE1377 rfl rfl rfl (decide_eq_false hc177)) rfl rfl fun a_1864 HE1865 => ?_
            refine pl_x HE1865 HH1367 (wt0 rfl) (x_pickF rfl (decide_eq_false hc177) rfl) rfl rfl fun a_1866 HE1867 => ?_
            refine wpList_nil ?_
            clear HH139 a_1362 HE1363 HH1364 a_1365 HE1366 a_1368 HE1369 a_1370 HE1371 a_1372 HE1373 a_1374 HE1375 a_1376 HE1377 a_1864 HE1865
            refine nrm ?_
            refine cndF HE1867 rfl rfl ?_
            refine wp_exit ?_
            refine (thn_exit (thn_exit (blk_hit ?_)))
            refine nrm ?_
            refine wp_seq ?_
            refine wp_seq ?_
            refine rg ?_
            refine pl_x HE1867 HH1367 (wt0 rfl) (x_move rfl) rfl rfl fun a_1868 HE1869 => ?_
            refine pl_x HE1869 HH1367 (wt0 rfl) (x_not rfl) rfl rfl fun a_1870 HE1871 => ?_
            refine pl_x HE1871 HH1367 (wt0 rfl) (x_move rfl) rfl rfl fun a_1872 HE1873 => ?_
            rcases Bool.eq_false_or_eq_true ((hdK (splitR 32 ((splitR 10 a0)[0]?.getD [])) && (((splitR 10 a0).drop 1).take j).all lineK)) with hc232 | hc232
            · refine pl fun K_1874 hK1875 => ?_
              refine st_call HE1873 (wtT HE1873 rfl rfl rfl (not_f hc232)) rfl rfl rfl en_95 rfl rfl (spec_l06Is _ _ _ ((muS a0).1, (muS a0).2.1, (muS a0).2.2.1, ((((splitR 10 a0).drop 1).take j).map lineS)) _ (rep_Multi (x := ((muS a0).1, (muS a0).2.1, (muS a0).2.2.1, ((((splitR 10 a0).drop 1).take j).map lineS))) (by first | exact ⟨by omega, by omega⟩ | (dsimp only; exact ⟨by omega, by omega⟩)) (by first | exact ⟨by omega, by omega⟩ | (dsimp only; exact ⟨by omega, by omega⟩)) (by first | exact ⟨by omega, by omega⟩ | (dsimp only; exact ⟨by omega, by omega⟩)) (HH1367.vecSl (i := 0) rfl)) (c_blkN 1 rfl _ HH1367)) fun e w' hr => ?_
              obtain ⟨rfl, hbr233⟩ := hr
              have HH1876 := HH1367.on hbr233
              refine ⟨_, rfl, fun a_1877 HE1878 => hK1875 _ _ ?_⟩
              refine pl_x HE1878 HH1876 (wtT HE1878 rfl rfl rfl (not_f hc232)) (x_not rfl) rfl rfl fun a_1879 HE1880 => ?_
              refine pl_x HE1880 HH1876 (wt0 rfl) (x_pickF rfl (not_f hc232) rfl) rfl rfl fun a_1881 HE1882 => ?_
              refine pl_x HE1882 HH1876 (wt0 rfl) (x_move rfl) rfl rfl fun a_1883 HE1884 => ?_
              rcases Bool.eq_false_or_eq_true ((validMulti ((muS a0).1, (muS a0).2.1, (muS a0).2.2.1, ((((splitR 10 a0).drop 1).take j).map lineS)))) with hc234 | hc234
              · obtain ⟨v0, v1, v2, v3⟩ := validMulti_facts hc234
                have v4 := validMulti_ok hc234
                refine pl fun K_1885 hK1886 => ?_
                refine st_call HE1884 (wtT HE1884 rfl rfl rfl (not_f hc234)) rfl rfl rfl en_96 rfl rfl (spec_l06Text _ _ _ ((muS a0).1, (muS a0).2.1, (muS a0).2.2.1, ((((splitR 10 a0).drop 1).take j).map lineS)) _ (rep_Multi (x := ((muS a0).1, (muS a0).2.1, (muS a0).2.2.1, ((((splitR 10 a0).drop 1).take j).map lineS))) (by first | exact ⟨by omega, by omega⟩ | (dsimp only; exact ⟨by omega, by omega⟩)) (by first | exact ⟨by omega, by omega⟩ | (dsimp only; exact ⟨by omega, by omega⟩)) (by first | exact ⟨by omega, by omega⟩ | (dsimp only; exact ⟨by omega, by omega⟩)) (HH1876.vecSl (i := 0) rfl)) (c_blkN 1 rfl _ HH1876) (by exact ⟨v0, v1, v2⟩) (by omega) (by assumption)) fun e w' hr => ?_
                obtain ⟨rfl, hbr235⟩ := hr
                have HH1887 := HH1876.on hbr235
                refine ⟨_, rfl, fun a_1888 HE1889 => hK1886 _ _ ?_⟩
                refine pl_x HE1889 HH1887 (wtT HE1889 rfl rfl rfl (not_f hc234)) (x_move rfl) rfl rfl fun a_1890 HE1891 => ?_
                refine pl_x HE1891 HH1887 (wtT HE1891 rfl rfl rfl (not_f hc234)) (x_sneqB rfl rfl) rfl rfl fun a_1892 HE1893 => ?_
                refine pl_x HE1893 HH1887 (wt0 rfl) (x_pickF rfl (not_f hc234) rfl) rfl rfl fun a_1894 HE1895 => ?_
                refine wpList_nil ?_
                clear a_1866 HE1867 a_1868 HE1869 a_1870 HE1871 HH1367 a_1872 HE1873 a_1877 HE1878 a_1879 HE1880 a_1881 HE1882 K_1874 hK1875 HH1876 a_1883 HE1884 a_1888 HE1889 a_1890 HE1891 a_1892 HE1893 hK1886 K_1885
                refine nrm ?_
                refine cnd_nd HE1895 rfl (fun hc236 => ?_) (fun hc236 => ?_)
                · refine wp_seq ?_
                  refine rg ?_
                  refine pl_x HE1895 HH1887 (wt0 rfl) (show XS _ _ _ _ (.agg #[.int .i64 (0), .int .i64 (0), .int .i64 (0), .slice none (0) 0]) from x_build (vs := []) tb_68 rfl (by simp [Value.oneCell'])) rfl rfl fun a_1896 HE1897 => ?_
                  refine pl fun K_1898 hK1899 => ?_
                  refine st_store (vs := [.int .i64 (0), .int .i64 (0), .int .i64 (0), .slice none (0) 0]) 4 HE1897 HH1887 tv_68 rfl rfl rfl rfl rfl rfl (by simp [Value.oneCell']) (wt0 rfl) fun w' HH1900 => hK1899 _ _ ?_
                  refine pl_x HE1897 HH1900 (wt0 rfl) (x_assign rfl) rfl rfl fun a_1901 HE1902 => ?_
                  refine wpList_nil ?_
                  clear a_1894 HE1895 HH1887 a_1896 HE1897 hK1899 K_1898
                  refine nrm ?_
                  refine wp_ret ?_
                  refine (thn_ret ?_)
                  refine ret2 HE1902 rfl (rv_cell rfl (tv_68.loadN (cs := [.int .i64 (0), .int .i64 (0), .int .i64 (0), .slice none (0) 0]) rfl (c_blkN 4 rfl _ HH1900))) (rv_tmp rfl) ?_
                  have HH1903 := HH1900.flatO (E := eMulti) (cs := [.int .i64 (0), .int .i64 (0), .int .i64 (0), .slice none (0) 0]) (x := (0, 0, 0, [])) (fun _ => (oPrN (oI (by exact ⟨by omega, by omega⟩)) (oPrN (oI (by exact ⟨by omega, by omega⟩)) (oPrN (oI (by exact ⟨by omega, by omega⟩)) (oSl (So.nil (Nat.zero_le _)))))))
                  have hF : (rdMuI a0) = ((0, 0, 0, []), false) := by
                    rw [← rdMu_eq]; first | exact rdMuS_61 (by omega) | exact rdMuS_3 rfl (by omega) hx0 (by omega) | exact rdMuS_line rfl (by omega) hx0 (lineK_5 (by omega)) | exact rdMuS_ok (by assumption) | (rw [rdMuS_eq rfl (by omega) (by omega) hl0 (by omega) (by assumption) (by omega) hM]; first | (rw [if_pos ⟨by assumption, by assumption⟩]; done) | (exact if_neg (fun hh => ff hh.1 (by assumption))) | (exact if_neg (fun hh => absurd hh.2 (by assumption))))
                  exact ⟨_, by first | (rw [hF] <;> rfl) | rfl | (rw [hF]; simp only [Ending.returned.injEq, Value.slice.injEq, true_and, and_true]; first | omega | (simp; done)) | (rw [hF]; simp; omega), by rw [hF]; exact (HH1903.o (i := 0) rfl), HH1903.below⟩
                · refine wp_skip ?_
                  refine nrm ?_
                  refine wp_seq ?_
                  refine rg ?_
                  refine pl_x HE1895 HH1887 (wt0 rfl) (x_loadN (cs := [.int .i64 ((muS a0).1), .int .i64 ((muS a0).2.1), .int .i64 ((muS a0).2.2.1), .slice A_12_3 ((List.length ((((splitR 10 a0).drop 1).take j).map lineS))) c_12_3]) tv_68 rfl rfl (c_blkN 1 rfl)) rfl rfl fun a_1904 HE1905 => ?_
                  refine pl fun K_1906 hK1907 => ?_
                  refine st_store (vs := [.int .i64 ((muS a0).1), .int .i64 ((muS a0).2.1), .int .i64 ((muS a0).2.2.1), .slice A_12_3 ((List.length ((((splitR 10 a0).drop 1).take j).map lineS))) c_12_3]) 4 HE1905 HH1887 tv_68 rfl rfl rfl rfl rfl rfl (by simp [Value.oneCell']) (wt0 rfl) fun w' HH1908 => hK1907 _ _ ?_
                  refine pl_x HE1905 HH1908 (wt0 rfl) (x_assign rfl) rfl rfl fun a_1909 HE1910 => ?_
                  refine wpList_nil ?_
                  clear a_1894 HE1895 HH1887 a_1904 HE1905 hK1907 K_1906
                  refine nrm ?_
                  refine wp_ret ?_
                  refine ret2 HE1910 rfl (rv_cell rfl (tv_68.loadN (cs := [.int .i64 ((muS a0).1), .int .i64 ((muS a0).2.1), .int .i64 ((muS a0).2.2.1), .slice A_12_3 ((List.length ((((splitR 10 a0).drop 1).take j).map lineS))) c_12_3]) rfl (c_blkN 4 rfl _ HH1908))) (rv_tmp rfl) ?_
                  have HH1911 := HH1908.vecSo
                  have HH1912 := HH1911.pairF (E := eInt) (c1 := [.int .i64 ((muS a0).2.2.1)]) (x := (muS a0).2.2.1) (oI (by exact ⟨by omega, by omega⟩))
                  have HH1913 := HH1912.pairF (E := eInt) (c1 := [.int .i64 ((muS a0).2.1)]) (x := (muS a0).2.1) (oI (by exact ⟨by omega, by omega⟩))
                  have HH1914 := HH1913.pairF (E := eInt) (c1 := [.int .i64 ((muS a0).1)]) (x := (muS a0).1) (oI (by exact ⟨by omega, by omega⟩))
                  obtain ⟨S237, HH1915⟩ : ∃ S, Held Nob w (rO eMulti S [.int .i64 ((muS a0).1), .int .i64 ((muS a0).2.1), .int .i64 ((muS a0).2.2.1), .slice A_12_3 ((List.length ((((splitR 10 a0).drop 1).take j).map lineS))) c_12_3] ((muS a0).1, (muS a0).2.1, (muS a0).2.2.1, ((((splitR 10 a0).drop 1).take j).map lineS)) :: _) _ := ⟨_, HH1914⟩
                  have hF : (rdMuI a0) = (((muS a0).1, (muS a0).2.1, (muS a0).2.2.1, ((((splitR 10 a0).drop 1).take j).map lineS)), true) := by
                    rw [← rdMu_eq]; first | exact rdMuS_61 (by omega) | exact rdMuS_3 rfl (by omega) hx0 (by omega) | exact rdMuS_line rfl (by omega) hx0 (lineK_5 (by omega)) | exact rdMuS_ok (by assumption) | (rw [rdMuS_eq rfl (by omega) (by omega) hl0 (by omega) (by assumption) (by omega) hM]; first | (rw [if_pos ⟨by assumption, by assumption⟩]; done) | (exact if_neg (fun hh => ff hh.1 (by assumption))) | (exact if_neg (fun hh => absurd hh.2 (by assumption))))
                  exact ⟨_, by first | (rw [hF] <;> rfl) | rfl | (rw [hF]; simp only [Ending.returned.injEq, Value.slice.injEq, true_and, and_true]; first | omega | (simp; done)) | (rw [hF]; simp; omega), by rw [hF]; exact (HH1915.o (i := 0) rfl), HH1915.below⟩
              · refine pl_no HE1884 (wtF HE1884 rfl rfl rfl (not_t hc234)) rfl rfl fun a_1916 HE1917 => ?_
                refine pl_no HE1917 (wtF HE1917 rfl rfl rfl (not_t hc234)) rfl rfl fun a_1918 HE1919 => ?_
                refine pl_no HE1919 (wtF HE1919 rfl rfl rfl (not_t hc234)) rfl rfl fun a_1920 HE1921 => ?_
                refine pl_x HE1921 HH1876 (wt0 rfl) (x_pickT rfl (not_t hc234) rfl) rfl rfl fun a_1922 HE1923 => ?_
                refine wpList_nil ?_
                clear a_1866 HE1867 a_1868 HE1869 a_1870 HE1871 HH1367 a_1872 HE1873 a_1877 HE1878 a_1879 HE1880 a_1881 HE1882 a_1883 HE1884 a_1916 HE1917 a_1918 HE1919 a_1920 HE1921 hK1875 K_1874
                refine nrm ?_
                refine cndT HE1923 rfl rfl ?_
                refine wp_seq ?_
                refine rg ?_
                refine pl_x HE1923 HH1876 (wt0 rfl) (show XS _ _ _ _ (.agg #[.int .i64 (0), .int .i64 (0), .int .i64 (0), .slice none (0) 0]) from x_build (vs := []) tb_68 rfl (by simp [Value.oneCell'])) rfl rfl fun a_1924 HE1925 => ?_
                refine pl fun K_1926 hK1927 => ?_
                refine st_store (vs := [.int .i64 (0), .int .i64 (0), .int .i64 (0), .slice none (0) 0]) 4 HE1925 HH1876 tv_68 rfl rfl rfl rfl rfl rfl (by simp [Value.oneCell']) (wt0 rfl) fun w' HH1928 => hK1927 _ _ ?_
                refine pl_x HE1925 HH1928 (wt0 rfl) (x_assign rfl) rfl rfl fun a_1929 HE1930 => ?_
                refine wpList_nil ?_
                clear a_1922 HE1923 HH1876 a_1924 HE1925 hK1927 K_1926
                refine nrm ?_
                refine wp_ret ?_
                refine (thn_ret ?_)
                refine ret2 HE1930 rfl (rv_cell rfl (tv_68.loadN (cs := [.int .i64 (0), .int .i64 (0), .int .i64 (0), .slice none (0) 0]) rfl (c_blkN 4 rfl _ HH1928))) (rv_tmp rfl) ?_
                have HH1931 := HH1928.flatO (E := eMulti) (cs := [.int .i64 (0), .int .i64 (0), .int .i64 (0), .slice none (0) 0]) (x := (0, 0, 0, [])) (fun _ => (oPrN (oI (by exact ⟨by omega, by omega⟩)) (oPrN (oI (by exact ⟨by omega, by omega⟩)) (oPrN (oI (by exact ⟨by omega, by omega⟩)) (oSl (So.nil (Nat.zero_le _)))))))
                have hF : (rdMuI a0) = ((0, 0, 0, []), false) := by
                  rw [← rdMu_eq]; first | exact rdMuS_61 (by omega) | exact rdMuS_3 rfl (by omega) hx0 (by omega) | exact rdMuS_line rfl (by omega) hx0 (lineK_5 (by omega)) | exact rdMuS_ok (by assumption) | (rw [rdMuS_eq rfl (by omega) (by omega) hl0 (by omega) (by assumption) (by omega) hM]; first | (rw [if_pos ⟨by assumption, by assumption⟩]; done) | (exact if_neg (fun hh => ff hh.1 (by assumption))) | (exact if_neg (fun hh => absurd hh.2 (by assumption))))
                exact ⟨_, by first | (rw [hF] <;> rfl) | rfl | (rw [hF]; simp only [Ending.returned.injEq, Value.slice.injEq, true_and, and_true]; first | omega | (simp; done)) | (rw [hF]; simp; omega), by rw [hF]; exact (HH1931.o (i := 0) rfl), HH1931.below⟩
            · refine pl_no HE1873 (wtF HE1873 rfl rfl rfl (not_t hc232)) rfl rfl fun a_1932 HE1933 => ?_
              refine pl_no HE1933 (wtF HE1933 rfl rfl rfl (not_t hc232)) rfl rfl fun a_1934 HE1935 => ?_
              refine pl_x HE1935 HH1367 (wt0 rfl) (x_pickT rfl (not_t hc232) rfl) rfl rfl fun a_1936 HE1937 => ?_
              refine pl_x HE1937 HH1367 (wt0 rfl) (x_move rfl) rfl rfl fun a_1938 HE1939 => ?_
              refine pl_no HE1939 (wtF HE1939 rfl rfl rfl rfl) rfl rfl fun a_1940 HE1941 => ?_
              refine pl_no HE1941 (wtF HE1941 rfl rfl rfl rfl) rfl rfl fun a_1942 HE1943 => ?_
              refine pl_no HE1943 (wtF HE1943 rfl rfl rfl rfl) rfl rfl fun a_1944 HE1945 => ?_
              refine pl_x HE1945 HH1367 (wt0 rfl) (x_pickT rfl rfl rfl) rfl rfl fun a_1946 HE1947 => ?_
              refine wpList_nil ?_
              clear a_1866 HE1867 a_1868 HE1869 a_1870 HE1871 a_1872 HE1873 a_1932 HE1933 a_1934 HE1935 a_1936 HE1937 a_1938 HE1939 a_1940 HE1941 a_1942 HE1943 a_1944 HE1945
              refine nrm ?_
              refine cndT HE1947 rfl rfl ?_
              refine wp_seq ?_
              refine rg ?_
              refine pl_x HE1947 HH1367 (wt0 rfl) (show XS _ _ _ _ (.agg #[.int .i64 (0), .int .i64 (0), .int .i64 (0), .slice none (0) 0]) from x_build (vs := []) tb_68 rfl (by simp [Value.oneCell'])) rfl rfl fun a_1948 HE1949 => ?_
              refine pl fun K_1950 hK1951 => ?_
              refine st_store (vs := [.int .i64 (0), .int .i64 (0), .int .i64 (0), .slice none (0) 0]) 4 HE1949 HH1367 tv_68 rfl rfl rfl rfl rfl rfl (by simp [Value.oneCell']) (wt0 rfl) fun w' HH1952 => hK1951 _ _ ?_
              refine pl_x HE1949 HH1952 (wt0 rfl) (x_assign rfl) rfl rfl fun a_1953 HE1954 => ?_
              refine wpList_nil ?_
              clear a_1946 HE1947 HH1367 a_1948 HE1949 hK1951 K_1950
              refine nrm ?_
              refine wp_ret ?_
              refine (thn_ret ?_)
              refine ret2 HE1954 rfl (rv_cell rfl (tv_68.loadN (cs := [.int .i64 (0), .int .i64 (0), .int .i64 (0), .slice none (0) 0]) rfl (c_blkN 4 rfl _ HH1952))) (rv_tmp rfl) ?_
              have HH1955 := HH1952.flatO (E := eMulti) (cs := [.int .i64 (0), .int .i64 (0), .int .i64 (0), .slice none (0) 0]) (x := (0, 0, 0, [])) (fun _ => (oPrN (oI (by exact ⟨by omega, by omega⟩)) (oPrN (oI (by exact ⟨by omega, by omega⟩)) (oPrN (oI (by exact ⟨by omega, by omega⟩)) (oSl (So.nil (Nat.zero_le _)))))))
              have hF : (rdMuI a0) = ((0, 0, 0, []), false) := by
                rw [← rdMu_eq]; first | exact rdMuS_61 (by omega) | exact rdMuS_3 rfl (by omega) hx0 (by omega) | exact rdMuS_line rfl (by omega) hx0 (lineK_5 (by omega)) | exact rdMuS_ok (by assumption) | (rw [rdMuS_eq rfl (by omega) (by omega) hl0 (by omega) (by assumption) (by omega) hM]; first | (rw [if_pos ⟨by assumption, by assumption⟩]; done) | (exact if_neg (fun hh => ff hh.1 (by assumption))) | (exact if_neg (fun hh => absurd hh.2 (by assumption))))
              exact ⟨_, by first | (rw [hF] <;> rfl) | rfl | (rw [hF]; simp only [Ending.returned.injEq, Value.slice.injEq, true_and, and_true]; first | omega | (simp; done)) | (rw [hF]; simp; omega), by rw [hF]; exact (HH1955.o (i := 0) rfl), HH1955.below⟩

end Go.Proofs.YtcfdkckchbdafaaGreatDoor
