/- What the proof of FnExactReadFractions needs: contracts of the functions that it reaches, each once. -/
import Derived.Test.YthknelhboibbnaaDoorProg
import Derived.Test.YthknelhboibbnaaDoorQMem
import Derived.Test.YthknelhboibbnaaDoorQOpen
import Derived.Test.YthknelhboibbnaaDoorLReadFractionsa
import Derived.Test.YthknelhboibbnaaDoorLReadFractionsb
import Derived.Test.YthknelhboibbnaaDoorLReadFractionsc
import Derived.WalkKit
import Derived.WalkSpells
import Derived.Below
import Derived.LoopTactic
import Derived.Outline
import Derived.Deep.QuietTactic
import Derived.BigQuiet
import Derived.Deep.LoopGhost
import Derived.Handy
import Derived.Lib.Hide
import Derived.Shelf.Abstract
import Derived.StillTailTactics
import Derived.OwnWalk
import Derived.Maps.AppendAt
import Derived.RegionTactic
import Derived.Deep.RegionHeld3
import Derived.IntWalk
import Derived.Deep.Upon
import Derived.Laws.OwnMore
import Derived.Maps.AppendAt
import Derived.Laws.BytesString
import Derived.Laws.Strings
import Derived.Lib.Bytes
import Derived.Lib.Strings
import Derived.Lib.FrozenHead
import Derived.Lib.RuneBytes
import Derived.Lib.LaidTab
import Derived.Laws.StructEq
import Derived.Lib.ItoaLen
import Derived.Lib.Join
import Derived.Shelf.Strconv.Itoa4
import Derived.Shelf.Strings.OnBuilder
import Derived.Shelf.Strings.BuilderK
import Derived.Shelf.Strings.BuilderRune
import Derived.Shelf.LaysM
import Derived.Ground.NamesProg
import Derived.Lib.ParseIntBTie
import Derived.Lib.SplitLaws
import Derived.Lib.Replace
import Derived.Shelf.LaysC
import Derived.Shelf.Strconv.ErrVarParseInt
import Derived.Shelf.Strconv.ParseIntPublic10
import Derived.Shelf.Strings.Prefix
import Derived.Shelf.Strings.Cut
import Derived.Shelf.Strings.Split
import Derived.Shelf.Strings.Replace
import Derived.Shelf.Small.Wraps
import Derived.Stop.IfaceNil
namespace Go.Proofs.YthknelhboibbnaaDoor
open Go.RowKit

open Go.Lib in
set_option maxRecDepth 100000 in
set_option maxHeartbeats 4000000 in
theorem impl_ReadFractions (a0 : List UInt8) (w : World) (hG : Glob2 w) (s0 : a0.length ≤ 2000000) :
    Calls Tryd.prog 16 #[.string (bs a0)] w fun e w' => ∃ (A0' : Option Addr) (c0' : Nat), e = .returned (.tuple #[.slice A0' (rdFrI a0).1.length c0', .bool (rdFrI a0).2]) ∧ So eFraction w' (Fr w w') A0' c0' (rdFrI a0).1 ∧ Below w.heap.size w w' := by
  have HH1 := Held.start Nob w
  refine enter (n := 53) Tryd.func16 rfl rfl rfl fun a_2 HE3 => ?_
  refine wp_seq ?_
  refine rg ?_
  refine pl_x HE3 HH1 (wt0 rfl) (x_assign rfl) rfl rfl fun a_4 HE5 => ?_
  refine pl_x HE5 HH1 (wt0 rfl) (x_assign rfl) rfl rfl fun a_6 HE7 => ?_
  refine wpList_nil ?_
  clear a_2 HE3 a_4 HE5
  refine nrm ?_
  refine wp_seq ?_
  refine rg ?_
  refine pl fun K_8 hK9 => ?_
  refine st_lit (m := 0) (cs := []) (e := 47) HE7 HH1 (run_lit ts_22 HE7 (vs := []) rfl rfl (by simp [Value.cells]) rfl (by decide)) (wt0 rfl) rfl rfl fun q21 a_10 w' HE11 HH12 => hK9 _ _ ?_
  refine pl_x HE11 HH12 (wt0 rfl) (x_assign rfl) rfl rfl fun a_13 HE14 => ?_
  refine wpList_nil ?_
  clear a_6 HE7 HH1 a_10 HE11 hK9 K_8
  refine nrm ?_
  refine wp_seq ?_
  refine wp_seq ?_
  refine rg ?_
  refine pl_x HE14 HH12 (wt0 rfl) (x_move rfl) rfl rfl fun a_15 HE16 => ?_
  refine pl fun K_17 hK18 => ?_
  refine st_call HE16 (wt0 rfl) rfl rfl rfl en_35 rfl rfl (Split_1 a0 ([32]) 32 _ (HH12.glob2 hG) (by omega) (by rfl)) fun e w' hr => ?_
  have hAr22_0 := splitR_len 32 a0
  have hAr22_1 := splitR_piece 32 a0
  obtain ⟨Ar22_0, cr22_0, rfl, hor22_0, hbr22⟩ := hr
  obtain ⟨Sr22, HH19⟩ := HH12.newS hbr22 hor22_0
  refine ⟨_, rfl, fun a_20 HE21 => hK18 _ _ ?_⟩
  refine pl_x HE21 HH19 (wt0 rfl) (x_len Tryd.underlying43 rfl) rfl rfl fun a_22 HE23 => ?_
  refine pl_x HE23 HH19 (wt0 rfl) (x_move rfl) rfl rfl fun a_24 HE25 => ?_
  refine wpList_nil ?_
  clear a_13 HE14 HH12 a_15 HE16 a_20 HE21 a_22 HE23 hK18 K_17
  refine nrm ?_
  refine wp_block ?_
  have HH26 := HH19.sel [1, 0] (by decide) rfl
  have HH27 := Held.vecFlat (E := eFraction) (xs := []) (css := []) HH26 rfl (Nat.zero_le _) (fun i x hx => by simp at hx)
  refine lp (fun m a w' => ∃ (k : Nat) (A_4 : Option Addr) (c_4 : Nat) (S_4 : Nat → Prop), m = (splitR 32 a0).length - k ∧ Env 53 [(4, .slice A_4 (List.length (((splitR 32 a0).take k).map fracI)) c_4), (15, .int .i64 (k : Int)), (0, .string (bs a0)), (13, .slice Ar22_0 ((splitR 32 a0).length) cr22_0), (14, .int .i64 (((splitR 32 a0).length : Int)))] a ∧ Held Nob w [rVec eFraction 47 S_4 A_4 c_4 (((splitR 32 a0).take k).map fracI), rSo eTxt Sr22 Ar22_0 cr22_0 (splitR 32 a0)] w' ∧ (k ≤ (splitR 32 a0).length)) ((splitR 32 a0).length - (0)) ?_ ?_
  · have E23 : ((splitR 32 a0).take 0).map fracI = ([] : List tFraction) := by
      simp
    exact ⟨0, (some ⟨q21, 0, none⟩), (List.length (α := tFraction) []), (fun b => b = q21), rfl, HE25.sub ⟨(by rw [E23]; rfl), (lkI rfl (by first | rfl | omega | (simp []; done))), rfl, rfl, rfl, trivial⟩, ((HH27.sel [0, 1] (by decide) rfl).to (by first | rfl | (rw [E23]; done) | (rw [E23]; rfl) | (simp only [E23]; done) | (simp only [E23]; rfl) | (rw [E23]; simp only [List.length_set]; done))), (by first | omega | assumption | (simp; done) | simp_all)⟩
  · rintro m a_28 w' ⟨k, A_4, c_4, S_4, rfl, HE29, HH30, p24_0⟩
    have hn0 : (((splitR 32 a0).take k).map fracI).length ≤ a0.length + 1 := by have := splitR_len 32 a0; rw [List.length_map, List.length_take]; omega
    refine wp_seq ?_
    refine rg ?_
    refine pl_x HE29 HH30 (wt0 rfl) (x_lss rfl rfl) rfl rfl fun a_31 HE32 => ?_
    refine wpList_nil ?_
    clear HH19 HH26 a_24 HE25 HH27 a_28 HE29
    refine nrm ?_
    refine wp_seq ?_
    refine cnd_d HE32 rfl (fun hc25 => ?_) (fun hc25 => ?_)
    · refine wp_skip ?_
      refine nrm ?_
      refine wp_seq ?_
      refine wp_block ?_
      refine wp_seq ?_
      refine rg ?_
      have ke26 : k < (splitR 32 a0).length := by omega
      obtain ⟨be26, fe26, rfl⟩ := el_own HH30 (i := 1) rfl ke26
      refine pl_x HE32 HH30 (wt0 rfl) (x_indexAddr ts_43 rfl rfl rfl rfl ke26) rfl rfl fun a_33 HE34 => ?_
      obtain ⟨y27, xy27⟩ : ∃ y_, y_ = (splitR 32 a0)[k]'(by first | exact ke26 | (simp only [List.length_set]; exact ke26) | omega | (simp only [List.length_set]; omega) | (simp; omega)) := ⟨_, rfl⟩
      have jy27 : List.length y27 ≤ 9223372036854775807 := by rw [xy27]; exact i_ownS HH30 1 rfl _
      have hx0 := xy27
      have hl0 := splitR_piece 32 a0 y27 (by rw [xy27]; exact List.getElem_mem _)
      refine pl_x HE34 HH30 (wt0 rfl) (x_load1 tv_9 rfl (c_ownS 1 rfl (by first | exact ke26 | (simp only [List.length_set]; exact ke26) | omega | (simp only [List.length_set]; omega) | (simp; omega)) xy27.symm)) rfl rfl fun a_35 HE36 => ?_
      refine pl_x HE36 HH30 (wt0 rfl) (x_assign rfl) rfl rfl fun a_37 HE38 => ?_
      refine wpList_nil ?_
      clear a_31 HE32 a_33 HE34 a_35 HE36
      refine nrm ?_
      refine wp_seq ?_
      refine rg ?_
      refine pl_x HE38 HH30 (wt0 rfl) (x_move rfl) rfl rfl fun a_39 HE40 => ?_
      refine pl fun K_41 hK42 => ?_
      refine st_call HE40 (wt0 rfl) rfl rfl rfl en_36 rfl rfl (Cut_1 y27 ([47]) 47 _ (HH30.glob2 hG) (by omega) (by rfl)) fun e w' hr => ?_
      have hAr28_0 := cutR_len 47 y27
      obtain ⟨rfl, hbr28⟩ := hr
      have HH43 := HH30.on hbr28
      refine ⟨_, rfl, fun a_44 HE45 => hK42 _ _ ?_⟩
      refine pl_x HE45 HH43 (wt0 rfl) (x_move rfl) rfl rfl fun a_46 HE47 => ?_
      refine pl_x HE47 HH43 (wt0 rfl) (x_extract rfl rfl) rfl rfl fun a_48 HE49 => ?_
      refine pl_x HE49 HH43 (wt0 rfl) (x_extract rfl rfl) rfl rfl fun a_50 HE51 => ?_
      refine pl_x HE51 HH43 (wt0 rfl) (x_extract rfl rfl) rfl rfl fun a_52 HE53 => ?_
      refine pl_x HE53 HH43 (wt0 rfl) (x_assign rfl) rfl rfl fun a_54 HE55 => ?_
      refine pl_x HE55 HH43 (wt0 rfl) (x_assign rfl) rfl rfl fun a_56 HE57 => ?_
      refine pl_x HE57 HH43 (wt0 rfl) (x_assign rfl) rfl rfl fun a_58 HE59 => ?_
      refine wpList_nil ?_
      clear a_37 HE38 HH30 a_39 HE40 a_44 HE45 a_46 HE47 a_48 HE49 a_50 HE51 a_52 HE53 a_54 HE55 a_56 HE57 hK42 K_41
      refine nrm ?_
      refine wp_seq ?_
      refine rg ?_
      refine pl_x HE59 HH43 (wt0 rfl) (show XS _ _ _ _ (.agg #[.int .i64 (0), .int .i64 (0)]) from x_build (vs := []) tb_47 rfl (by simp [Value.oneCell'])) rfl rfl fun a_60 HE61 => ?_
      refine pl fun K_62 hK63 => ?_
      refine st_alloc HE61 HH43 tv_47 (wt0 rfl) rfl fun q29 a_64 w' HE65 HH66 => hK63 _ _ ?_
      refine pl fun K_67 hK68 => ?_
      refine st_store (vs := [.int .i64 (0), .int .i64 (0)]) 0 HE65 HH66 tv_47 rfl rfl rfl rfl rfl rfl (by simp [Value.oneCell']) (wt0 rfl) fun w' HH69 => hK68 _ _ ?_
      refine wpList_nil ?_
      clear a_58 HE59 a_60 HE61 HH43 K_62 hK63 HH66 hK68 K_67
      refine nrm ?_
      refine wp_seq ?_
      refine rg ?_
      refine pl_x HE65 HH69 (wt0 rfl) (x_move rfl) rfl rfl fun a_70 HE71 => ?_
      refine pl fun K_72 hK73 => ?_
      refine st_call HE71 (wt0 rfl) rfl rfl rfl en_37 rfl rfl (impl_ReadDecimal ((cutR 47 y27).1) _ (HH69.glob2 hG) (by omega)) fun e w' hr => ?_
      have hAr30_0 := numR_bd ((cutR 47 y27).1)
      obtain ⟨rfl, hbr30⟩ := hr
      have HH74 := HH69.on hbr30
      refine ⟨_, rfl, fun a_75 HE76 => hK73 _ _ ?_⟩
      refine pl_x HE76 HH74 (wt0 rfl) (x_move rfl) rfl rfl fun a_77 HE78 => ?_
      refine pl_x HE78 HH74 (wt0 rfl) (x_extract rfl rfl) rfl rfl fun a_79 HE80 => ?_
      refine pl_x HE80 HH74 (wt0 rfl) (x_extract rfl rfl) rfl rfl fun a_81 HE82 => ?_
      refine pl_x HE82 HH74 (wt0 rfl) (x_fieldAddr fa_47_0 rfl) rfl rfl fun a_83 HE84 => ?_
      refine pl fun K_85 hK86 => ?_
      refine st_store (vs := [.int .i64 ((numR ((cutR 47 y27).1)).1)]) 0 HE84 HH74 tv_2 rfl rfl rfl rfl rfl rfl (by simp [Value.oneCell']) (wt0 rfl) fun w' HH87 => hK86 _ _ ?_
      refine wpList_nil ?_
      clear a_64 HE65 HH69 a_70 HE71 a_75 HE76 a_77 HE78 a_79 HE80 a_81 HE82 K_72 hK73 HH74 hK86 K_85
      refine nrm ?_
      refine wp_seq ?_
      refine rg ?_
      refine pl_x HE84 HH87 (wt0 rfl) (x_move rfl) rfl rfl fun a_88 HE89 => ?_
      refine pl fun K_90 hK91 => ?_
      refine st_call HE89 (wt0 rfl) rfl rfl rfl en_37 rfl rfl (impl_ReadDecimal ((cutR 47 y27).2.1) _ (HH87.glob2 hG) (by omega)) fun e w' hr => ?_
      have hAr31_0 := numR_bd ((cutR 47 y27).2.1)
      obtain ⟨rfl, hbr31⟩ := hr
      have HH92 := HH87.on hbr31
      refine ⟨_, rfl, fun a_93 HE94 => hK91 _ _ ?_⟩
      refine pl_x HE94 HH92 (wt0 rfl) (x_move rfl) rfl rfl fun a_95 HE96 => ?_
      refine pl_x HE96 HH92 (wt0 rfl) (x_extract rfl rfl) rfl rfl fun a_97 HE98 => ?_
      refine pl_x HE98 HH92 (wt0 rfl) (x_extract rfl rfl) rfl rfl fun a_99 HE100 => ?_
      refine pl_x HE100 HH92 (wt0 rfl) (x_fieldAddr fa_47_1 rfl) rfl rfl fun a_101 HE102 => ?_
      refine pl fun K_103 hK104 => ?_
      refine st_store (vs := [.int .i64 ((numR ((cutR 47 y27).2.1)).1)]) 0 HE102 HH92 tv_2 rfl rfl rfl rfl rfl rfl (by simp [Value.oneCell']) (wt0 rfl) fun w' HH105 => hK104 _ _ ?_
      refine wpList_nil ?_
      clear a_83 HE84 HH87 a_88 HE89 a_93 HE94 a_95 HE96 a_97 HE98 a_99 HE100 K_90 hK91 HH92 hK104 K_103
      refine nrm ?_
      refine rg ?_
      refine pl_x HE102 HH105 (wt0 rfl) (x_move rfl) rfl rfl fun a_106 HE107 => ?_
      refine pl_x HE107 HH105 (wt0 rfl) (x_loadN (cs := [.int .i64 ((numR ((cutR 47 y27).1)).1), .int .i64 ((numR ((cutR 47 y27).2.1)).1)]) tv_47 rfl rfl (c_blkN 0 rfl)) rfl rfl fun a_108 HE109 => ?_
      refine pl fun K_110 hK111 => ?_
      refine st_lit (m := 1) (cs := [.int .i64 ((numR ((cutR 47 y27).1)).1), .int .i64 ((numR ((cutR 47 y27).2.1)).1)]) (e := 47) HE109 HH105 (run_lit ts_22 HE109 (vs := [.agg #[.int .i64 ((numR ((cutR 47 y27).1)).1), .int .i64 ((numR ((cutR 47 y27).2.1)).1)]]) rfl rfl (by simp [Value.cells]) rfl (by decide)) (wt0 rfl) rfl rfl fun q32 a_112 w' HE113 HH114 => hK111 _ _ ?_
      refine pl fun K_115 hK116 => ?_
      refine st_app1F ((numR ((cutR 47 y27).1)).1, (numR ((cutR 47 y27).2.1)).1) HE113 HH114 ts_22 [2, 0, 1, 3] (by decide) rfl (fun _ => (oPrN (oI (by exact ⟨by omega, by omega⟩)) (oI (by exact ⟨by omega, by omega⟩)))) rfl rfl (by simp [Value.oneCell']) (by unfold maxLen; first | omega | (simp; done) | (simp; omega)) (by first | omega | (simp; done) | (simp; omega)) (wt0 rfl) rfl fun A33 c34 S35 a_117 w' HE118 HH119 => hK116 _ _ ?_
      refine pl_x HE118 HH119 (wt0 rfl) (x_assign rfl) rfl rfl fun a_120 HE121 => ?_
      refine wpList_nil ?_
      clear a_101 HE102 a_106 HE107 a_108 HE109 HH105 K_110 hK111 a_112 HE113 HH114 a_117 HE118 hK116 K_115
      refine blk_n ?_
      refine nrm ?_
      refine rg ?_
      refine pl_x HE121 HH119 (wt0 rfl) (x_add rfl rfl (by exact ⟨by omega, by omega⟩)) rfl rfl fun a_122 HE123 => ?_
      refine pl_x HE123 HH119 (wt0 rfl) (x_move rfl) rfl rfl fun a_124 HE125 => ?_
      refine wpList_nil ?_
      clear a_120 HE121 a_122 HE123
      have E36 : ((splitR 32 a0).take (k + 1)).map fracI = (((splitR 32 a0).take k).map fracI ++ [((numR ((cutR 47 y27).1)).1, (numR ((cutR 47 y27).2.1)).1)]) := by
        exact map_snoc _ (by omega) hx0
      exact nrm ⟨(splitR 32 a0).length - (k + 1), (by omega), k + 1, A33, c34, S35, rfl, HE125.sub ⟨(by rw [E36]; rfl), (lkI rfl (by first | rfl | omega | (simp [p24_0, hc25, xy27]; done))), rfl, rfl, rfl, trivial⟩, ((HH119.sel [0, 2] (by decide) rfl).to (by first | rfl | (rw [E36]; done) | (rw [E36]; rfl) | (simp only [E36]; done) | (simp only [E36]; rfl) | (rw [E36]; simp only [List.length_set]; done))), (by first | omega | assumption | (simp; done) | simp_all)⟩
    · refine wp_exit ?_
      refine (thn_exit (thn_exit (blk_hit ?_)))
      refine nrm ?_
      refine wp_seq ?_
      refine wp_seq ?_
      refine rg ?_
      refine pl_x HE32 HH30 (wt0 rfl) (x_move rfl) rfl rfl fun a_126 HE127 => ?_
      refine pl fun K_128 hK129 => ?_
      refine st_call HE127 (wt0 rfl) rfl rfl rfl en_38 rfl rfl (impl_ValidFractions _ _ (((splitR 32 a0).take k).map fracI) _ (HH30.vecSl (i := 0) rfl)) fun e w' hr => ?_
      obtain ⟨rfl, hbr37⟩ := hr
      have HH130 := HH30.on hbr37
      refine ⟨_, rfl, fun a_131 HE132 => hK129 _ _ ?_⟩
      refine pl_x HE132 HH130 (wt0 rfl) (x_not rfl) rfl rfl fun a_133 HE134 => ?_
      refine pl_x HE134 HH130 (wt0 rfl) (x_move rfl) rfl rfl fun a_135 HE136 => ?_
      rcases Bool.eq_false_or_eq_true ((validFrac (((splitR 32 a0).take k).map fracI))) with hc38 | hc38
      · refine pl_x HE136 HH130 (wtT HE136 rfl rfl rfl (not_f hc38)) (x_move rfl) rfl rfl fun a_137 HE138 => ?_
        refine pl fun K_139 hK140 => ?_
        refine st_call HE138 (wtT HE138 rfl rfl rfl (not_f hc38)) rfl rfl rfl en_39 rfl rfl (impl_FractionsText _ _ (((splitR 32 a0).take k).map fracI) _ (HH130.vecSl (i := 0) rfl) (HH130.glob hG.1)) fun e w' hr => ?_
        obtain ⟨rfl, hbr39⟩ := hr
        have HH141 := HH130.on hbr39
        refine ⟨_, rfl, fun a_142 HE143 => hK140 _ _ ?_⟩
        refine pl_x HE143 HH141 (wtT HE143 rfl rfl rfl (not_f hc38)) (x_move rfl) rfl rfl fun a_144 HE145 => ?_
        refine pl_x HE145 HH141 (wtT HE145 rfl rfl rfl (not_f hc38)) (x_sneqB rfl rfl) rfl rfl fun a_146 HE147 => ?_
        refine pl_x HE147 HH141 (wt0 rfl) (x_pickF rfl (not_f hc38) rfl) rfl rfl fun a_148 HE149 => ?_
        refine wpList_nil ?_
        clear a_31 HE32 HH30 a_126 HE127 a_131 HE132 a_133 HE134 a_135 HE136 K_128 hK129 HH130 a_137 HE138 a_142 HE143 a_144 HE145 a_146 HE147 hK140 K_139
        refine nrm ?_
        refine cnd_nd HE149 rfl (fun hc40 => ?_) (fun hc40 => ?_)
        · refine wp_seq ?_
          refine rg ?_
          refine pl_x HE149 HH141 (wt0 rfl) (x_assign rfl) rfl rfl fun a_150 HE151 => ?_
          refine pl_x HE151 HH141 (wt0 rfl) (x_assign rfl) rfl rfl fun a_152 HE153 => ?_
          refine wpList_nil ?_
          clear a_148 HE149 a_150 HE151
          refine nrm ?_
          refine wp_ret ?_
          refine (thn_ret ?_)
          refine ret2 HE153 rfl (rv_tmp rfl) (rv_tmp rfl) ?_
          have hF : (rdFrI a0) = ([], false) := by
            rw [rdFrI_yes (k := k) (by omega) rfl]; first | (rw [if_pos ⟨by assumption, by assumption⟩]; done) | (rw [if_neg (fun hh => ff hh.1 (by assumption))]; done) | (rw [if_neg (fun hh => absurd hh.2 (by assumption))]; done)
          exact ⟨none, 0, by first | (rw [hF] <;> rfl) | rfl | (rw [hF]; simp only [Ending.returned.injEq, Value.slice.injEq, true_and, and_true]; first | omega | (simp; done)) | (rw [hF]; simp; omega), by rw [hF]; exact (So.nil (Nat.zero_le _)), HH141.below⟩
        · refine wp_skip ?_
          refine nrm ?_
          refine wp_seq ?_
          refine rg ?_
          refine pl_x HE149 HH141 (wt0 rfl) (x_move rfl) rfl rfl fun a_154 HE155 => ?_
          refine pl_x HE155 HH141 (wt0 rfl) (x_assign rfl) rfl rfl fun a_156 HE157 => ?_
          refine pl_x HE157 HH141 (wt0 rfl) (x_assign rfl) rfl rfl fun a_158 HE159 => ?_
          refine wpList_nil ?_
          clear a_148 HE149 a_154 HE155 a_156 HE157
          refine nrm ?_
          refine wp_ret ?_
          refine ret2 HE159 rfl (rv_tmp rfl) (rv_tmp rfl) ?_
          have HH160 := HH141.vecSo
          have hF : (rdFrI a0) = (((splitR 32 a0).take k).map fracI, true) := by
            rw [rdFrI_yes (k := k) (by omega) rfl]; first | (rw [if_pos ⟨by assumption, by assumption⟩]; done) | (rw [if_neg (fun hh => ff hh.1 (by assumption))]; done) | (rw [if_neg (fun hh => absurd hh.2 (by assumption))]; done)
          exact ⟨A_4, c_4, by first | (rw [hF] <;> rfl) | rfl | (rw [hF]; simp only [Ending.returned.injEq, Value.slice.injEq, true_and, and_true]; first | omega | (simp; done)) | (rw [hF]; simp; omega), by rw [hF]; exact (HH160.so (i := 0) rfl), HH160.below⟩
      · refine pl_no HE136 (wtF HE136 rfl rfl rfl (not_t hc38)) rfl rfl fun a_161 HE162 => ?_
        refine pl_no HE162 (wtF HE162 rfl rfl rfl (not_t hc38)) rfl rfl fun a_163 HE164 => ?_
        refine pl_no HE164 (wtF HE164 rfl rfl rfl (not_t hc38)) rfl rfl fun a_165 HE166 => ?_
        refine pl_no HE166 (wtF HE166 rfl rfl rfl (not_t hc38)) rfl rfl fun a_167 HE168 => ?_
        refine pl_x HE168 HH130 (wt0 rfl) (x_pickT rfl (not_t hc38) rfl) rfl rfl fun a_169 HE170 => ?_
        refine wpList_nil ?_
        clear a_31 HE32 HH30 a_126 HE127 a_131 HE132 a_133 HE134 a_135 HE136 a_161 HE162 a_163 HE164 a_165 HE166 a_167 HE168 hK129 K_128
        refine nrm ?_
        refine cndT HE170 rfl rfl ?_
        refine wp_seq ?_
        refine rg ?_
        refine pl_x HE170 HH130 (wt0 rfl) (x_assign rfl) rfl rfl fun a_171 HE172 => ?_
        refine pl_x HE172 HH130 (wt0 rfl) (x_assign rfl) rfl rfl fun a_173 HE174 => ?_
        refine wpList_nil ?_
        clear a_169 HE170 a_171 HE172
        refine nrm ?_
        refine wp_ret ?_
        refine (thn_ret ?_)
        refine ret2 HE174 rfl (rv_tmp rfl) (rv_tmp rfl) ?_
        have hF : (rdFrI a0) = ([], false) := by
          rw [rdFrI_yes (k := k) (by omega) rfl]; first | (rw [if_pos ⟨by assumption, by assumption⟩]; done) | (rw [if_neg (fun hh => ff hh.1 (by assumption))]; done) | (rw [if_neg (fun hh => absurd hh.2 (by assumption))]; done)
        exact ⟨none, 0, by first | (rw [hF] <;> rfl) | rfl | (rw [hF]; simp only [Ending.returned.injEq, Value.slice.injEq, true_and, and_true]; first | omega | (simp; done)) | (rw [hF]; simp; omega), by rw [hF]; exact (So.nil (Nat.zero_le _)), HH130.below⟩

open Go.Lib in
set_option maxRecDepth 100000 in
set_option maxHeartbeats 4000000 in
theorem spec_ReadFractions (a0 : List UInt8) (w : World) (s0 : a0.length ≤ 2000000) :
    Calls Tryd.prog 15 #[.string (bs a0)] w fun e w' => ∃ (A0' : Option Addr) (c0' : Nat), e = .returned (.tuple #[.slice A0' (rdFrI a0).1.length c0', .bool (rdFrI a0).2]) ∧ So eFraction w' (Fr w w') A0' c0' (rdFrI a0).1 ∧ Below w.heap.size w w' := by
  have HH1 := Held.start Nob w
  refine enter (n := 68) Tryd.func15 rfl rfl rfl fun a_2 HE3 => ?_
  refine wp_seq ?_
  refine rg ?_
  refine pl_x HE3 HH1 (wt0 rfl) (x_assign rfl) rfl rfl fun a_4 HE5 => ?_
  refine pl_x HE5 HH1 (wt0 rfl) (x_assign rfl) rfl rfl fun a_6 HE7 => ?_
  refine wpList_nil ?_
  clear a_2 HE3 a_4 HE5
  refine nrm ?_
  refine wp_seq ?_
  refine rg ?_
  refine pl_x HE7 HH1 (wt0 rfl) (x_move rfl) rfl rfl fun a_8 HE9 => ?_
  refine pl fun K_10 hK11 => ?_
  refine st_call HE9 (wt0 rfl) rfl rfl rfl en_27 rfl rfl (spec_l01Split a0 _ 32 _ (by omega) (by rfl)) fun e w' hr => ?_
  have hAr21_0 := splitR_len 32 a0
  have hAr21_1 := splitR_piece 32 a0
  obtain ⟨Ar21_0, cr21_0, rfl, hor21_0, hbr21⟩ := hr
  obtain ⟨Sr21, HH12⟩ := HH1.newS hbr21 hor21_0
  refine ⟨_, rfl, fun a_13 HE14 => hK11 _ _ ?_⟩
  refine pl_x HE14 HH12 (wt0 rfl) (x_assign rfl) rfl rfl fun a_15 HE16 => ?_
  refine wpList_nil ?_
  clear a_6 HE7 HH1 a_8 HE9 a_13 HE14 hK11 K_10
  refine nrm ?_
  refine wp_seq ?_
  refine wp_seq ?_
  refine rg ?_
  refine pl_x HE16 HH12 (wt0 rfl) (x_move rfl) rfl rfl fun a_17 HE18 => ?_
  refine pl_x HE18 HH12 (wt0 rfl) (x_len Tryd.underlying43 rfl) rfl rfl fun a_19 HE20 => ?_
  refine pl_x HE20 HH12 (wt0 rfl) (x_gtr rfl rfl) rfl rfl fun a_21 HE22 => ?_
  refine wpList_nil ?_
  clear a_15 HE16 a_17 HE18 a_19 HE20
  refine nrm ?_
  refine cnd_d HE22 rfl (fun hc22 => ?_) (fun hc22 => ?_)
  · refine wp_seq ?_
    refine rg ?_
    refine pl_x HE22 HH12 (wt0 rfl) (x_assign rfl) rfl rfl fun a_23 HE24 => ?_
    refine pl_x HE24 HH12 (wt0 rfl) (x_assign rfl) rfl rfl fun a_25 HE26 => ?_
    refine wpList_nil ?_
    clear a_21 HE22 a_23 HE24
    refine nrm ?_
    refine wp_ret ?_
    refine (thn_ret ?_)
    refine ret2 HE26 rfl (rv_tmp rfl) (rv_tmp rfl) ?_
    have hF : (rdFrI a0) = ([], false) := by
      first | (rw [← rdFr_eq]; first | (unfold rdFrS; rw [if_neg (fun hh => by omega)]; done) | exact rdFrS_no (by omega) hx0 (by first | (rw [fracS_len (by omega)]; done) | (rw [fracS_eq rfl (by omega) (by omega) hz0 hz1, if_neg (fun hh => ff hh.1 (by assumption))]; done) | (rw [fracS_eq rfl (by omega) (by omega) hz0 hz1, if_neg (fun hh => ff hh.2 (by assumption))]; done)) | (rw [rdFrS_yes (k := k) (by omega) (by omega) p0_1 rfl]; first | (rw [if_pos ⟨by assumption, by assumption⟩]; done) | (rw [if_neg (fun hh => ff hh.1 (by assumption))]; done) | (rw [if_neg (fun hh => absurd hh.2 (by assumption))]; done)))
    exact ⟨none, 0, by first | (rw [hF] <;> rfl) | rfl | (rw [hF]; simp only [Ending.returned.injEq, Value.slice.injEq, true_and, and_true]; first | omega | (simp; done)) | (rw [hF]; simp; omega), by rw [hF]; exact (So.nil (Nat.zero_le _)), HH12.below⟩
  · refine wp_skip ?_
    refine nrm ?_
    refine wp_seq ?_
    refine rg ?_
    refine pl fun K_27 hK28 => ?_
    refine st_lit (m := 0) (cs := []) (e := 47) HE22 HH12 (run_lit ts_22 HE22 (vs := []) rfl rfl (by simp [Value.cells]) rfl (by decide)) (wt0 rfl) rfl rfl fun q23 a_29 w' HE30 HH31 => hK28 _ _ ?_
    refine pl_x HE30 HH31 (wt0 rfl) (x_assign rfl) rfl rfl fun a_32 HE33 => ?_
    refine wpList_nil ?_
    clear a_21 HE22 HH12 a_29 HE30 hK28 K_27
    refine nrm ?_
    refine wp_seq ?_
    refine wp_seq ?_
    refine rg ?_
    refine pl_x HE33 HH31 (wt0 rfl) (x_assign rfl) rfl rfl fun a_34 HE35 => ?_
    refine wpList_nil ?_
    clear a_32 HE33
    refine nrm ?_
    refine wp_block ?_
    have HH36 := Held.vecFlat (E := eFraction) (xs := []) (css := []) HH31 rfl (Nat.zero_le _) (fun i x hx => by simp at hx)
    refine lp (fun m a w' => ∃ (k : Nat) (A_5 : Option Addr) (c_5 : Nat) (S_5 : Nat → Prop), m = (splitR 32 a0).length - k ∧ Env 68 [(5, .slice A_5 (List.length (((splitR 32 a0).take k).map fracS1)) c_5), (6, .int .i64 (k : Int)), (0, .string (bs a0)), (4, .slice Ar21_0 ((splitR 32 a0).length) cr21_0)] a ∧ Held Nob w [rVec eFraction 47 S_5 A_5 c_5 (((splitR 32 a0).take k).map fracS1), rSo eTxt Sr21 Ar21_0 cr21_0 (splitR 32 a0)] w' ∧ (k ≤ (splitR 32 a0).length) ∧ (((splitR 32 a0).take k).all (fun w => (fracS w).2) = true)) ((splitR 32 a0).length - (0)) ?_ ?_
    · have E24 : ((splitR 32 a0).take 0).map fracS1 = ([] : List tFraction) := by
        simp
      exact ⟨0, (some ⟨q23, 0, none⟩), (List.length (α := tFraction) []), (fun b => b = q23), rfl, HE35.sub ⟨(by rw [E24]; rfl), (lkI rfl (by first | rfl | omega | (simp [hc22]; done))), rfl, rfl, trivial⟩, ((HH36.sel [0, 1] (by decide) rfl).to (by first | rfl | (rw [E24]; done) | (rw [E24]; rfl) | (simp only [E24]; done) | (simp only [E24]; rfl) | (rw [E24]; simp only [List.length_set]; done))), (by first | omega | assumption | (simp; done) | simp_all), (by simp)⟩
    · rintro m a_37 w' ⟨k, A_5, c_5, S_5, rfl, HE38, HH39, p25_0, p25_1⟩
      have hn0 : (((splitR 32 a0).take k).map fracS1).length ≤ a0.length + 1 := by have := splitR_len 32 a0; rw [List.length_map, List.length_take]; omega
      refine wp_seq ?_
      refine wp_seq ?_
      refine rg ?_
      refine pl_x HE38 HH39 (wt0 rfl) (x_move rfl) rfl rfl fun a_40 HE41 => ?_
      refine pl_x HE41 HH39 (wt0 rfl) (x_move rfl) rfl rfl fun a_42 HE43 => ?_
      refine pl_x HE43 HH39 (wt0 rfl) (x_len Tryd.underlying43 rfl) rfl rfl fun a_44 HE45 => ?_
      refine pl_x HE45 HH39 (wt0 rfl) (x_lss rfl rfl) rfl rfl fun a_46 HE47 => ?_
      refine wpList_nil ?_
      clear HH31 a_34 HE35 HH36 a_37 HE38 a_40 HE41 a_42 HE43 a_44 HE45
      refine nrm ?_
      refine cnd_d HE47 rfl (fun hc26 => ?_) (fun hc26 => ?_)
      · refine wp_skip ?_
        refine nrm ?_
        refine wp_seq ?_
        refine wp_block ?_
        refine wp_seq ?_
        refine rg ?_
        refine pl_x HE47 HH39 (wt0 rfl) (x_move rfl) rfl rfl fun a_48 HE49 => ?_
        refine pl_x HE49 HH39 (wt0 rfl) (x_move rfl) rfl rfl fun a_50 HE51 => ?_
        have ke27 : k < (splitR 32 a0).length := by omega
        obtain ⟨be27, fe27, rfl⟩ := el_own HH39 (i := 1) rfl ke27
        refine pl_x HE51 HH39 (wt0 rfl) (x_indexAddr ts_43 rfl rfl rfl rfl ke27) rfl rfl fun a_52 HE53 => ?_
        obtain ⟨y28, xy28⟩ : ∃ y_, y_ = (splitR 32 a0)[k]'(by first | exact ke27 | (simp only [List.length_set]; exact ke27) | omega | (simp only [List.length_set]; omega) | (simp; omega)) := ⟨_, rfl⟩
        have jy28 : List.length y28 ≤ 9223372036854775807 := by rw [xy28]; exact i_ownS HH39 1 rfl _
        have hx0 := xy28
        have hl0 := splitR_piece 32 a0 y28 (by rw [xy28]; exact List.getElem_mem _)
        refine pl_x HE53 HH39 (wt0 rfl) (x_load1 tv_9 rfl (c_ownS 1 rfl (by first | exact ke27 | (simp only [List.length_set]; exact ke27) | omega | (simp only [List.length_set]; omega) | (simp; omega)) xy28.symm)) rfl rfl fun a_54 HE55 => ?_
        refine pl fun K_56 hK57 => ?_
        refine st_call HE55 (wt0 rfl) rfl rfl rfl en_27 rfl rfl (spec_l01Split y28 _ 47 _ (by omega) (by rfl)) fun e w' hr => ?_
        have hAr29_0 := splitR_len 47 y28
        have hAr29_1 := splitR_piece 47 y28
        obtain ⟨Ar29_0, cr29_0, rfl, hor29_0, hbr29⟩ := hr
        obtain ⟨Sr29, HH58⟩ := HH39.newS hbr29 hor29_0
        refine ⟨_, rfl, fun a_59 HE60 => hK57 _ _ ?_⟩
        refine pl_x HE60 HH58 (wt0 rfl) (x_assign rfl) rfl rfl fun a_61 HE62 => ?_
        refine wpList_nil ?_
        clear a_46 HE47 a_48 HE49 a_50 HE51 a_52 HE53 HH39 a_54 HE55 a_59 HE60 hK57 K_56
        refine nrm ?_
        refine wp_seq ?_
        refine wp_seq ?_
        refine rg ?_
        refine pl_x HE62 HH58 (wt0 rfl) (x_move rfl) rfl rfl fun a_63 HE64 => ?_
        refine pl_x HE64 HH58 (wt0 rfl) (x_len Tryd.underlying43 rfl) rfl rfl fun a_65 HE66 => ?_
        refine pl_x HE66 HH58 (wt0 rfl) (x_neq rfl rfl) rfl rfl fun a_67 HE68 => ?_
        refine wpList_nil ?_
        clear a_61 HE62 a_63 HE64 a_65 HE66
        refine nrm ?_
        refine cnd_ne HE68 rfl (fun hc30 => ?_) (fun hc30 => ?_)
        · refine wp_seq ?_
          refine rg ?_
          refine pl_x HE68 HH58 (wt0 rfl) (x_assign rfl) rfl rfl fun a_69 HE70 => ?_
          refine pl_x HE70 HH58 (wt0 rfl) (x_assign rfl) rfl rfl fun a_71 HE72 => ?_
          refine wpList_nil ?_
          clear a_67 HE68 a_69 HE70
          refine nrm ?_
          refine wp_ret ?_
          refine (thn_ret (blk_ret (thn_ret (thn_ret (blk_ret (thn_ret ?_))))))
          refine ret2 HE72 rfl (rv_tmp rfl) (rv_tmp rfl) ?_
          have hF : (rdFrI a0) = ([], false) := by
            first | (rw [← rdFr_eq]; first | (unfold rdFrS; rw [if_neg (fun hh => by omega)]; done) | exact rdFrS_no (by omega) hx0 (by first | (rw [fracS_len (by omega)]; done) | (rw [fracS_eq rfl (by omega) (by omega) hz0 hz1, if_neg (fun hh => ff hh.1 (by assumption))]; done) | (rw [fracS_eq rfl (by omega) (by omega) hz0 hz1, if_neg (fun hh => ff hh.2 (by assumption))]; done)) | (rw [rdFrS_yes (k := k) (by omega) (by omega) p25_1 rfl]; first | (rw [if_pos ⟨by assumption, by assumption⟩]; done) | (rw [if_neg (fun hh => ff hh.1 (by assumption))]; done) | (rw [if_neg (fun hh => absurd hh.2 (by assumption))]; done)))
          exact ⟨none, 0, by first | (rw [hF] <;> rfl) | rfl | (rw [hF]; simp only [Ending.returned.injEq, Value.slice.injEq, true_and, and_true]; first | omega | (simp; done)) | (rw [hF]; simp; omega), by rw [hF]; exact (So.nil (Nat.zero_le _)), HH58.below⟩
        · refine wp_skip ?_
          refine nrm ?_
          refine wp_seq ?_
          refine rg ?_
          refine pl_x HE68 HH58 (wt0 rfl) (x_move rfl) rfl rfl fun a_73 HE74 => ?_
          have ke31 : 0 < (splitR 47 y28).length := by omega
          obtain ⟨be31, fe31, rfl⟩ := el_own HH58 (i := 0) rfl ke31
          refine pl_x HE74 HH58 (wt0 rfl) (x_indexAddr ts_43 rfl rfl rfl rfl ke31) rfl rfl fun a_75 HE76 => ?_
          obtain ⟨y32, xy32⟩ : ∃ y_, y_ = (splitR 47 y28)[0]'(by first | exact ke31 | (simp only [List.length_set]; exact ke31) | omega | (simp only [List.length_set]; omega) | (simp; omega)) := ⟨_, rfl⟩
          have jy32 : List.length y32 ≤ 9223372036854775807 := by rw [xy32]; exact i_ownS HH58 0 rfl _
          have hz0 := xy32
          have hpy32 := splitR_piece 47 _ y32 (by rw [xy32]; exact List.getElem_mem _)
          refine pl_x HE76 HH58 (wt0 rfl) (x_load1 tv_9 rfl (c_ownS 0 rfl (by first | exact ke31 | (simp only [List.length_set]; exact ke31) | omega | (simp only [List.length_set]; omega) | (simp; omega)) xy32.symm)) rfl rfl fun a_77 HE78 => ?_
          refine pl fun K_79 hK80 => ?_
          refine st_call HE78 (wt0 rfl) rfl rfl rfl en_28 rfl rfl (spec_l01Number y32 _ (by omega)) fun e w' hr => ?_
          have hAr33_0 := numC_bd y32
          obtain ⟨rfl, hbr33⟩ := hr
          have HH81 := HH58.on hbr33
          refine ⟨_, rfl, fun a_82 HE83 => hK80 _ _ ?_⟩
          refine pl_x HE83 HH81 (wt0 rfl) (x_move rfl) rfl rfl fun a_84 HE85 => ?_
          refine pl_x HE85 HH81 (wt0 rfl) (x_extract rfl rfl) rfl rfl fun a_86 HE87 => ?_
          refine pl_x HE87 HH81 (wt0 rfl) (x_extract rfl rfl) rfl rfl fun a_88 HE89 => ?_
          refine pl_x HE89 HH81 (wt0 rfl) (x_assign rfl) rfl rfl fun a_90 HE91 => ?_
          refine pl_x HE91 HH81 (wt0 rfl) (x_assign rfl) rfl rfl fun a_92 HE93 => ?_
          refine wpList_nil ?_
          clear a_67 HE68 a_73 HE74 a_75 HE76 HH58 a_77 HE78 a_82 HE83 a_84 HE85 a_86 HE87 a_88 HE89 a_90 HE91 hK80 K_79
          refine nrm ?_
          refine wp_seq ?_
          refine rg ?_
          refine pl_x HE93 HH81 (wt0 rfl) (x_move rfl) rfl rfl fun a_94 HE95 => ?_
          have ke34 : 1 < (splitR 47 y28).length := by omega
          refine pl_x HE95 HH81 (wt0 rfl) (x_indexAddr ts_43 rfl rfl rfl rfl ke34) rfl rfl fun a_96 HE97 => ?_
          obtain ⟨y35, xy35⟩ : ∃ y_, y_ = (splitR 47 y28)[1]'(by first | exact ke34 | (simp only [List.length_set]; exact ke34) | omega | (simp only [List.length_set]; omega) | (simp; omega)) := ⟨_, rfl⟩
          have jy35 : List.length y35 ≤ 9223372036854775807 := by rw [xy35]; exact i_ownS HH81 0 rfl _
          have hz1 := xy35
          have hpy35 := splitR_piece 47 _ y35 (by rw [xy35]; exact List.getElem_mem _)
          refine pl_x HE97 HH81 (wt0 rfl) (x_load1 tv_9 rfl (c_ownS 0 rfl (by first | exact ke34 | (simp only [List.length_set]; exact ke34) | omega | (simp only [List.length_set]; omega) | (simp; omega)) xy35.symm)) rfl rfl fun a_98 HE99 => ?_
          refine pl fun K_100 hK101 => ?_
          refine st_call HE99 (wt0 rfl) rfl rfl rfl en_28 rfl rfl (spec_l01Number y35 _ (by omega)) fun e w' hr => ?_
          have hAr36_0 := numC_bd y35
          obtain ⟨rfl, hbr36⟩ := hr
          have HH102 := HH81.on hbr36
          refine ⟨_, rfl, fun a_103 HE104 => hK101 _ _ ?_⟩
          refine pl_x HE104 HH102 (wt0 rfl) (x_move rfl) rfl rfl fun a_105 HE106 => ?_
          refine pl_x HE106 HH102 (wt0 rfl) (x_extract rfl rfl) rfl rfl fun a_107 HE108 => ?_
          refine pl_x HE108 HH102 (wt0 rfl) (x_extract rfl rfl) rfl rfl fun a_109 HE110 => ?_
          refine pl_x HE110 HH102 (wt0 rfl) (x_assign rfl) rfl rfl fun a_111 HE112 => ?_
          refine pl_x HE112 HH102 (wt0 rfl) (x_assign rfl) rfl rfl fun a_113 HE114 => ?_
          refine wpList_nil ?_
          clear a_92 HE93 a_94 HE95 a_96 HE97 HH81 a_98 HE99 a_103 HE104 a_105 HE106 a_107 HE108 a_109 HE110 a_111 HE112 hK101 K_100
          refine nrm ?_
          refine wp_seq ?_
          refine wp_seq ?_
          refine rg ?_
          refine pl_x HE114 HH102 (wt0 rfl) (x_move rfl) rfl rfl fun a_115 HE116 => ?_
          refine pl_x HE116 HH102 (wt0 rfl) (x_not rfl) rfl rfl fun a_117 HE118 => ?_
          refine pl_x HE118 HH102 (wt0 rfl) (x_move rfl) rfl rfl fun a_119 HE120 => ?_
          rcases Bool.eq_false_or_eq_true ((numC y32).2) with hc37 | hc37
          · refine pl_x HE120 HH102 (wtT HE120 rfl rfl rfl (not_f hc37)) (x_move rfl) rfl rfl fun a_121 HE122 => ?_
            refine pl_x HE122 HH102 (wtT HE122 rfl rfl rfl (not_f hc37)) (x_not rfl) rfl rfl fun a_123 HE124 => ?_
            refine pl_x HE124 HH102 (wt0 rfl) (x_pickF rfl (not_f hc37) rfl) rfl rfl fun a_125 HE126 => ?_
            refine wpList_nil ?_
            clear a_113 HE114 a_115 HE116 a_117 HE118 a_119 HE120 a_121 HE122 a_123 HE124
            refine nrm ?_
            refine cnd_nb HE126 rfl (fun hc38 => ?_) (fun hc38 => ?_)
            · refine wp_seq ?_
              refine rg ?_
              refine pl_x HE126 HH102 (wt0 rfl) (x_assign rfl) rfl rfl fun a_127 HE128 => ?_
              refine pl_x HE128 HH102 (wt0 rfl) (x_assign rfl) rfl rfl fun a_129 HE130 => ?_
              refine wpList_nil ?_
              clear a_125 HE126 a_127 HE128
              refine nrm ?_
              refine wp_ret ?_
              refine (thn_ret (blk_ret (thn_ret (thn_ret (blk_ret (thn_ret ?_))))))
              refine ret2 HE130 rfl (rv_tmp rfl) (rv_tmp rfl) ?_
              have hF : (rdFrI a0) = ([], false) := by
                first | (rw [← rdFr_eq]; first | (unfold rdFrS; rw [if_neg (fun hh => by omega)]; done) | exact rdFrS_no (by omega) hx0 (by first | (rw [fracS_len (by omega)]; done) | (rw [fracS_eq rfl (by omega) (by omega) hz0 hz1, if_neg (fun hh => ff hh.1 (by assumption))]; done) | (rw [fracS_eq rfl (by omega) (by omega) hz0 hz1, if_neg (fun hh => ff hh.2 (by assumption))]; done)) | (rw [rdFrS_yes (k := k) (by omega) (by omega) p25_1 rfl]; first | (rw [if_pos ⟨by assumption, by assumption⟩]; done) | (rw [if_neg (fun hh => ff hh.1 (by assumption))]; done) | (rw [if_neg (fun hh => absurd hh.2 (by assumption))]; done)))
              exact ⟨none, 0, by first | (rw [hF] <;> rfl) | rfl | (rw [hF]; simp only [Ending.returned.injEq, Value.slice.injEq, true_and, and_true]; first | omega | (simp; done)) | (rw [hF]; simp; omega), by rw [hF]; exact (So.nil (Nat.zero_le _)), HH102.below⟩
            · refine wp_skip ?_
              refine nrm ?_
              refine rg ?_
              refine pl_x HE126 HH102 (wt0 rfl) (x_move rfl) rfl rfl fun a_131 HE132 => ?_
              refine pl_x HE132 HH102 (wt0 rfl) (x_move rfl) rfl rfl fun a_133 HE134 => ?_
              refine pl_x HE134 HH102 (wt0 rfl) (x_move rfl) rfl rfl fun a_135 HE136 => ?_
              refine pl_x HE136 HH102 (wt0 rfl) (show XS _ _ _ _ (.agg #[.int .i64 ((numC y32).1), .int .i64 ((numC y35).1)]) from x_build (vs := [(0, .int .i64 ((numC y32).1)), (1, .int .i64 ((numC y35).1))]) tb_47 rfl (by simp [Value.oneCell'])) rfl rfl fun a_137 HE138 => ?_
              refine pl fun K_139 hK140 => ?_
              refine st_lit (m := 1) (cs := [.int .i64 ((numC y32).1), .int .i64 ((numC y35).1)]) (e := 47) HE138 HH102 (run_lit ts_22 HE138 (vs := [.agg #[.int .i64 ((numC y32).1), .int .i64 ((numC y35).1)]]) rfl rfl (by simp [Value.cells]) rfl (by decide)) (wt0 rfl) rfl rfl fun q39 a_141 w' HE142 HH143 => hK140 _ _ ?_
              refine pl fun K_144 hK145 => ?_
              refine st_app1F ((numC y32).1, (numC y35).1) HE142 HH143 ts_22 [2, 0, 1, 3] (by decide) rfl (fun _ => (oPrN (oI (by exact ⟨by omega, by omega⟩)) (oI (by exact ⟨by omega, by omega⟩)))) rfl rfl (by simp [Value.oneCell']) (by unfold maxLen; first | omega | (simp; done) | (simp; omega)) (by first | omega | (simp; done) | (simp; omega)) (wt0 rfl) rfl fun A40 c41 S42 a_146 w' HE147 HH148 => hK145 _ _ ?_
              refine pl_x HE147 HH148 (wt0 rfl) (x_assign rfl) rfl rfl fun a_149 HE150 => ?_
              refine wpList_nil ?_
              clear a_125 HE126 a_131 HE132 a_133 HE134 a_135 HE136 a_137 HE138 HH102 K_139 hK140 a_141 HE142 HH143 a_146 HE147 hK145 K_144
              refine blk_n ?_
              refine nrm ?_
              refine rg ?_
              refine pl_x HE150 HH148 (wt0 rfl) (x_move rfl) rfl rfl fun a_151 HE152 => ?_
              refine pl_x HE152 HH148 (wt0 rfl) (x_add rfl rfl (by exact ⟨by omega, by omega⟩)) rfl rfl fun a_153 HE154 => ?_
              refine pl_x HE154 HH148 (wt0 rfl) (x_assign rfl) rfl rfl fun a_155 HE156 => ?_
              refine wpList_nil ?_
              clear a_149 HE150 a_151 HE152 a_153 HE154
              have E43 : ((splitR 32 a0).take (k + 1)).map fracS1 = (((splitR 32 a0).take k).map fracS1 ++ [((numC y32).1, (numC y35).1)]) := by
                rw [map_snoc _ (by omega) hx0, fracS1, fracS_eq rfl (by omega) (by omega) hz0 hz1, if_pos ⟨by assumption, by assumption⟩]
              exact nrm ⟨(splitR 32 a0).length - (k + 1), (by omega), k + 1, A40, c41, S42, rfl, HE156.sub ⟨(by rw [E43]; rfl), (lkI rfl (by first | rfl | omega | (simp [hc22, p25_0, p25_1, hc26, xy28, hc30, xy32, xy35, hc37, hc38]; done))), rfl, rfl, trivial⟩, ((HH148.sel [0, 2] (by decide) rfl).to (by first | rfl | (rw [E43]; done) | (rw [E43]; rfl) | (simp only [E43]; done) | (simp only [E43]; rfl) | (rw [E43]; simp only [List.length_set]; done))), (by first | omega | assumption | (simp; done) | simp_all), (by exact all_snoc (by omega) p25_1 hx0 (by rw [fracS_eq rfl (by omega) (by omega) hz0 hz1, if_pos ⟨by assumption, by assumption⟩]))⟩
          · refine pl_no HE120 (wtF HE120 rfl rfl rfl (not_t hc37)) rfl rfl fun a_157 HE158 => ?_
            refine pl_no HE158 (wtF HE158 rfl rfl rfl (not_t hc37)) rfl rfl fun a_159 HE160 => ?_
            refine pl_x HE160 HH102 (wt0 rfl) (x_pickT rfl (not_t hc37) rfl) rfl rfl fun a_161 HE162 => ?_
            refine wpList_nil ?_
            clear a_113 HE114 a_115 HE116 a_117 HE118 a_119 HE120 a_157 HE158 a_159 HE160
            refine nrm ?_
            refine cndT HE162 rfl rfl ?_
            refine wp_seq ?_
            refine rg ?_
            refine pl_x HE162 HH102 (wt0 rfl) (x_assign rfl) rfl rfl fun a_163 HE164 => ?_
            refine pl_x HE164 HH102 (wt0 rfl) (x_assign rfl) rfl rfl fun a_165 HE166 => ?_
            refine wpList_nil ?_
            clear a_161 HE162 a_163 HE164
            refine nrm ?_
            refine wp_ret ?_
            refine (thn_ret (blk_ret (thn_ret (thn_ret (blk_ret (thn_ret ?_))))))
            refine ret2 HE166 rfl (rv_tmp rfl) (rv_tmp rfl) ?_
            have hF : (rdFrI a0) = ([], false) := by
              first | (rw [← rdFr_eq]; first | (unfold rdFrS; rw [if_neg (fun hh => by omega)]; done) | exact rdFrS_no (by omega) hx0 (by first | (rw [fracS_len (by omega)]; done) | (rw [fracS_eq rfl (by omega) (by omega) hz0 hz1, if_neg (fun hh => ff hh.1 (by assumption))]; done) | (rw [fracS_eq rfl (by omega) (by omega) hz0 hz1, if_neg (fun hh => ff hh.2 (by assumption))]; done)) | (rw [rdFrS_yes (k := k) (by omega) (by omega) p25_1 rfl]; first | (rw [if_pos ⟨by assumption, by assumption⟩]; done) | (rw [if_neg (fun hh => ff hh.1 (by assumption))]; done) | (rw [if_neg (fun hh => absurd hh.2 (by assumption))]; done)))
            exact ⟨none, 0, by first | (rw [hF] <;> rfl) | rfl | (rw [hF]; simp only [Ending.returned.injEq, Value.slice.injEq, true_and, and_true]; first | omega | (simp; done)) | (rw [hF]; simp; omega), by rw [hF]; exact (So.nil (Nat.zero_le _)), HH102.below⟩
      · refine wp_exit ?_
        refine (thn_exit (thn_exit (blk_hit ?_)))
        refine nrm ?_
        refine wp_seq ?_
        refine wp_seq ?_
        refine rg ?_
        refine pl_x HE47 HH39 (wt0 rfl) (x_move rfl) rfl rfl fun a_167 HE168 => ?_
        refine pl fun K_169 hK170 => ?_
        refine st_call HE168 (wt0 rfl) rfl rfl rfl en_33 rfl rfl (spec_l08Is _ _ (((splitR 32 a0).take k).map fracS1) _ (HH39.vecSl (i := 0) rfl)) fun e w' hr => ?_
        obtain ⟨rfl, rfl⟩ := hr
        refine ⟨_, rfl, fun a_171 HE172 => hK170 _ _ ?_⟩
        refine pl_x HE172 HH39 (wt0 rfl) (x_not rfl) rfl rfl fun a_173 HE174 => ?_
        refine pl_x HE174 HH39 (wt0 rfl) (x_move rfl) rfl rfl fun a_175 HE176 => ?_
        rcases Bool.eq_false_or_eq_true ((validFrac (((splitR 32 a0).take k).map fracS1))) with hc45 | hc45
        · have hV := validFrac_facts hc45
          refine pl_x HE176 HH39 (wtT HE176 rfl rfl rfl (not_f hc45)) (x_move rfl) rfl rfl fun a_177 HE178 => ?_
          refine pl fun K_179 hK180 => ?_
          refine st_call HE178 (wtT HE178 rfl rfl rfl (not_f hc45)) rfl rfl rfl en_34 rfl rfl (spec_l08Fractions _ _ (((splitR 32 a0).take k).map fracS1) _ (HH39.vecSl (i := 0) rfl) (by exact hV.1) (by exact hV.2)) fun e w' hr => ?_
          obtain ⟨rfl, hbr46⟩ := hr
          have HH181 := HH39.on hbr46
          refine ⟨_, rfl, fun a_182 HE183 => hK180 _ _ ?_⟩
          refine pl_x HE183 HH181 (wtT HE183 rfl rfl rfl (not_f hc45)) (x_move rfl) rfl rfl fun a_184 HE185 => ?_
          refine pl_x HE185 HH181 (wtT HE185 rfl rfl rfl (not_f hc45)) (x_sneqB rfl rfl) rfl rfl fun a_186 HE187 => ?_
          refine pl_x HE187 HH181 (wt0 rfl) (x_pickF rfl (not_f hc45) rfl) rfl rfl fun a_188 HE189 => ?_
          refine wpList_nil ?_
          clear a_46 HE47 a_167 HE168 a_171 HE172 a_173 HE174 a_175 HE176 K_169 hK170 HH39 a_177 HE178 a_182 HE183 a_184 HE185 a_186 HE187 hK180 K_179
          refine nrm ?_
          refine cnd_nd HE189 rfl (fun hc47 => ?_) (fun hc47 => ?_)
          · refine wp_seq ?_
            refine rg ?_
            refine pl_x HE189 HH181 (wt0 rfl) (x_assign rfl) rfl rfl fun a_190 HE191 => ?_
            refine pl_x HE191 HH181 (wt0 rfl) (x_assign rfl) rfl rfl fun a_192 HE193 => ?_
            refine wpList_nil ?_
            clear a_188 HE189 a_190 HE191
            refine nrm ?_
            refine wp_ret ?_
            refine (thn_ret ?_)
            refine ret2 HE193 rfl (rv_tmp rfl) (rv_tmp rfl) ?_
            have hF : (rdFrI a0) = ([], false) := by
              first | (rw [← rdFr_eq]; first | (unfold rdFrS; rw [if_neg (fun hh => by omega)]; done) | exact rdFrS_no (by omega) hx0 (by first | (rw [fracS_len (by omega)]; done) | (rw [fracS_eq rfl (by omega) (by omega) hz0 hz1, if_neg (fun hh => ff hh.1 (by assumption))]; done) | (rw [fracS_eq rfl (by omega) (by omega) hz0 hz1, if_neg (fun hh => ff hh.2 (by assumption))]; done)) | (rw [rdFrS_yes (k := k) (by omega) (by omega) p25_1 rfl]; first | (rw [if_pos ⟨by assumption, by assumption⟩]; done) | (rw [if_neg (fun hh => ff hh.1 (by assumption))]; done) | (rw [if_neg (fun hh => absurd hh.2 (by assumption))]; done)))
            exact ⟨none, 0, by first | (rw [hF] <;> rfl) | rfl | (rw [hF]; simp only [Ending.returned.injEq, Value.slice.injEq, true_and, and_true]; first | omega | (simp; done)) | (rw [hF]; simp; omega), by rw [hF]; exact (So.nil (Nat.zero_le _)), HH181.below⟩
          · refine wp_skip ?_
            refine nrm ?_
            refine wp_seq ?_
            refine rg ?_
            refine pl_x HE189 HH181 (wt0 rfl) (x_move rfl) rfl rfl fun a_194 HE195 => ?_
            refine pl_x HE195 HH181 (wt0 rfl) (x_assign rfl) rfl rfl fun a_196 HE197 => ?_
            refine pl_x HE197 HH181 (wt0 rfl) (x_assign rfl) rfl rfl fun a_198 HE199 => ?_
            refine wpList_nil ?_
            clear a_188 HE189 a_194 HE195 a_196 HE197
            refine nrm ?_
            refine wp_ret ?_
            refine ret2 HE199 rfl (rv_tmp rfl) (rv_tmp rfl) ?_
            have HH200 := HH181.vecSo
            have hF : (rdFrI a0) = (((splitR 32 a0).take k).map fracS1, true) := by
              first | (rw [← rdFr_eq]; first | (unfold rdFrS; rw [if_neg (fun hh => by omega)]; done) | exact rdFrS_no (by omega) hx0 (by first | (rw [fracS_len (by omega)]; done) | (rw [fracS_eq rfl (by omega) (by omega) hz0 hz1, if_neg (fun hh => ff hh.1 (by assumption))]; done) | (rw [fracS_eq rfl (by omega) (by omega) hz0 hz1, if_neg (fun hh => ff hh.2 (by assumption))]; done)) | (rw [rdFrS_yes (k := k) (by omega) (by omega) p25_1 rfl]; first | (rw [if_pos ⟨by assumption, by assumption⟩]; done) | (rw [if_neg (fun hh => ff hh.1 (by assumption))]; done) | (rw [if_neg (fun hh => absurd hh.2 (by assumption))]; done)))
            exact ⟨A_5, c_5, by first | (rw [hF] <;> rfl) | rfl | (rw [hF]; simp only [Ending.returned.injEq, Value.slice.injEq, true_and, and_true]; first | omega | (simp; done)) | (rw [hF]; simp; omega), by rw [hF]; exact (HH200.so (i := 0) rfl), HH200.below⟩
        · refine pl_no HE176 (wtF HE176 rfl rfl rfl (not_t hc45)) rfl rfl fun a_201 HE202 => ?_
          refine pl_no HE202 (wtF HE202 rfl rfl rfl (not_t hc45)) rfl rfl fun a_203 HE204 => ?_
          refine pl_no HE204 (wtF HE204 rfl rfl rfl (not_t hc45)) rfl rfl fun a_205 HE206 => ?_
          refine pl_no HE206 (wtF HE206 rfl rfl rfl (not_t hc45)) rfl rfl fun a_207 HE208 => ?_
          refine pl_x HE208 HH39 (wt0 rfl) (x_pickT rfl (not_t hc45) rfl) rfl rfl fun a_209 HE210 => ?_
          refine wpList_nil ?_
          clear a_46 HE47 a_167 HE168 a_171 HE172 a_173 HE174 a_175 HE176 a_201 HE202 a_203 HE204 a_205 HE206 a_207 HE208 hK170 K_169
          refine nrm ?_
          refine cndT HE210 rfl rfl ?_
          refine wp_seq ?_
          refine rg ?_
          refine pl_x HE210 HH39 (wt0 rfl) (x_assign rfl) rfl rfl fun a_211 HE212 => ?_
          refine pl_x HE212 HH39 (wt0 rfl) (x_assign rfl) rfl rfl fun a_213 HE214 => ?_
          refine wpList_nil ?_
          clear a_209 HE210 a_211 HE212
          refine nrm ?_
          refine wp_ret ?_
          refine (thn_ret ?_)
          refine ret2 HE214 rfl (rv_tmp rfl) (rv_tmp rfl) ?_
          have hF : (rdFrI a0) = ([], false) := by
            first | (rw [← rdFr_eq]; first | (unfold rdFrS; rw [if_neg (fun hh => by omega)]; done) | exact rdFrS_no (by omega) hx0 (by first | (rw [fracS_len (by omega)]; done) | (rw [fracS_eq rfl (by omega) (by omega) hz0 hz1, if_neg (fun hh => ff hh.1 (by assumption))]; done) | (rw [fracS_eq rfl (by omega) (by omega) hz0 hz1, if_neg (fun hh => ff hh.2 (by assumption))]; done)) | (rw [rdFrS_yes (k := k) (by omega) (by omega) p25_1 rfl]; first | (rw [if_pos ⟨by assumption, by assumption⟩]; done) | (rw [if_neg (fun hh => ff hh.1 (by assumption))]; done) | (rw [if_neg (fun hh => absurd hh.2 (by assumption))]; done)))
          exact ⟨none, 0, by first | (rw [hF] <;> rfl) | rfl | (rw [hF]; simp only [Ending.returned.injEq, Value.slice.injEq, true_and, and_true]; first | omega | (simp; done)) | (rw [hF]; simp; omega), by rw [hF]; exact (So.nil (Nat.zero_le _)), HH39.below⟩

open Go.Lib in
set_option maxRecDepth 100000 in
set_option maxHeartbeats 4000000 in
theorem law_ReadFractions (a0 : List UInt8) (w : World) (h0 : a0.length ≤ 9223372036854775807) (hG : Glob2 w) :
    Calls Tryd.prog 5 #[.string (bs a0)] w fun e w' => e = .returned (.bool true) ∧ Below w.heap.size w w' := by
  have n0 : (ct_SFraction (rdFrI a0).1 : Int) ≤ 1000000000 := rdFr_ct a0
  have HH1 := Held.start Nob w
  refine enter (n := 66) Tryd.func5 rfl rfl rfl fun a_2 HE3 => ?_
  refine wp_seq ?_
  refine rg ?_
  refine pl_x HE3 HH1 (wt0 rfl) (x_assign rfl) rfl rfl fun a_4 HE5 => ?_
  refine wpList_nil ?_
  clear a_2 HE3
  refine nrm ?_
  refine wp_seq ?_
  refine wp_seq ?_
  refine rg ?_
  refine pl_x HE5 HH1 (wt0 rfl) (x_move rfl) rfl rfl fun a_6 HE7 => ?_
  refine pl_x HE7 HH1 (wt0 rfl) (x_lenB Tryd.underlying9 rfl) rfl rfl fun a_8 HE9 => ?_
  refine pl_x HE9 HH1 (wt0 rfl) (x_gtr rfl rfl) rfl rfl fun a_10 HE11 => ?_
  refine wpList_nil ?_
  clear a_4 HE5 a_6 HE7 a_8 HE9
  refine nrm ?_
  refine cnd_d HE11 rfl (fun hc21 => ?_) (fun hc21 => ?_)
  · refine wp_seq ?_
    refine rg ?_
    refine pl_x HE11 HH1 (wt0 rfl) (x_assign rfl) rfl rfl fun a_12 HE13 => ?_
    refine wpList_nil ?_
    clear a_10 HE11
    refine nrm ?_
    refine wp_ret ?_
    refine (thn_ret ?_)
    refine ret1 HE13 rfl (rv_tmp rfl) ?_
    have hF : true = true := by
      first | rfl | (exfalso; omega)
    exact ⟨by first | (rw [hF] <;> rfl) | rfl | (rw [hF]; simp only [Ending.returned.injEq, Value.slice.injEq, true_and, and_true]; first | omega | (simp; done)) | (rw [hF]; simp; omega), HH1.below⟩
  · refine wp_skip ?_
    refine nrm ?_
    refine wp_seq ?_
    refine rg ?_
    refine pl_x HE11 HH1 (wt0 rfl) (x_move rfl) rfl rfl fun a_14 HE15 => ?_
    refine pl fun K_16 hK17 => ?_
    refine st_call HE15 (wt0 rfl) rfl rfl rfl en_15 rfl rfl (spec_ReadFractions a0 _ (by omega)) fun e w' hr => ?_
    obtain ⟨Ar22_0, cr22_0, rfl, hor22_0, hbr22⟩ := hr
    obtain ⟨Sr22, HH18⟩ := HH1.newS hbr22 hor22_0
    refine ⟨_, rfl, fun a_19 HE20 => hK17 _ _ ?_⟩
    refine pl_x HE20 HH18 (wt0 rfl) (x_move rfl) rfl rfl fun a_21 HE22 => ?_
    refine pl_x HE22 HH18 (wt0 rfl) (x_extract rfl rfl) rfl rfl fun a_23 HE24 => ?_
    refine pl_x HE24 HH18 (wt0 rfl) (x_extract rfl rfl) rfl rfl fun a_25 HE26 => ?_
    refine pl_x HE26 HH18 (wt0 rfl) (x_assign rfl) rfl rfl fun a_27 HE28 => ?_
    refine pl_x HE28 HH18 (wt0 rfl) (x_assign rfl) rfl rfl fun a_29 HE30 => ?_
    refine wpList_nil ?_
    clear a_10 HE11 HH1 a_14 HE15 a_19 HE20 a_21 HE22 a_23 HE24 a_25 HE26 a_27 HE28 hK17 K_16
    refine nrm ?_
    refine wp_seq ?_
    refine rg ?_
    refine pl_x HE30 HH18 (wt0 rfl) (x_move rfl) rfl rfl fun a_31 HE32 => ?_
    refine pl fun K_33 hK34 => ?_
    refine st_call HE32 (wt0 rfl) rfl rfl rfl en_16 rfl rfl (impl_ReadFractions a0 _ (HH18.glob2 hG) (by omega)) fun e w' hr => ?_
    obtain ⟨Ar23_0, cr23_0, rfl, hor23_0, hbr23⟩ := hr
    obtain ⟨Sr23, HH35⟩ := HH18.newS hbr23 hor23_0
    refine ⟨_, rfl, fun a_36 HE37 => hK34 _ _ ?_⟩
    refine pl_x HE37 HH35 (wt0 rfl) (x_move rfl) rfl rfl fun a_38 HE39 => ?_
    refine pl_x HE39 HH35 (wt0 rfl) (x_extract rfl rfl) rfl rfl fun a_40 HE41 => ?_
    refine pl_x HE41 HH35 (wt0 rfl) (x_extract rfl rfl) rfl rfl fun a_42 HE43 => ?_
    refine pl_x HE43 HH35 (wt0 rfl) (x_assign rfl) rfl rfl fun a_44 HE45 => ?_
    refine pl_x HE45 HH35 (wt0 rfl) (x_assign rfl) rfl rfl fun a_46 HE47 => ?_
    refine wpList_nil ?_
    clear a_29 HE30 HH18 a_31 HE32 a_36 HE37 a_38 HE39 a_40 HE41 a_42 HE43 a_44 HE45 hK34 K_33
    refine nrm ?_
    refine wp_seq ?_
    refine wp_seq ?_
    refine rg ?_
    refine pl_x HE47 HH35 (wt0 rfl) (x_move rfl) rfl rfl fun a_48 HE49 => ?_
    refine pl_x HE49 HH35 (wt0 rfl) (x_move rfl) rfl rfl fun a_50 HE51 => ?_
    refine pl fun K_52 hK53 => ?_
    refine st_call HE51 (wt0 rfl) rfl rfl rfl en_9 rfl rfl (eq_SFraction_c _ _ _ _ ((rdFrI a0).1) ((rdFrI a0).1) _ (HH35.sl (i := 0) rfl) (HH35.sl (i := 1) rfl)) fun e w' hr => ?_
    obtain ⟨rfl, hbr24⟩ := hr
    have HH54 := HH35.on hbr24
    clear hbr24
    refine ⟨_, rfl, fun a_55 HE56 => hK53 _ _ ?_⟩
    refine pl_x HE56 HH54 (wt0 rfl) (x_not rfl) rfl rfl fun a_57 HE58 => ?_
    refine pl_x HE58 HH54 (wt0 rfl) (x_move rfl) rfl rfl fun a_59 HE60 => ?_
    refine pl_x HE60 HH54 (wtT HE60 rfl rfl rfl (not_f (eq_SFraction_refl _))) (x_move rfl) rfl rfl fun a_61 HE62 => ?_
    refine pl_x HE62 HH54 (wtT HE62 rfl rfl rfl (not_f (eq_SFraction_refl _))) (x_move rfl) rfl rfl fun a_63 HE64 => ?_
    refine pl_x HE64 HH54 (wtT HE64 rfl rfl rfl (not_f (eq_SFraction_refl _))) (x_bneq Tryd.underlying4 rfl rfl) rfl rfl fun a_65 HE66 => ?_
    refine pl_x HE66 HH54 (wt0 rfl) (x_pickF rfl (not_f (eq_SFraction_refl _)) rfl) rfl rfl fun a_67 HE68 => ?_
    refine wpList_nil ?_
    clear a_46 HE47 a_48 HE49 HH35 a_50 HE51 a_55 HE56 a_57 HE58 a_59 HE60 a_61 HE62 a_63 HE64 a_65 HE66 hK53 K_52
    refine nrm ?_
    refine cndF HE68 rfl (not_f (beq_self_eq_true _)) ?_
    refine wp_skip ?_
    refine nrm ?_
    refine wp_seq ?_
    refine rg ?_
    refine pl_x HE68 HH54 (wt0 rfl) (x_assign rfl) rfl rfl fun a_69 HE70 => ?_
    refine wpList_nil ?_
    clear a_67 HE68
    refine nrm ?_
    refine wp_seq ?_
    refine rg ?_
    refine pl_x HE70 HH54 (wt0 rfl) (x_move rfl) rfl rfl fun a_71 HE72 => ?_
    refine pl_x HE72 HH54 (wt0 rfl) (x_move rfl) rfl rfl fun a_73 HE74 => ?_
    refine pl fun K_75 hK76 => ?_
    refine st_call HE74 (wt0 rfl) rfl rfl rfl en_10 rfl rfl (mark_SFraction_c _ _ ((rdFrI a0).1) 1 _ _ (so_of_o (HH54.get (i := 0) rfl)) (HH54.lt (i := 0) rfl) (by omega) (by omega)) fun e w' hr => ?_
    obtain ⟨rfl, hsr25, hcr25⟩ := hr
    have HH77 := HH54.mut (i := 0) rfl hcr25 (rSo eFraction Sr23 Ar23_0 cr23_0 (mk_SFraction ((rdFrI a0).1) 1)) (oSl hsr25) (fun b hb => .inl hb)
    clear hsr25 hcr25
    refine ⟨_, rfl, fun a_78 HE79 => hK76 _ _ ?_⟩
    refine pl_x HE79 HH77 (wt0 rfl) (x_assign rfl) rfl rfl fun a_80 HE81 => ?_
    refine wpList_nil ?_
    clear a_69 HE70 a_71 HE72 HH54 a_73 HE74 a_78 HE79 hK76 K_75
    refine nrm ?_
    refine wp_seq ?_
    refine rg ?_
    refine pl_x HE81 HH77 (wt0 rfl) (x_assign rfl) rfl rfl fun a_82 HE83 => ?_
    refine wpList_nil ?_
    clear a_80 HE81
    refine nrm ?_
    refine wp_seq ?_
    refine rg ?_
    refine pl_x HE83 HH77 (wt0 rfl) (x_move rfl) rfl rfl fun a_84 HE85 => ?_
    refine pl_x HE85 HH77 (wt0 rfl) (x_move rfl) rfl rfl fun a_86 HE87 => ?_
    refine pl fun K_88 hK89 => ?_
    refine st_call HE87 (wt0 rfl) rfl rfl rfl en_11 rfl rfl (held_SFraction_c _ _ ((rdFrI a0).1) 1 _ (HH77.sl (i := 0) rfl) (by omega) (by omega)) fun e w' hr => ?_
    obtain ⟨rfl, hbr26⟩ := hr
    have HH90 := HH77.on hbr26
    clear hbr26
    refine ⟨_, rfl, fun a_91 HE92 => hK89 _ _ ?_⟩
    refine pl_x HE92 HH90 (wt0 rfl) (x_assign rfl) rfl rfl fun a_93 HE94 => ?_
    refine wpList_nil ?_
    clear a_82 HE83 a_84 HE85 HH77 a_86 HE87 a_91 HE92 hK89 K_88
    refine nrm ?_
    refine wp_seq ?_
    refine wp_seq ?_
    refine rg ?_
    refine pl_x HE94 HH90 (wt0 rfl) (x_move rfl) rfl rfl fun a_95 HE96 => ?_
    refine pl_x HE96 HH90 (wt0 rfl) (x_lss rfl rfl) rfl rfl fun a_97 HE98 => ?_
    refine wpList_nil ?_
    clear a_93 HE94 a_95 HE96
    refine nrm ?_
    refine cnd_d HE98 rfl (fun hc27 => ?_) (fun hc27 => ?_)
    · refine wp_seq ?_
      refine rg ?_
      refine pl_x HE98 HH90 (wt0 rfl) (x_assign rfl) rfl rfl fun a_99 HE100 => ?_
      refine wpList_nil ?_
      clear a_97 HE98
      refine nrm ?_
      refine wp_ret ?_
      refine (thn_ret ?_)
      refine ret1 HE100 rfl (rv_tmp rfl) ?_
      have hF : true = false := by
        first | rfl | (exfalso; omega)
      exact ⟨by first | (rw [hF] <;> rfl) | rfl | (rw [hF]; simp only [Ending.returned.injEq, Value.slice.injEq, true_and, and_true]; first | omega | (simp; done)) | (rw [hF]; simp; omega), HH90.below⟩
    · refine wp_skip ?_
      refine nrm ?_
      refine wp_seq ?_
      refine wp_seq ?_
      refine rg ?_
      refine pl_x HE98 HH90 (wt0 rfl) (x_move rfl) rfl rfl fun a_101 HE102 => ?_
      refine pl_x HE102 HH90 (wt0 rfl) (x_move rfl) rfl rfl fun a_103 HE104 => ?_
      refine pl_x HE104 HH90 (wt0 rfl) (x_neq rfl rfl) rfl rfl fun a_105 HE106 => ?_
      refine wpList_nil ?_
      clear a_97 HE98 a_101 HE102 a_103 HE104
      refine nrm ?_
      refine cndF HE106 rfl (bne_f rfl) ?_
      refine wp_skip ?_
      refine nrm ?_
      refine wp_seq ?_
      refine rg ?_
      refine pl_x HE106 HH90 (wt0 rfl) (x_move rfl) rfl rfl fun a_107 HE108 => ?_
      refine pl fun K_109 hK110 => ?_
      refine st_call HE108 (wt0 rfl) rfl rfl rfl en_16 rfl rfl (impl_ReadFractions a0 _ (HH90.glob2 hG) (by omega)) fun e w' hr => ?_
      obtain ⟨Ar28_0, cr28_0, rfl, hor28_0, hbr28⟩ := hr
      obtain ⟨Sr28, HH111⟩ := HH90.newS hbr28 hor28_0
      refine ⟨_, rfl, fun a_112 HE113 => hK110 _ _ ?_⟩
      refine pl_x HE113 HH111 (wt0 rfl) (x_move rfl) rfl rfl fun a_114 HE115 => ?_
      refine pl_x HE115 HH111 (wt0 rfl) (x_extract rfl rfl) rfl rfl fun a_116 HE117 => ?_
      refine pl_x HE117 HH111 (wt0 rfl) (x_extract rfl rfl) rfl rfl fun a_118 HE119 => ?_
      refine pl_x HE119 HH111 (wt0 rfl) (x_assign rfl) rfl rfl fun a_120 HE121 => ?_
      refine pl_x HE121 HH111 (wt0 rfl) (x_assign rfl) rfl rfl fun a_122 HE123 => ?_
      refine wpList_nil ?_
      clear a_105 HE106 HH90 a_107 HE108 a_112 HE113 a_114 HE115 a_116 HE117 a_118 HE119 a_120 HE121 hK110 K_109
      refine nrm ?_
      refine wp_seq ?_
      refine wp_seq ?_
      refine rg ?_
      refine pl_x HE123 HH111 (wt0 rfl) (x_move rfl) rfl rfl fun a_124 HE125 => ?_
      refine pl_x HE125 HH111 (wt0 rfl) (x_move rfl) rfl rfl fun a_126 HE127 => ?_
      refine pl fun K_128 hK129 => ?_
      refine st_call HE127 (wt0 rfl) rfl rfl rfl en_9 rfl rfl (eq_SFraction_c _ _ _ _ ((rdFrI a0).1) ((rdFrI a0).1) _ (HH111.sl (i := 0) rfl) (HH111.sl (i := 2) rfl)) fun e w' hr => ?_
      obtain ⟨rfl, hbr29⟩ := hr
      have HH130 := HH111.on hbr29
      clear hbr29
      refine ⟨_, rfl, fun a_131 HE132 => hK129 _ _ ?_⟩
      refine pl_x HE132 HH130 (wt0 rfl) (x_not rfl) rfl rfl fun a_133 HE134 => ?_
      refine pl_x HE134 HH130 (wt0 rfl) (x_move rfl) rfl rfl fun a_135 HE136 => ?_
      refine pl_x HE136 HH130 (wtT HE136 rfl rfl rfl (not_f (eq_SFraction_refl _))) (x_move rfl) rfl rfl fun a_137 HE138 => ?_
      refine pl_x HE138 HH130 (wtT HE138 rfl rfl rfl (not_f (eq_SFraction_refl _))) (x_move rfl) rfl rfl fun a_139 HE140 => ?_
      refine pl_x HE140 HH130 (wtT HE140 rfl rfl rfl (not_f (eq_SFraction_refl _))) (x_bneq Tryd.underlying4 rfl rfl) rfl rfl fun a_141 HE142 => ?_
      refine pl_x HE142 HH130 (wt0 rfl) (x_pickF rfl (not_f (eq_SFraction_refl _)) rfl) rfl rfl fun a_143 HE144 => ?_
      refine wpList_nil ?_
      clear a_122 HE123 a_124 HE125 HH111 a_126 HE127 a_131 HE132 a_133 HE134 a_135 HE136 a_137 HE138 a_139 HE140 a_141 HE142 hK129 K_128
      refine nrm ?_
      refine cndF HE144 rfl (not_f (beq_self_eq_true _)) ?_
      refine wp_skip ?_
      refine nrm ?_
      refine wp_seq ?_
      refine rg ?_
      refine pl_x HE144 HH130 (wt0 rfl) (x_assign rfl) rfl rfl fun a_145 HE146 => ?_
      refine wpList_nil ?_
      clear a_143 HE144
      refine nrm ?_
      refine wp_seq ?_
      refine rg ?_
      refine pl_x HE146 HH130 (wt0 rfl) (x_move rfl) rfl rfl fun a_147 HE148 => ?_
      refine pl_x HE148 HH130 (wt0 rfl) (x_move rfl) rfl rfl fun a_149 HE150 => ?_
      refine pl fun K_151 hK152 => ?_
      refine st_call HE150 (wt0 rfl) rfl rfl rfl en_11 rfl rfl (held_SFraction_c _ _ ((rdFrI a0).1) 1 _ (HH130.sl (i := 1) rfl) (by omega) (by omega)) fun e w' hr => ?_
      obtain ⟨rfl, hbr30⟩ := hr
      have HH153 := HH130.on hbr30
      clear hbr30
      refine ⟨_, rfl, fun a_154 HE155 => hK152 _ _ ?_⟩
      refine pl_x HE155 HH153 (wt0 rfl) (x_assign rfl) rfl rfl fun a_156 HE157 => ?_
      refine wpList_nil ?_
      clear a_145 HE146 a_147 HE148 HH130 a_149 HE150 a_154 HE155 hK152 K_151
      refine nrm ?_
      refine wp_seq ?_
      refine wp_seq ?_
      refine rg ?_
      refine pl_x HE157 HH153 (wt0 rfl) (x_move rfl) rfl rfl fun a_158 HE159 => ?_
      refine pl_x HE159 HH153 (wt0 rfl) (x_lss rfl rfl) rfl rfl fun a_160 HE161 => ?_
      refine wpList_nil ?_
      clear a_156 HE157 a_158 HE159
      refine nrm ?_
      refine cndF HE161 rfl (decide_eq_false hc27) ?_
      refine wp_skip ?_
      refine nrm ?_
      refine wp_seq ?_
      refine wp_seq ?_
      refine rg ?_
      refine pl_x HE161 HH153 (wt0 rfl) (x_move rfl) rfl rfl fun a_162 HE163 => ?_
      refine pl_x HE163 HH153 (wt0 rfl) (x_move rfl) rfl rfl fun a_164 HE165 => ?_
      refine pl_x HE165 HH153 (wt0 rfl) (x_neq rfl rfl) rfl rfl fun a_166 HE167 => ?_
      refine wpList_nil ?_
      clear a_160 HE161 a_162 HE163 a_164 HE165
      refine nrm ?_
      refine cndF HE167 rfl (bne_f rfl) ?_
      refine wp_skip ?_
      refine nrm ?_
      refine wp_seq ?_
      refine rg ?_
      refine pl_x HE167 HH153 (wt0 rfl) (x_assign rfl) rfl rfl fun a_168 HE169 => ?_
      refine wpList_nil ?_
      clear a_166 HE167
      refine nrm ?_
      refine wp_ret ?_
      refine ret1 HE169 rfl (rv_tmp rfl) ?_
      have hF : true = true := by
        first | rfl | (exfalso; omega)
      exact ⟨by first | (rw [hF] <;> rfl) | rfl | (rw [hF]; simp only [Ending.returned.injEq, Value.slice.injEq, true_and, and_true]; first | omega | (simp; done)) | (rw [hF]; simp; omega), HH153.below⟩

end Go.Proofs.YthknelhboibbnaaDoor
