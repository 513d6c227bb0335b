/- What the proof of FnExactReadProgram needs: contracts of the functions that it reaches, each once. -/
import Derived.Test.YthknelhboibbnaaDoorProg
import Derived.Test.YthknelhboibbnaaDoorQMem
import Derived.Test.YthknelhboibbnaaDoorQOpen
import Derived.Test.YthknelhboibbnaaDoorLReadPrograma
import Derived.Test.YthknelhboibbnaaDoorLReadProgramb
import Derived.Test.YthknelhboibbnaaDoorLReadProgramc
import Derived.WalkKit
import Derived.WalkSpells
import Derived.Below
import Derived.LoopTactic
import Derived.Outline
import Derived.Deep.QuietTactic
import Derived.BigQuiet
import Derived.Deep.LoopGhost
import Derived.Handy
import Derived.Lib.Hide
import Derived.Shelf.Abstract
import Derived.StillTailTactics
import Derived.OwnWalk
import Derived.Maps.AppendAt
import Derived.RegionTactic
import Derived.Deep.RegionHeld3
import Derived.IntWalk
import Derived.Deep.Upon
import Derived.Laws.OwnMore
import Derived.Maps.AppendAt
import Derived.Laws.BytesString
import Derived.Laws.Strings
import Derived.Lib.Bytes
import Derived.Lib.Strings
import Derived.Lib.FrozenHead
import Derived.Lib.RuneBytes
import Derived.Lib.LaidTab
import Derived.Laws.StructEq
import Derived.Lib.ItoaLen
import Derived.Lib.Join
import Derived.Shelf.Strconv.Itoa4
import Derived.Shelf.Strings.OnBuilder
import Derived.Shelf.Strings.BuilderK
import Derived.Shelf.Strings.BuilderRune
import Derived.Shelf.LaysM
import Derived.Ground.NamesProg
import Derived.Lib.ParseIntBTie
import Derived.Lib.SplitLaws
import Derived.Lib.Replace
import Derived.Shelf.LaysC
import Derived.Shelf.Strconv.ErrVarParseInt
import Derived.Shelf.Strconv.ParseIntPublic10
import Derived.Shelf.Strings.Prefix
import Derived.Shelf.Strings.Cut
import Derived.Shelf.Strings.Split
import Derived.Shelf.Strings.Replace
import Derived.Shelf.Small.Wraps
import Derived.Stop.IfaceNil
namespace Go.Proofs.YthknelhboibbnaaDoor
open Go.RowKit

open Go.Lib in
set_option maxRecDepth 100000 in
set_option maxHeartbeats 4000000 in
theorem impl_readInstr (a0 : List UInt8) (w : World) (hG : Glob2 w) (s0 : a0.length ≤ 2000000) :
    Calls Tryd.prog 41 #[.string (bs a0)] w fun e w' => ∃ (es0' : List Value), e = .returned (.agg es0'.toArray) ∧ eInstr.O w' (Fr w w') es0' (readI a0) ∧ Below w.heap.size w w' := by
  have HH1 := Held.start Nob w
  refine enter (n := 52) Tryd.func41 rfl rfl rfl fun a_2 HE3 => ?_
  refine wp_seq ?_
  refine rg ?_
  refine pl fun K_4 hK5 => ?_
  refine st_alloc HE3 HH1 tv_62 (wt0 rfl) rfl fun q21 a_6 w' HE7 HH8 => hK5 _ _ ?_
  refine wpList_nil ?_
  clear a_2 HE3 HH1 hK5 K_4
  refine nrm ?_
  refine wp_seq ?_
  refine rg ?_
  refine pl_x HE7 HH8 (wt0 rfl) (show XS _ _ _ _ (.agg #[.int .i64 (0), .int .i64 (0), .int .i64 (0), .int .i64 (0)]) from x_build (vs := []) tb_62 rfl (by simp [Value.oneCell'])) rfl rfl fun a_9 HE10 => ?_
  refine pl fun K_11 hK12 => ?_
  refine st_alloc HE10 HH8 tv_62 (wt0 rfl) rfl fun q22 a_13 w' HE14 HH15 => hK12 _ _ ?_
  refine pl fun K_16 hK17 => ?_
  refine st_store (vs := [.int .i64 (0), .int .i64 (0), .int .i64 (0), .int .i64 (0)]) 0 HE14 HH15 tv_62 rfl rfl rfl rfl rfl rfl (by simp [Value.oneCell']) (wt0 rfl) fun w' HH18 => hK17 _ _ ?_
  refine wpList_nil ?_
  clear a_6 HE7 a_9 HE10 HH8 K_11 hK12 HH15 hK17 K_16
  refine nrm ?_
  refine wp_seq ?_
  refine rg ?_
  refine pl_x HE14 HH18 (wt0 rfl) (x_move rfl) rfl rfl fun a_19 HE20 => ?_
  refine pl fun K_21 hK22 => ?_
  refine st_call HE20 (wt0 rfl) rfl rfl rfl en_62 rfl rfl (CutMinus a0 ([45]) _ (by rfl)) fun e w' hr => ?_
  have hAr23_0 := cutM_len a0
  obtain ⟨rfl, hbr23⟩ := hr
  have HH23 := HH18.on hbr23
  refine ⟨_, rfl, fun a_24 HE25 => hK22 _ _ ?_⟩
  refine pl_x HE25 HH23 (wt0 rfl) (x_move rfl) rfl rfl fun a_26 HE27 => ?_
  refine pl_x HE27 HH23 (wt0 rfl) (x_extract rfl rfl) rfl rfl fun a_28 HE29 => ?_
  refine pl_x HE29 HH23 (wt0 rfl) (x_extract rfl rfl) rfl rfl fun a_30 HE31 => ?_
  refine pl_x HE31 HH23 (wt0 rfl) (x_assign rfl) rfl rfl fun a_32 HE33 => ?_
  refine pl_x HE33 HH23 (wt0 rfl) (x_assign rfl) rfl rfl fun a_34 HE35 => ?_
  refine wpList_nil ?_
  clear a_13 HE14 HH18 a_19 HE20 a_24 HE25 a_26 HE27 a_28 HE29 a_30 HE31 a_32 HE33 hK22 K_21
  refine nrm ?_
  refine wp_seq ?_
  refine wp_seq ?_
  refine rg ?_
  refine pl_x HE35 HH23 (wt0 rfl) (x_move rfl) rfl rfl fun a_36 HE37 => ?_
  refine wpList_nil ?_
  clear a_34 HE35
  refine nrm ?_
  refine cnd_b HE37 rfl (fun hc24 => ?_) (fun hc24 => ?_)
  · refine rg ?_
    refine pl_x HE37 HH23 (wt0 rfl) (x_fieldAddr fa_62_0 rfl) rfl rfl fun a_38 HE39 => ?_
    refine pl fun K_40 hK41 => ?_
    refine st_store (vs := [.int .i64 (1)]) 0 HE39 HH23 tv_2 rfl rfl rfl rfl rfl rfl (by simp [Value.oneCell']) (wt0 rfl) fun w' HH42 => hK41 _ _ ?_
    refine wpList_nil ?_
    clear a_36 HE37 HH23 hK41 K_40
    refine nrm ?_
    refine wp_seq ?_
    refine rg ?_
    refine pl_x HE39 HH42 (wt0 rfl) (x_move rfl) rfl rfl fun a_43 HE44 => ?_
    refine pl fun K_45 hK46 => ?_
    refine st_call HE44 (wt0 rfl) rfl rfl rfl en_55 rfl rfl (TrimOne ((cutM a0).1) ([43]) 43 _ (by rfl)) fun e w' hr => ?_
    have hAr25_0 := stripR_len 43 ((cutM a0).1)
    obtain ⟨rfl, hbr25⟩ := hr
    have HH47 := HH42.on hbr25
    refine ⟨_, rfl, fun a_48 HE49 => hK46 _ _ ?_⟩
    refine pl fun K_50 hK51 => ?_
    refine st_call HE49 (wt0 rfl) rfl rfl rfl en_36 rfl rfl (Cut_1 (stripR 43 ((cutM a0).1)) ([62]) 62 _ (HH47.glob2 hG) (by omega) (by rfl)) fun e w' hr => ?_
    have hAr26_0 := cutR_len 62 (stripR 43 ((cutM a0).1))
    obtain ⟨rfl, hbr26⟩ := hr
    have HH52 := HH47.on hbr26
    refine ⟨_, rfl, fun a_53 HE54 => hK51 _ _ ?_⟩
    refine pl_x HE54 HH52 (wt0 rfl) (x_move rfl) rfl rfl fun a_55 HE56 => ?_
    refine pl_x HE56 HH52 (wt0 rfl) (x_extract rfl rfl) rfl rfl fun a_57 HE58 => ?_
    refine pl_x HE58 HH52 (wt0 rfl) (x_extract rfl rfl) rfl rfl fun a_59 HE60 => ?_
    refine pl_x HE60 HH52 (wt0 rfl) (x_extract rfl rfl) rfl rfl fun a_61 HE62 => ?_
    refine pl_x HE62 HH52 (wt0 rfl) (x_assign rfl) rfl rfl fun a_63 HE64 => ?_
    refine pl_x HE64 HH52 (wt0 rfl) (x_assign rfl) rfl rfl fun a_65 HE66 => ?_
    refine pl_x HE66 HH52 (wt0 rfl) (x_assign rfl) rfl rfl fun a_67 HE68 => ?_
    refine wpList_nil ?_
    clear a_38 HE39 HH42 a_43 HE44 K_45 hK46 HH47 a_48 HE49 a_53 HE54 a_55 HE56 a_57 HE58 a_59 HE60 a_61 HE62 a_63 HE64 a_65 HE66 hK51 K_50
    refine nrm ?_
    refine wp_seq ?_
    refine rg ?_
    refine pl_x HE68 HH52 (wt0 rfl) (x_move rfl) rfl rfl fun a_69 HE70 => ?_
    refine pl fun K_71 hK72 => ?_
    refine st_call HE70 (wt0 rfl) rfl rfl rfl en_36 rfl rfl (Cut_1 ((cutR 62 (stripR 43 ((cutM a0).1))).2.1) ([58]) 58 _ (HH52.glob2 hG) (by omega) (by rfl)) fun e w' hr => ?_
    have hAr27_0 := cutR_len 58 ((cutR 62 (stripR 43 ((cutM a0).1))).2.1)
    obtain ⟨rfl, hbr27⟩ := hr
    have HH73 := HH52.on hbr27
    refine ⟨_, rfl, fun a_74 HE75 => hK72 _ _ ?_⟩
    refine pl_x HE75 HH73 (wt0 rfl) (x_move rfl) rfl rfl fun a_76 HE77 => ?_
    refine pl_x HE77 HH73 (wt0 rfl) (x_extract rfl rfl) rfl rfl fun a_78 HE79 => ?_
    refine pl_x HE79 HH73 (wt0 rfl) (x_extract rfl rfl) rfl rfl fun a_80 HE81 => ?_
    refine pl_x HE81 HH73 (wt0 rfl) (x_extract rfl rfl) rfl rfl fun a_82 HE83 => ?_
    refine pl_x HE83 HH73 (wt0 rfl) (x_assign rfl) rfl rfl fun a_84 HE85 => ?_
    refine pl_x HE85 HH73 (wt0 rfl) (x_assign rfl) rfl rfl fun a_86 HE87 => ?_
    refine pl_x HE87 HH73 (wt0 rfl) (x_assign rfl) rfl rfl fun a_88 HE89 => ?_
    refine wpList_nil ?_
    clear a_67 HE68 HH52 a_69 HE70 a_74 HE75 a_76 HE77 a_78 HE79 a_80 HE81 a_82 HE83 a_84 HE85 a_86 HE87 hK72 K_71
    refine nrm ?_
    refine wp_seq ?_
    refine rg ?_
    refine pl_x HE89 HH73 (wt0 rfl) (x_move rfl) rfl rfl fun a_90 HE91 => ?_
    refine pl fun K_92 hK93 => ?_
    refine st_call HE91 (wt0 rfl) rfl rfl rfl en_37 rfl rfl (impl_ReadDecimal ((cutR 62 (stripR 43 ((cutM a0).1))).1) _ (HH73.glob2 hG) (by omega)) fun e w' hr => ?_
    have hAr28_0 := numR_bd ((cutR 62 (stripR 43 ((cutM a0).1))).1)
    obtain ⟨rfl, hbr28⟩ := hr
    have HH94 := HH73.on hbr28
    refine ⟨_, rfl, fun a_95 HE96 => hK93 _ _ ?_⟩
    refine pl_x HE96 HH94 (wt0 rfl) (x_move rfl) rfl rfl fun a_97 HE98 => ?_
    refine pl_x HE98 HH94 (wt0 rfl) (x_extract rfl rfl) rfl rfl fun a_99 HE100 => ?_
    refine pl_x HE100 HH94 (wt0 rfl) (x_extract rfl rfl) rfl rfl fun a_101 HE102 => ?_
    refine pl_x HE102 HH94 (wt0 rfl) (x_fieldAddr fa_62_1 rfl) rfl rfl fun a_103 HE104 => ?_
    refine pl fun K_105 hK106 => ?_
    refine st_store (vs := [.int .i64 ((numR ((cutR 62 (stripR 43 ((cutM a0).1))).1)).1)]) 0 HE104 HH94 tv_2 rfl rfl rfl rfl rfl rfl (by simp [Value.oneCell']) (wt0 rfl) fun w' HH107 => hK106 _ _ ?_
    refine wpList_nil ?_
    clear a_88 HE89 HH73 a_90 HE91 a_95 HE96 a_97 HE98 a_99 HE100 a_101 HE102 K_92 hK93 HH94 hK106 K_105
    refine nrm ?_
    refine wp_seq ?_
    refine rg ?_
    refine pl_x HE104 HH107 (wt0 rfl) (x_move rfl) rfl rfl fun a_108 HE109 => ?_
    refine pl fun K_110 hK111 => ?_
    refine st_call HE109 (wt0 rfl) rfl rfl rfl en_37 rfl rfl (impl_ReadDecimal ((cutR 58 ((cutR 62 (stripR 43 ((cutM a0).1))).2.1)).1) _ (HH107.glob2 hG) (by omega)) fun e w' hr => ?_
    have hAr29_0 := numR_bd ((cutR 58 ((cutR 62 (stripR 43 ((cutM a0).1))).2.1)).1)
    obtain ⟨rfl, hbr29⟩ := hr
    have HH112 := HH107.on hbr29
    refine ⟨_, rfl, fun a_113 HE114 => hK111 _ _ ?_⟩
    refine pl_x HE114 HH112 (wt0 rfl) (x_move rfl) rfl rfl fun a_115 HE116 => ?_
    refine pl_x HE116 HH112 (wt0 rfl) (x_extract rfl rfl) rfl rfl fun a_117 HE118 => ?_
    refine pl_x HE118 HH112 (wt0 rfl) (x_extract rfl rfl) rfl rfl fun a_119 HE120 => ?_
    refine pl_x HE120 HH112 (wt0 rfl) (x_fieldAddr fa_62_2 rfl) rfl rfl fun a_121 HE122 => ?_
    refine pl fun K_123 hK124 => ?_
    refine st_store (vs := [.int .i64 ((numR ((cutR 58 ((cutR 62 (stripR 43 ((cutM a0).1))).2.1)).1)).1)]) 0 HE122 HH112 tv_2 rfl rfl rfl rfl rfl rfl (by simp [Value.oneCell']) (wt0 rfl) fun w' HH125 => hK124 _ _ ?_
    refine wpList_nil ?_
    clear a_103 HE104 HH107 a_108 HE109 a_113 HE114 a_115 HE116 a_117 HE118 a_119 HE120 K_110 hK111 HH112 hK124 K_123
    refine nrm ?_
    refine wp_seq ?_
    refine rg ?_
    refine pl_x HE122 HH125 (wt0 rfl) (x_move rfl) rfl rfl fun a_126 HE127 => ?_
    refine pl fun K_128 hK129 => ?_
    refine st_call HE127 (wt0 rfl) rfl rfl rfl en_37 rfl rfl (impl_ReadDecimal ((cutR 58 ((cutR 62 (stripR 43 ((cutM a0).1))).2.1)).2.1) _ (HH125.glob2 hG) (by omega)) fun e w' hr => ?_
    have hAr30_0 := numR_bd ((cutR 58 ((cutR 62 (stripR 43 ((cutM a0).1))).2.1)).2.1)
    obtain ⟨rfl, hbr30⟩ := hr
    have HH130 := HH125.on hbr30
    refine ⟨_, rfl, fun a_131 HE132 => hK129 _ _ ?_⟩
    refine pl_x HE132 HH130 (wt0 rfl) (x_move rfl) rfl rfl fun a_133 HE134 => ?_
    refine pl_x HE134 HH130 (wt0 rfl) (x_extract rfl rfl) rfl rfl fun a_135 HE136 => ?_
    refine pl_x HE136 HH130 (wt0 rfl) (x_extract rfl rfl) rfl rfl fun a_137 HE138 => ?_
    refine pl_x HE138 HH130 (wt0 rfl) (x_fieldAddr fa_62_3 rfl) rfl rfl fun a_139 HE140 => ?_
    refine pl fun K_141 hK142 => ?_
    refine st_store (vs := [.int .i64 ((numR ((cutR 58 ((cutR 62 (stripR 43 ((cutM a0).1))).2.1)).2.1)).1)]) 0 HE140 HH130 tv_2 rfl rfl rfl rfl rfl rfl (by simp [Value.oneCell']) (wt0 rfl) fun w' HH143 => hK142 _ _ ?_
    refine wpList_nil ?_
    clear a_121 HE122 HH125 a_126 HE127 a_131 HE132 a_133 HE134 a_135 HE136 a_137 HE138 K_128 hK129 HH130 hK142 K_141
    refine nrm ?_
    refine wp_seq ?_
    refine rg ?_
    refine pl_x HE140 HH143 (wt0 rfl) (x_loadN (cs := [.int .i64 (1), .int .i64 ((numR ((cutR 62 (stripR 43 ((cutM a0).1))).1)).1), .int .i64 ((numR ((cutR 58 ((cutR 62 (stripR 43 ((cutM a0).1))).2.1)).1)).1), .int .i64 ((numR ((cutR 58 ((cutR 62 (stripR 43 ((cutM a0).1))).2.1)).2.1)).1)]) tv_62 rfl rfl (c_blkN 0 rfl)) rfl rfl fun a_144 HE145 => ?_
    refine pl fun K_146 hK147 => ?_
    refine st_store (vs := [.int .i64 (1), .int .i64 ((numR ((cutR 62 (stripR 43 ((cutM a0).1))).1)).1), .int .i64 ((numR ((cutR 58 ((cutR 62 (stripR 43 ((cutM a0).1))).2.1)).1)).1), .int .i64 ((numR ((cutR 58 ((cutR 62 (stripR 43 ((cutM a0).1))).2.1)).2.1)).1)]) 1 HE145 HH143 tv_62 rfl rfl rfl rfl rfl rfl (by simp [Value.oneCell']) (wt0 rfl) fun w' HH148 => hK147 _ _ ?_
    refine wpList_nil ?_
    clear a_139 HE140 HH143 hK147 K_146
    refine nrm ?_
    refine wp_ret ?_
    refine ret1 HE145 rfl (rv_cell rfl (tv_62.loadN (cs := [.int .i64 (1), .int .i64 ((numR ((cutR 62 (stripR 43 ((cutM a0).1))).1)).1), .int .i64 ((numR ((cutR 58 ((cutR 62 (stripR 43 ((cutM a0).1))).2.1)).1)).1), .int .i64 ((numR ((cutR 58 ((cutR 62 (stripR 43 ((cutM a0).1))).2.1)).2.1)).1)]) rfl (c_blkN 1 rfl _ HH148))) ?_
    have HH149 := HH148.flatO (E := eInstr) (cs := [.int .i64 (1), .int .i64 ((numR ((cutR 62 (stripR 43 ((cutM a0).1))).1)).1), .int .i64 ((numR ((cutR 58 ((cutR 62 (stripR 43 ((cutM a0).1))).2.1)).1)).1), .int .i64 ((numR ((cutR 58 ((cutR 62 (stripR 43 ((cutM a0).1))).2.1)).2.1)).1)]) (x := (1, (numR ((cutR 62 (stripR 43 ((cutM a0).1))).1)).1, (numR ((cutR 58 ((cutR 62 (stripR 43 ((cutM a0).1))).2.1)).1)).1, (numR ((cutR 58 ((cutR 62 (stripR 43 ((cutM a0).1))).2.1)).2.1)).1)) (fun _ => (oPrN (oI (by exact ⟨by omega, by omega⟩)) (oPrN (oI (by exact ⟨by omega, by omega⟩)) (oPrN (oI (by exact ⟨by omega, by omega⟩)) (oI (by exact ⟨by omega, by omega⟩))))))
    have hF : (readI a0) = (1, (numR ((cutR 62 (stripR 43 ((cutM a0).1))).1)).1, (numR ((cutR 58 ((cutR 62 (stripR 43 ((cutM a0).1))).2.1)).1)).1, (numR ((cutR 58 ((cutR 62 (stripR 43 ((cutM a0).1))).2.1)).2.1)).1) := by
      unfold readI midI; simp [hc24]
    exact ⟨_, rfl, by rw [hF]; exact (HH149.o (i := 0) rfl), HH149.below⟩
  · refine wp_skip ?_
    refine nrm ?_
    refine wp_seq ?_
    refine rg ?_
    refine pl_x HE37 HH23 (wt0 rfl) (x_move rfl) rfl rfl fun a_150 HE151 => ?_
    refine pl fun K_152 hK153 => ?_
    refine st_call HE151 (wt0 rfl) rfl rfl rfl en_55 rfl rfl (TrimOne ((cutM a0).1) ([43]) 43 _ (by rfl)) fun e w' hr => ?_
    have hAr31_0 := stripR_len 43 ((cutM a0).1)
    obtain ⟨rfl, hbr31⟩ := hr
    have HH154 := HH23.on hbr31
    refine ⟨_, rfl, fun a_155 HE156 => hK153 _ _ ?_⟩
    refine pl fun K_157 hK158 => ?_
    refine st_call HE156 (wt0 rfl) rfl rfl rfl en_36 rfl rfl (Cut_1 (stripR 43 ((cutM a0).1)) ([62]) 62 _ (HH154.glob2 hG) (by omega) (by rfl)) fun e w' hr => ?_
    have hAr32_0 := cutR_len 62 (stripR 43 ((cutM a0).1))
    obtain ⟨rfl, hbr32⟩ := hr
    have HH159 := HH154.on hbr32
    refine ⟨_, rfl, fun a_160 HE161 => hK158 _ _ ?_⟩
    refine pl_x HE161 HH159 (wt0 rfl) (x_move rfl) rfl rfl fun a_162 HE163 => ?_
    refine pl_x HE163 HH159 (wt0 rfl) (x_extract rfl rfl) rfl rfl fun a_164 HE165 => ?_
    refine pl_x HE165 HH159 (wt0 rfl) (x_extract rfl rfl) rfl rfl fun a_166 HE167 => ?_
    refine pl_x HE167 HH159 (wt0 rfl) (x_extract rfl rfl) rfl rfl fun a_168 HE169 => ?_
    refine pl_x HE169 HH159 (wt0 rfl) (x_assign rfl) rfl rfl fun a_170 HE171 => ?_
    refine pl_x HE171 HH159 (wt0 rfl) (x_assign rfl) rfl rfl fun a_172 HE173 => ?_
    refine pl_x HE173 HH159 (wt0 rfl) (x_assign rfl) rfl rfl fun a_174 HE175 => ?_
    refine wpList_nil ?_
    clear a_36 HE37 HH23 a_150 HE151 K_152 hK153 HH154 a_155 HE156 a_160 HE161 a_162 HE163 a_164 HE165 a_166 HE167 a_168 HE169 a_170 HE171 a_172 HE173 hK158 K_157
    refine nrm ?_
    refine wp_seq ?_
    refine rg ?_
    refine pl_x HE175 HH159 (wt0 rfl) (x_move rfl) rfl rfl fun a_176 HE177 => ?_
    refine pl fun K_178 hK179 => ?_
    refine st_call HE177 (wt0 rfl) rfl rfl rfl en_36 rfl rfl (Cut_1 ((cutR 62 (stripR 43 ((cutM a0).1))).2.1) ([58]) 58 _ (HH159.glob2 hG) (by omega) (by rfl)) fun e w' hr => ?_
    have hAr33_0 := cutR_len 58 ((cutR 62 (stripR 43 ((cutM a0).1))).2.1)
    obtain ⟨rfl, hbr33⟩ := hr
    have HH180 := HH159.on hbr33
    refine ⟨_, rfl, fun a_181 HE182 => hK179 _ _ ?_⟩
    refine pl_x HE182 HH180 (wt0 rfl) (x_move rfl) rfl rfl fun a_183 HE184 => ?_
    refine pl_x HE184 HH180 (wt0 rfl) (x_extract rfl rfl) rfl rfl fun a_185 HE186 => ?_
    refine pl_x HE186 HH180 (wt0 rfl) (x_extract rfl rfl) rfl rfl fun a_187 HE188 => ?_
    refine pl_x HE188 HH180 (wt0 rfl) (x_extract rfl rfl) rfl rfl fun a_189 HE190 => ?_
    refine pl_x HE190 HH180 (wt0 rfl) (x_assign rfl) rfl rfl fun a_191 HE192 => ?_
    refine pl_x HE192 HH180 (wt0 rfl) (x_assign rfl) rfl rfl fun a_193 HE194 => ?_
    refine pl_x HE194 HH180 (wt0 rfl) (x_assign rfl) rfl rfl fun a_195 HE196 => ?_
    refine wpList_nil ?_
    clear a_174 HE175 HH159 a_176 HE177 a_181 HE182 a_183 HE184 a_185 HE186 a_187 HE188 a_189 HE190 a_191 HE192 a_193 HE194 hK179 K_178
    refine nrm ?_
    refine wp_seq ?_
    refine rg ?_
    refine pl_x HE196 HH180 (wt0 rfl) (x_move rfl) rfl rfl fun a_197 HE198 => ?_
    refine pl fun K_199 hK200 => ?_
    refine st_call HE198 (wt0 rfl) rfl rfl rfl en_37 rfl rfl (impl_ReadDecimal ((cutR 62 (stripR 43 ((cutM a0).1))).1) _ (HH180.glob2 hG) (by omega)) fun e w' hr => ?_
    have hAr34_0 := numR_bd ((cutR 62 (stripR 43 ((cutM a0).1))).1)
    obtain ⟨rfl, hbr34⟩ := hr
    have HH201 := HH180.on hbr34
    refine ⟨_, rfl, fun a_202 HE203 => hK200 _ _ ?_⟩
    refine pl_x HE203 HH201 (wt0 rfl) (x_move rfl) rfl rfl fun a_204 HE205 => ?_
    refine pl_x HE205 HH201 (wt0 rfl) (x_extract rfl rfl) rfl rfl fun a_206 HE207 => ?_
    refine pl_x HE207 HH201 (wt0 rfl) (x_extract rfl rfl) rfl rfl fun a_208 HE209 => ?_
    refine pl_x HE209 HH201 (wt0 rfl) (x_fieldAddr fa_62_1 rfl) rfl rfl fun a_210 HE211 => ?_
    refine pl fun K_212 hK213 => ?_
    refine st_store (vs := [.int .i64 ((numR ((cutR 62 (stripR 43 ((cutM a0).1))).1)).1)]) 0 HE211 HH201 tv_2 rfl rfl rfl rfl rfl rfl (by simp [Value.oneCell']) (wt0 rfl) fun w' HH214 => hK213 _ _ ?_
    refine wpList_nil ?_
    clear a_195 HE196 HH180 a_197 HE198 a_202 HE203 a_204 HE205 a_206 HE207 a_208 HE209 K_199 hK200 HH201 hK213 K_212
    refine nrm ?_
    refine wp_seq ?_
    refine rg ?_
    refine pl_x HE211 HH214 (wt0 rfl) (x_move rfl) rfl rfl fun a_215 HE216 => ?_
    refine pl fun K_217 hK218 => ?_
    refine st_call HE216 (wt0 rfl) rfl rfl rfl en_37 rfl rfl (impl_ReadDecimal ((cutR 58 ((cutR 62 (stripR 43 ((cutM a0).1))).2.1)).1) _ (HH214.glob2 hG) (by omega)) fun e w' hr => ?_
    have hAr35_0 := numR_bd ((cutR 58 ((cutR 62 (stripR 43 ((cutM a0).1))).2.1)).1)
    obtain ⟨rfl, hbr35⟩ := hr
    have HH219 := HH214.on hbr35
    refine ⟨_, rfl, fun a_220 HE221 => hK218 _ _ ?_⟩
    refine pl_x HE221 HH219 (wt0 rfl) (x_move rfl) rfl rfl fun a_222 HE223 => ?_
    refine pl_x HE223 HH219 (wt0 rfl) (x_extract rfl rfl) rfl rfl fun a_224 HE225 => ?_
    refine pl_x HE225 HH219 (wt0 rfl) (x_extract rfl rfl) rfl rfl fun a_226 HE227 => ?_
    refine pl_x HE227 HH219 (wt0 rfl) (x_fieldAddr fa_62_2 rfl) rfl rfl fun a_228 HE229 => ?_
    refine pl fun K_230 hK231 => ?_
    refine st_store (vs := [.int .i64 ((numR ((cutR 58 ((cutR 62 (stripR 43 ((cutM a0).1))).2.1)).1)).1)]) 0 HE229 HH219 tv_2 rfl rfl rfl rfl rfl rfl (by simp [Value.oneCell']) (wt0 rfl) fun w' HH232 => hK231 _ _ ?_
    refine wpList_nil ?_
    clear a_210 HE211 HH214 a_215 HE216 a_220 HE221 a_222 HE223 a_224 HE225 a_226 HE227 K_217 hK218 HH219 hK231 K_230
    refine nrm ?_
    refine wp_seq ?_
    refine rg ?_
    refine pl_x HE229 HH232 (wt0 rfl) (x_move rfl) rfl rfl fun a_233 HE234 => ?_
    refine pl fun K_235 hK236 => ?_
    refine st_call HE234 (wt0 rfl) rfl rfl rfl en_37 rfl rfl (impl_ReadDecimal ((cutR 58 ((cutR 62 (stripR 43 ((cutM a0).1))).2.1)).2.1) _ (HH232.glob2 hG) (by omega)) fun e w' hr => ?_
    have hAr36_0 := numR_bd ((cutR 58 ((cutR 62 (stripR 43 ((cutM a0).1))).2.1)).2.1)
    obtain ⟨rfl, hbr36⟩ := hr
    have HH237 := HH232.on hbr36
    refine ⟨_, rfl, fun a_238 HE239 => hK236 _ _ ?_⟩
    refine pl_x HE239 HH237 (wt0 rfl) (x_move rfl) rfl rfl fun a_240 HE241 => ?_
    refine pl_x HE241 HH237 (wt0 rfl) (x_extract rfl rfl) rfl rfl fun a_242 HE243 => ?_
    refine pl_x HE243 HH237 (wt0 rfl) (x_extract rfl rfl) rfl rfl fun a_244 HE245 => ?_
    refine pl_x HE245 HH237 (wt0 rfl) (x_fieldAddr fa_62_3 rfl) rfl rfl fun a_246 HE247 => ?_
    refine pl fun K_248 hK249 => ?_
    refine st_store (vs := [.int .i64 ((numR ((cutR 58 ((cutR 62 (stripR 43 ((cutM a0).1))).2.1)).2.1)).1)]) 0 HE247 HH237 tv_2 rfl rfl rfl rfl rfl rfl (by simp [Value.oneCell']) (wt0 rfl) fun w' HH250 => hK249 _ _ ?_
    refine wpList_nil ?_
    clear a_228 HE229 HH232 a_233 HE234 a_238 HE239 a_240 HE241 a_242 HE243 a_244 HE245 K_235 hK236 HH237 hK249 K_248
    refine nrm ?_
    refine wp_seq ?_
    refine rg ?_
    refine pl_x HE247 HH250 (wt0 rfl) (x_loadN (cs := [.int .i64 (0), .int .i64 ((numR ((cutR 62 (stripR 43 ((cutM a0).1))).1)).1), .int .i64 ((numR ((cutR 58 ((cutR 62 (stripR 43 ((cutM a0).1))).2.1)).1)).1), .int .i64 ((numR ((cutR 58 ((cutR 62 (stripR 43 ((cutM a0).1))).2.1)).2.1)).1)]) tv_62 rfl rfl (c_blkN 0 rfl)) rfl rfl fun a_251 HE252 => ?_
    refine pl fun K_253 hK254 => ?_
    refine st_store (vs := [.int .i64 (0), .int .i64 ((numR ((cutR 62 (stripR 43 ((cutM a0).1))).1)).1), .int .i64 ((numR ((cutR 58 ((cutR 62 (stripR 43 ((cutM a0).1))).2.1)).1)).1), .int .i64 ((numR ((cutR 58 ((cutR 62 (stripR 43 ((cutM a0).1))).2.1)).2.1)).1)]) 1 HE252 HH250 tv_62 rfl rfl rfl rfl rfl rfl (by simp [Value.oneCell']) (wt0 rfl) fun w' HH255 => hK254 _ _ ?_
    refine wpList_nil ?_
    clear a_246 HE247 HH250 hK254 K_253
    refine nrm ?_
    refine wp_ret ?_
    refine ret1 HE252 rfl (rv_cell rfl (tv_62.loadN (cs := [.int .i64 (0), .int .i64 ((numR ((cutR 62 (stripR 43 ((cutM a0).1))).1)).1), .int .i64 ((numR ((cutR 58 ((cutR 62 (stripR 43 ((cutM a0).1))).2.1)).1)).1), .int .i64 ((numR ((cutR 58 ((cutR 62 (stripR 43 ((cutM a0).1))).2.1)).2.1)).1)]) rfl (c_blkN 1 rfl _ HH255))) ?_
    have HH256 := HH255.flatO (E := eInstr) (cs := [.int .i64 (0), .int .i64 ((numR ((cutR 62 (stripR 43 ((cutM a0).1))).1)).1), .int .i64 ((numR ((cutR 58 ((cutR 62 (stripR 43 ((cutM a0).1))).2.1)).1)).1), .int .i64 ((numR ((cutR 58 ((cutR 62 (stripR 43 ((cutM a0).1))).2.1)).2.1)).1)]) (x := (0, (numR ((cutR 62 (stripR 43 ((cutM a0).1))).1)).1, (numR ((cutR 58 ((cutR 62 (stripR 43 ((cutM a0).1))).2.1)).1)).1, (numR ((cutR 58 ((cutR 62 (stripR 43 ((cutM a0).1))).2.1)).2.1)).1)) (fun _ => (oPrN (oI (by exact ⟨by omega, by omega⟩)) (oPrN (oI (by exact ⟨by omega, by omega⟩)) (oPrN (oI (by exact ⟨by omega, by omega⟩)) (oI (by exact ⟨by omega, by omega⟩))))))
    have hF : (readI a0) = (0, (numR ((cutR 62 (stripR 43 ((cutM a0).1))).1)).1, (numR ((cutR 58 ((cutR 62 (stripR 43 ((cutM a0).1))).2.1)).1)).1, (numR ((cutR 58 ((cutR 62 (stripR 43 ((cutM a0).1))).2.1)).2.1)).1) := by
      unfold readI midI; simp [hc24]
    exact ⟨_, rfl, by rw [hF]; exact (HH256.o (i := 0) rfl), HH256.below⟩

open Go.Lib in
set_option maxRecDepth 100000 in
set_option maxHeartbeats 4000000 in
theorem spec_l07Pair (a0 : List UInt8) (a1 : Int) (c : UInt8) (w : World) (s0 : a0.length ≤ 2000000) (s1 : a1 = (c.toNat : Int)) :
    Calls Tryd.prog 78 #[.string (bs a0), .int .u8 a1] w fun e w' => e = .returned (.tuple #[.int .i64 (pairS c a0).1, .int .i64 (pairS c a0).2.1, .bool (pairS c a0).2.2]) ∧ Below w.heap.size w w' := by
  have HH1 := Held.start Nob w
  refine enter (n := 38) Tryd.func78 rfl rfl rfl fun a_2 HE3 => ?_
  refine wp_seq ?_
  refine rg ?_
  refine pl_x HE3 HH1 (wt0 rfl) (x_assign rfl) rfl rfl fun a_4 HE5 => ?_
  refine pl_x HE5 HH1 (wt0 rfl) (x_assign rfl) rfl rfl fun a_6 HE7 => ?_
  refine pl_x HE7 HH1 (wt0 rfl) (x_assign rfl) rfl rfl fun a_8 HE9 => ?_
  refine wpList_nil ?_
  clear a_2 HE3 a_4 HE5 a_6 HE7
  refine nrm ?_
  refine wp_seq ?_
  refine rg ?_
  refine pl_x HE9 HH1 (wt0 rfl) (x_move rfl) rfl rfl fun a_10 HE11 => ?_
  refine pl_x HE11 HH1 (wt0 rfl) (x_move rfl) rfl rfl fun a_12 HE13 => ?_
  refine pl fun K_14 hK15 => ?_
  refine st_call HE13 (wt0 rfl) rfl rfl rfl en_27 rfl rfl (spec_l01Split a0 _ c _ (by omega) (by exact s1)) fun e w' hr => ?_
  have hAr21_0 := splitR_len c a0
  have hAr21_1 := splitR_piece c a0
  obtain ⟨Ar21_0, cr21_0, rfl, hor21_0, hbr21⟩ := hr
  obtain ⟨Sr21, HH16⟩ := HH1.newS hbr21 hor21_0
  refine ⟨_, rfl, fun a_17 HE18 => hK15 _ _ ?_⟩
  refine pl_x HE18 HH16 (wt0 rfl) (x_assign rfl) rfl rfl fun a_19 HE20 => ?_
  refine wpList_nil ?_
  clear a_8 HE9 a_10 HE11 HH1 a_12 HE13 a_17 HE18 hK15 K_14
  refine nrm ?_
  refine wp_seq ?_
  refine wp_seq ?_
  refine rg ?_
  refine pl_x HE20 HH16 (wt0 rfl) (x_move rfl) rfl rfl fun a_21 HE22 => ?_
  refine pl_x HE22 HH16 (wt0 rfl) (x_len Tryd.underlying43 rfl) rfl rfl fun a_23 HE24 => ?_
  refine pl_x HE24 HH16 (wt0 rfl) (x_neq rfl rfl) rfl rfl fun a_25 HE26 => ?_
  refine wpList_nil ?_
  clear a_19 HE20 a_21 HE22 a_23 HE24
  refine nrm ?_
  refine cnd_ne HE26 rfl (fun hc22 => ?_) (fun hc22 => ?_)
  · refine wp_seq ?_
    refine rg ?_
    refine pl_x HE26 HH16 (wt0 rfl) (x_assign rfl) rfl rfl fun a_27 HE28 => ?_
    refine pl_x HE28 HH16 (wt0 rfl) (x_assign rfl) rfl rfl fun a_29 HE30 => ?_
    refine pl_x HE30 HH16 (wt0 rfl) (x_assign rfl) rfl rfl fun a_31 HE32 => ?_
    refine wpList_nil ?_
    clear a_25 HE26 a_27 HE28 a_29 HE30
    refine nrm ?_
    refine wp_ret ?_
    refine (thn_ret ?_)
    refine ret3 HE32 rfl (rv_tmp rfl) (rv_tmp rfl) (rv_tmp rfl) ?_
    have hF : (pairS c a0) = (0, 0, false) := by
      first | exact pairS_len (by omega) | (rw [pairS_eq rfl (by omega) (by omega) hz0 hz1]; simp [hc22]; done) | (rw [pairS_eq rfl (by omega) (by omega) hz0 hz1]; simp [hc22]; done)
    exact ⟨by first | (rw [hF] <;> rfl) | rfl | (rw [hF]; simp only [Ending.returned.injEq, Value.slice.injEq, true_and, and_true]; first | omega | (simp; done)) | (rw [hF]; simp; omega), HH16.below⟩
  · refine wp_skip ?_
    refine nrm ?_
    refine wp_seq ?_
    refine rg ?_
    refine pl_x HE26 HH16 (wt0 rfl) (x_move rfl) rfl rfl fun a_33 HE34 => ?_
    have ke23 : 0 < (splitR c a0).length := by omega
    obtain ⟨be23, fe23, rfl⟩ := el_own HH16 (i := 0) rfl ke23
    refine pl_x HE34 HH16 (wt0 rfl) (x_indexAddr ts_43 rfl rfl rfl rfl ke23) rfl rfl fun a_35 HE36 => ?_
    obtain ⟨y24, xy24⟩ : ∃ y_, y_ = (splitR c a0)[0]'(by first | exact ke23 | (simp only [List.length_set]; exact ke23) | omega | (simp only [List.length_set]; omega) | (simp; omega)) := ⟨_, rfl⟩
    have jy24 : List.length y24 ≤ 9223372036854775807 := by rw [xy24]; exact i_ownS HH16 0 rfl _
    have hz0 := xy24
    have hpy24 := splitR_piece c a0 y24 (by rw [xy24]; exact List.getElem_mem _)
    refine pl_x HE36 HH16 (wt0 rfl) (x_load1 tv_9 rfl (c_ownS 0 rfl (by first | exact ke23 | (simp only [List.length_set]; exact ke23) | omega | (simp only [List.length_set]; omega) | (simp; omega)) xy24.symm)) rfl rfl fun a_37 HE38 => ?_
    refine pl fun K_39 hK40 => ?_
    refine st_call HE38 (wt0 rfl) rfl rfl rfl en_28 rfl rfl (spec_l01Number y24 _ (by omega)) fun e w' hr => ?_
    have hAr25_0 := numC_bd y24
    obtain ⟨rfl, hbr25⟩ := hr
    have HH41 := HH16.on hbr25
    refine ⟨_, rfl, fun a_42 HE43 => hK40 _ _ ?_⟩
    refine pl_x HE43 HH41 (wt0 rfl) (x_move rfl) rfl rfl fun a_44 HE45 => ?_
    refine pl_x HE45 HH41 (wt0 rfl) (x_extract rfl rfl) rfl rfl fun a_46 HE47 => ?_
    refine pl_x HE47 HH41 (wt0 rfl) (x_extract rfl rfl) rfl rfl fun a_48 HE49 => ?_
    refine pl_x HE49 HH41 (wt0 rfl) (x_assign rfl) rfl rfl fun a_50 HE51 => ?_
    refine pl_x HE51 HH41 (wt0 rfl) (x_assign rfl) rfl rfl fun a_52 HE53 => ?_
    refine wpList_nil ?_
    clear a_25 HE26 a_33 HE34 a_35 HE36 HH16 a_37 HE38 a_42 HE43 a_44 HE45 a_46 HE47 a_48 HE49 a_50 HE51 hK40 K_39
    refine nrm ?_
    refine wp_seq ?_
    refine rg ?_
    refine pl_x HE53 HH41 (wt0 rfl) (x_move rfl) rfl rfl fun a_54 HE55 => ?_
    have ke26 : 1 < (splitR c a0).length := by omega
    refine pl_x HE55 HH41 (wt0 rfl) (x_indexAddr ts_43 rfl rfl rfl rfl ke26) rfl rfl fun a_56 HE57 => ?_
    obtain ⟨y27, xy27⟩ : ∃ y_, y_ = (splitR c a0)[1]'(by first | exact ke26 | (simp only [List.length_set]; exact ke26) | omega | (simp only [List.length_set]; omega) | (simp; omega)) := ⟨_, rfl⟩
    have jy27 : List.length y27 ≤ 9223372036854775807 := by rw [xy27]; exact i_ownS HH41 0 rfl _
    have hz1 := xy27
    have hpy27 := splitR_piece c a0 y27 (by rw [xy27]; exact List.getElem_mem _)
    refine pl_x HE57 HH41 (wt0 rfl) (x_load1 tv_9 rfl (c_ownS 0 rfl (by first | exact ke26 | (simp only [List.length_set]; exact ke26) | omega | (simp only [List.length_set]; omega) | (simp; omega)) xy27.symm)) rfl rfl fun a_58 HE59 => ?_
    refine pl fun K_60 hK61 => ?_
    refine st_call HE59 (wt0 rfl) rfl rfl rfl en_28 rfl rfl (spec_l01Number y27 _ (by omega)) fun e w' hr => ?_
    have hAr28_0 := numC_bd y27
    obtain ⟨rfl, hbr28⟩ := hr
    have HH62 := HH41.on hbr28
    refine ⟨_, rfl, fun a_63 HE64 => hK61 _ _ ?_⟩
    refine pl_x HE64 HH62 (wt0 rfl) (x_move rfl) rfl rfl fun a_65 HE66 => ?_
    refine pl_x HE66 HH62 (wt0 rfl) (x_extract rfl rfl) rfl rfl fun a_67 HE68 => ?_
    refine pl_x HE68 HH62 (wt0 rfl) (x_extract rfl rfl) rfl rfl fun a_69 HE70 => ?_
    refine pl_x HE70 HH62 (wt0 rfl) (x_assign rfl) rfl rfl fun a_71 HE72 => ?_
    refine pl_x HE72 HH62 (wt0 rfl) (x_assign rfl) rfl rfl fun a_73 HE74 => ?_
    refine wpList_nil ?_
    clear a_52 HE53 a_54 HE55 a_56 HE57 HH41 a_58 HE59 a_63 HE64 a_65 HE66 a_67 HE68 a_69 HE70 a_71 HE72 hK61 K_60
    refine nrm ?_
    refine wp_seq ?_
    refine rg ?_
    refine pl_x HE74 HH62 (wt0 rfl) (x_move rfl) rfl rfl fun a_75 HE76 => ?_
    refine pl_x HE76 HH62 (wt0 rfl) (x_move rfl) rfl rfl fun a_77 HE78 => ?_
    refine pl_x HE78 HH62 (wt0 rfl) (x_move rfl) rfl rfl fun a_79 HE80 => ?_
    refine pl_x HE80 HH62 (wt0 rfl) (x_move rfl) rfl rfl fun a_81 HE82 => ?_
    rcases Bool.eq_false_or_eq_true ((numC y24).2) with hc29 | hc29
    · refine pl_x HE82 HH62 (wtT HE82 rfl rfl rfl hc29) (x_move rfl) rfl rfl fun a_83 HE84 => ?_
      refine pl_x HE84 HH62 (wt0 rfl) (x_pickT rfl hc29 rfl) rfl rfl fun a_85 HE86 => ?_
      refine pl_x HE86 HH62 (wt0 rfl) (x_assign rfl) rfl rfl fun a_87 HE88 => ?_
      refine pl_x HE88 HH62 (wt0 rfl) (x_assign rfl) rfl rfl fun a_89 HE90 => ?_
      refine pl_x HE90 HH62 (wt0 rfl) (x_assign rfl) rfl rfl fun a_91 HE92 => ?_
      refine wpList_nil ?_
      clear a_73 HE74 a_75 HE76 a_77 HE78 a_79 HE80 a_81 HE82 a_83 HE84 a_85 HE86 a_87 HE88 a_89 HE90
      refine nrm ?_
      refine wp_ret ?_
      refine ret3 HE92 rfl (rv_tmp rfl) (rv_tmp rfl) (rv_tmp rfl) ?_
      have hF : (pairS c a0) = ((numC y24).1, (numC y27).1, (numC y27).2) := by
        first | exact pairS_len (by omega) | (rw [pairS_eq rfl (by omega) (by omega) hz0 hz1]; simp [hc29]; done) | (rw [pairS_eq rfl (by omega) (by omega) hz0 hz1]; simp [hc22, xy24, xy27, hc29]; done)
      exact ⟨by first | (rw [hF] <;> rfl) | rfl | (rw [hF]; simp only [Ending.returned.injEq, Value.slice.injEq, true_and, and_true]; first | omega | (simp; done)) | (rw [hF]; simp; omega), HH62.below⟩
    · refine pl_no HE82 (wtF HE82 rfl rfl rfl hc29) rfl rfl fun a_93 HE94 => ?_
      refine pl_x HE94 HH62 (wt0 rfl) (x_pickF rfl hc29 rfl) rfl rfl fun a_95 HE96 => ?_
      refine pl_x HE96 HH62 (wt0 rfl) (x_assign rfl) rfl rfl fun a_97 HE98 => ?_
      refine pl_x HE98 HH62 (wt0 rfl) (x_assign rfl) rfl rfl fun a_99 HE100 => ?_
      refine pl_x HE100 HH62 (wt0 rfl) (x_assign rfl) rfl rfl fun a_101 HE102 => ?_
      refine wpList_nil ?_
      clear a_73 HE74 a_75 HE76 a_77 HE78 a_79 HE80 a_81 HE82 a_93 HE94 a_95 HE96 a_97 HE98 a_99 HE100
      refine nrm ?_
      refine wp_ret ?_
      refine ret3 HE102 rfl (rv_tmp rfl) (rv_tmp rfl) (rv_tmp rfl) ?_
      have hF : (pairS c a0) = ((numC y24).1, (numC y27).1, false) := by
        first | exact pairS_len (by omega) | (rw [pairS_eq rfl (by omega) (by omega) hz0 hz1]; simp [hc29]; done) | (rw [pairS_eq rfl (by omega) (by omega) hz0 hz1]; simp [hc22, xy24, xy27, hc29]; done)
      exact ⟨by first | (rw [hF] <;> rfl) | rfl | (rw [hF]; simp only [Ending.returned.injEq, Value.slice.injEq, true_and, and_true]; first | omega | (simp; done)) | (rw [hF]; simp; omega), HH62.below⟩

open Go.Lib in
set_option maxRecDepth 100000 in
set_option maxHeartbeats 4000000 in
theorem spec_l07ReadOne (a0 : List UInt8) (w : World) (s0 : a0.length ≤ 2000000) :
    Calls Tryd.prog 60 #[.string (bs a0)] w fun e w' => ∃ (es0' : List Value), e = .returned (.tuple #[.agg es0'.toArray, .bool (oneS a0).2]) ∧ eInstr.O w' (Fr w w') es0' (oneS a0).1 ∧ Below w.heap.size w w' := by
  have HH1 := Held.start Nob w
  refine enter (n := 65) Tryd.func60 rfl rfl rfl fun a_2 HE3 => ?_
  refine wp_seq ?_
  refine rg ?_
  refine pl fun K_4 hK5 => ?_
  refine st_alloc HE3 HH1 tv_62 (wt0 rfl) rfl fun q21 a_6 w' HE7 HH8 => hK5 _ _ ?_
  refine pl_x HE7 HH8 (wt0 rfl) (x_assign rfl) rfl rfl fun a_9 HE10 => ?_
  refine wpList_nil ?_
  clear a_2 HE3 HH1 a_6 HE7 hK5 K_4
  refine nrm ?_
  refine wp_seq ?_
  refine wp_seq ?_
  refine rg ?_
  refine pl_x HE10 HH8 (wt0 rfl) (x_move rfl) rfl rfl fun a_11 HE12 => ?_
  refine pl_x HE12 HH8 (wt0 rfl) (x_seqlB rfl rfl) rfl rfl fun a_13 HE14 => ?_
  refine wpList_nil ?_
  clear a_9 HE10 a_11 HE12
  refine nrm ?_
  refine cnd_d HE14 rfl (fun hc22 => ?_) (fun hc22 => ?_)
  · refine wp_seq ?_
    refine rg ?_
    refine pl_x HE14 HH8 (wt0 rfl) (show XS _ _ _ _ (.agg #[.int .i64 (0), .int .i64 (0), .int .i64 (0), .int .i64 (0)]) from x_build (vs := []) tb_62 rfl (by simp [Value.oneCell'])) rfl rfl fun a_15 HE16 => ?_
    refine pl fun K_17 hK18 => ?_
    refine st_store (vs := [.int .i64 (0), .int .i64 (0), .int .i64 (0), .int .i64 (0)]) 0 HE16 HH8 tv_62 rfl rfl rfl rfl rfl rfl (by simp [Value.oneCell']) (wt0 rfl) fun w' HH19 => hK18 _ _ ?_
    refine pl_x HE16 HH19 (wt0 rfl) (x_assign rfl) rfl rfl fun a_20 HE21 => ?_
    refine wpList_nil ?_
    clear a_13 HE14 HH8 a_15 HE16 hK18 K_17
    refine nrm ?_
    refine wp_ret ?_
    refine (thn_ret ?_)
    refine ret2 HE21 rfl (rv_cell rfl (tv_62.loadN (cs := [.int .i64 (0), .int .i64 (0), .int .i64 (0), .int .i64 (0)]) rfl (c_blkN 0 rfl _ HH19))) (rv_tmp rfl) ?_
    have HH22 := HH19.flatO (E := eInstr) (cs := [.int .i64 (0), .int .i64 (0), .int .i64 (0), .int .i64 (0)]) (x := (0, 0, 0, 0)) (fun _ => (oPrN (oI (by exact ⟨by omega, by omega⟩)) (oPrN (oI (by exact ⟨by omega, by omega⟩)) (oPrN (oI (by exact ⟨by omega, by omega⟩)) (oI (by exact ⟨by omega, by omega⟩))))))
    have hF : (oneS a0) = ((0, 0, 0, 0), false) := by
      first | (rw [show a0 = [] from by assumption]; exact oneS_nil) | (rw [oneS_plus (by omega) hx0 (by omega)]; done) | exact oneS_bad (by omega) hx0 (by omega) (by omega) | (rw [oneS_min (by omega) hx0 (by omega) (by omega) (by omega) hz0 hz1]; first | rfl | (rw [hc22]; rfl))
    exact ⟨_, by first | (rw [hF] <;> rfl) | rfl | (rw [hF]; simp only [Ending.returned.injEq, Value.slice.injEq, true_and, and_true]; first | omega | (simp; done)) | (rw [hF]; simp; omega), by rw [hF]; exact (HH22.o (i := 0) rfl), HH22.below⟩
  · have w0 : 0 < a0.length := List.length_pos_iff.2 hc22
    refine wp_skip ?_
    refine nrm ?_
    refine wp_seq ?_
    refine wp_seq ?_
    refine rg ?_
    refine pl_x HE14 HH8 (wt0 rfl) (x_move rfl) rfl rfl fun a_23 HE24 => ?_
    have ke23 : 0 < List.length a0 := by first | omega | (simp only [List.length_cons, List.length_nil]; omega)
    obtain ⟨e23, xe23⟩ : ∃ x_, x_ = a0[0] := ⟨_, rfl⟩
    have je23 : 0 ≤ (e23.toNat : Int) ∧ (e23.toNat : Int) ≤ 255 := by have := e23.toNat_lt; omega
    have hx0 := xe23
    refine pl_x HE24 HH8 (wt0 rfl) (x_idxB Tryd.underlying9 rfl rfl rfl ke23 xe23) rfl rfl fun a_25 HE26 => ?_
    refine pl_x HE26 HH8 (wt0 rfl) (x_eql rfl rfl) rfl rfl fun a_27 HE28 => ?_
    refine wpList_nil ?_
    clear a_13 HE14 a_23 HE24 a_25 HE26
    refine nrm ?_
    refine cnd_e HE28 rfl (fun hc24 => ?_) (fun hc24 => ?_)
    · refine wp_seq ?_
      refine rg ?_
      refine pl_x HE28 HH8 (wt0 rfl) (x_move rfl) rfl rfl fun a_29 HE30 => ?_
      refine pl_x HE30 HH8 (wt0 rfl) (x_sliceSL (k := 1) Tryd.underlying9 rfl rfl rfl (by first | omega | (rw [List.length_drop]; omega))) rfl rfl fun a_31 HE32 => ?_
      refine pl fun K_33 hK34 => ?_
      refine st_call HE32 (wt0 rfl) rfl rfl rfl en_78 rfl rfl (spec_l07Pair (a0.drop 1) _ 62 _ (by first | omega | (rw [List.length_drop]; omega)) (by rfl)) fun e w' hr => ?_
      have hAr25_0 := pairS_bd 62 (a0.drop 1)
      obtain ⟨rfl, hbr25⟩ := hr
      have HH35 := HH8.on hbr25
      refine ⟨_, rfl, fun a_36 HE37 => hK34 _ _ ?_⟩
      refine pl_x HE37 HH35 (wt0 rfl) (x_move rfl) rfl rfl fun a_38 HE39 => ?_
      refine pl_x HE39 HH35 (wt0 rfl) (x_extract rfl rfl) rfl rfl fun a_40 HE41 => ?_
      refine pl_x HE41 HH35 (wt0 rfl) (x_extract rfl rfl) rfl rfl fun a_42 HE43 => ?_
      refine pl_x HE43 HH35 (wt0 rfl) (x_extract rfl rfl) rfl rfl fun a_44 HE45 => ?_
      refine pl_x HE45 HH35 (wt0 rfl) (x_assign rfl) rfl rfl fun a_46 HE47 => ?_
      refine pl_x HE47 HH35 (wt0 rfl) (x_assign rfl) rfl rfl fun a_48 HE49 => ?_
      refine pl_x HE49 HH35 (wt0 rfl) (x_assign rfl) rfl rfl fun a_50 HE51 => ?_
      refine wpList_nil ?_
      clear a_27 HE28 a_29 HE30 HH8 a_31 HE32 a_36 HE37 a_38 HE39 a_40 HE41 a_42 HE43 a_44 HE45 a_46 HE47 a_48 HE49 hK34 K_33
      refine nrm ?_
      refine wp_seq ?_
      refine rg ?_
      refine pl_x HE51 HH35 (wt0 rfl) (x_move rfl) rfl rfl fun a_52 HE53 => ?_
      refine pl_x HE53 HH35 (wt0 rfl) (x_move rfl) rfl rfl fun a_54 HE55 => ?_
      refine pl_x HE55 HH35 (wt0 rfl) (show XS _ _ _ _ (.agg #[.int .i64 (0), .int .i64 ((pairS 62 (a0.drop 1)).1), .int .i64 ((pairS 62 (a0.drop 1)).2.1), .int .i64 (0)]) from x_build (vs := [(1, .int .i64 ((pairS 62 (a0.drop 1)).1)), (2, .int .i64 ((pairS 62 (a0.drop 1)).2.1))]) tb_62 rfl (by simp [Value.oneCell'])) rfl rfl fun a_56 HE57 => ?_
      refine pl_x HE57 HH35 (wt0 rfl) (x_move rfl) rfl rfl fun a_58 HE59 => ?_
      refine pl fun K_60 hK61 => ?_
      refine st_store (vs := [.int .i64 (0), .int .i64 ((pairS 62 (a0.drop 1)).1), .int .i64 ((pairS 62 (a0.drop 1)).2.1), .int .i64 (0)]) 0 HE59 HH35 tv_62 rfl rfl rfl rfl rfl rfl (by simp [Value.oneCell']) (wt0 rfl) fun w' HH62 => hK61 _ _ ?_
      refine pl_x HE59 HH62 (wt0 rfl) (x_assign rfl) rfl rfl fun a_63 HE64 => ?_
      refine wpList_nil ?_
      clear a_50 HE51 a_52 HE53 a_54 HE55 a_56 HE57 HH35 a_58 HE59 hK61 K_60
      refine nrm ?_
      refine wp_ret ?_
      refine (thn_ret ?_)
      refine ret2 HE64 rfl (rv_cell rfl (tv_62.loadN (cs := [.int .i64 (0), .int .i64 ((pairS 62 (a0.drop 1)).1), .int .i64 ((pairS 62 (a0.drop 1)).2.1), .int .i64 (0)]) rfl (c_blkN 0 rfl _ HH62))) (rv_tmp rfl) ?_
      have HH65 := HH62.flatO (E := eInstr) (cs := [.int .i64 (0), .int .i64 ((pairS 62 (a0.drop 1)).1), .int .i64 ((pairS 62 (a0.drop 1)).2.1), .int .i64 (0)]) (x := (0, (pairS 62 (a0.drop 1)).1, (pairS 62 (a0.drop 1)).2.1, 0)) (fun _ => (oPrN (oI (by exact ⟨by omega, by omega⟩)) (oPrN (oI (by exact ⟨by omega, by omega⟩)) (oPrN (oI (by exact ⟨by omega, by omega⟩)) (oI (by exact ⟨by omega, by omega⟩))))))
      have hF : (oneS a0) = ((0, (pairS 62 (a0.drop 1)).1, (pairS 62 (a0.drop 1)).2.1, 0), (pairS 62 (a0.drop 1)).2.2) := by
        first | (rw [show a0 = [] from by assumption]; exact oneS_nil) | (rw [oneS_plus (by omega) hx0 (by omega)]; done) | exact oneS_bad (by omega) hx0 (by omega) (by omega) | (rw [oneS_min (by omega) hx0 (by omega) (by omega) (by omega) hz0 hz1]; first | rfl | (rw [hc24]; rfl))
      exact ⟨_, by first | (rw [hF] <;> rfl) | rfl | (rw [hF]; simp only [Ending.returned.injEq, Value.slice.injEq, true_and, and_true]; first | omega | (simp; done)) | (rw [hF]; simp; omega), by rw [hF]; exact (HH65.o (i := 0) rfl), HH65.below⟩
    · refine wp_skip ?_
      refine nrm ?_
      refine wp_seq ?_
      refine rg ?_
      refine pl_x HE28 HH8 (wt0 rfl) (x_move rfl) rfl rfl fun a_66 HE67 => ?_
      refine pl fun K_68 hK69 => ?_
      refine st_call HE67 (wt0 rfl) rfl rfl rfl en_27 rfl rfl (spec_l01Split a0 _ 58 _ (by omega) (by rfl)) fun e w' hr => ?_
      have hAr26_0 := splitR_len 58 a0
      have hAr26_1 := splitR_piece 58 a0
      obtain ⟨Ar26_0, cr26_0, rfl, hor26_0, hbr26⟩ := hr
      obtain ⟨Sr26, HH70⟩ := HH8.newS hbr26 hor26_0
      refine ⟨_, rfl, fun a_71 HE72 => hK69 _ _ ?_⟩
      refine pl_x HE72 HH70 (wt0 rfl) (x_assign rfl) rfl rfl fun a_73 HE74 => ?_
      refine wpList_nil ?_
      clear a_27 HE28 HH8 a_66 HE67 a_71 HE72 hK69 K_68
      refine nrm ?_
      refine wp_seq ?_
      refine wp_seq ?_
      refine rg ?_
      refine pl_x HE74 HH70 (wt0 rfl) (x_move rfl) rfl rfl fun a_75 HE76 => ?_
      refine pl_x HE76 HH70 (wt0 rfl) (x_idxB Tryd.underlying9 rfl rfl rfl ke23 xe23) rfl rfl fun a_77 HE78 => ?_
      refine pl_x HE78 HH70 (wt0 rfl) (x_neq rfl rfl) rfl rfl fun a_79 HE80 => ?_
      refine pl_x HE80 HH70 (wt0 rfl) (x_move rfl) rfl rfl fun a_81 HE82 => ?_
      by_cases hc27 : ¬ (e23.toNat : Int) = 45
      · refine pl_no HE82 (wtF HE82 rfl rfl rfl (bne_t hc27)) rfl rfl fun a_83 HE84 => ?_
        refine pl_no HE84 (wtF HE84 rfl rfl rfl (bne_t hc27)) rfl rfl fun a_85 HE86 => ?_
        refine pl_no HE86 (wtF HE86 rfl rfl rfl (bne_t hc27)) rfl rfl fun a_87 HE88 => ?_
        refine pl_x HE88 HH70 (wt0 rfl) (x_pickT rfl (bne_t hc27) rfl) rfl rfl fun a_89 HE90 => ?_
        refine wpList_nil ?_
        clear a_73 HE74 a_75 HE76 a_77 HE78 a_79 HE80 a_81 HE82 a_83 HE84 a_85 HE86 a_87 HE88
        refine nrm ?_
        refine cndT HE90 rfl rfl ?_
        refine wp_seq ?_
        refine rg ?_
        refine pl_x HE90 HH70 (wt0 rfl) (show XS _ _ _ _ (.agg #[.int .i64 (0), .int .i64 (0), .int .i64 (0), .int .i64 (0)]) from x_build (vs := []) tb_62 rfl (by simp [Value.oneCell'])) rfl rfl fun a_91 HE92 => ?_
        refine pl fun K_93 hK94 => ?_
        refine st_store (vs := [.int .i64 (0), .int .i64 (0), .int .i64 (0), .int .i64 (0)]) 1 HE92 HH70 tv_62 rfl rfl rfl rfl rfl rfl (by simp [Value.oneCell']) (wt0 rfl) fun w' HH95 => hK94 _ _ ?_
        refine pl_x HE92 HH95 (wt0 rfl) (x_assign rfl) rfl rfl fun a_96 HE97 => ?_
        refine wpList_nil ?_
        clear a_89 HE90 HH70 a_91 HE92 hK94 K_93
        refine nrm ?_
        refine wp_ret ?_
        refine (thn_ret ?_)
        refine ret2 HE97 rfl (rv_cell rfl (tv_62.loadN (cs := [.int .i64 (0), .int .i64 (0), .int .i64 (0), .int .i64 (0)]) rfl (c_blkN 1 rfl _ HH95))) (rv_tmp rfl) ?_
        have HH98 := HH95.flatO (E := eInstr) (cs := [.int .i64 (0), .int .i64 (0), .int .i64 (0), .int .i64 (0)]) (x := (0, 0, 0, 0)) (fun _ => (oPrN (oI (by exact ⟨by omega, by omega⟩)) (oPrN (oI (by exact ⟨by omega, by omega⟩)) (oPrN (oI (by exact ⟨by omega, by omega⟩)) (oI (by exact ⟨by omega, by omega⟩))))))
        have hF : (oneS a0) = ((0, 0, 0, 0), false) := by
          first | (rw [show a0 = [] from by assumption]; exact oneS_nil) | (rw [oneS_plus (by omega) hx0 (by omega)]; done) | exact oneS_bad (by omega) hx0 (by omega) (by omega) | (rw [oneS_min (by omega) hx0 (by omega) (by omega) (by omega) hz0 hz1]; first | rfl | (rw [hc27]; rfl))
        exact ⟨_, by first | (rw [hF] <;> rfl) | rfl | (rw [hF]; simp only [Ending.returned.injEq, Value.slice.injEq, true_and, and_true]; first | omega | (simp; done)) | (rw [hF]; simp; omega), by rw [hF]; exact (HH98.o (i := 0) rfl), HH98.below⟩
      · replace hc27 := Classical.not_not.1 hc27
        refine pl_x HE82 HH70 (wtT HE82 rfl rfl rfl (bne_f hc27)) (x_move rfl) rfl rfl fun a_99 HE100 => ?_
        refine pl_x HE100 HH70 (wtT HE100 rfl rfl rfl (bne_f hc27)) (x_len Tryd.underlying43 rfl) rfl rfl fun a_101 HE102 => ?_
        refine pl_x HE102 HH70 (wtT HE102 rfl rfl rfl (bne_f hc27)) (x_neq rfl rfl) rfl rfl fun a_103 HE104 => ?_
        refine pl_x HE104 HH70 (wt0 rfl) (x_pickF rfl (bne_f hc27) rfl) rfl rfl fun a_105 HE106 => ?_
        refine wpList_nil ?_
        clear a_73 HE74 a_75 HE76 a_77 HE78 a_79 HE80 a_81 HE82 a_99 HE100 a_101 HE102 a_103 HE104
        refine nrm ?_
        refine cnd_ne HE106 rfl (fun hc28 => ?_) (fun hc28 => ?_)
        · refine wp_seq ?_
          refine rg ?_
          refine pl_x HE106 HH70 (wt0 rfl) (show XS _ _ _ _ (.agg #[.int .i64 (0), .int .i64 (0), .int .i64 (0), .int .i64 (0)]) from x_build (vs := []) tb_62 rfl (by simp [Value.oneCell'])) rfl rfl fun a_107 HE108 => ?_
          refine pl fun K_109 hK110 => ?_
          refine st_store (vs := [.int .i64 (0), .int .i64 (0), .int .i64 (0), .int .i64 (0)]) 1 HE108 HH70 tv_62 rfl rfl rfl rfl rfl rfl (by simp [Value.oneCell']) (wt0 rfl) fun w' HH111 => hK110 _ _ ?_
          refine pl_x HE108 HH111 (wt0 rfl) (x_assign rfl) rfl rfl fun a_112 HE113 => ?_
          refine wpList_nil ?_
          clear a_105 HE106 HH70 a_107 HE108 hK110 K_109
          refine nrm ?_
          refine wp_ret ?_
          refine (thn_ret ?_)
          refine ret2 HE113 rfl (rv_cell rfl (tv_62.loadN (cs := [.int .i64 (0), .int .i64 (0), .int .i64 (0), .int .i64 (0)]) rfl (c_blkN 1 rfl _ HH111))) (rv_tmp rfl) ?_
          have HH114 := HH111.flatO (E := eInstr) (cs := [.int .i64 (0), .int .i64 (0), .int .i64 (0), .int .i64 (0)]) (x := (0, 0, 0, 0)) (fun _ => (oPrN (oI (by exact ⟨by omega, by omega⟩)) (oPrN (oI (by exact ⟨by omega, by omega⟩)) (oPrN (oI (by exact ⟨by omega, by omega⟩)) (oI (by exact ⟨by omega, by omega⟩))))))
          have hF : (oneS a0) = ((0, 0, 0, 0), false) := by
            first | (rw [show a0 = [] from by assumption]; exact oneS_nil) | (rw [oneS_plus (by omega) hx0 (by omega)]; done) | exact oneS_bad (by omega) hx0 (by omega) (by omega) | (rw [oneS_min (by omega) hx0 (by omega) (by omega) (by omega) hz0 hz1]; first | rfl | (rw [hc28]; rfl))
          exact ⟨_, by first | (rw [hF] <;> rfl) | rfl | (rw [hF]; simp only [Ending.returned.injEq, Value.slice.injEq, true_and, and_true]; first | omega | (simp; done)) | (rw [hF]; simp; omega), by rw [hF]; exact (HH114.o (i := 0) rfl), HH114.below⟩
        · refine wp_skip ?_
          refine nrm ?_
          refine wp_seq ?_
          refine rg ?_
          refine pl_x HE106 HH70 (wt0 rfl) (x_move rfl) rfl rfl fun a_115 HE116 => ?_
          have ke29 : 0 < (splitR 58 a0).length := by omega
          obtain ⟨be29, fe29, rfl⟩ := el_own HH70 (i := 0) rfl ke29
          refine pl_x HE116 HH70 (wt0 rfl) (x_indexAddr ts_43 rfl rfl rfl rfl ke29) rfl rfl fun a_117 HE118 => ?_
          obtain ⟨y30, xy30⟩ : ∃ y_, y_ = (splitR 58 a0)[0]'(by first | exact ke29 | (simp only [List.length_set]; exact ke29) | omega | (simp only [List.length_set]; omega) | (simp; omega)) := ⟨_, rfl⟩
          have jy30 : List.length y30 ≤ 9223372036854775807 := by rw [xy30]; exact i_ownS HH70 0 rfl _
          have hz0 := xy30
          have hpy30 := splitR_piece 58 a0 y30 (by rw [xy30]; exact List.getElem_mem _)
          try have hsy30 : 1 ≤ List.length y30 := by rw [xy30]; exact split_first (by omega) hx0 (by omega) (by omega)
          refine pl_x HE118 HH70 (wt0 rfl) (x_load1 tv_9 rfl (c_ownS 0 rfl (by first | exact ke29 | (simp only [List.length_set]; exact ke29) | omega | (simp only [List.length_set]; omega) | (simp; omega)) xy30.symm)) rfl rfl fun a_119 HE120 => ?_
          refine pl_x HE120 HH70 (wt0 rfl) (x_sliceSL (k := 1) Tryd.underlying9 rfl rfl rfl (by first | omega | (rw [List.length_drop]; omega))) rfl rfl fun a_121 HE122 => ?_
          refine pl fun K_123 hK124 => ?_
          refine st_call HE122 (wt0 rfl) rfl rfl rfl en_78 rfl rfl (spec_l07Pair (y30.drop 1) _ 62 _ (by first | omega | (rw [List.length_drop]; omega)) (by rfl)) fun e w' hr => ?_
          have hAr31_0 := pairS_bd 62 (y30.drop 1)
          obtain ⟨rfl, hbr31⟩ := hr
          have HH125 := HH70.on hbr31
          refine ⟨_, rfl, fun a_126 HE127 => hK124 _ _ ?_⟩
          refine pl_x HE127 HH125 (wt0 rfl) (x_move rfl) rfl rfl fun a_128 HE129 => ?_
          refine pl_x HE129 HH125 (wt0 rfl) (x_extract rfl rfl) rfl rfl fun a_130 HE131 => ?_
          refine pl_x HE131 HH125 (wt0 rfl) (x_extract rfl rfl) rfl rfl fun a_132 HE133 => ?_
          refine pl_x HE133 HH125 (wt0 rfl) (x_extract rfl rfl) rfl rfl fun a_134 HE135 => ?_
          refine pl_x HE135 HH125 (wt0 rfl) (x_assign rfl) rfl rfl fun a_136 HE137 => ?_
          refine pl_x HE137 HH125 (wt0 rfl) (x_assign rfl) rfl rfl fun a_138 HE139 => ?_
          refine pl_x HE139 HH125 (wt0 rfl) (x_assign rfl) rfl rfl fun a_140 HE141 => ?_
          refine wpList_nil ?_
          clear a_105 HE106 a_115 HE116 a_117 HE118 a_119 HE120 HH70 a_121 HE122 a_126 HE127 a_128 HE129 a_130 HE131 a_132 HE133 a_134 HE135 a_136 HE137 a_138 HE139 hK124 K_123
          refine nrm ?_
          refine wp_seq ?_
          refine rg ?_
          refine pl_x HE141 HH125 (wt0 rfl) (x_move rfl) rfl rfl fun a_142 HE143 => ?_
          have ke32 : 1 < (splitR 58 a0).length := by omega
          refine pl_x HE143 HH125 (wt0 rfl) (x_indexAddr ts_43 rfl rfl rfl rfl ke32) rfl rfl fun a_144 HE145 => ?_
          obtain ⟨y33, xy33⟩ : ∃ y_, y_ = (splitR 58 a0)[1]'(by first | exact ke32 | (simp only [List.length_set]; exact ke32) | omega | (simp only [List.length_set]; omega) | (simp; omega)) := ⟨_, rfl⟩
          have jy33 : List.length y33 ≤ 9223372036854775807 := by rw [xy33]; exact i_ownS HH125 0 rfl _
          have hz1 := xy33
          have hpy33 := splitR_piece 58 a0 y33 (by rw [xy33]; exact List.getElem_mem _)
          try have hsy33 : 1 ≤ List.length y33 := by rw [xy33]; exact split_first (by omega) hx0 (by omega) (by omega)
          refine pl_x HE145 HH125 (wt0 rfl) (x_load1 tv_9 rfl (c_ownS 0 rfl (by first | exact ke32 | (simp only [List.length_set]; exact ke32) | omega | (simp only [List.length_set]; omega) | (simp; omega)) xy33.symm)) rfl rfl fun a_146 HE147 => ?_
          refine pl fun K_148 hK149 => ?_
          refine st_call HE147 (wt0 rfl) rfl rfl rfl en_28 rfl rfl (spec_l01Number y33 _ (by omega)) fun e w' hr => ?_
          have hAr34_0 := numC_bd y33
          obtain ⟨rfl, hbr34⟩ := hr
          have HH150 := HH125.on hbr34
          refine ⟨_, rfl, fun a_151 HE152 => hK149 _ _ ?_⟩
          refine pl_x HE152 HH150 (wt0 rfl) (x_move rfl) rfl rfl fun a_153 HE154 => ?_
          refine pl_x HE154 HH150 (wt0 rfl) (x_extract rfl rfl) rfl rfl fun a_155 HE156 => ?_
          refine pl_x HE156 HH150 (wt0 rfl) (x_extract rfl rfl) rfl rfl fun a_157 HE158 => ?_
          refine pl_x HE158 HH150 (wt0 rfl) (x_assign rfl) rfl rfl fun a_159 HE160 => ?_
          refine pl_x HE160 HH150 (wt0 rfl) (x_assign rfl) rfl rfl fun a_161 HE162 => ?_
          refine wpList_nil ?_
          clear a_140 HE141 a_142 HE143 a_144 HE145 HH125 a_146 HE147 a_151 HE152 a_153 HE154 a_155 HE156 a_157 HE158 a_159 HE160 hK149 K_148
          refine nrm ?_
          refine wp_seq ?_
          refine rg ?_
          refine pl_x HE162 HH150 (wt0 rfl) (x_move rfl) rfl rfl fun a_163 HE164 => ?_
          refine pl_x HE164 HH150 (wt0 rfl) (x_move rfl) rfl rfl fun a_165 HE166 => ?_
          refine pl_x HE166 HH150 (wt0 rfl) (x_move rfl) rfl rfl fun a_167 HE168 => ?_
          refine pl_x HE168 HH150 (wt0 rfl) (show XS _ _ _ _ (.agg #[.int .i64 (1), .int .i64 ((pairS 62 (y30.drop 1)).1), .int .i64 ((pairS 62 (y30.drop 1)).2.1), .int .i64 ((numC y33).1)]) from x_build (vs := [(0, .int .i64 (1)), (1, .int .i64 ((pairS 62 (y30.drop 1)).1)), (2, .int .i64 ((pairS 62 (y30.drop 1)).2.1)), (3, .int .i64 ((numC y33).1))]) tb_62 rfl (by simp [Value.oneCell'])) rfl rfl fun a_169 HE170 => ?_
          refine pl_x HE170 HH150 (wt0 rfl) (x_move rfl) rfl rfl fun a_171 HE172 => ?_
          refine pl_x HE172 HH150 (wt0 rfl) (x_move rfl) rfl rfl fun a_173 HE174 => ?_
          rcases Bool.eq_false_or_eq_true ((pairS 62 (y30.drop 1)).2.2) with hc35 | hc35
          · refine pl_x HE174 HH150 (wtT HE174 rfl rfl rfl hc35) (x_move rfl) rfl rfl fun a_175 HE176 => ?_
            refine pl_x HE176 HH150 (wt0 rfl) (x_pickT rfl hc35 rfl) rfl rfl fun a_177 HE178 => ?_
            refine pl fun K_179 hK180 => ?_
            refine st_store (vs := [.int .i64 (1), .int .i64 ((pairS 62 (y30.drop 1)).1), .int .i64 ((pairS 62 (y30.drop 1)).2.1), .int .i64 ((numC y33).1)]) 1 HE178 HH150 tv_62 rfl rfl rfl rfl rfl rfl (by simp [Value.oneCell']) (wt0 rfl) fun w' HH181 => hK180 _ _ ?_
            refine pl_x HE178 HH181 (wt0 rfl) (x_assign rfl) rfl rfl fun a_182 HE183 => ?_
            refine wpList_nil ?_
            clear a_161 HE162 a_163 HE164 a_165 HE166 a_167 HE168 a_169 HE170 a_171 HE172 a_173 HE174 a_175 HE176 HH150 a_177 HE178 hK180 K_179
            refine nrm ?_
            refine wp_ret ?_
            refine ret2 HE183 rfl (rv_cell rfl (tv_62.loadN (cs := [.int .i64 (1), .int .i64 ((pairS 62 (y30.drop 1)).1), .int .i64 ((pairS 62 (y30.drop 1)).2.1), .int .i64 ((numC y33).1)]) rfl (c_blkN 1 rfl _ HH181))) (rv_tmp rfl) ?_
            have HH184 := HH181.flatO (E := eInstr) (cs := [.int .i64 (1), .int .i64 ((pairS 62 (y30.drop 1)).1), .int .i64 ((pairS 62 (y30.drop 1)).2.1), .int .i64 ((numC y33).1)]) (x := (1, (pairS 62 (y30.drop 1)).1, (pairS 62 (y30.drop 1)).2.1, (numC y33).1)) (fun _ => (oPrN (oI (by exact ⟨by omega, by omega⟩)) (oPrN (oI (by exact ⟨by omega, by omega⟩)) (oPrN (oI (by exact ⟨by omega, by omega⟩)) (oI (by exact ⟨by omega, by omega⟩))))))
            have hF : (oneS a0) = ((1, (pairS 62 (y30.drop 1)).1, (pairS 62 (y30.drop 1)).2.1, (numC y33).1), (numC y33).2) := by
              first | (rw [show a0 = [] from by assumption]; exact oneS_nil) | (rw [oneS_plus (by omega) hx0 (by omega)]; done) | exact oneS_bad (by omega) hx0 (by omega) (by omega) | (rw [oneS_min (by omega) hx0 (by omega) (by omega) (by omega) hz0 hz1]; first | rfl | (rw [hc35]; rfl))
            exact ⟨_, by first | (rw [hF] <;> rfl) | rfl | (rw [hF]; simp only [Ending.returned.injEq, Value.slice.injEq, true_and, and_true]; first | omega | (simp; done)) | (rw [hF]; simp; omega), by rw [hF]; exact (HH184.o (i := 0) rfl), HH184.below⟩
          · refine pl_no HE174 (wtF HE174 rfl rfl rfl hc35) rfl rfl fun a_185 HE186 => ?_
            refine pl_x HE186 HH150 (wt0 rfl) (x_pickF rfl hc35 rfl) rfl rfl fun a_187 HE188 => ?_
            refine pl fun K_189 hK190 => ?_
            refine st_store (vs := [.int .i64 (1), .int .i64 ((pairS 62 (y30.drop 1)).1), .int .i64 ((pairS 62 (y30.drop 1)).2.1), .int .i64 ((numC y33).1)]) 1 HE188 HH150 tv_62 rfl rfl rfl rfl rfl rfl (by simp [Value.oneCell']) (wt0 rfl) fun w' HH191 => hK190 _ _ ?_
            refine pl_x HE188 HH191 (wt0 rfl) (x_assign rfl) rfl rfl fun a_192 HE193 => ?_
            refine wpList_nil ?_
            clear a_161 HE162 a_163 HE164 a_165 HE166 a_167 HE168 a_169 HE170 a_171 HE172 a_173 HE174 a_185 HE186 HH150 a_187 HE188 hK190 K_189
            refine nrm ?_
            refine wp_ret ?_
            refine ret2 HE193 rfl (rv_cell rfl (tv_62.loadN (cs := [.int .i64 (1), .int .i64 ((pairS 62 (y30.drop 1)).1), .int .i64 ((pairS 62 (y30.drop 1)).2.1), .int .i64 ((numC y33).1)]) rfl (c_blkN 1 rfl _ HH191))) (rv_tmp rfl) ?_
            have HH194 := HH191.flatO (E := eInstr) (cs := [.int .i64 (1), .int .i64 ((pairS 62 (y30.drop 1)).1), .int .i64 ((pairS 62 (y30.drop 1)).2.1), .int .i64 ((numC y33).1)]) (x := (1, (pairS 62 (y30.drop 1)).1, (pairS 62 (y30.drop 1)).2.1, (numC y33).1)) (fun _ => (oPrN (oI (by exact ⟨by omega, by omega⟩)) (oPrN (oI (by exact ⟨by omega, by omega⟩)) (oPrN (oI (by exact ⟨by omega, by omega⟩)) (oI (by exact ⟨by omega, by omega⟩))))))
            have hF : (oneS a0) = ((1, (pairS 62 (y30.drop 1)).1, (pairS 62 (y30.drop 1)).2.1, (numC y33).1), false) := by
              first | (rw [show a0 = [] from by assumption]; exact oneS_nil) | (rw [oneS_plus (by omega) hx0 (by omega)]; done) | exact oneS_bad (by omega) hx0 (by omega) (by omega) | (rw [oneS_min (by omega) hx0 (by omega) (by omega) (by omega) hz0 hz1]; first | rfl | (rw [hc35]; rfl))
            exact ⟨_, by first | (rw [hF] <;> rfl) | rfl | (rw [hF]; simp only [Ending.returned.injEq, Value.slice.injEq, true_and, and_true]; first | omega | (simp; done)) | (rw [hF]; simp; omega), by rw [hF]; exact (HH194.o (i := 0) rfl), HH194.below⟩

open Go.Lib in
set_option maxRecDepth 100000 in
set_option maxHeartbeats 4000000 in
theorem impl_ReadProgram (a0 : List UInt8) (w : World) (hG : Glob2 w) (s0 : a0.length ≤ 2000000) :
    Calls Tryd.prog 18 #[.string (bs a0)] w fun e w' => ∃ (A0' : Option Addr) (c0' : Nat), e = .returned (.tuple #[.slice A0' (rdPrI a0).1.length c0', .bool (rdPrI a0).2]) ∧ So eInstr w' (Fr w w') A0' c0' (rdPrI a0).1 ∧ Below w.heap.size w w' := by
  have HH1 := Held.start Nob w
  refine enter (n := 29) Tryd.func18 rfl rfl rfl fun a_2 HE3 => ?_
  refine wp_seq ?_
  refine rg ?_
  refine pl_x HE3 HH1 (wt0 rfl) (x_assign rfl) rfl rfl fun a_4 HE5 => ?_
  refine pl_x HE5 HH1 (wt0 rfl) (x_assign rfl) rfl rfl fun a_6 HE7 => ?_
  refine wpList_nil ?_
  clear a_2 HE3 a_4 HE5
  refine nrm ?_
  refine wp_seq ?_
  refine wp_seq ?_
  refine rg ?_
  refine pl_x HE7 HH1 (wt0 rfl) (x_move rfl) rfl rfl fun a_8 HE9 => ?_
  refine pl_x HE9 HH1 (wt0 rfl) (x_seqlB rfl rfl) rfl rfl fun a_10 HE11 => ?_
  refine wpList_nil ?_
  clear a_6 HE7 a_8 HE9
  refine nrm ?_
  refine cnd_d HE11 rfl (fun hc21 => ?_) (fun hc21 => ?_)
  · refine wp_seq ?_
    refine rg ?_
    refine pl fun K_12 hK13 => ?_
    refine st_lit (m := 0) (cs := []) (e := 62) HE11 HH1 (run_lit ts_36 HE11 (vs := []) rfl rfl (by simp [Value.cells]) rfl (by decide)) (wt0 rfl) rfl rfl fun q22 a_14 w' HE15 HH16 => hK13 _ _ ?_
    refine pl_x HE15 HH16 (wt0 rfl) (x_assign rfl) rfl rfl fun a_17 HE18 => ?_
    refine pl_x HE18 HH16 (wt0 rfl) (x_assign rfl) rfl rfl fun a_19 HE20 => ?_
    refine wpList_nil ?_
    clear a_10 HE11 HH1 a_14 HE15 a_17 HE18 hK13 K_12
    refine nrm ?_
    refine wp_ret ?_
    refine (thn_ret ?_)
    refine ret2 HE20 rfl (rv_tmp rfl) (rv_tmp rfl) ?_
    have HH21 := Held.vecFlat (E := eInstr) (xs := []) (css := []) HH16 rfl (Nat.zero_le _) (fun i x hx => by simp at hx)
    have HH22 := HH21.vecSo
    have hF : (rdPrI a0) = (([] : List tInstr), true) := by
      first | (unfold rdPrI; rw [if_pos (by assumption)]; done) | (rw [rdPrI_yes (k := k) (by assumption) (by omega) rfl]; first | (rw [if_pos (by assumption)]; done) | (rw [if_neg (by assumption)]; done))
    exact ⟨(some ⟨q22, 0, none⟩), 0, by first | (rw [hF] <;> rfl) | rfl | (rw [hF]; simp only [Ending.returned.injEq, Value.slice.injEq, true_and, and_true]; first | omega | (simp; done)) | (rw [hF]; simp; omega), by rw [hF]; exact (HH22.so (i := 0) rfl), HH22.below⟩
  · refine wp_skip ?_
    refine nrm ?_
    refine wp_seq ?_
    refine rg ?_
    refine pl fun K_23 hK24 => ?_
    refine st_lit (m := 0) (cs := []) (e := 62) HE11 HH1 (run_lit ts_36 HE11 (vs := []) rfl rfl (by simp [Value.cells]) rfl (by decide)) (wt0 rfl) rfl rfl fun q23 a_25 w' HE26 HH27 => hK24 _ _ ?_
    refine pl_x HE26 HH27 (wt0 rfl) (x_assign rfl) rfl rfl fun a_28 HE29 => ?_
    refine wpList_nil ?_
    clear a_10 HE11 HH1 a_25 HE26 hK24 K_23
    refine nrm ?_
    refine wp_seq ?_
    refine wp_seq ?_
    refine rg ?_
    refine pl_x HE29 HH27 (wt0 rfl) (x_move rfl) rfl rfl fun a_30 HE31 => ?_
    refine pl fun K_32 hK33 => ?_
    refine st_call HE31 (wt0 rfl) rfl rfl rfl en_35 rfl rfl (Split_1 a0 ([59]) 59 _ (HH27.glob2 hG) (by omega) (by rfl)) fun e w' hr => ?_
    have hAr24_0 := splitR_len 59 a0
    have hAr24_1 := splitR_piece 59 a0
    obtain ⟨Ar24_0, cr24_0, rfl, hor24_0, hbr24⟩ := hr
    obtain ⟨Sr24, HH34⟩ := HH27.newS hbr24 hor24_0
    refine ⟨_, rfl, fun a_35 HE36 => hK33 _ _ ?_⟩
    refine pl_x HE36 HH34 (wt0 rfl) (x_len Tryd.underlying43 rfl) rfl rfl fun a_37 HE38 => ?_
    refine pl_x HE38 HH34 (wt0 rfl) (x_move rfl) rfl rfl fun a_39 HE40 => ?_
    refine wpList_nil ?_
    clear a_28 HE29 HH27 a_30 HE31 a_35 HE36 a_37 HE38 hK33 K_32
    refine nrm ?_
    refine wp_block ?_
    have HH41 := HH34.sel [1, 0] (by decide) rfl
    have HH42 := Held.vecFlat (E := eInstr) (xs := []) (css := []) HH41 rfl (Nat.zero_le _) (fun i x hx => by simp at hx)
    refine lp (fun m a w' => ∃ (k : Nat) (A_4 : Option Addr) (c_4 : Nat) (S_4 : Nat → Prop), m = (splitR 59 a0).length - k ∧ Env 29 [(4, .slice A_4 (List.length (((splitR 59 a0).take k).map readI)) c_4), (14, .int .i64 (k : Int)), (0, .string (bs a0)), (12, .slice Ar24_0 ((splitR 59 a0).length) cr24_0), (13, .int .i64 (((splitR 59 a0).length : Int)))] a ∧ Held Nob w [rVec eInstr 62 S_4 A_4 c_4 (((splitR 59 a0).take k).map readI), rSo eTxt Sr24 Ar24_0 cr24_0 (splitR 59 a0)] w' ∧ (k ≤ (splitR 59 a0).length)) ((splitR 59 a0).length - (0)) ?_ ?_
    · have E25 : ((splitR 59 a0).take 0).map readI = ([] : List tInstr) := by
        simp
      exact ⟨0, (some ⟨q23, 0, none⟩), (List.length (α := tInstr) []), (fun b => b = q23), rfl, HE40.sub ⟨(by rw [E25]; rfl), (lkI rfl (by first | rfl | omega | (simp [hc21]; done))), rfl, rfl, rfl, trivial⟩, ((HH42.sel [0, 1] (by decide) rfl).to (by first | rfl | (rw [E25]; done) | (rw [E25]; rfl) | (simp only [E25]; done) | (simp only [E25]; rfl) | (rw [E25]; simp only [List.length_set]; done))), (by first | omega | assumption | (simp; done) | simp_all)⟩
    · rintro m a_43 w' ⟨k, A_4, c_4, S_4, rfl, HE44, HH45, p26_0⟩
      have hn0 : (((splitR 59 a0).take k).map readI).length ≤ a0.length + 1 := by have := splitR_len 59 a0; rw [List.length_map, List.length_take]; omega
      refine wp_seq ?_
      refine rg ?_
      refine pl_x HE44 HH45 (wt0 rfl) (x_lss rfl rfl) rfl rfl fun a_46 HE47 => ?_
      refine wpList_nil ?_
      clear HH34 HH41 a_39 HE40 HH42 a_43 HE44
      refine nrm ?_
      refine wp_seq ?_
      refine cnd_d HE47 rfl (fun hc27 => ?_) (fun hc27 => ?_)
      · refine wp_skip ?_
        refine nrm ?_
        refine wp_seq ?_
        refine wp_block ?_
        refine wp_seq ?_
        refine rg ?_
        have ke28 : k < (splitR 59 a0).length := by omega
        obtain ⟨be28, fe28, rfl⟩ := el_own HH45 (i := 1) rfl ke28
        refine pl_x HE47 HH45 (wt0 rfl) (x_indexAddr ts_43 rfl rfl rfl rfl ke28) rfl rfl fun a_48 HE49 => ?_
        obtain ⟨y29, xy29⟩ : ∃ y_, y_ = (splitR 59 a0)[k]'(by first | exact ke28 | (simp only [List.length_set]; exact ke28) | omega | (simp only [List.length_set]; omega) | (simp; omega)) := ⟨_, rfl⟩
        have jy29 : List.length y29 ≤ 9223372036854775807 := by rw [xy29]; exact i_ownS HH45 1 rfl _
        have hx0 := xy29
        have hl0 := splitR_piece 59 a0 y29 (by rw [xy29]; exact List.getElem_mem _)
        refine pl_x HE49 HH45 (wt0 rfl) (x_load1 tv_9 rfl (c_ownS 1 rfl (by first | exact ke28 | (simp only [List.length_set]; exact ke28) | omega | (simp only [List.length_set]; omega) | (simp; omega)) xy29.symm)) rfl rfl fun a_50 HE51 => ?_
        refine pl_x HE51 HH45 (wt0 rfl) (x_assign rfl) rfl rfl fun a_52 HE53 => ?_
        refine wpList_nil ?_
        clear a_46 HE47 a_48 HE49 a_50 HE51
        refine nrm ?_
        refine rg ?_
        refine pl_x HE53 HH45 (wt0 rfl) (x_move rfl) rfl rfl fun a_54 HE55 => ?_
        refine pl_x HE55 HH45 (wt0 rfl) (x_move rfl) rfl rfl fun a_56 HE57 => ?_
        refine pl fun K_58 hK59 => ?_
        refine st_call HE57 (wt0 rfl) rfl rfl rfl en_41 rfl rfl (impl_readInstr y29 _ (HH45.glob2 hG) (by omega)) fun e w' hr => ?_
        obtain ⟨esr30_0, rfl, hor30_0, hbr30⟩ := hr
        have hr := eInstr.read hor30_0
        obtain ⟨Sr30, HH60⟩ := HH45.newO hbr30 hor30_0
        obtain ⟨rfl, gr30_0_0, gr30_0_1, gr30_0_2, gr30_0_3⟩ := shape_Instr hr
        have jr30_0_0 := gr30_0_0; unfold I64 at jr30_0_0
        have jr30_0_1 := gr30_0_1; unfold I64 at jr30_0_1
        have jr30_0_2 := gr30_0_2; unfold I64 at jr30_0_2
        have jr30_0_3 := gr30_0_3; unfold I64 at jr30_0_3
        have HH61 := HH60.sel [1, 2] (by decide) rfl
        refine ⟨_, rfl, fun a_62 HE63 => hK59 _ _ ?_⟩
        refine pl fun K_64 hK65 => ?_
        refine st_lit (m := 1) (cs := [.int .i64 ((readI y29).1), .int .i64 ((readI y29).2.1), .int .i64 ((readI y29).2.2.1), .int .i64 ((readI y29).2.2.2)]) (e := 62) HE63 HH61 (run_lit ts_36 HE63 (vs := [.agg #[.int .i64 ((readI y29).1), .int .i64 ((readI y29).2.1), .int .i64 ((readI y29).2.2.1), .int .i64 ((readI y29).2.2.2)]]) rfl rfl (by simp [Value.cells]) rfl (by decide)) (wt0 rfl) rfl rfl fun q31 a_66 w' HE67 HH68 => hK65 _ _ ?_
        refine pl fun K_69 hK70 => ?_
        refine st_app1F ((readI y29).1, (readI y29).2.1, (readI y29).2.2.1, (readI y29).2.2.2) HE67 HH68 ts_36 [1, 0, 2] (by decide) rfl (fun _ => (oPrN (oI (by exact ⟨by omega, by omega⟩)) (oPrN (oI (by exact ⟨by omega, by omega⟩)) (oPrN (oI (by exact ⟨by omega, by omega⟩)) (oI (by exact ⟨by omega, by omega⟩)))))) rfl rfl (by simp [Value.oneCell']) (by unfold maxLen; first | omega | (simp; done) | (simp; omega)) (by first | omega | (simp; done) | (simp; omega)) (wt0 rfl) rfl fun A32 c33 S34 a_71 w' HE72 HH73 => hK70 _ _ ?_
        refine pl_x HE72 HH73 (wt0 rfl) (x_assign rfl) rfl rfl fun a_74 HE75 => ?_
        refine wpList_nil ?_
        clear a_52 HE53 a_54 HE55 HH45 HH60 a_56 HE57 K_58 hK59 a_62 HE63 HH61 K_64 hK65 a_66 HE67 HH68 a_71 HE72 hK70 K_69
        refine blk_n ?_
        refine nrm ?_
        refine rg ?_
        refine pl_x HE75 HH73 (wt0 rfl) (x_add rfl rfl (by exact ⟨by omega, by omega⟩)) rfl rfl fun a_76 HE77 => ?_
        refine pl_x HE77 HH73 (wt0 rfl) (x_move rfl) rfl rfl fun a_78 HE79 => ?_
        refine wpList_nil ?_
        clear a_74 HE75 a_76 HE77
        have E35 : ((splitR 59 a0).take (k + 1)).map readI = (((splitR 59 a0).take k).map readI ++ [((readI y29).1, (readI y29).2.1, (readI y29).2.2.1, (readI y29).2.2.2)]) := by
          exact map_snoc _ (by omega) hx0
        exact nrm ⟨(splitR 59 a0).length - (k + 1), (by omega), k + 1, A32, c33, S34, rfl, HE79.sub ⟨(by rw [E35]; rfl), (lkI rfl (by first | rfl | omega | (simp [hc21, p26_0, hc27, xy29]; done))), rfl, rfl, rfl, trivial⟩, ((HH73.sel [0, 1] (by decide) rfl).to (by first | rfl | (rw [E35]; done) | (rw [E35]; rfl) | (simp only [E35]; done) | (simp only [E35]; rfl) | (rw [E35]; simp only [List.length_set]; done))), (by first | omega | assumption | (simp; done) | simp_all)⟩
      · refine wp_exit ?_
        refine (thn_exit (thn_exit (blk_hit ?_)))
        refine nrm ?_
        refine wp_seq ?_
        refine wp_seq ?_
        refine rg ?_
        refine pl_x HE47 HH45 (wt0 rfl) (x_move rfl) rfl rfl fun a_80 HE81 => ?_
        refine pl fun K_82 hK83 => ?_
        refine st_call HE81 (wt0 rfl) rfl rfl rfl en_42 rfl rfl (impl_ProgramText _ _ (((splitR 59 a0).take k).map readI) _ (HH45.vecSl (i := 0) rfl) (HH45.glob hG.1)) fun e w' hr => ?_
        obtain ⟨rfl, hbr36⟩ := hr
        have HH84 := HH45.on hbr36
        refine ⟨_, rfl, fun a_85 HE86 => hK83 _ _ ?_⟩
        refine pl_x HE86 HH84 (wt0 rfl) (x_move rfl) rfl rfl fun a_87 HE88 => ?_
        refine pl_x HE88 HH84 (wt0 rfl) (x_sneqB rfl rfl) rfl rfl fun a_89 HE90 => ?_
        refine wpList_nil ?_
        clear a_46 HE47 HH45 a_80 HE81 a_85 HE86 a_87 HE88 hK83 K_82
        refine nrm ?_
        refine cnd_nd HE90 rfl (fun hc37 => ?_) (fun hc37 => ?_)
        · refine wp_seq ?_
          refine rg ?_
          refine pl_x HE90 HH84 (wt0 rfl) (x_assign rfl) rfl rfl fun a_91 HE92 => ?_
          refine pl_x HE92 HH84 (wt0 rfl) (x_assign rfl) rfl rfl fun a_93 HE94 => ?_
          refine wpList_nil ?_
          clear a_89 HE90 a_91 HE92
          refine nrm ?_
          refine wp_ret ?_
          refine (thn_ret ?_)
          refine ret2 HE94 rfl (rv_tmp rfl) (rv_tmp rfl) ?_
          have hF : (rdPrI a0) = ([], false) := by
            first | (unfold rdPrI; rw [if_pos (by assumption)]; done) | (rw [rdPrI_yes (k := k) (by assumption) (by omega) rfl]; first | (rw [if_pos (by assumption)]; done) | (rw [if_neg (by assumption)]; done))
          exact ⟨none, 0, by first | (rw [hF] <;> rfl) | rfl | (rw [hF]; simp only [Ending.returned.injEq, Value.slice.injEq, true_and, and_true]; first | omega | (simp; done)) | (rw [hF]; simp; omega), by rw [hF]; exact (So.nil (Nat.zero_le _)), HH84.below⟩
        · refine wp_skip ?_
          refine nrm ?_
          refine wp_seq ?_
          refine rg ?_
          refine pl_x HE90 HH84 (wt0 rfl) (x_move rfl) rfl rfl fun a_95 HE96 => ?_
          refine pl_x HE96 HH84 (wt0 rfl) (x_assign rfl) rfl rfl fun a_97 HE98 => ?_
          refine pl_x HE98 HH84 (wt0 rfl) (x_assign rfl) rfl rfl fun a_99 HE100 => ?_
          refine wpList_nil ?_
          clear a_89 HE90 a_95 HE96 a_97 HE98
          refine nrm ?_
          refine wp_ret ?_
          refine ret2 HE100 rfl (rv_tmp rfl) (rv_tmp rfl) ?_
          have HH101 := HH84.vecSo
          have hF : (rdPrI a0) = (((splitR 59 a0).take k).map readI, true) := by
            first | (unfold rdPrI; rw [if_pos (by assumption)]; done) | (rw [rdPrI_yes (k := k) (by assumption) (by omega) rfl]; first | (rw [if_pos (by assumption)]; done) | (rw [if_neg (by assumption)]; done))
          exact ⟨A_4, c_4, by first | (rw [hF] <;> rfl) | rfl | (rw [hF]; simp only [Ending.returned.injEq, Value.slice.injEq, true_and, and_true]; first | omega | (simp; done)) | (rw [hF]; simp; omega), by rw [hF]; exact (HH101.so (i := 0) rfl), HH101.below⟩

open Go.Lib in
set_option maxRecDepth 100000 in
set_option maxHeartbeats 4000000 in
theorem spec_l07Read (a0 : List UInt8) (w : World) (s0 : a0.length ≤ 2000000) :
    Calls Tryd.prog 40 #[.string (bs a0)] w fun e w' => ∃ (A0' : Option Addr) (c0' : Nat), e = .returned (.tuple #[.slice A0' (rdPr0 a0).1.length c0', .bool (rdPr0 a0).2]) ∧ So eInstr w' (Fr w w') A0' c0' (rdPr0 a0).1 ∧ Below w.heap.size w w' := by
  have HH1 := Held.start Nob w
  refine enter (n := 38) Tryd.func40 rfl rfl rfl fun a_2 HE3 => ?_
  refine wp_seq ?_
  refine rg ?_
  refine pl_x HE3 HH1 (wt0 rfl) (x_assign rfl) rfl rfl fun a_4 HE5 => ?_
  refine pl_x HE5 HH1 (wt0 rfl) (x_assign rfl) rfl rfl fun a_6 HE7 => ?_
  refine wpList_nil ?_
  clear a_2 HE3 a_4 HE5
  refine nrm ?_
  refine wp_seq ?_
  refine rg ?_
  refine pl fun K_8 hK9 => ?_
  refine st_lit (m := 0) (cs := []) (e := 62) HE7 HH1 (run_lit ts_36 HE7 (vs := []) rfl rfl (by simp [Value.cells]) rfl (by decide)) (wt0 rfl) rfl rfl fun q21 a_10 w' HE11 HH12 => hK9 _ _ ?_
  refine pl_x HE11 HH12 (wt0 rfl) (x_assign rfl) rfl rfl fun a_13 HE14 => ?_
  refine wpList_nil ?_
  clear a_6 HE7 HH1 a_10 HE11 hK9 K_8
  refine nrm ?_
  refine wp_seq ?_
  refine wp_seq ?_
  refine rg ?_
  refine pl_x HE14 HH12 (wt0 rfl) (x_move rfl) rfl rfl fun a_15 HE16 => ?_
  refine pl_x HE16 HH12 (wt0 rfl) (x_seqlB rfl rfl) rfl rfl fun a_17 HE18 => ?_
  refine wpList_nil ?_
  clear a_13 HE14 a_15 HE16
  refine nrm ?_
  refine cnd_d HE18 rfl (fun hc22 => ?_) (fun hc22 => ?_)
  · refine wp_seq ?_
    refine rg ?_
    refine pl_x HE18 HH12 (wt0 rfl) (x_move rfl) rfl rfl fun a_19 HE20 => ?_
    refine pl_x HE20 HH12 (wt0 rfl) (x_assign rfl) rfl rfl fun a_21 HE22 => ?_
    refine pl_x HE22 HH12 (wt0 rfl) (x_assign rfl) rfl rfl fun a_23 HE24 => ?_
    refine wpList_nil ?_
    clear a_17 HE18 a_19 HE20 a_21 HE22
    refine nrm ?_
    refine wp_ret ?_
    refine (thn_ret ?_)
    refine ret2 HE24 rfl (rv_tmp rfl) (rv_tmp rfl) ?_
    have HH25 := Held.vecFlat (E := eInstr) (xs := []) (css := []) HH12 rfl (Nat.zero_le _) (fun i x hx => by simp at hx)
    have HH26 := HH25.vecSo
    have hF : (rdPr0 a0) = (([] : List tInstr), true) := by
      first | (unfold rdPr0; rw [if_pos (by assumption)]; done) | exact rdPr0_no (by assumption) (by omega) hx0 hc22 | exact rdPr0_yes (by assumption) (by omega) p0_1
    exact ⟨(some ⟨q21, 0, none⟩), 0, by first | (rw [hF] <;> rfl) | rfl | (rw [hF]; simp only [Ending.returned.injEq, Value.slice.injEq, true_and, and_true]; first | omega | (simp; done)) | (rw [hF]; simp; omega), by rw [hF]; exact (HH26.so (i := 0) rfl), HH26.below⟩
  · refine wp_skip ?_
    refine nrm ?_
    refine wp_seq ?_
    refine rg ?_
    refine pl_x HE18 HH12 (wt0 rfl) (x_move rfl) rfl rfl fun a_27 HE28 => ?_
    refine pl fun K_29 hK30 => ?_
    refine st_call HE28 (wt0 rfl) rfl rfl rfl en_27 rfl rfl (spec_l01Split a0 _ 59 _ (by omega) (by rfl)) fun e w' hr => ?_
    have hAr23_0 := splitR_len 59 a0
    have hAr23_1 := splitR_piece 59 a0
    obtain ⟨Ar23_0, cr23_0, rfl, hor23_0, hbr23⟩ := hr
    obtain ⟨Sr23, HH31⟩ := HH12.newS hbr23 hor23_0
    refine ⟨_, rfl, fun a_32 HE33 => hK30 _ _ ?_⟩
    refine pl_x HE33 HH31 (wt0 rfl) (x_assign rfl) rfl rfl fun a_34 HE35 => ?_
    refine wpList_nil ?_
    clear a_17 HE18 HH12 a_27 HE28 a_32 HE33 hK30 K_29
    refine nrm ?_
    refine wp_seq ?_
    refine wp_seq ?_
    refine rg ?_
    refine pl_x HE35 HH31 (wt0 rfl) (x_assign rfl) rfl rfl fun a_36 HE37 => ?_
    refine wpList_nil ?_
    clear a_34 HE35
    refine nrm ?_
    refine wp_block ?_
    have HH38 := HH31.sel [1, 0] (by decide) rfl
    have HH39 := Held.vecFlat (E := eInstr) (xs := []) (css := []) HH38 rfl (Nat.zero_le _) (fun i x hx => by simp at hx)
    refine lp (fun m a w' => ∃ (k : Nat) (A_4 : Option Addr) (c_4 : Nat) (S_4 : Nat → Prop), m = (splitR 59 a0).length - k ∧ Env 38 [(4, .slice A_4 (List.length (((splitR 59 a0).take k).map oneS1)) c_4), (6, .int .i64 (k : Int)), (5, .slice Ar23_0 ((splitR 59 a0).length) cr23_0)] a ∧ Held Nob w [rVec eInstr 62 S_4 A_4 c_4 (((splitR 59 a0).take k).map oneS1), rSo eTxt Sr23 Ar23_0 cr23_0 (splitR 59 a0)] w' ∧ (k ≤ (splitR 59 a0).length) ∧ (((splitR 59 a0).take k).all (fun w => (oneS w).2) = true)) ((splitR 59 a0).length - (0)) ?_ ?_
    · have E24 : ((splitR 59 a0).take 0).map oneS1 = ([] : List tInstr) := by
        simp
      exact ⟨0, (some ⟨q21, 0, none⟩), (List.length (α := tInstr) []), (fun b => b = q21), rfl, HE37.sub ⟨(by rw [E24]; rfl), (lkI rfl (by first | rfl | omega | (simp [hc22]; done))), rfl, trivial⟩, ((HH39.sel [0, 1] (by decide) rfl).to (by first | rfl | (rw [E24]; done) | (rw [E24]; rfl) | (simp only [E24]; done) | (simp only [E24]; rfl) | (rw [E24]; simp only [List.length_set]; done))), (by first | omega | assumption | (simp; done) | simp_all), (by simp)⟩
    · rintro m a_40 w' ⟨k, A_4, c_4, S_4, rfl, HE41, HH42, p25_0, p25_1⟩
      have hn0 : (((splitR 59 a0).take k).map oneS1).length ≤ a0.length + 1 := by have := splitR_len 59 a0; rw [List.length_map, List.length_take]; omega
      refine wp_seq ?_
      refine wp_seq ?_
      refine rg ?_
      refine pl_x HE41 HH42 (wt0 rfl) (x_move rfl) rfl rfl fun a_43 HE44 => ?_
      refine pl_x HE44 HH42 (wt0 rfl) (x_move rfl) rfl rfl fun a_45 HE46 => ?_
      refine pl_x HE46 HH42 (wt0 rfl) (x_len Tryd.underlying43 rfl) rfl rfl fun a_47 HE48 => ?_
      refine pl_x HE48 HH42 (wt0 rfl) (x_lss rfl rfl) rfl rfl fun a_49 HE50 => ?_
      refine wpList_nil ?_
      clear HH31 HH38 a_36 HE37 HH39 a_40 HE41 a_43 HE44 a_45 HE46 a_47 HE48
      refine nrm ?_
      refine cnd_d HE50 rfl (fun hc26 => ?_) (fun hc26 => ?_)
      · refine wp_skip ?_
        refine nrm ?_
        refine wp_seq ?_
        refine wp_block ?_
        refine wp_seq ?_
        refine rg ?_
        refine pl_x HE50 HH42 (wt0 rfl) (x_move rfl) rfl rfl fun a_51 HE52 => ?_
        refine pl_x HE52 HH42 (wt0 rfl) (x_move rfl) rfl rfl fun a_53 HE54 => ?_
        have ke27 : k < (splitR 59 a0).length := by omega
        obtain ⟨be27, fe27, rfl⟩ := el_own HH42 (i := 1) rfl ke27
        refine pl_x HE54 HH42 (wt0 rfl) (x_indexAddr ts_43 rfl rfl rfl rfl ke27) rfl rfl fun a_55 HE56 => ?_
        obtain ⟨y28, xy28⟩ : ∃ y_, y_ = (splitR 59 a0)[k]'(by first | exact ke27 | (simp only [List.length_set]; exact ke27) | omega | (simp only [List.length_set]; omega) | (simp; omega)) := ⟨_, rfl⟩
        have jy28 : List.length y28 ≤ 9223372036854775807 := by rw [xy28]; exact i_ownS HH42 1 rfl _
        have hx0 := xy28
        have hl0 := splitR_piece 59 a0 y28 (by rw [xy28]; exact List.getElem_mem _)
        refine pl_x HE56 HH42 (wt0 rfl) (x_load1 tv_9 rfl (c_ownS 1 rfl (by first | exact ke27 | (simp only [List.length_set]; exact ke27) | omega | (simp only [List.length_set]; omega) | (simp; omega)) xy28.symm)) rfl rfl fun a_57 HE58 => ?_
        refine pl fun K_59 hK60 => ?_
        refine st_call HE58 (wt0 rfl) rfl rfl rfl en_60 rfl rfl (spec_l07ReadOne y28 _ (by omega)) fun e w' hr => ?_
        obtain ⟨esr29_0, rfl, hor29_0, hbr29⟩ := hr
        have hr := eInstr.read hor29_0
        obtain ⟨Sr29, HH61⟩ := HH42.newO hbr29 hor29_0
        obtain ⟨rfl, gr29_0_0, gr29_0_1, gr29_0_2, gr29_0_3⟩ := shape_Instr hr
        have jr29_0_0 := gr29_0_0; unfold I64 at jr29_0_0
        have jr29_0_1 := gr29_0_1; unfold I64 at jr29_0_1
        have jr29_0_2 := gr29_0_2; unfold I64 at jr29_0_2
        have jr29_0_3 := gr29_0_3; unfold I64 at jr29_0_3
        have HH62 := HH61.sel [1, 2] (by decide) rfl
        refine ⟨_, rfl, fun a_63 HE64 => hK60 _ _ ?_⟩
        refine pl_x HE64 HH62 (wt0 rfl) (x_move rfl) rfl rfl fun a_65 HE66 => ?_
        refine pl_x HE66 HH62 (wt0 rfl) (x_extract rfl rfl) rfl rfl fun a_67 HE68 => ?_
        refine pl_x HE68 HH62 (wt0 rfl) (x_extract rfl rfl) rfl rfl fun a_69 HE70 => ?_
        refine pl fun K_71 hK72 => ?_
        refine st_alloc HE70 HH62 tv_62 (wt0 rfl) rfl fun q30 a_73 w' HE74 HH75 => hK72 _ _ ?_
        refine pl fun K_76 hK77 => ?_
        refine st_store (vs := [.int .i64 ((oneS y28).1.1), .int .i64 ((oneS y28).1.2.1), .int .i64 ((oneS y28).1.2.2.1), .int .i64 ((oneS y28).1.2.2.2)]) 0 HE74 HH75 tv_62 rfl rfl rfl rfl rfl rfl (by simp [Value.oneCell']) (wt0 rfl) fun w' HH78 => hK77 _ _ ?_
        refine pl_x HE74 HH78 (wt0 rfl) (x_assign rfl) rfl rfl fun a_79 HE80 => ?_
        refine wpList_nil ?_
        clear a_49 HE50 a_51 HE52 a_53 HE54 a_55 HE56 HH42 HH61 a_57 HE58 a_63 HE64 a_65 HE66 a_67 HE68 K_59 hK60 a_69 HE70 HH62 K_71 hK72 HH75 a_73 HE74 hK77 K_76
        refine nrm ?_
        refine wp_seq ?_
        refine wp_seq ?_
        refine rg ?_
        refine pl_x HE80 HH78 (wt0 rfl) (x_move rfl) rfl rfl fun a_81 HE82 => ?_
        refine pl_x HE82 HH78 (wt0 rfl) (x_not rfl) rfl rfl fun a_83 HE84 => ?_
        refine wpList_nil ?_
        clear a_79 HE80 a_81 HE82
        refine nrm ?_
        refine cnd_nb HE84 rfl (fun hc31 => ?_) (fun hc31 => ?_)
        · refine wp_seq ?_
          refine rg ?_
          refine pl_x HE84 HH78 (wt0 rfl) (x_assign rfl) rfl rfl fun a_85 HE86 => ?_
          refine pl_x HE86 HH78 (wt0 rfl) (x_assign rfl) rfl rfl fun a_87 HE88 => ?_
          refine wpList_nil ?_
          clear a_83 HE84 a_85 HE86
          refine nrm ?_
          refine wp_ret ?_
          refine (thn_ret (blk_ret (thn_ret (thn_ret (blk_ret (thn_ret ?_))))))
          refine ret2 HE88 rfl (rv_tmp rfl) (rv_tmp rfl) ?_
          have hF : (rdPr0 a0) = ([], false) := by
            first | (unfold rdPr0; rw [if_pos (by assumption)]; done) | exact rdPr0_no (by assumption) (by omega) hx0 hc31 | exact rdPr0_yes (by assumption) (by omega) p25_1
          exact ⟨none, 0, by first | (rw [hF] <;> rfl) | rfl | (rw [hF]; simp only [Ending.returned.injEq, Value.slice.injEq, true_and, and_true]; first | omega | (simp; done)) | (rw [hF]; simp; omega), by rw [hF]; exact (So.nil (Nat.zero_le _)), HH78.below⟩
        · refine wp_skip ?_
          refine nrm ?_
          refine rg ?_
          refine pl_x HE84 HH78 (wt0 rfl) (x_move rfl) rfl rfl fun a_89 HE90 => ?_
          refine pl_x HE90 HH78 (wt0 rfl) (x_loadN (cs := [.int .i64 ((oneS y28).1.1), .int .i64 ((oneS y28).1.2.1), .int .i64 ((oneS y28).1.2.2.1), .int .i64 ((oneS y28).1.2.2.2)]) tv_62 rfl rfl (c_blkN 0 rfl)) rfl rfl fun a_91 HE92 => ?_
          refine pl fun K_93 hK94 => ?_
          refine st_lit (m := 1) (cs := [.int .i64 ((oneS y28).1.1), .int .i64 ((oneS y28).1.2.1), .int .i64 ((oneS y28).1.2.2.1), .int .i64 ((oneS y28).1.2.2.2)]) (e := 62) HE92 HH78 (run_lit ts_36 HE92 (vs := [.agg #[.int .i64 ((oneS y28).1.1), .int .i64 ((oneS y28).1.2.1), .int .i64 ((oneS y28).1.2.2.1), .int .i64 ((oneS y28).1.2.2.2)]]) rfl rfl (by simp [Value.cells]) rfl (by decide)) (wt0 rfl) rfl rfl fun q32 a_95 w' HE96 HH97 => hK94 _ _ ?_
          refine pl fun K_98 hK99 => ?_
          refine st_app1F ((oneS y28).1.1, (oneS y28).1.2.1, (oneS y28).1.2.2.1, (oneS y28).1.2.2.2) HE96 HH97 ts_36 [2, 0, 1, 3] (by decide) rfl (fun _ => (oPrN (oI (by exact ⟨by omega, by omega⟩)) (oPrN (oI (by exact ⟨by omega, by omega⟩)) (oPrN (oI (by exact ⟨by omega, by omega⟩)) (oI (by exact ⟨by omega, by omega⟩)))))) rfl rfl (by simp [Value.oneCell']) (by unfold maxLen; first | omega | (simp; done) | (simp; omega)) (by first | omega | (simp; done) | (simp; omega)) (wt0 rfl) rfl fun A33 c34 S35 a_100 w' HE101 HH102 => hK99 _ _ ?_
          refine pl_x HE101 HH102 (wt0 rfl) (x_assign rfl) rfl rfl fun a_103 HE104 => ?_
          refine wpList_nil ?_
          clear a_83 HE84 a_89 HE90 a_91 HE92 HH78 K_93 hK94 a_95 HE96 HH97 a_100 HE101 hK99 K_98
          refine blk_n ?_
          refine nrm ?_
          refine rg ?_
          refine pl_x HE104 HH102 (wt0 rfl) (x_move rfl) rfl rfl fun a_105 HE106 => ?_
          refine pl_x HE106 HH102 (wt0 rfl) (x_add rfl rfl (by exact ⟨by omega, by omega⟩)) rfl rfl fun a_107 HE108 => ?_
          refine pl_x HE108 HH102 (wt0 rfl) (x_assign rfl) rfl rfl fun a_109 HE110 => ?_
          refine wpList_nil ?_
          clear a_103 HE104 a_105 HE106 a_107 HE108
          have E36 : ((splitR 59 a0).take (k + 1)).map oneS1 = (((splitR 59 a0).take k).map oneS1 ++ [((oneS y28).1.1, (oneS y28).1.2.1, (oneS y28).1.2.2.1, (oneS y28).1.2.2.2)]) := by
            exact map_snoc _ (by omega) hx0
          exact nrm ⟨(splitR 59 a0).length - (k + 1), (by omega), k + 1, A33, c34, S35, rfl, HE110.sub ⟨(by rw [E36]; rfl), (lkI rfl (by first | rfl | omega | (simp [hc22, p25_0, p25_1, hc26, xy28, hc31]; done))), rfl, trivial⟩, ((HH102.sel [0, 2] (by decide) rfl).to (by first | rfl | (rw [E36]; done) | (rw [E36]; rfl) | (simp only [E36]; done) | (simp only [E36]; rfl) | (rw [E36]; simp only [List.length_set]; done))), (by first | omega | assumption | (simp; done) | simp_all), (by exact all_snoc (by omega) p25_1 hx0 hc31)⟩
      · refine wp_exit ?_
        refine (thn_exit (thn_exit (blk_hit ?_)))
        refine nrm ?_
        refine wp_seq ?_
        refine rg ?_
        refine pl_x HE50 HH42 (wt0 rfl) (x_move rfl) rfl rfl fun a_111 HE112 => ?_
        refine pl_x HE112 HH42 (wt0 rfl) (x_move rfl) rfl rfl fun a_113 HE114 => ?_
        refine pl fun K_115 hK116 => ?_
        refine st_call HE114 (wt0 rfl) rfl rfl rfl en_61 rfl rfl (spec_l07Is _ _ (((splitR 59 a0).take k).map oneS1) _ (HH42.vecSl (i := 0) rfl)) fun e w' hr => ?_
        obtain ⟨rfl, hbr37⟩ := hr
        have HH117 := HH42.on hbr37
        refine ⟨_, rfl, fun a_118 HE119 => hK116 _ _ ?_⟩
        refine pl_x HE119 HH117 (wt0 rfl) (x_assign rfl) rfl rfl fun a_120 HE121 => ?_
        refine pl_x HE121 HH117 (wt0 rfl) (x_assign rfl) rfl rfl fun a_122 HE123 => ?_
        refine wpList_nil ?_
        clear a_49 HE50 a_111 HE112 HH42 a_113 HE114 a_118 HE119 a_120 HE121 hK116 K_115
        refine nrm ?_
        refine wp_ret ?_
        refine ret2 HE123 rfl (rv_tmp rfl) (rv_tmp rfl) ?_
        have HH124 := HH117.vecSo
        have hF : (rdPr0 a0) = (((splitR 59 a0).take k).map oneS1, (validProg (((splitR 59 a0).take k).map oneS1))) := by
          first | (unfold rdPr0; rw [if_pos (by assumption)]; done) | exact rdPr0_no (by assumption) (by omega) hx0 hc26 | exact rdPr0_yes (by assumption) (by omega) p25_1
        exact ⟨A_4, c_4, by first | (rw [hF] <;> rfl) | rfl | (rw [hF]; simp only [Ending.returned.injEq, Value.slice.injEq, true_and, and_true]; first | omega | (simp; done)) | (rw [hF]; simp; omega), by rw [hF]; exact (HH124.so (i := 0) rfl), HH124.below⟩

open Go.Lib in
set_option maxRecDepth 100000 in
set_option maxHeartbeats 4000000 in
theorem spec_ReadProgram (a0 : List UInt8) (w : World) (s0 : a0.length ≤ 2000000) :
    Calls Tryd.prog 17 #[.string (bs a0)] w fun e w' => ∃ (A0' : Option Addr) (c0' : Nat), e = .returned (.tuple #[.slice A0' (rdPrI a0).1.length c0', .bool (rdPrI a0).2]) ∧ So eInstr w' (Fr w w') A0' c0' (rdPrI a0).1 ∧ Below w.heap.size w w' := by
  have HH1 := Held.start Nob w
  refine enter (n := 14) Tryd.func17 rfl rfl rfl fun a_2 HE3 => ?_
  refine wp_seq ?_
  refine rg ?_
  refine pl_x HE3 HH1 (wt0 rfl) (x_assign rfl) rfl rfl fun a_4 HE5 => ?_
  refine pl_x HE5 HH1 (wt0 rfl) (x_assign rfl) rfl rfl fun a_6 HE7 => ?_
  refine wpList_nil ?_
  clear a_2 HE3 a_4 HE5
  refine nrm ?_
  refine wp_seq ?_
  refine rg ?_
  refine pl_x HE7 HH1 (wt0 rfl) (x_move rfl) rfl rfl fun a_8 HE9 => ?_
  refine pl fun K_10 hK11 => ?_
  refine st_call HE9 (wt0 rfl) rfl rfl rfl en_40 rfl rfl (spec_l07Read a0 _ (by omega)) fun e w' hr => ?_
  obtain ⟨Ar21_0, cr21_0, rfl, hor21_0, hbr21⟩ := hr
  obtain ⟨Sr21, HH12⟩ := HH1.newS hbr21 hor21_0
  refine ⟨_, rfl, fun a_13 HE14 => hK11 _ _ ?_⟩
  refine pl_x HE14 HH12 (wt0 rfl) (x_move rfl) rfl rfl fun a_15 HE16 => ?_
  refine pl_x HE16 HH12 (wt0 rfl) (x_extract rfl rfl) rfl rfl fun a_17 HE18 => ?_
  refine pl_x HE18 HH12 (wt0 rfl) (x_extract rfl rfl) rfl rfl fun a_19 HE20 => ?_
  refine pl_x HE20 HH12 (wt0 rfl) (x_assign rfl) rfl rfl fun a_21 HE22 => ?_
  refine pl_x HE22 HH12 (wt0 rfl) (x_assign rfl) rfl rfl fun a_23 HE24 => ?_
  refine wpList_nil ?_
  clear a_6 HE7 HH1 a_8 HE9 a_13 HE14 a_15 HE16 a_17 HE18 a_19 HE20 a_21 HE22 hK11 K_10
  refine nrm ?_
  refine wp_seq ?_
  refine wp_seq ?_
  refine rg ?_
  refine pl_x HE24 HH12 (wt0 rfl) (x_move rfl) rfl rfl fun a_25 HE26 => ?_
  refine pl_x HE26 HH12 (wt0 rfl) (x_not rfl) rfl rfl fun a_27 HE28 => ?_
  refine wpList_nil ?_
  clear a_23 HE24 a_25 HE26
  refine nrm ?_
  refine cnd_nb HE28 rfl (fun hc22 => ?_) (fun hc22 => ?_)
  · refine wp_seq ?_
    refine rg ?_
    refine pl_x HE28 HH12 (wt0 rfl) (x_assign rfl) rfl rfl fun a_29 HE30 => ?_
    refine pl_x HE30 HH12 (wt0 rfl) (x_assign rfl) rfl rfl fun a_31 HE32 => ?_
    refine wpList_nil ?_
    clear a_27 HE28 a_29 HE30
    refine nrm ?_
    refine wp_ret ?_
    refine (thn_ret ?_)
    refine ret2 HE32 rfl (rv_tmp rfl) (rv_tmp rfl) ?_
    have hF : (rdPrI a0) = ([], false) := by
      rw [← rdPr_eq]; unfold rdPrS; first | (rw [if_pos (by assumption)]; done) | (rw [if_neg (fun hh => ff hh (by assumption))]; done)
    exact ⟨none, 0, by first | (rw [hF] <;> rfl) | rfl | (rw [hF]; simp only [Ending.returned.injEq, Value.slice.injEq, true_and, and_true]; first | omega | (simp; done)) | (rw [hF]; simp; omega), by rw [hF]; exact (So.nil (Nat.zero_le _)), HH12.below⟩
  · refine wp_skip ?_
    refine nrm ?_
    refine wp_seq ?_
    refine rg ?_
    refine pl_x HE28 HH12 (wt0 rfl) (x_move rfl) rfl rfl fun a_33 HE34 => ?_
    refine pl_x HE34 HH12 (wt0 rfl) (x_assign rfl) rfl rfl fun a_35 HE36 => ?_
    refine pl_x HE36 HH12 (wt0 rfl) (x_assign rfl) rfl rfl fun a_37 HE38 => ?_
    refine wpList_nil ?_
    clear a_27 HE28 a_33 HE34 a_35 HE36
    refine nrm ?_
    refine wp_ret ?_
    refine ret2 HE38 rfl (rv_tmp rfl) (rv_tmp rfl) ?_
    have hF : (rdPrI a0) = ((rdPr0 a0).1, true) := by
      rw [← rdPr_eq]; unfold rdPrS; first | (rw [if_pos (by assumption)]; done) | (rw [if_neg (fun hh => ff hh (by assumption))]; done)
    exact ⟨Ar21_0, cr21_0, by first | (rw [hF] <;> rfl) | rfl | (rw [hF]; simp only [Ending.returned.injEq, Value.slice.injEq, true_and, and_true]; first | omega | (simp; done)) | (rw [hF]; simp; omega), by rw [hF]; exact (HH12.so (i := 0) rfl), HH12.below⟩

open Go.Lib in
set_option maxRecDepth 100000 in
set_option maxHeartbeats 4000000 in
theorem law_ReadProgram (a0 : List UInt8) (w : World) (h0 : a0.length ≤ 9223372036854775807) (hG : Glob2 w) :
    Calls Tryd.prog 6 #[.string (bs a0)] w fun e w' => e = .returned (.bool true) ∧ Below w.heap.size w w' := by
  have n0 : (ct_SInstr (rdPrI a0).1 : Int) ≤ 1000000000 := rdPr_ct a0
  have HH1 := Held.start Nob w
  refine enter (n := 66) Tryd.func6 rfl rfl rfl fun a_2 HE3 => ?_
  refine wp_seq ?_
  refine rg ?_
  refine pl_x HE3 HH1 (wt0 rfl) (x_assign rfl) rfl rfl fun a_4 HE5 => ?_
  refine wpList_nil ?_
  clear a_2 HE3
  refine nrm ?_
  refine wp_seq ?_
  refine wp_seq ?_
  refine rg ?_
  refine pl_x HE5 HH1 (wt0 rfl) (x_move rfl) rfl rfl fun a_6 HE7 => ?_
  refine pl_x HE7 HH1 (wt0 rfl) (x_lenB Tryd.underlying9 rfl) rfl rfl fun a_8 HE9 => ?_
  refine pl_x HE9 HH1 (wt0 rfl) (x_gtr rfl rfl) rfl rfl fun a_10 HE11 => ?_
  refine wpList_nil ?_
  clear a_4 HE5 a_6 HE7 a_8 HE9
  refine nrm ?_
  refine cnd_d HE11 rfl (fun hc21 => ?_) (fun hc21 => ?_)
  · refine wp_seq ?_
    refine rg ?_
    refine pl_x HE11 HH1 (wt0 rfl) (x_assign rfl) rfl rfl fun a_12 HE13 => ?_
    refine wpList_nil ?_
    clear a_10 HE11
    refine nrm ?_
    refine wp_ret ?_
    refine (thn_ret ?_)
    refine ret1 HE13 rfl (rv_tmp rfl) ?_
    have hF : true = true := by
      first | rfl | (exfalso; omega)
    exact ⟨by first | (rw [hF] <;> rfl) | rfl | (rw [hF]; simp only [Ending.returned.injEq, Value.slice.injEq, true_and, and_true]; first | omega | (simp; done)) | (rw [hF]; simp; omega), HH1.below⟩
  · refine wp_skip ?_
    refine nrm ?_
    refine wp_seq ?_
    refine rg ?_
    refine pl_x HE11 HH1 (wt0 rfl) (x_move rfl) rfl rfl fun a_14 HE15 => ?_
    refine pl fun K_16 hK17 => ?_
    refine st_call HE15 (wt0 rfl) rfl rfl rfl en_17 rfl rfl (spec_ReadProgram a0 _ (by omega)) fun e w' hr => ?_
    obtain ⟨Ar22_0, cr22_0, rfl, hor22_0, hbr22⟩ := hr
    obtain ⟨Sr22, HH18⟩ := HH1.newS hbr22 hor22_0
    refine ⟨_, rfl, fun a_19 HE20 => hK17 _ _ ?_⟩
    refine pl_x HE20 HH18 (wt0 rfl) (x_move rfl) rfl rfl fun a_21 HE22 => ?_
    refine pl_x HE22 HH18 (wt0 rfl) (x_extract rfl rfl) rfl rfl fun a_23 HE24 => ?_
    refine pl_x HE24 HH18 (wt0 rfl) (x_extract rfl rfl) rfl rfl fun a_25 HE26 => ?_
    refine pl_x HE26 HH18 (wt0 rfl) (x_assign rfl) rfl rfl fun a_27 HE28 => ?_
    refine pl_x HE28 HH18 (wt0 rfl) (x_assign rfl) rfl rfl fun a_29 HE30 => ?_
    refine wpList_nil ?_
    clear a_10 HE11 HH1 a_14 HE15 a_19 HE20 a_21 HE22 a_23 HE24 a_25 HE26 a_27 HE28 hK17 K_16
    refine nrm ?_
    refine wp_seq ?_
    refine rg ?_
    refine pl_x HE30 HH18 (wt0 rfl) (x_move rfl) rfl rfl fun a_31 HE32 => ?_
    refine pl fun K_33 hK34 => ?_
    refine st_call HE32 (wt0 rfl) rfl rfl rfl en_18 rfl rfl (impl_ReadProgram a0 _ (HH18.glob2 hG) (by omega)) fun e w' hr => ?_
    obtain ⟨Ar23_0, cr23_0, rfl, hor23_0, hbr23⟩ := hr
    obtain ⟨Sr23, HH35⟩ := HH18.newS hbr23 hor23_0
    refine ⟨_, rfl, fun a_36 HE37 => hK34 _ _ ?_⟩
    refine pl_x HE37 HH35 (wt0 rfl) (x_move rfl) rfl rfl fun a_38 HE39 => ?_
    refine pl_x HE39 HH35 (wt0 rfl) (x_extract rfl rfl) rfl rfl fun a_40 HE41 => ?_
    refine pl_x HE41 HH35 (wt0 rfl) (x_extract rfl rfl) rfl rfl fun a_42 HE43 => ?_
    refine pl_x HE43 HH35 (wt0 rfl) (x_assign rfl) rfl rfl fun a_44 HE45 => ?_
    refine pl_x HE45 HH35 (wt0 rfl) (x_assign rfl) rfl rfl fun a_46 HE47 => ?_
    refine wpList_nil ?_
    clear a_29 HE30 HH18 a_31 HE32 a_36 HE37 a_38 HE39 a_40 HE41 a_42 HE43 a_44 HE45 hK34 K_33
    refine nrm ?_
    refine wp_seq ?_
    refine wp_seq ?_
    refine rg ?_
    refine pl_x HE47 HH35 (wt0 rfl) (x_move rfl) rfl rfl fun a_48 HE49 => ?_
    refine pl_x HE49 HH35 (wt0 rfl) (x_move rfl) rfl rfl fun a_50 HE51 => ?_
    refine pl fun K_52 hK53 => ?_
    refine st_call HE51 (wt0 rfl) rfl rfl rfl en_19 rfl rfl (eq_SInstr_c _ _ _ _ ((rdPrI a0).1) ((rdPrI a0).1) _ (HH35.sl (i := 0) rfl) (HH35.sl (i := 1) rfl)) fun e w' hr => ?_
    obtain ⟨rfl, hbr24⟩ := hr
    have HH54 := HH35.on hbr24
    clear hbr24
    refine ⟨_, rfl, fun a_55 HE56 => hK53 _ _ ?_⟩
    refine pl_x HE56 HH54 (wt0 rfl) (x_not rfl) rfl rfl fun a_57 HE58 => ?_
    refine pl_x HE58 HH54 (wt0 rfl) (x_move rfl) rfl rfl fun a_59 HE60 => ?_
    refine pl_x HE60 HH54 (wtT HE60 rfl rfl rfl (not_f (eq_SInstr_refl _))) (x_move rfl) rfl rfl fun a_61 HE62 => ?_
    refine pl_x HE62 HH54 (wtT HE62 rfl rfl rfl (not_f (eq_SInstr_refl _))) (x_move rfl) rfl rfl fun a_63 HE64 => ?_
    refine pl_x HE64 HH54 (wtT HE64 rfl rfl rfl (not_f (eq_SInstr_refl _))) (x_bneq Tryd.underlying4 rfl rfl) rfl rfl fun a_65 HE66 => ?_
    refine pl_x HE66 HH54 (wt0 rfl) (x_pickF rfl (not_f (eq_SInstr_refl _)) rfl) rfl rfl fun a_67 HE68 => ?_
    refine wpList_nil ?_
    clear a_46 HE47 a_48 HE49 HH35 a_50 HE51 a_55 HE56 a_57 HE58 a_59 HE60 a_61 HE62 a_63 HE64 a_65 HE66 hK53 K_52
    refine nrm ?_
    refine cndF HE68 rfl (not_f (beq_self_eq_true _)) ?_
    refine wp_skip ?_
    refine nrm ?_
    refine wp_seq ?_
    refine rg ?_
    refine pl_x HE68 HH54 (wt0 rfl) (x_assign rfl) rfl rfl fun a_69 HE70 => ?_
    refine wpList_nil ?_
    clear a_67 HE68
    refine nrm ?_
    refine wp_seq ?_
    refine rg ?_
    refine pl_x HE70 HH54 (wt0 rfl) (x_move rfl) rfl rfl fun a_71 HE72 => ?_
    refine pl_x HE72 HH54 (wt0 rfl) (x_move rfl) rfl rfl fun a_73 HE74 => ?_
    refine pl fun K_75 hK76 => ?_
    refine st_call HE74 (wt0 rfl) rfl rfl rfl en_20 rfl rfl (mark_SInstr_c _ _ ((rdPrI a0).1) 1 _ _ (so_of_o (HH54.get (i := 0) rfl)) (HH54.lt (i := 0) rfl) (by omega) (by omega)) fun e w' hr => ?_
    obtain ⟨rfl, hsr25, hcr25⟩ := hr
    have HH77 := HH54.mut (i := 0) rfl hcr25 (rSo eInstr Sr23 Ar23_0 cr23_0 (mk_SInstr ((rdPrI a0).1) 1)) (oSl hsr25) (fun b hb => .inl hb)
    clear hsr25 hcr25
    refine ⟨_, rfl, fun a_78 HE79 => hK76 _ _ ?_⟩
    refine pl_x HE79 HH77 (wt0 rfl) (x_assign rfl) rfl rfl fun a_80 HE81 => ?_
    refine wpList_nil ?_
    clear a_69 HE70 a_71 HE72 HH54 a_73 HE74 a_78 HE79 hK76 K_75
    refine nrm ?_
    refine wp_seq ?_
    refine rg ?_
    refine pl_x HE81 HH77 (wt0 rfl) (x_assign rfl) rfl rfl fun a_82 HE83 => ?_
    refine wpList_nil ?_
    clear a_80 HE81
    refine nrm ?_
    refine wp_seq ?_
    refine rg ?_
    refine pl_x HE83 HH77 (wt0 rfl) (x_move rfl) rfl rfl fun a_84 HE85 => ?_
    refine pl_x HE85 HH77 (wt0 rfl) (x_move rfl) rfl rfl fun a_86 HE87 => ?_
    refine pl fun K_88 hK89 => ?_
    refine st_call HE87 (wt0 rfl) rfl rfl rfl en_21 rfl rfl (held_SInstr_c _ _ ((rdPrI a0).1) 1 _ (HH77.sl (i := 0) rfl) (by omega) (by omega)) fun e w' hr => ?_
    obtain ⟨rfl, hbr26⟩ := hr
    have HH90 := HH77.on hbr26
    clear hbr26
    refine ⟨_, rfl, fun a_91 HE92 => hK89 _ _ ?_⟩
    refine pl_x HE92 HH90 (wt0 rfl) (x_assign rfl) rfl rfl fun a_93 HE94 => ?_
    refine wpList_nil ?_
    clear a_82 HE83 a_84 HE85 HH77 a_86 HE87 a_91 HE92 hK89 K_88
    refine nrm ?_
    refine wp_seq ?_
    refine wp_seq ?_
    refine rg ?_
    refine pl_x HE94 HH90 (wt0 rfl) (x_move rfl) rfl rfl fun a_95 HE96 => ?_
    refine pl_x HE96 HH90 (wt0 rfl) (x_lss rfl rfl) rfl rfl fun a_97 HE98 => ?_
    refine wpList_nil ?_
    clear a_93 HE94 a_95 HE96
    refine nrm ?_
    refine cnd_d HE98 rfl (fun hc27 => ?_) (fun hc27 => ?_)
    · refine wp_seq ?_
      refine rg ?_
      refine pl_x HE98 HH90 (wt0 rfl) (x_assign rfl) rfl rfl fun a_99 HE100 => ?_
      refine wpList_nil ?_
      clear a_97 HE98
      refine nrm ?_
      refine wp_ret ?_
      refine (thn_ret ?_)
      refine ret1 HE100 rfl (rv_tmp rfl) ?_
      have hF : true = false := by
        first | rfl | (exfalso; omega)
      exact ⟨by first | (rw [hF] <;> rfl) | rfl | (rw [hF]; simp only [Ending.returned.injEq, Value.slice.injEq, true_and, and_true]; first | omega | (simp; done)) | (rw [hF]; simp; omega), HH90.below⟩
    · refine wp_skip ?_
      refine nrm ?_
      refine wp_seq ?_
      refine wp_seq ?_
      refine rg ?_
      refine pl_x HE98 HH90 (wt0 rfl) (x_move rfl) rfl rfl fun a_101 HE102 => ?_
      refine pl_x HE102 HH90 (wt0 rfl) (x_move rfl) rfl rfl fun a_103 HE104 => ?_
      refine pl_x HE104 HH90 (wt0 rfl) (x_neq rfl rfl) rfl rfl fun a_105 HE106 => ?_
      refine wpList_nil ?_
      clear a_97 HE98 a_101 HE102 a_103 HE104
      refine nrm ?_
      refine cndF HE106 rfl (bne_f rfl) ?_
      refine wp_skip ?_
      refine nrm ?_
      refine wp_seq ?_
      refine rg ?_
      refine pl_x HE106 HH90 (wt0 rfl) (x_move rfl) rfl rfl fun a_107 HE108 => ?_
      refine pl fun K_109 hK110 => ?_
      refine st_call HE108 (wt0 rfl) rfl rfl rfl en_18 rfl rfl (impl_ReadProgram a0 _ (HH90.glob2 hG) (by omega)) fun e w' hr => ?_
      obtain ⟨Ar28_0, cr28_0, rfl, hor28_0, hbr28⟩ := hr
      obtain ⟨Sr28, HH111⟩ := HH90.newS hbr28 hor28_0
      refine ⟨_, rfl, fun a_112 HE113 => hK110 _ _ ?_⟩
      refine pl_x HE113 HH111 (wt0 rfl) (x_move rfl) rfl rfl fun a_114 HE115 => ?_
      refine pl_x HE115 HH111 (wt0 rfl) (x_extract rfl rfl) rfl rfl fun a_116 HE117 => ?_
      refine pl_x HE117 HH111 (wt0 rfl) (x_extract rfl rfl) rfl rfl fun a_118 HE119 => ?_
      refine pl_x HE119 HH111 (wt0 rfl) (x_assign rfl) rfl rfl fun a_120 HE121 => ?_
      refine pl_x HE121 HH111 (wt0 rfl) (x_assign rfl) rfl rfl fun a_122 HE123 => ?_
      refine wpList_nil ?_
      clear a_105 HE106 HH90 a_107 HE108 a_112 HE113 a_114 HE115 a_116 HE117 a_118 HE119 a_120 HE121 hK110 K_109
      refine nrm ?_
      refine wp_seq ?_
      refine wp_seq ?_
      refine rg ?_
      refine pl_x HE123 HH111 (wt0 rfl) (x_move rfl) rfl rfl fun a_124 HE125 => ?_
      refine pl_x HE125 HH111 (wt0 rfl) (x_move rfl) rfl rfl fun a_126 HE127 => ?_
      refine pl fun K_128 hK129 => ?_
      refine st_call HE127 (wt0 rfl) rfl rfl rfl en_19 rfl rfl (eq_SInstr_c _ _ _ _ ((rdPrI a0).1) ((rdPrI a0).1) _ (HH111.sl (i := 0) rfl) (HH111.sl (i := 2) rfl)) fun e w' hr => ?_
      obtain ⟨rfl, hbr29⟩ := hr
      have HH130 := HH111.on hbr29
      clear hbr29
      refine ⟨_, rfl, fun a_131 HE132 => hK129 _ _ ?_⟩
      refine pl_x HE132 HH130 (wt0 rfl) (x_not rfl) rfl rfl fun a_133 HE134 => ?_
      refine pl_x HE134 HH130 (wt0 rfl) (x_move rfl) rfl rfl fun a_135 HE136 => ?_
      refine pl_x HE136 HH130 (wtT HE136 rfl rfl rfl (not_f (eq_SInstr_refl _))) (x_move rfl) rfl rfl fun a_137 HE138 => ?_
      refine pl_x HE138 HH130 (wtT HE138 rfl rfl rfl (not_f (eq_SInstr_refl _))) (x_move rfl) rfl rfl fun a_139 HE140 => ?_
      refine pl_x HE140 HH130 (wtT HE140 rfl rfl rfl (not_f (eq_SInstr_refl _))) (x_bneq Tryd.underlying4 rfl rfl) rfl rfl fun a_141 HE142 => ?_
      refine pl_x HE142 HH130 (wt0 rfl) (x_pickF rfl (not_f (eq_SInstr_refl _)) rfl) rfl rfl fun a_143 HE144 => ?_
      refine wpList_nil ?_
      clear a_122 HE123 a_124 HE125 HH111 a_126 HE127 a_131 HE132 a_133 HE134 a_135 HE136 a_137 HE138 a_139 HE140 a_141 HE142 hK129 K_128
      refine nrm ?_
      refine cndF HE144 rfl (not_f (beq_self_eq_true _)) ?_
      refine wp_skip ?_
      refine nrm ?_
      refine wp_seq ?_
      refine rg ?_
      refine pl_x HE144 HH130 (wt0 rfl) (x_assign rfl) rfl rfl fun a_145 HE146 => ?_
      refine wpList_nil ?_
      clear a_143 HE144
      refine nrm ?_
      refine wp_seq ?_
      refine rg ?_
      refine pl_x HE146 HH130 (wt0 rfl) (x_move rfl) rfl rfl fun a_147 HE148 => ?_
      refine pl_x HE148 HH130 (wt0 rfl) (x_move rfl) rfl rfl fun a_149 HE150 => ?_
      refine pl fun K_151 hK152 => ?_
      refine st_call HE150 (wt0 rfl) rfl rfl rfl en_21 rfl rfl (held_SInstr_c _ _ ((rdPrI a0).1) 1 _ (HH130.sl (i := 1) rfl) (by omega) (by omega)) fun e w' hr => ?_
      obtain ⟨rfl, hbr30⟩ := hr
      have HH153 := HH130.on hbr30
      clear hbr30
      refine ⟨_, rfl, fun a_154 HE155 => hK152 _ _ ?_⟩
      refine pl_x HE155 HH153 (wt0 rfl) (x_assign rfl) rfl rfl fun a_156 HE157 => ?_
      refine wpList_nil ?_
      clear a_145 HE146 a_147 HE148 HH130 a_149 HE150 a_154 HE155 hK152 K_151
      refine nrm ?_
      refine wp_seq ?_
      refine wp_seq ?_
      refine rg ?_
      refine pl_x HE157 HH153 (wt0 rfl) (x_move rfl) rfl rfl fun a_158 HE159 => ?_
      refine pl_x HE159 HH153 (wt0 rfl) (x_lss rfl rfl) rfl rfl fun a_160 HE161 => ?_
      refine wpList_nil ?_
      clear a_156 HE157 a_158 HE159
      refine nrm ?_
      refine cndF HE161 rfl (decide_eq_false hc27) ?_
      refine wp_skip ?_
      refine nrm ?_
      refine wp_seq ?_
      refine wp_seq ?_
      refine rg ?_
      refine pl_x HE161 HH153 (wt0 rfl) (x_move rfl) rfl rfl fun a_162 HE163 => ?_
      refine pl_x HE163 HH153 (wt0 rfl) (x_move rfl) rfl rfl fun a_164 HE165 => ?_
      refine pl_x HE165 HH153 (wt0 rfl) (x_neq rfl rfl) rfl rfl fun a_166 HE167 => ?_
      refine wpList_nil ?_
      clear a_160 HE161 a_162 HE163 a_164 HE165
      refine nrm ?_
      refine cndF HE167 rfl (bne_f rfl) ?_
      refine wp_skip ?_
      refine nrm ?_
      refine wp_seq ?_
      refine rg ?_
      refine pl_x HE167 HH153 (wt0 rfl) (x_assign rfl) rfl rfl fun a_168 HE169 => ?_
      refine wpList_nil ?_
      clear a_166 HE167
      refine nrm ?_
      refine wp_ret ?_
      refine ret1 HE169 rfl (rv_tmp rfl) ?_
      have hF : true = true := by
        first | rfl | (exfalso; omega)
      exact ⟨by first | (rw [hF] <;> rfl) | rfl | (rw [hF]; simp only [Ending.returned.injEq, Value.slice.injEq, true_and, and_true]; first | omega | (simp; done)) | (rw [hF]; simp; omega), HH153.below⟩

end Go.Proofs.YthknelhboibbnaaDoor
