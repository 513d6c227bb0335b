/- What the proof of FnExactReadConfig needs: contracts of the functions that it reaches, each once. -/
import Derived.Test.YthknelhboibbnaaGreatDoorProg
import Derived.Test.YthknelhboibbnaaGreatDoorQMem
import Derived.Test.YthknelhboibbnaaGreatDoorQOpen
import Derived.Test.YthknelhboibbnaaGreatDoorLReadConfiga
import Derived.Test.YthknelhboibbnaaGreatDoorLReadConfigb
import Derived.Test.YthknelhboibbnaaGreatDoorLReadConfigc
import Derived.Test.YthknelhboibbnaaGreatDoorLReadConfigd
import Derived.Test.YthknelhboibbnaaGreatDoorLReadConfige
import Derived.WalkKit
import Derived.WalkSpells
import Derived.Below
import Derived.LoopTactic
import Derived.Outline
import Derived.Deep.QuietTactic
import Derived.BigQuiet
import Derived.Deep.LoopGhost
import Derived.Handy
import Derived.Lib.Hide
import Derived.Shelf.Abstract
import Derived.StillTailTactics
import Derived.OwnWalk
import Derived.Maps.AppendAt
import Derived.RegionTactic
import Derived.Deep.RegionHeld3
import Derived.IntWalk
import Derived.Deep.Upon
import Derived.Laws.OwnMore
import Derived.Maps.AppendAt
import Derived.Laws.BytesString
import Derived.Laws.Strings
import Derived.Lib.Bytes
import Derived.Lib.Strings
import Derived.Lib.FrozenHead
import Derived.Lib.RuneBytes
import Derived.Lib.LaidTab
import Derived.Laws.StructEq
import Derived.Lib.SliceRun
import Derived.Lib.AppendZeros
import Derived.Lib.ItoaLen
import Derived.Lib.Join
import Derived.Shelf.Strconv.Itoa4
import Derived.Shelf.Strings.OnBuilder
import Derived.Shelf.Strings.BuilderK
import Derived.Shelf.Strings.BuilderRune
import Derived.Shelf.LaysM
import Derived.Ground.NamesProg
import Derived.Lib.ParseIntBTie
import Derived.Lib.SplitLaws
import Derived.Lib.Replace
import Derived.Shelf.LaysC
import Derived.Shelf.Strconv.ErrVarParseInt
import Derived.Shelf.Strconv.ParseIntPublic10
import Derived.Shelf.Strings.Prefix
import Derived.Shelf.Strings.Cut
import Derived.Shelf.Strings.Split
import Derived.Shelf.Strings.Replace
import Derived.Shelf.Small.Wraps
import Derived.Stop.IfaceNil
namespace Go.Proofs.YthknelhboibbnaaGreatDoor
open Go.RowKit

open Go.Lib in
set_option maxRecDepth 100000 in
set_option maxHeartbeats 4000000 in
theorem spec_l05Symbols (a0 : List UInt8) (w : World) (s0 : a0.length ≤ 2000000) :
    Calls Tryz.prog 26 #[.string (bs a0)] w fun e w' => ∃ (A0' : Option Addr) (c0' : Nat), e = .returned (.tuple #[.slice A0' (symS a0).1.length c0', .bool (symS a0).2]) ∧ So eInt w' (Fr w w') A0' c0' (symS a0).1 ∧ Below w.heap.size w w' := by
  have HH1 := Held.start Nob w
  refine enter (n := 13) Tryz.func26 rfl rfl rfl fun a_2 HE3 => ?_
  refine wp_seq ?_
  refine rg ?_
  refine pl_x HE3 HH1 (wt0 rfl) (x_assign rfl) rfl rfl fun a_4 HE5 => ?_
  refine pl_x HE5 HH1 (wt0 rfl) (x_assign rfl) rfl rfl fun a_6 HE7 => ?_
  refine wpList_nil ?_
  clear a_2 HE3 a_4 HE5
  refine nrm ?_
  refine wp_seq ?_
  refine wp_seq ?_
  refine rg ?_
  refine pl_x HE7 HH1 (wt0 rfl) (x_move rfl) rfl rfl fun a_8 HE9 => ?_
  refine pl_x HE9 HH1 (wt0 rfl) (x_seqlB rfl rfl) rfl rfl fun a_10 HE11 => ?_
  refine wpList_nil ?_
  clear a_6 HE7 a_8 HE9
  refine nrm ?_
  refine cnd_d HE11 rfl (fun hc21 => ?_) (fun hc21 => ?_)
  · refine wp_seq ?_
    refine rg ?_
    refine pl fun K_12 hK13 => ?_
    refine st_lit (m := 0) (cs := []) (e := 2) HE11 HH1 (run_lit ts_26 HE11 (vs := []) rfl rfl (by simp [Value.cells]) rfl (by decide)) (wt0 rfl) rfl rfl fun q22 a_14 w' HE15 HH16 => hK13 _ _ ?_
    refine pl_x HE15 HH16 (wt0 rfl) (x_assign rfl) rfl rfl fun a_17 HE18 => ?_
    refine pl_x HE18 HH16 (wt0 rfl) (x_assign rfl) rfl rfl fun a_19 HE20 => ?_
    refine wpList_nil ?_
    clear a_10 HE11 HH1 a_14 HE15 a_17 HE18 hK13 K_12
    refine nrm ?_
    refine wp_ret ?_
    refine (thn_ret ?_)
    refine ret2 HE20 rfl (rv_tmp rfl) (rv_tmp rfl) ?_
    have HH21 := Held.vecFlat (E := eInt) (xs := []) (css := []) HH16 rfl (Nat.zero_le _) (fun i x hx => by simp at hx)
    have HH22 := HH21.vecSo
    have hF : (symS a0) = (([] : List Int), true) := by
      unfold symS; first | (rw [if_pos (by assumption)]; done) | (rw [if_neg (by assumption), if_pos (by assumption)]; done) | (rw [if_neg (by assumption), if_neg (by assumption)]; done)
    exact ⟨(some ⟨q22, 0, none⟩), 0, by first | (rw [hF] <;> rfl) | rfl | (rw [hF]; simp only [Ending.returned.injEq, Value.slice.injEq, true_and, and_true]; first | omega | (simp; done)) | (rw [hF]; simp; omega), by rw [hF]; exact (HH22.so (i := 0) rfl), HH22.below⟩
  · refine wp_skip ?_
    refine nrm ?_
    refine wp_seq ?_
    refine wp_seq ?_
    refine rg ?_
    refine pl_x HE11 HH1 (wt0 rfl) (x_move rfl) rfl rfl fun a_23 HE24 => ?_
    refine pl_x HE24 HH1 (wt0 rfl) (x_seqlB rfl rfl) rfl rfl fun a_25 HE26 => ?_
    refine wpList_nil ?_
    clear a_10 HE11 a_23 HE24
    refine nrm ?_
    refine cnd_d HE26 rfl (fun hc23 => ?_) (fun hc23 => ?_)
    · refine wp_seq ?_
      refine rg ?_
      refine pl_x HE26 HH1 (wt0 rfl) (x_assign rfl) rfl rfl fun a_27 HE28 => ?_
      refine pl_x HE28 HH1 (wt0 rfl) (x_assign rfl) rfl rfl fun a_29 HE30 => ?_
      refine wpList_nil ?_
      clear a_25 HE26 a_27 HE28
      refine nrm ?_
      refine wp_ret ?_
      refine (thn_ret ?_)
      refine ret2 HE30 rfl (rv_tmp rfl) (rv_tmp rfl) ?_
      have hF : (symS a0) = ([], false) := by
        unfold symS; first | (rw [if_pos (by assumption)]; done) | (rw [if_neg (by assumption), if_pos (by assumption)]; done) | (rw [if_neg (by assumption), if_neg (by assumption)]; done)
      exact ⟨none, 0, by first | (rw [hF] <;> rfl) | rfl | (rw [hF]; simp only [Ending.returned.injEq, Value.slice.injEq, true_and, and_true]; first | omega | (simp; done)) | (rw [hF]; simp; omega), by rw [hF]; exact (So.nil (Nat.zero_le _)), HH1.below⟩
    · refine wp_skip ?_
      refine nrm ?_
      refine wp_seq ?_
      refine rg ?_
      refine pl_x HE26 HH1 (wt0 rfl) (x_move rfl) rfl rfl fun a_31 HE32 => ?_
      refine pl fun K_33 hK34 => ?_
      refine st_call HE32 (wt0 rfl) rfl rfl rfl en_66 rfl rfl (spec_l03Read a0 _ (by omega)) fun e w' hr => ?_
      have hAr24_0 := l03R_len a0
      obtain ⟨Ar24_0, cr24_0, rfl, hor24_0, hbr24⟩ := hr
      obtain ⟨Sr24, HH35⟩ := HH1.newS hbr24 hor24_0
      refine ⟨_, rfl, fun a_36 HE37 => hK34 _ _ ?_⟩
      refine pl_x HE37 HH35 (wt0 rfl) (x_extract rfl rfl) rfl rfl fun a_38 HE39 => ?_
      refine pl_x HE39 HH35 (wt0 rfl) (x_extract rfl rfl) rfl rfl fun a_40 HE41 => ?_
      refine pl_x HE41 HH35 (wt0 rfl) (x_assign rfl) rfl rfl fun a_42 HE43 => ?_
      refine pl_x HE43 HH35 (wt0 rfl) (x_assign rfl) rfl rfl fun a_44 HE45 => ?_
      refine wpList_nil ?_
      clear a_25 HE26 HH1 a_31 HE32 a_36 HE37 a_38 HE39 a_40 HE41 a_42 HE43 hK34 K_33
      refine nrm ?_
      refine wp_ret ?_
      refine ret2 HE45 rfl (rv_tmp rfl) (rv_tmp rfl) ?_
      have hF : (symS a0) = ((l03R a0).1, (l03R a0).2) := by
        unfold symS; first | (rw [if_pos (by assumption)]; done) | (rw [if_neg (by assumption), if_pos (by assumption)]; done) | (rw [if_neg (by assumption), if_neg (by assumption)]; done)
      exact ⟨Ar24_0, cr24_0, by first | (rw [hF] <;> rfl) | rfl | (rw [hF]; simp only [Ending.returned.injEq, Value.slice.injEq, true_and, and_true]; first | omega | (simp; done)) | (rw [hF]; simp; omega), by rw [hF]; exact (HH35.so (i := 0) rfl), HH35.below⟩

open Go.Lib in
set_option maxRecDepth 100000 in
set_option maxHeartbeats 4000000 in
theorem impl_ReadConfig (es0 : List Value) (a0 : tMachine) (a1 : List UInt8) (w : World) (h0 : eMachine.R w (Old w) es0 a0) (hG : Glob2 w) (s0 : a1.length ≤ 2000000) :
    Calls Tryz.prog 8 #[.agg es0.toArray, .string (bs a1)] w fun e w' => ∃ (es0' : List Value), e = .returned (.tuple #[.agg es0'.toArray, .bool (rdCfI a0 a1).2]) ∧ eConfig.O w' (Fr w w') es0' (rdCfI a0 a1).1 ∧ Below w.heap.size w w' := by
  have H0 := h0
  obtain ⟨Az0_2, cz0_2, rfl, gz0_0, gz0_1, gz0_2⟩ := shape_Machine h0
  have jz0_0 := gz0_0; unfold I64 at jz0_0
  have jz0_1 := gz0_1; unfold I64 at jz0_1
  have lz0_2 := gz0_2.len
  have HH1 := Held.start Nob w
  refine enter (n := 70) Tryz.func8 rfl rfl rfl fun a_2 HE3 => ?_
  refine wp_seq ?_
  refine rg ?_
  refine pl fun K_4 hK5 => ?_
  refine st_box (cs := [.int .i64 (a0.1), .int .i64 (a0.2.1), .slice Az0_2 (a0.2.2.length) cz0_2]) HE3 HH1 rfl rfl (wt0 rfl) rfl fun q21 a_6 w' HE7 HH8 => hK5 _ _ ?_
  refine pl fun K_9 hK10 => ?_
  refine st_alloc HE7 HH8 tv_28 (wt0 rfl) rfl fun q22 a_11 w' HE12 HH13 => hK10 _ _ ?_
  refine pl_x HE12 HH13 (wt0 rfl) (x_assign rfl) rfl rfl fun a_14 HE15 => ?_
  refine wpList_nil ?_
  clear a_2 HE3 HH1 K_4 hK5 a_6 HE7 HH8 a_11 HE12 hK10 K_9
  refine nrm ?_
  refine wp_seq ?_
  refine rg ?_
  refine pl_x HE15 HH13 (wt0 rfl) (x_move rfl) rfl rfl fun a_16 HE17 => ?_
  refine pl fun K_18 hK19 => ?_
  refine st_call HE17 (wt0 rfl) rfl rfl rfl en_32 rfl rfl (Cut_1 a1 ([40]) 40 _ (HH13.glob2 hG) (by omega) (by rfl)) fun e w' hr => ?_
  have hAr23_0 := cutR_len 40 a1
  obtain ⟨rfl, hbr23⟩ := hr
  have HH20 := HH13.on hbr23
  refine ⟨_, rfl, fun a_21 HE22 => hK19 _ _ ?_⟩
  refine pl_x HE22 HH20 (wt0 rfl) (x_move rfl) rfl rfl fun a_23 HE24 => ?_
  refine pl_x HE24 HH20 (wt0 rfl) (x_extract rfl rfl) rfl rfl fun a_25 HE26 => ?_
  refine pl_x HE26 HH20 (wt0 rfl) (x_extract rfl rfl) rfl rfl fun a_27 HE28 => ?_
  refine pl_x HE28 HH20 (wt0 rfl) (x_extract rfl rfl) rfl rfl fun a_29 HE30 => ?_
  refine pl_x HE30 HH20 (wt0 rfl) (x_assign rfl) rfl rfl fun a_31 HE32 => ?_
  refine pl_x HE32 HH20 (wt0 rfl) (x_assign rfl) rfl rfl fun a_33 HE34 => ?_
  refine pl_x HE34 HH20 (wt0 rfl) (x_assign rfl) rfl rfl fun a_35 HE36 => ?_
  refine wpList_nil ?_
  clear a_14 HE15 HH13 a_16 HE17 a_21 HE22 a_23 HE24 a_25 HE26 a_27 HE28 a_29 HE30 a_31 HE32 a_33 HE34 hK19 K_18
  refine nrm ?_
  refine wp_seq ?_
  refine rg ?_
  refine pl_x HE36 HH20 (wt0 rfl) (x_move rfl) rfl rfl fun a_37 HE38 => ?_
  refine pl fun K_39 hK40 => ?_
  refine st_call HE38 (wt0 rfl) rfl rfl rfl en_32 rfl rfl (Cut_1 ((cutR 40 a1).2.1) ([41]) 41 _ (HH20.glob2 hG) (by omega) (by rfl)) fun e w' hr => ?_
  have hAr24_0 := cutR_len 41 ((cutR 40 a1).2.1)
  obtain ⟨rfl, hbr24⟩ := hr
  have HH41 := HH20.on hbr24
  refine ⟨_, rfl, fun a_42 HE43 => hK40 _ _ ?_⟩
  refine pl_x HE43 HH41 (wt0 rfl) (x_move rfl) rfl rfl fun a_44 HE45 => ?_
  refine pl_x HE45 HH41 (wt0 rfl) (x_extract rfl rfl) rfl rfl fun a_46 HE47 => ?_
  refine pl_x HE47 HH41 (wt0 rfl) (x_extract rfl rfl) rfl rfl fun a_48 HE49 => ?_
  refine pl_x HE49 HH41 (wt0 rfl) (x_extract rfl rfl) rfl rfl fun a_50 HE51 => ?_
  refine pl_x HE51 HH41 (wt0 rfl) (x_assign rfl) rfl rfl fun a_52 HE53 => ?_
  refine pl_x HE53 HH41 (wt0 rfl) (x_assign rfl) rfl rfl fun a_54 HE55 => ?_
  refine pl_x HE55 HH41 (wt0 rfl) (x_assign rfl) rfl rfl fun a_56 HE57 => ?_
  refine wpList_nil ?_
  clear a_35 HE36 HH20 a_37 HE38 a_42 HE43 a_44 HE45 a_46 HE47 a_48 HE49 a_50 HE51 a_52 HE53 a_54 HE55 hK40 K_39
  refine nrm ?_
  refine wp_seq ?_
  refine rg ?_
  refine pl_x HE57 HH41 (wt0 rfl) (x_move rfl) rfl rfl fun a_58 HE59 => ?_
  refine pl fun K_60 hK61 => ?_
  refine st_call HE59 (wt0 rfl) rfl rfl rfl en_33 rfl rfl (impl_readDigits ((cutR 40 a1).1) _ (by first | omega | assumption)) fun e w' hr => ?_
  have hAr25_0 := digR_len ((cutR 40 a1).1)
  obtain ⟨Ar25_0, cr25_0, rfl, hor25_0, hbr25⟩ := hr
  obtain ⟨Sr25, HH62⟩ := HH41.newS hbr25 hor25_0
  refine ⟨_, rfl, fun a_63 HE64 => hK61 _ _ ?_⟩
  refine pl_x HE64 HH62 (wt0 rfl) (x_move rfl) rfl rfl fun a_65 HE66 => ?_
  refine pl_x HE66 HH62 (wt0 rfl) (x_extract rfl rfl) rfl rfl fun a_67 HE68 => ?_
  refine pl_x HE68 HH62 (wt0 rfl) (x_extract rfl rfl) rfl rfl fun a_69 HE70 => ?_
  refine pl_x HE70 HH62 (wt0 rfl) (x_assign rfl) rfl rfl fun a_71 HE72 => ?_
  refine pl_x HE72 HH62 (wt0 rfl) (x_assign rfl) rfl rfl fun a_73 HE74 => ?_
  refine wpList_nil ?_
  clear a_56 HE57 HH41 a_58 HE59 a_63 HE64 a_65 HE66 a_67 HE68 a_69 HE70 a_71 HE72 hK61 K_60
  refine nrm ?_
  refine wp_seq ?_
  refine rg ?_
  refine pl_x HE74 HH62 (wt0 rfl) (x_move rfl) rfl rfl fun a_75 HE76 => ?_
  refine pl fun K_77 hK78 => ?_
  refine st_call HE76 (wt0 rfl) rfl rfl rfl en_33 rfl rfl (impl_readDigits ((cutR 41 ((cutR 40 a1).2.1)).2.1) _ (by first | omega | assumption)) fun e w' hr => ?_
  have hAr26_0 := digR_len ((cutR 41 ((cutR 40 a1).2.1)).2.1)
  obtain ⟨Ar26_0, cr26_0, rfl, hor26_0, hbr26⟩ := hr
  obtain ⟨Sr26, HH79⟩ := HH62.newS hbr26 hor26_0
  refine ⟨_, rfl, fun a_80 HE81 => hK78 _ _ ?_⟩
  refine pl_x HE81 HH79 (wt0 rfl) (x_move rfl) rfl rfl fun a_82 HE83 => ?_
  refine pl_x HE83 HH79 (wt0 rfl) (x_extract rfl rfl) rfl rfl fun a_84 HE85 => ?_
  refine pl_x HE85 HH79 (wt0 rfl) (x_extract rfl rfl) rfl rfl fun a_86 HE87 => ?_
  refine pl_x HE87 HH79 (wt0 rfl) (x_assign rfl) rfl rfl fun a_88 HE89 => ?_
  refine pl_x HE89 HH79 (wt0 rfl) (x_assign rfl) rfl rfl fun a_90 HE91 => ?_
  refine wpList_nil ?_
  clear a_73 HE74 HH62 a_75 HE76 a_80 HE81 a_82 HE83 a_84 HE85 a_86 HE87 a_88 HE89 hK78 K_77
  refine nrm ?_
  refine wp_seq ?_
  refine rg ?_
  refine pl_x HE91 HH79 (wt0 rfl) (x_move rfl) rfl rfl fun a_92 HE93 => ?_
  refine pl fun K_94 hK95 => ?_
  refine st_call HE93 (wt0 rfl) rfl rfl rfl en_34 rfl rfl (impl_ReadDecimal ((cutR 41 ((cutR 40 a1).2.1)).1) _ (HH79.glob2 hG) (by omega)) fun e w' hr => ?_
  have hAr27_0 := numR_bd ((cutR 41 ((cutR 40 a1).2.1)).1)
  obtain ⟨rfl, hbr27⟩ := hr
  have HH96 := HH79.on hbr27
  refine ⟨_, rfl, fun a_97 HE98 => hK95 _ _ ?_⟩
  refine pl_x HE98 HH96 (wt0 rfl) (x_move rfl) rfl rfl fun a_99 HE100 => ?_
  refine pl_x HE100 HH96 (wt0 rfl) (x_extract rfl rfl) rfl rfl fun a_101 HE102 => ?_
  refine pl_x HE102 HH96 (wt0 rfl) (x_extract rfl rfl) rfl rfl fun a_103 HE104 => ?_
  refine pl_x HE104 HH96 (wt0 rfl) (x_assign rfl) rfl rfl fun a_105 HE106 => ?_
  refine pl_x HE106 HH96 (wt0 rfl) (x_assign rfl) rfl rfl fun a_107 HE108 => ?_
  refine wpList_nil ?_
  clear a_90 HE91 HH79 a_92 HE93 a_97 HE98 a_99 HE100 a_101 HE102 a_103 HE104 a_105 HE106 hK95 K_94
  refine nrm ?_
  refine wp_seq ?_
  refine rg ?_
  refine pl_x HE108 HH96 (wt0 rfl) (x_move rfl) rfl rfl fun a_109 HE110 => ?_
  refine pl_x HE110 HH96 (wt0 rfl) (x_move rfl) rfl rfl fun a_111 HE112 => ?_
  refine pl fun K_113 hK114 => ?_
  refine st_call HE112 (wt0 rfl) rfl rfl rfl en_35 rfl rfl (impl_reversed _ _ ((digR ((cutR 40 a1).1)).1) _ (HH96.sl (i := 1) rfl) (by omega)) fun e w' hr => ?_
  obtain ⟨Ar28_0, cr28_0, rfl, hor28_0, hbr28⟩ := hr
  obtain ⟨Sr28, HH115⟩ := HH96.newS hbr28 hor28_0
  refine ⟨_, rfl, fun a_116 HE117 => hK114 _ _ ?_⟩
  refine pl_x HE117 HH115 (wt0 rfl) (x_move rfl) rfl rfl fun a_118 HE119 => ?_
  refine pl_x HE119 HH115 (wt0 rfl) (show XS _ _ _ _ (.agg #[.int .i64 ((numR ((cutR 41 ((cutR 40 a1).2.1)).1)).1), .slice Ar28_0 ((List.reverse ((digR ((cutR 40 a1).1)).1)).length) cr28_0, .slice Ar26_0 ((digR ((cutR 41 ((cutR 40 a1).2.1)).2.1)).1.length) cr26_0]) from x_build (vs := [(0, .int .i64 ((numR ((cutR 41 ((cutR 40 a1).2.1)).1)).1)), (1, .slice Ar28_0 ((List.reverse ((digR ((cutR 40 a1).1)).1)).length) cr28_0), (2, .slice Ar26_0 ((digR ((cutR 41 ((cutR 40 a1).2.1)).2.1)).1.length) cr26_0)]) tb_28 rfl (by simp [Value.oneCell'])) rfl rfl fun a_120 HE121 => ?_
  refine pl fun K_122 hK123 => ?_
  refine st_alloc HE121 HH115 tv_28 (wt0 rfl) rfl fun q29 a_124 w' HE125 HH126 => hK123 _ _ ?_
  refine pl fun K_127 hK128 => ?_
  refine st_store (vs := [.int .i64 ((numR ((cutR 41 ((cutR 40 a1).2.1)).1)).1), .slice Ar28_0 ((List.reverse ((digR ((cutR 40 a1).1)).1)).length) cr28_0, .slice Ar26_0 ((digR ((cutR 41 ((cutR 40 a1).2.1)).2.1)).1.length) cr26_0]) 0 HE125 HH126 tv_28 rfl rfl rfl rfl rfl rfl (by simp [Value.oneCell']) (wt0 rfl) fun w' HH129 => hK128 _ _ ?_
  refine wpList_nil ?_
  clear a_107 HE108 a_109 HE110 HH96 a_111 HE112 a_116 HE117 a_118 HE119 K_113 hK114 a_120 HE121 HH115 K_122 hK123 HH126 hK128 K_127
  refine nrm ?_
  refine wp_seq ?_
  refine wp_seq ?_
  refine rg ?_
  refine pl_x HE125 HH129 (wt0 rfl) (x_move rfl) rfl rfl fun a_130 HE131 => ?_
  refine pl_x HE131 HH129 (wt0 rfl) (x_not rfl) rfl rfl fun a_132 HE133 => ?_
  refine pl_x HE133 HH129 (wt0 rfl) (x_move rfl) rfl rfl fun a_134 HE135 => ?_
  rcases Bool.eq_false_or_eq_true ((digR ((cutR 40 a1).1)).2) with hc30 | hc30
  · refine pl_x HE135 HH129 (wtT HE135 rfl rfl rfl (not_f hc30)) (x_move rfl) rfl rfl fun a_136 HE137 => ?_
    refine pl_x HE137 HH129 (wtT HE137 rfl rfl rfl (not_f hc30)) (x_not rfl) rfl rfl fun a_138 HE139 => ?_
    refine pl_x HE139 HH129 (wt0 rfl) (x_pickF rfl (not_f hc30) rfl) rfl rfl fun a_140 HE141 => ?_
    refine pl_x HE141 HH129 (wt0 rfl) (x_move rfl) rfl rfl fun a_142 HE143 => ?_
    rcases Bool.eq_false_or_eq_true ((digR ((cutR 41 ((cutR 40 a1).2.1)).2.1)).2) with hc31 | hc31
    · refine pl_x HE143 HH129 (wtT HE143 rfl rfl rfl (not_f hc31)) (x_move rfl) rfl rfl fun a_144 HE145 => ?_
      refine pl_x HE145 HH129 (wtT HE145 rfl rfl rfl (not_f hc31)) (x_not rfl) rfl rfl fun a_146 HE147 => ?_
      refine pl_x HE147 HH129 (wt0 rfl) (x_pickF rfl (not_f hc31) rfl) rfl rfl fun a_148 HE149 => ?_
      refine pl_x HE149 HH129 (wt0 rfl) (x_move rfl) rfl rfl fun a_150 HE151 => ?_
      rcases Bool.eq_false_or_eq_true ((numR ((cutR 41 ((cutR 40 a1).2.1)).1)).2) with hc32 | hc32
      · refine pl_x HE151 HH129 (wtT HE151 rfl rfl rfl (not_f hc32)) (x_loadN (cs := [.int .i64 (a0.1), .int .i64 (a0.2.1), .slice Az0_2 (a0.2.2.length) cz0_2]) tv_33 rfl rfl (c_blkN 5 rfl)) rfl rfl fun a_152 HE153 => ?_
        refine pl_x HE153 HH129 (wtT HE153 rfl rfl rfl (not_f hc32)) (x_loadN (cs := [.int .i64 ((numR ((cutR 41 ((cutR 40 a1).2.1)).1)).1), .slice Ar28_0 ((List.reverse ((digR ((cutR 40 a1).1)).1)).length) cr28_0, .slice Ar26_0 ((digR ((cutR 41 ((cutR 40 a1).2.1)).2.1)).1.length) cr26_0]) tv_28 rfl rfl (c_blkN 0 rfl)) rfl rfl fun a_154 HE155 => ?_
        refine pl fun K_156 hK157 => ?_
        refine st_call HE155 (wtT HE155 rfl rfl rfl (not_f hc32)) rfl rfl rfl en_36 rfl rfl (impl_ConfigText [.int .i64 (a0.1), .int .i64 (a0.2.1), .slice Az0_2 (a0.2.2.length) cz0_2] a0 [.int .i64 ((numR ((cutR 41 ((cutR 40 a1).2.1)).1)).1), .slice Ar28_0 ((List.reverse ((digR ((cutR 40 a1).1)).1)).length) cr28_0, .slice Ar26_0 ((digR ((cutR 41 ((cutR 40 a1).2.1)).2.1)).1.length) cr26_0] ((numR ((cutR 41 ((cutR 40 a1).2.1)).1)).1, (List.reverse ((digR ((cutR 40 a1).1)).1)), (digR ((cutR 41 ((cutR 40 a1).2.1)).2.1)).1) _ (HH129.oldR H0) (rep_Config (x := ((numR ((cutR 41 ((cutR 40 a1).2.1)).1)).1, (List.reverse ((digR ((cutR 40 a1).1)).1)), (digR ((cutR 41 ((cutR 40 a1).2.1)).2.1)).1)) (by exact ⟨by omega, by omega⟩) (HH129.sl (i := 1) rfl) (HH129.sl (i := 2) rfl)) (HH129.glob hG.1)) fun e w' hr => ?_
        obtain ⟨rfl, hbr33⟩ := hr
        have HH158 := HH129.on hbr33
        refine ⟨_, rfl, fun a_159 HE160 => hK157 _ _ ?_⟩
        refine pl_x HE160 HH158 (wtT HE160 rfl rfl rfl (not_f hc32)) (x_move rfl) rfl rfl fun a_161 HE162 => ?_
        refine pl_x HE162 HH158 (wtT HE162 rfl rfl rfl (not_f hc32)) (x_sneqB rfl rfl) rfl rfl fun a_163 HE164 => ?_
        refine pl_x HE164 HH158 (wt0 rfl) (x_pickF rfl (not_f hc32) rfl) rfl rfl fun a_165 HE166 => ?_
        refine wpList_nil ?_
        clear a_124 HE125 a_130 HE131 a_132 HE133 a_134 HE135 a_136 HE137 a_138 HE139 a_140 HE141 a_142 HE143 a_144 HE145 a_146 HE147 a_148 HE149 a_150 HE151 a_152 HE153 HH129 a_154 HE155 a_159 HE160 a_161 HE162 a_163 HE164 hK157 K_156
        refine nrm ?_
        refine cnd_nd HE166 rfl (fun hc34 => ?_) (fun hc34 => ?_)
        · refine wp_seq ?_
          refine rg ?_
          refine pl_x HE166 HH158 (wt0 rfl) (show XS _ _ _ _ (.agg #[.int .i64 (0), .slice none (0) 0, .slice none (0) 0]) from x_build (vs := []) tb_28 rfl (by simp [Value.oneCell'])) rfl rfl fun a_167 HE168 => ?_
          refine pl fun K_169 hK170 => ?_
          refine st_store (vs := [.int .i64 (0), .slice none (0) 0, .slice none (0) 0]) 4 HE168 HH158 tv_28 rfl rfl rfl rfl rfl rfl (by simp [Value.oneCell']) (wt0 rfl) fun w' HH171 => hK170 _ _ ?_
          refine pl_x HE168 HH171 (wt0 rfl) (x_assign rfl) rfl rfl fun a_172 HE173 => ?_
          refine wpList_nil ?_
          clear a_165 HE166 HH158 a_167 HE168 hK170 K_169
          refine nrm ?_
          refine wp_ret ?_
          refine (thn_ret ?_)
          refine ret2 HE173 rfl (rv_cell rfl (tv_28.loadN (cs := [.int .i64 (0), .slice none (0) 0, .slice none (0) 0]) rfl (c_blkN 4 rfl _ HH171))) (rv_tmp rfl) ?_
          have HH174 := HH171.flatO (E := eConfig) (cs := [.int .i64 (0), .slice none (0) 0, .slice none (0) 0]) (x := (0, [], [])) (fun _ => (oPrN (oI (by exact ⟨by omega, by omega⟩)) (oPrN (oSl (So.nil (Nat.zero_le _))) (oSl (So.nil (Nat.zero_le _))))))
          have hF : (rdCfI a0 a1) = ((0, [], []), false) := by
            unfold rdCfI; first | (rw [if_pos ⟨⟨by assumption, by assumption, by assumption⟩, by assumption⟩]; rfl) | (exact if_neg (fun hh => ff hh.1.1 (by assumption))) | (exact if_neg (fun hh => ff hh.1.2.1 (by assumption))) | (exact if_neg (fun hh => ff hh.1.2.2 (by assumption))) | (exact if_neg (fun hh => absurd hh.2 (by assumption)))
          exact ⟨_, by first | (rw [hF] <;> rfl) | rfl | (rw [hF]; simp only [Ending.returned.injEq, Value.slice.injEq, true_and, and_true]; first | omega | (simp; done)) | (rw [hF]; simp; omega), by rw [hF]; exact (HH174.o (i := 0) rfl), HH174.below⟩
        · refine wp_skip ?_
          refine nrm ?_
          refine wp_seq ?_
          refine rg ?_
          refine pl_x HE166 HH158 (wt0 rfl) (x_loadN (cs := [.int .i64 ((numR ((cutR 41 ((cutR 40 a1).2.1)).1)).1), .slice Ar28_0 ((List.reverse ((digR ((cutR 40 a1).1)).1)).length) cr28_0, .slice Ar26_0 ((digR ((cutR 41 ((cutR 40 a1).2.1)).2.1)).1.length) cr26_0]) tv_28 rfl rfl (c_blkN 0 rfl)) rfl rfl fun a_175 HE176 => ?_
          refine pl fun K_177 hK178 => ?_
          refine st_store (vs := [.int .i64 ((numR ((cutR 41 ((cutR 40 a1).2.1)).1)).1), .slice Ar28_0 ((List.reverse ((digR ((cutR 40 a1).1)).1)).length) cr28_0, .slice Ar26_0 ((digR ((cutR 41 ((cutR 40 a1).2.1)).2.1)).1.length) cr26_0]) 4 HE176 HH158 tv_28 rfl rfl rfl rfl rfl rfl (by simp [Value.oneCell']) (wt0 rfl) fun w' HH179 => hK178 _ _ ?_
          refine pl_x HE176 HH179 (wt0 rfl) (x_assign rfl) rfl rfl fun a_180 HE181 => ?_
          refine wpList_nil ?_
          clear a_165 HE166 HH158 a_175 HE176 hK178 K_177
          refine nrm ?_
          refine wp_ret ?_
          refine ret2 HE181 rfl (rv_cell rfl (tv_28.loadN (cs := [.int .i64 ((numR ((cutR 41 ((cutR 40 a1).2.1)).1)).1), .slice Ar28_0 ((List.reverse ((digR ((cutR 40 a1).1)).1)).length) cr28_0, .slice Ar26_0 ((digR ((cutR 41 ((cutR 40 a1).2.1)).2.1)).1.length) cr26_0]) rfl (c_blkN 4 rfl _ HH179))) (rv_tmp rfl) ?_
          have HH182 := HH179.sel [1, 2, 0, 3, 4, 5] (by decide) rfl
          have HH183 := HH182.sel [1, 0, 2, 3, 4, 5] (by decide) rfl
          have HH184 := HH183.sel [1, 0, 2, 3, 4, 5] (by decide) rfl
          have HH185 := HH184.pair
          have HH186 := HH185.pairF (E := eInt) (c1 := [.int .i64 ((numR ((cutR 41 ((cutR 40 a1).2.1)).1)).1)]) (x := (numR ((cutR 41 ((cutR 40 a1).2.1)).1)).1) (oI (by exact ⟨by omega, by omega⟩))
          obtain ⟨S35, HH187⟩ : ∃ S, Held Nob w (rO eConfig S [.int .i64 ((numR ((cutR 41 ((cutR 40 a1).2.1)).1)).1), .slice Ar28_0 ((List.reverse ((digR ((cutR 40 a1).1)).1)).length) cr28_0, .slice Ar26_0 ((digR ((cutR 41 ((cutR 40 a1).2.1)).2.1)).1.length) cr26_0] ((numR ((cutR 41 ((cutR 40 a1).2.1)).1)).1, (List.reverse ((digR ((cutR 40 a1).1)).1)), (digR ((cutR 41 ((cutR 40 a1).2.1)).2.1)).1) :: _) _ := ⟨_, HH186⟩
          have hF : (rdCfI a0 a1) = (((numR ((cutR 41 ((cutR 40 a1).2.1)).1)).1, (List.reverse ((digR ((cutR 40 a1).1)).1)), (digR ((cutR 41 ((cutR 40 a1).2.1)).2.1)).1), true) := by
            unfold rdCfI; first | (rw [if_pos ⟨⟨by assumption, by assumption, by assumption⟩, by assumption⟩]; rfl) | (exact if_neg (fun hh => ff hh.1.1 (by assumption))) | (exact if_neg (fun hh => ff hh.1.2.1 (by assumption))) | (exact if_neg (fun hh => ff hh.1.2.2 (by assumption))) | (exact if_neg (fun hh => absurd hh.2 (by assumption)))
          exact ⟨_, by first | (rw [hF] <;> rfl) | rfl | (rw [hF]; simp only [Ending.returned.injEq, Value.slice.injEq, true_and, and_true]; first | omega | (simp; done)) | (rw [hF]; simp; omega), by rw [hF]; exact (HH187.o (i := 0) rfl), HH187.below⟩
      · refine pl_no HE151 (wtF HE151 rfl rfl rfl (not_t hc32)) rfl rfl fun a_188 HE189 => ?_
        refine pl_no HE189 (wtF HE189 rfl rfl rfl (not_t hc32)) rfl rfl fun a_190 HE191 => ?_
        refine pl_no HE191 (wtF HE191 rfl rfl rfl (not_t hc32)) rfl rfl fun a_192 HE193 => ?_
        refine pl_no HE193 (wtF HE193 rfl rfl rfl (not_t hc32)) rfl rfl fun a_194 HE195 => ?_
        refine pl_no HE195 (wtF HE195 rfl rfl rfl (not_t hc32)) rfl rfl fun a_196 HE197 => ?_
        refine pl_x HE197 HH129 (wt0 rfl) (x_pickT rfl (not_t hc32) rfl) rfl rfl fun a_198 HE199 => ?_
        refine wpList_nil ?_
        clear a_124 HE125 a_130 HE131 a_132 HE133 a_134 HE135 a_136 HE137 a_138 HE139 a_140 HE141 a_142 HE143 a_144 HE145 a_146 HE147 a_148 HE149 a_150 HE151 a_188 HE189 a_190 HE191 a_192 HE193 a_194 HE195 a_196 HE197
        refine nrm ?_
        refine cndT HE199 rfl rfl ?_
        refine wp_seq ?_
        refine rg ?_
        refine pl_x HE199 HH129 (wt0 rfl) (show XS _ _ _ _ (.agg #[.int .i64 (0), .slice none (0) 0, .slice none (0) 0]) from x_build (vs := []) tb_28 rfl (by simp [Value.oneCell'])) rfl rfl fun a_200 HE201 => ?_
        refine pl fun K_202 hK203 => ?_
        refine st_store (vs := [.int .i64 (0), .slice none (0) 0, .slice none (0) 0]) 4 HE201 HH129 tv_28 rfl rfl rfl rfl rfl rfl (by simp [Value.oneCell']) (wt0 rfl) fun w' HH204 => hK203 _ _ ?_
        refine pl_x HE201 HH204 (wt0 rfl) (x_assign rfl) rfl rfl fun a_205 HE206 => ?_
        refine wpList_nil ?_
        clear a_198 HE199 HH129 a_200 HE201 hK203 K_202
        refine nrm ?_
        refine wp_ret ?_
        refine (thn_ret ?_)
        refine ret2 HE206 rfl (rv_cell rfl (tv_28.loadN (cs := [.int .i64 (0), .slice none (0) 0, .slice none (0) 0]) rfl (c_blkN 4 rfl _ HH204))) (rv_tmp rfl) ?_
        have HH207 := HH204.flatO (E := eConfig) (cs := [.int .i64 (0), .slice none (0) 0, .slice none (0) 0]) (x := (0, [], [])) (fun _ => (oPrN (oI (by exact ⟨by omega, by omega⟩)) (oPrN (oSl (So.nil (Nat.zero_le _))) (oSl (So.nil (Nat.zero_le _))))))
        have hF : (rdCfI a0 a1) = ((0, [], []), false) := by
          unfold rdCfI; first | (rw [if_pos ⟨⟨by assumption, by assumption, by assumption⟩, by assumption⟩]; rfl) | (exact if_neg (fun hh => ff hh.1.1 (by assumption))) | (exact if_neg (fun hh => ff hh.1.2.1 (by assumption))) | (exact if_neg (fun hh => ff hh.1.2.2 (by assumption))) | (exact if_neg (fun hh => absurd hh.2 (by assumption)))
        exact ⟨_, by first | (rw [hF] <;> rfl) | rfl | (rw [hF]; simp only [Ending.returned.injEq, Value.slice.injEq, true_and, and_true]; first | omega | (simp; done)) | (rw [hF]; simp; omega), by rw [hF]; exact (HH207.o (i := 0) rfl), HH207.below⟩
    · refine pl_no HE143 (wtF HE143 rfl rfl rfl (not_t hc31)) rfl rfl fun a_208 HE209 => ?_
      refine pl_no HE209 (wtF HE209 rfl rfl rfl (not_t hc31)) rfl rfl fun a_210 HE211 => ?_
      refine pl_x HE211 HH129 (wt0 rfl) (x_pickT rfl (not_t hc31) rfl) rfl rfl fun a_212 HE213 => ?_
      refine pl_x HE213 HH129 (wt0 rfl) (x_move rfl) rfl rfl fun a_214 HE215 => ?_
      refine pl_no HE215 (wtF HE215 rfl rfl rfl rfl) rfl rfl fun a_216 HE217 => ?_
      refine pl_no HE217 (wtF HE217 rfl rfl rfl rfl) rfl rfl fun a_218 HE219 => ?_
      refine pl_no HE219 (wtF HE219 rfl rfl rfl rfl) rfl rfl fun a_220 HE221 => ?_
      refine pl_no HE221 (wtF HE221 rfl rfl rfl rfl) rfl rfl fun a_222 HE223 => ?_
      refine pl_no HE223 (wtF HE223 rfl rfl rfl rfl) rfl rfl fun a_224 HE225 => ?_
      refine pl_x HE225 HH129 (wt0 rfl) (x_pickT rfl rfl rfl) rfl rfl fun a_226 HE227 => ?_
      refine wpList_nil ?_
      clear a_124 HE125 a_130 HE131 a_132 HE133 a_134 HE135 a_136 HE137 a_138 HE139 a_140 HE141 a_142 HE143 a_208 HE209 a_210 HE211 a_212 HE213 a_214 HE215 a_216 HE217 a_218 HE219 a_220 HE221 a_222 HE223 a_224 HE225
      refine nrm ?_
      refine cndT HE227 rfl rfl ?_
      refine wp_seq ?_
      refine rg ?_
      refine pl_x HE227 HH129 (wt0 rfl) (show XS _ _ _ _ (.agg #[.int .i64 (0), .slice none (0) 0, .slice none (0) 0]) from x_build (vs := []) tb_28 rfl (by simp [Value.oneCell'])) rfl rfl fun a_228 HE229 => ?_
      refine pl fun K_230 hK231 => ?_
      refine st_store (vs := [.int .i64 (0), .slice none (0) 0, .slice none (0) 0]) 4 HE229 HH129 tv_28 rfl rfl rfl rfl rfl rfl (by simp [Value.oneCell']) (wt0 rfl) fun w' HH232 => hK231 _ _ ?_
      refine pl_x HE229 HH232 (wt0 rfl) (x_assign rfl) rfl rfl fun a_233 HE234 => ?_
      refine wpList_nil ?_
      clear a_226 HE227 HH129 a_228 HE229 hK231 K_230
      refine nrm ?_
      refine wp_ret ?_
      refine (thn_ret ?_)
      refine ret2 HE234 rfl (rv_cell rfl (tv_28.loadN (cs := [.int .i64 (0), .slice none (0) 0, .slice none (0) 0]) rfl (c_blkN 4 rfl _ HH232))) (rv_tmp rfl) ?_
      have HH235 := HH232.flatO (E := eConfig) (cs := [.int .i64 (0), .slice none (0) 0, .slice none (0) 0]) (x := (0, [], [])) (fun _ => (oPrN (oI (by exact ⟨by omega, by omega⟩)) (oPrN (oSl (So.nil (Nat.zero_le _))) (oSl (So.nil (Nat.zero_le _))))))
      have hF : (rdCfI a0 a1) = ((0, [], []), false) := by
        unfold rdCfI; first | (rw [if_pos ⟨⟨by assumption, by assumption, by assumption⟩, by assumption⟩]; rfl) | (exact if_neg (fun hh => ff hh.1.1 (by assumption))) | (exact if_neg (fun hh => ff hh.1.2.1 (by assumption))) | (exact if_neg (fun hh => ff hh.1.2.2 (by assumption))) | (exact if_neg (fun hh => absurd hh.2 (by assumption)))
      exact ⟨_, by first | (rw [hF] <;> rfl) | rfl | (rw [hF]; simp only [Ending.returned.injEq, Value.slice.injEq, true_and, and_true]; first | omega | (simp; done)) | (rw [hF]; simp; omega), by rw [hF]; exact (HH235.o (i := 0) rfl), HH235.below⟩
  · refine pl_no HE135 (wtF HE135 rfl rfl rfl (not_t hc30)) rfl rfl fun a_236 HE237 => ?_
    refine pl_no HE237 (wtF HE237 rfl rfl rfl (not_t hc30)) rfl rfl fun a_238 HE239 => ?_
    refine pl_x HE239 HH129 (wt0 rfl) (x_pickT rfl (not_t hc30) rfl) rfl rfl fun a_240 HE241 => ?_
    refine pl_x HE241 HH129 (wt0 rfl) (x_move rfl) rfl rfl fun a_242 HE243 => ?_
    refine pl_no HE243 (wtF HE243 rfl rfl rfl rfl) rfl rfl fun a_244 HE245 => ?_
    refine pl_no HE245 (wtF HE245 rfl rfl rfl rfl) rfl rfl fun a_246 HE247 => ?_
    refine pl_x HE247 HH129 (wt0 rfl) (x_pickT rfl rfl rfl) rfl rfl fun a_248 HE249 => ?_
    refine pl_x HE249 HH129 (wt0 rfl) (x_move rfl) rfl rfl fun a_250 HE251 => ?_
    refine pl_no HE251 (wtF HE251 rfl rfl rfl rfl) rfl rfl fun a_252 HE253 => ?_
    refine pl_no HE253 (wtF HE253 rfl rfl rfl rfl) rfl rfl fun a_254 HE255 => ?_
    refine pl_no HE255 (wtF HE255 rfl rfl rfl rfl) rfl rfl fun a_256 HE257 => ?_
    refine pl_no HE257 (wtF HE257 rfl rfl rfl rfl) rfl rfl fun a_258 HE259 => ?_
    refine pl_no HE259 (wtF HE259 rfl rfl rfl rfl) rfl rfl fun a_260 HE261 => ?_
    refine pl_x HE261 HH129 (wt0 rfl) (x_pickT rfl rfl rfl) rfl rfl fun a_262 HE263 => ?_
    refine wpList_nil ?_
    clear a_124 HE125 a_130 HE131 a_132 HE133 a_134 HE135 a_236 HE237 a_238 HE239 a_240 HE241 a_242 HE243 a_244 HE245 a_246 HE247 a_248 HE249 a_250 HE251 a_252 HE253 a_254 HE255 a_256 HE257 a_258 HE259 a_260 HE261
    refine nrm ?_
    refine cndT HE263 rfl rfl ?_
    refine wp_seq ?_
    refine rg ?_
    refine pl_x HE263 HH129 (wt0 rfl) (show XS _ _ _ _ (.agg #[.int .i64 (0), .slice none (0) 0, .slice none (0) 0]) from x_build (vs := []) tb_28 rfl (by simp [Value.oneCell'])) rfl rfl fun a_264 HE265 => ?_
    refine pl fun K_266 hK267 => ?_
    refine st_store (vs := [.int .i64 (0), .slice none (0) 0, .slice none (0) 0]) 4 HE265 HH129 tv_28 rfl rfl rfl rfl rfl rfl (by simp [Value.oneCell']) (wt0 rfl) fun w' HH268 => hK267 _ _ ?_
    refine pl_x HE265 HH268 (wt0 rfl) (x_assign rfl) rfl rfl fun a_269 HE270 => ?_
    refine wpList_nil ?_
    clear a_262 HE263 HH129 a_264 HE265 hK267 K_266
    refine nrm ?_
    refine wp_ret ?_
    refine (thn_ret ?_)
    refine ret2 HE270 rfl (rv_cell rfl (tv_28.loadN (cs := [.int .i64 (0), .slice none (0) 0, .slice none (0) 0]) rfl (c_blkN 4 rfl _ HH268))) (rv_tmp rfl) ?_
    have HH271 := HH268.flatO (E := eConfig) (cs := [.int .i64 (0), .slice none (0) 0, .slice none (0) 0]) (x := (0, [], [])) (fun _ => (oPrN (oI (by exact ⟨by omega, by omega⟩)) (oPrN (oSl (So.nil (Nat.zero_le _))) (oSl (So.nil (Nat.zero_le _))))))
    have hF : (rdCfI a0 a1) = ((0, [], []), false) := by
      unfold rdCfI; first | (rw [if_pos ⟨⟨by assumption, by assumption, by assumption⟩, by assumption⟩]; rfl) | (exact if_neg (fun hh => ff hh.1.1 (by assumption))) | (exact if_neg (fun hh => ff hh.1.2.1 (by assumption))) | (exact if_neg (fun hh => ff hh.1.2.2 (by assumption))) | (exact if_neg (fun hh => absurd hh.2 (by assumption)))
    exact ⟨_, by first | (rw [hF] <;> rfl) | rfl | (rw [hF]; simp only [Ending.returned.injEq, Value.slice.injEq, true_and, and_true]; first | omega | (simp; done)) | (rw [hF]; simp; omega), by rw [hF]; exact (HH271.o (i := 0) rfl), HH271.below⟩

open Go.Lib in
set_option maxRecDepth 100000 in
set_option maxHeartbeats 4000000 in
theorem spec_ReadConfig (es0 : List Value) (a0 : tMachine) (a1 : List UInt8) (w : World) (h0 : eMachine.R w (Old w) es0 a0) (s0 : a1.length ≤ 2000000) :
    Calls Tryz.prog 6 #[.agg es0.toArray, .string (bs a1)] w fun e w' => ∃ (es0' : List Value), e = .returned (.tuple #[.agg es0'.toArray, .bool (rdCfI a0 a1).2]) ∧ eConfig.O w' (Fr w w') es0' (rdCfI a0 a1).1 ∧ Below w.heap.size w w' := by
  have H0 := h0
  obtain ⟨Az0_2, cz0_2, rfl, gz0_0, gz0_1, gz0_2⟩ := shape_Machine h0
  have jz0_0 := gz0_0; unfold I64 at jz0_0
  have jz0_1 := gz0_1; unfold I64 at jz0_1
  have lz0_2 := gz0_2.len
  have HH1 := Held.start Nob w
  refine enter (n := 75) Tryz.func6 rfl rfl rfl fun a_2 HE3 => ?_
  refine wp_seq ?_
  refine rg ?_
  refine pl fun K_4 hK5 => ?_
  refine st_box (cs := [.int .i64 (a0.1), .int .i64 (a0.2.1), .slice Az0_2 (a0.2.2.length) cz0_2]) HE3 HH1 rfl rfl (wt0 rfl) rfl fun q21 a_6 w' HE7 HH8 => hK5 _ _ ?_
  refine pl fun K_9 hK10 => ?_
  refine st_alloc HE7 HH8 tv_28 (wt0 rfl) rfl fun q22 a_11 w' HE12 HH13 => hK10 _ _ ?_
  refine pl_x HE12 HH13 (wt0 rfl) (x_assign rfl) rfl rfl fun a_14 HE15 => ?_
  refine wpList_nil ?_
  clear a_2 HE3 HH1 K_4 hK5 a_6 HE7 HH8 a_11 HE12 hK10 K_9
  refine nrm ?_
  refine wp_seq ?_
  refine wp_seq ?_
  refine rg ?_
  refine pl fun K_16 hK17 => ?_
  refine st_call HE15 (wt0 rfl) rfl rfl rfl en_24 rfl rfl (spec_l05Is _ _ _ a0 _ (HH13.oldR H0) (c_blkN 1 rfl _ HH13)) fun e w' hr => ?_
  obtain ⟨rfl, hbr23⟩ := hr
  have HH18 := HH13.on hbr23
  refine ⟨_, rfl, fun a_19 HE20 => hK17 _ _ ?_⟩
  refine pl_x HE20 HH18 (wt0 rfl) (x_not rfl) rfl rfl fun a_21 HE22 => ?_
  refine wpList_nil ?_
  clear HH13 a_14 HE15 a_19 HE20 hK17 K_16
  refine nrm ?_
  refine cnd_nb HE22 rfl (fun hc24 => ?_) (fun hc24 => ?_)
  · refine wp_seq ?_
    refine rg ?_
    refine pl_x HE22 HH18 (wt0 rfl) (show XS _ _ _ _ (.agg #[.int .i64 (0), .slice none (0) 0, .slice none (0) 0]) from x_build (vs := []) tb_28 rfl (by simp [Value.oneCell'])) rfl rfl fun a_23 HE24 => ?_
    refine pl fun K_25 hK26 => ?_
    refine st_store (vs := [.int .i64 (0), .slice none (0) 0, .slice none (0) 0]) 0 HE24 HH18 tv_28 rfl rfl rfl rfl rfl rfl (by simp [Value.oneCell']) (wt0 rfl) fun w' HH27 => hK26 _ _ ?_
    refine pl_x HE24 HH27 (wt0 rfl) (x_assign rfl) rfl rfl fun a_28 HE29 => ?_
    refine wpList_nil ?_
    clear a_21 HE22 HH18 a_23 HE24 hK26 K_25
    refine nrm ?_
    refine wp_ret ?_
    refine (thn_ret ?_)
    refine ret2 HE29 rfl (rv_cell rfl (tv_28.loadN (cs := [.int .i64 (0), .slice none (0) 0, .slice none (0) 0]) rfl (c_blkN 0 rfl _ HH27))) (rv_tmp rfl) ?_
    have HH30 := HH27.flatO (E := eConfig) (cs := [.int .i64 (0), .slice none (0) 0, .slice none (0) 0]) (x := (0, [], [])) (fun _ => (oPrN (oI (by exact ⟨by omega, by omega⟩)) (oPrN (oSl (So.nil (Nat.zero_le _))) (oSl (So.nil (Nat.zero_le _))))))
    have hF : (rdCfI a0 a1) = ((0, [], []), false) := by
      rw [← rdCf_eq]; first | (unfold rdCfS; exact if_neg (fun hh => ff hh.1 (by assumption))) | (unfold rdCfS; exact if_neg (fun hh => by omega)) | exact rdCfS_len rfl (by omega) hz1 (by omega) | (rw [rdCfS_eq (by assumption) rfl (by omega) (by omega) hz0 hz1 rfl (by omega) (by omega) hy0 hy1]; first | (rw [if_pos ⟨⟨by assumption, by assumption, by assumption⟩, by assumption⟩]; rfl) | (exact if_neg (fun hh => ff hh.1.1 (by assumption))) | (exact if_neg (fun hh => ff hh.1.2.1 (by assumption))) | (exact if_neg (fun hh => ff hh.1.2.2 (by assumption))) | (exact if_neg (fun hh => ff hh.2 (by assumption))))
    exact ⟨_, by first | (rw [hF] <;> rfl) | rfl | (rw [hF]; simp only [Ending.returned.injEq, Value.slice.injEq, true_and, and_true]; first | omega | (simp; done)) | (rw [hF]; simp; omega), by rw [hF]; exact (HH30.o (i := 0) rfl), HH30.below⟩
  · obtain ⟨v0, v1, v2, v3⟩ := validMach_facts hc24
    refine wp_skip ?_
    refine nrm ?_
    refine wp_seq ?_
    refine rg ?_
    refine pl_x HE22 HH18 (wt0 rfl) (x_move rfl) rfl rfl fun a_31 HE32 => ?_
    refine pl fun K_33 hK34 => ?_
    refine st_call HE32 (wt0 rfl) rfl rfl rfl en_25 rfl rfl (spec_l01Split a1 _ 40 _ (by omega) (by rfl)) fun e w' hr => ?_
    have hAr25_0 := splitR_len 40 a1
    have hAr25_1 := splitR_piece 40 a1
    obtain ⟨Ar25_0, cr25_0, rfl, hor25_0, hbr25⟩ := hr
    obtain ⟨Sr25, HH35⟩ := HH18.newS hbr25 hor25_0
    refine ⟨_, rfl, fun a_36 HE37 => hK34 _ _ ?_⟩
    refine pl_x HE37 HH35 (wt0 rfl) (x_assign rfl) rfl rfl fun a_38 HE39 => ?_
    refine wpList_nil ?_
    clear a_21 HE22 HH18 a_31 HE32 a_36 HE37 hK34 K_33
    refine nrm ?_
    refine wp_seq ?_
    refine wp_seq ?_
    refine rg ?_
    refine pl_x HE39 HH35 (wt0 rfl) (x_move rfl) rfl rfl fun a_40 HE41 => ?_
    refine pl_x HE41 HH35 (wt0 rfl) (x_len Tryz.underlying58 rfl) rfl rfl fun a_42 HE43 => ?_
    refine pl_x HE43 HH35 (wt0 rfl) (x_neq rfl rfl) rfl rfl fun a_44 HE45 => ?_
    refine wpList_nil ?_
    clear a_38 HE39 a_40 HE41 a_42 HE43
    refine nrm ?_
    refine cnd_ne HE45 rfl (fun hc26 => ?_) (fun hc26 => ?_)
    · refine wp_seq ?_
      refine rg ?_
      refine pl_x HE45 HH35 (wt0 rfl) (show XS _ _ _ _ (.agg #[.int .i64 (0), .slice none (0) 0, .slice none (0) 0]) from x_build (vs := []) tb_28 rfl (by simp [Value.oneCell'])) rfl rfl fun a_46 HE47 => ?_
      refine pl fun K_48 hK49 => ?_
      refine st_store (vs := [.int .i64 (0), .slice none (0) 0, .slice none (0) 0]) 1 HE47 HH35 tv_28 rfl rfl rfl rfl rfl rfl (by simp [Value.oneCell']) (wt0 rfl) fun w' HH50 => hK49 _ _ ?_
      refine pl_x HE47 HH50 (wt0 rfl) (x_assign rfl) rfl rfl fun a_51 HE52 => ?_
      refine wpList_nil ?_
      clear a_44 HE45 HH35 a_46 HE47 hK49 K_48
      refine nrm ?_
      refine wp_ret ?_
      refine (thn_ret ?_)
      refine ret2 HE52 rfl (rv_cell rfl (tv_28.loadN (cs := [.int .i64 (0), .slice none (0) 0, .slice none (0) 0]) rfl (c_blkN 1 rfl _ HH50))) (rv_tmp rfl) ?_
      have HH53 := HH50.flatO (E := eConfig) (cs := [.int .i64 (0), .slice none (0) 0, .slice none (0) 0]) (x := (0, [], [])) (fun _ => (oPrN (oI (by exact ⟨by omega, by omega⟩)) (oPrN (oSl (So.nil (Nat.zero_le _))) (oSl (So.nil (Nat.zero_le _))))))
      have hF : (rdCfI a0 a1) = ((0, [], []), false) := by
        rw [← rdCf_eq]; first | (unfold rdCfS; exact if_neg (fun hh => ff hh.1 (by assumption))) | (unfold rdCfS; exact if_neg (fun hh => by omega)) | exact rdCfS_len rfl (by omega) hz1 (by omega) | (rw [rdCfS_eq (by assumption) rfl (by omega) (by omega) hz0 hz1 rfl (by omega) (by omega) hy0 hy1]; first | (rw [if_pos ⟨⟨by assumption, by assumption, by assumption⟩, by assumption⟩]; rfl) | (exact if_neg (fun hh => ff hh.1.1 (by assumption))) | (exact if_neg (fun hh => ff hh.1.2.1 (by assumption))) | (exact if_neg (fun hh => ff hh.1.2.2 (by assumption))) | (exact if_neg (fun hh => ff hh.2 (by assumption))))
      exact ⟨_, by first | (rw [hF] <;> rfl) | rfl | (rw [hF]; simp only [Ending.returned.injEq, Value.slice.injEq, true_and, and_true]; first | omega | (simp; done)) | (rw [hF]; simp; omega), by rw [hF]; exact (HH53.o (i := 0) rfl), HH53.below⟩
    · refine wp_skip ?_
      refine nrm ?_
      refine wp_seq ?_
      refine rg ?_
      refine pl_x HE45 HH35 (wt0 rfl) (x_move rfl) rfl rfl fun a_54 HE55 => ?_
      have ke27 : 1 < (splitR 40 a1).length := by omega
      obtain ⟨be27, fe27, rfl⟩ := el_own HH35 (i := 0) rfl ke27
      refine pl_x HE55 HH35 (wt0 rfl) (x_indexAddr ts_58 rfl rfl rfl rfl ke27) rfl rfl fun a_56 HE57 => ?_
      obtain ⟨y28, xy28⟩ : ∃ y_, y_ = (splitR 40 a1)[1]'(by first | exact ke27 | (simp only [List.length_set]; exact ke27) | omega | (simp only [List.length_set]; omega) | (simp; omega)) := ⟨_, rfl⟩
      have jy28 : List.length y28 ≤ 9223372036854775807 := by rw [xy28]; exact i_ownS HH35 0 rfl _
      have hz1 := xy28
      have hpy28 := splitR_piece 40 _ y28 (by rw [xy28]; exact List.getElem_mem _)
      refine pl_x HE57 HH35 (wt0 rfl) (x_load1 tv_9 rfl (c_ownS 0 rfl (by first | exact ke27 | (simp only [List.length_set]; exact ke27) | omega | (simp only [List.length_set]; omega) | (simp; omega)) xy28.symm)) rfl rfl fun a_58 HE59 => ?_
      refine pl fun K_60 hK61 => ?_
      refine st_call HE59 (wt0 rfl) rfl rfl rfl en_25 rfl rfl (spec_l01Split y28 _ 41 _ (by omega) (by rfl)) fun e w' hr => ?_
      have hAr29_0 := splitR_len 41 y28
      have hAr29_1 := splitR_piece 41 y28
      obtain ⟨Ar29_0, cr29_0, rfl, hor29_0, hbr29⟩ := hr
      obtain ⟨Sr29, HH62⟩ := HH35.newS hbr29 hor29_0
      refine ⟨_, rfl, fun a_63 HE64 => hK61 _ _ ?_⟩
      refine pl_x HE64 HH62 (wt0 rfl) (x_assign rfl) rfl rfl fun a_65 HE66 => ?_
      refine wpList_nil ?_
      clear a_44 HE45 a_54 HE55 a_56 HE57 HH35 a_58 HE59 a_63 HE64 hK61 K_60
      refine nrm ?_
      refine wp_seq ?_
      refine wp_seq ?_
      refine rg ?_
      refine pl_x HE66 HH62 (wt0 rfl) (x_move rfl) rfl rfl fun a_67 HE68 => ?_
      refine pl_x HE68 HH62 (wt0 rfl) (x_len Tryz.underlying58 rfl) rfl rfl fun a_69 HE70 => ?_
      refine pl_x HE70 HH62 (wt0 rfl) (x_neq rfl rfl) rfl rfl fun a_71 HE72 => ?_
      refine wpList_nil ?_
      clear a_65 HE66 a_67 HE68 a_69 HE70
      refine nrm ?_
      refine cnd_ne HE72 rfl (fun hc30 => ?_) (fun hc30 => ?_)
      · refine wp_seq ?_
        refine rg ?_
        refine pl_x HE72 HH62 (wt0 rfl) (show XS _ _ _ _ (.agg #[.int .i64 (0), .slice none (0) 0, .slice none (0) 0]) from x_build (vs := []) tb_28 rfl (by simp [Value.oneCell'])) rfl rfl fun a_73 HE74 => ?_
        refine pl fun K_75 hK76 => ?_
        refine st_store (vs := [.int .i64 (0), .slice none (0) 0, .slice none (0) 0]) 2 HE74 HH62 tv_28 rfl rfl rfl rfl rfl rfl (by simp [Value.oneCell']) (wt0 rfl) fun w' HH77 => hK76 _ _ ?_
        refine pl_x HE74 HH77 (wt0 rfl) (x_assign rfl) rfl rfl fun a_78 HE79 => ?_
        refine wpList_nil ?_
        clear a_71 HE72 HH62 a_73 HE74 hK76 K_75
        refine nrm ?_
        refine wp_ret ?_
        refine (thn_ret ?_)
        refine ret2 HE79 rfl (rv_cell rfl (tv_28.loadN (cs := [.int .i64 (0), .slice none (0) 0, .slice none (0) 0]) rfl (c_blkN 2 rfl _ HH77))) (rv_tmp rfl) ?_
        have HH80 := HH77.flatO (E := eConfig) (cs := [.int .i64 (0), .slice none (0) 0, .slice none (0) 0]) (x := (0, [], [])) (fun _ => (oPrN (oI (by exact ⟨by omega, by omega⟩)) (oPrN (oSl (So.nil (Nat.zero_le _))) (oSl (So.nil (Nat.zero_le _))))))
        have hF : (rdCfI a0 a1) = ((0, [], []), false) := by
          rw [← rdCf_eq]; first | (unfold rdCfS; exact if_neg (fun hh => ff hh.1 (by assumption))) | (unfold rdCfS; exact if_neg (fun hh => by omega)) | exact rdCfS_len rfl (by omega) hz1 (by omega) | (rw [rdCfS_eq (by assumption) rfl (by omega) (by omega) hz0 hz1 rfl (by omega) (by omega) hy0 hy1]; first | (rw [if_pos ⟨⟨by assumption, by assumption, by assumption⟩, by assumption⟩]; rfl) | (exact if_neg (fun hh => ff hh.1.1 (by assumption))) | (exact if_neg (fun hh => ff hh.1.2.1 (by assumption))) | (exact if_neg (fun hh => ff hh.1.2.2 (by assumption))) | (exact if_neg (fun hh => ff hh.2 (by assumption))))
        exact ⟨_, by first | (rw [hF] <;> rfl) | rfl | (rw [hF]; simp only [Ending.returned.injEq, Value.slice.injEq, true_and, and_true]; first | omega | (simp; done)) | (rw [hF]; simp; omega), by rw [hF]; exact (HH80.o (i := 0) rfl), HH80.below⟩
      · refine wp_skip ?_
        refine nrm ?_
        refine wp_seq ?_
        refine rg ?_
        refine pl_x HE72 HH62 (wt0 rfl) (x_move rfl) rfl rfl fun a_81 HE82 => ?_
        have ke31 : 0 < (splitR 40 a1).length := by omega
        refine pl_x HE82 HH62 (wt0 rfl) (x_indexAddr ts_58 rfl rfl rfl rfl ke31) rfl rfl fun a_83 HE84 => ?_
        obtain ⟨y32, xy32⟩ : ∃ y_, y_ = (splitR 40 a1)[0]'(by first | exact ke31 | (simp only [List.length_set]; exact ke31) | omega | (simp only [List.length_set]; omega) | (simp; omega)) := ⟨_, rfl⟩
        have jy32 : List.length y32 ≤ 9223372036854775807 := by rw [xy32]; exact i_ownS HH62 1 rfl _
        have hz0 := xy32
        have hpy32 := splitR_piece 40 _ y32 (by rw [xy32]; exact List.getElem_mem _)
        refine pl_x HE84 HH62 (wt0 rfl) (x_load1 tv_9 rfl (c_ownS 1 rfl (by first | exact ke31 | (simp only [List.length_set]; exact ke31) | omega | (simp only [List.length_set]; omega) | (simp; omega)) xy32.symm)) rfl rfl fun a_85 HE86 => ?_
        refine pl fun K_87 hK88 => ?_
        refine st_call HE86 (wt0 rfl) rfl rfl rfl en_26 rfl rfl (spec_l05Symbols y32 _ (by omega)) fun e w' hr => ?_
        have hAr33_0 := symS_len y32
        obtain ⟨Ar33_0, cr33_0, rfl, hor33_0, hbr33⟩ := hr
        obtain ⟨Sr33, HH89⟩ := HH62.newS hbr33 hor33_0
        refine ⟨_, rfl, fun a_90 HE91 => hK88 _ _ ?_⟩
        refine pl_x HE91 HH89 (wt0 rfl) (x_move rfl) rfl rfl fun a_92 HE93 => ?_
        refine pl_x HE93 HH89 (wt0 rfl) (x_extract rfl rfl) rfl rfl fun a_94 HE95 => ?_
        refine pl_x HE95 HH89 (wt0 rfl) (x_extract rfl rfl) rfl rfl fun a_96 HE97 => ?_
        refine pl_x HE97 HH89 (wt0 rfl) (x_assign rfl) rfl rfl fun a_98 HE99 => ?_
        refine pl_x HE99 HH89 (wt0 rfl) (x_assign rfl) rfl rfl fun a_100 HE101 => ?_
        refine wpList_nil ?_
        clear a_71 HE72 a_81 HE82 a_83 HE84 HH62 a_85 HE86 a_90 HE91 a_92 HE93 a_94 HE95 a_96 HE97 a_98 HE99 hK88 K_87
        refine nrm ?_
        refine wp_seq ?_
        refine rg ?_
        refine pl_x HE101 HH89 (wt0 rfl) (x_move rfl) rfl rfl fun a_102 HE103 => ?_
        have ke34 : 1 < (splitR 41 y28).length := by omega
        obtain ⟨be34, fe34, rfl⟩ := el_own HH89 (i := 1) rfl ke34
        refine pl_x HE103 HH89 (wt0 rfl) (x_indexAddr ts_58 rfl rfl rfl rfl ke34) rfl rfl fun a_104 HE105 => ?_
        obtain ⟨y35, xy35⟩ : ∃ y_, y_ = (splitR 41 y28)[1]'(by first | exact ke34 | (simp only [List.length_set]; exact ke34) | omega | (simp only [List.length_set]; omega) | (simp; omega)) := ⟨_, rfl⟩
        have jy35 : List.length y35 ≤ 9223372036854775807 := by rw [xy35]; exact i_ownS HH89 1 rfl _
        have hy1 := xy35
        have hpy35 := splitR_piece 41 _ y35 (by rw [xy35]; exact List.getElem_mem _)
        refine pl_x HE105 HH89 (wt0 rfl) (x_load1 tv_9 rfl (c_ownS 1 rfl (by first | exact ke34 | (simp only [List.length_set]; exact ke34) | omega | (simp only [List.length_set]; omega) | (simp; omega)) xy35.symm)) rfl rfl fun a_106 HE107 => ?_
        refine pl fun K_108 hK109 => ?_
        refine st_call HE107 (wt0 rfl) rfl rfl rfl en_26 rfl rfl (spec_l05Symbols y35 _ (by omega)) fun e w' hr => ?_
        have hAr36_0 := symS_len y35
        obtain ⟨Ar36_0, cr36_0, rfl, hor36_0, hbr36⟩ := hr
        obtain ⟨Sr36, HH110⟩ := HH89.newS hbr36 hor36_0
        refine ⟨_, rfl, fun a_111 HE112 => hK109 _ _ ?_⟩
        refine pl_x HE112 HH110 (wt0 rfl) (x_move rfl) rfl rfl fun a_113 HE114 => ?_
        refine pl_x HE114 HH110 (wt0 rfl) (x_extract rfl rfl) rfl rfl fun a_115 HE116 => ?_
        refine pl_x HE116 HH110 (wt0 rfl) (x_extract rfl rfl) rfl rfl fun a_117 HE118 => ?_
        refine pl_x HE118 HH110 (wt0 rfl) (x_assign rfl) rfl rfl fun a_119 HE120 => ?_
        refine pl_x HE120 HH110 (wt0 rfl) (x_assign rfl) rfl rfl fun a_121 HE122 => ?_
        refine wpList_nil ?_
        clear a_100 HE101 a_102 HE103 a_104 HE105 HH89 a_106 HE107 a_111 HE112 a_113 HE114 a_115 HE116 a_117 HE118 a_119 HE120 hK109 K_108
        refine nrm ?_
        refine wp_seq ?_
        refine rg ?_
        refine pl_x HE122 HH110 (wt0 rfl) (x_move rfl) rfl rfl fun a_123 HE124 => ?_
        have ke37 : 0 < (splitR 41 y28).length := by omega
        refine pl_x HE124 HH110 (wt0 rfl) (x_indexAddr ts_58 rfl rfl rfl rfl ke37) rfl rfl fun a_125 HE126 => ?_
        obtain ⟨y38, xy38⟩ : ∃ y_, y_ = (splitR 41 y28)[0]'(by first | exact ke37 | (simp only [List.length_set]; exact ke37) | omega | (simp only [List.length_set]; omega) | (simp; omega)) := ⟨_, rfl⟩
        have jy38 : List.length y38 ≤ 9223372036854775807 := by rw [xy38]; exact i_ownS HH110 2 rfl _
        have hy0 := xy38
        have hpy38 := splitR_piece 41 _ y38 (by rw [xy38]; exact List.getElem_mem _)
        refine pl_x HE126 HH110 (wt0 rfl) (x_load1 tv_9 rfl (c_ownS 2 rfl (by first | exact ke37 | (simp only [List.length_set]; exact ke37) | omega | (simp only [List.length_set]; omega) | (simp; omega)) xy38.symm)) rfl rfl fun a_127 HE128 => ?_
        refine pl fun K_129 hK130 => ?_
        refine st_call HE128 (wt0 rfl) rfl rfl rfl en_27 rfl rfl (spec_l01Number y38 _ (by omega)) fun e w' hr => ?_
        have hAr39_0 := numC_bd y38
        obtain ⟨rfl, hbr39⟩ := hr
        have HH131 := HH110.on hbr39
        refine ⟨_, rfl, fun a_132 HE133 => hK130 _ _ ?_⟩
        refine pl_x HE133 HH131 (wt0 rfl) (x_move rfl) rfl rfl fun a_134 HE135 => ?_
        refine pl_x HE135 HH131 (wt0 rfl) (x_extract rfl rfl) rfl rfl fun a_136 HE137 => ?_
        refine pl_x HE137 HH131 (wt0 rfl) (x_extract rfl rfl) rfl rfl fun a_138 HE139 => ?_
        refine pl_x HE139 HH131 (wt0 rfl) (x_assign rfl) rfl rfl fun a_140 HE141 => ?_
        refine pl_x HE141 HH131 (wt0 rfl) (x_assign rfl) rfl rfl fun a_142 HE143 => ?_
        refine wpList_nil ?_
        clear a_121 HE122 a_123 HE124 a_125 HE126 HH110 a_127 HE128 a_132 HE133 a_134 HE135 a_136 HE137 a_138 HE139 a_140 HE141 hK130 K_129
        refine nrm ?_
        refine wp_seq ?_
        refine rg ?_
        refine pl_x HE143 HH131 (wt0 rfl) (x_move rfl) rfl rfl fun a_144 HE145 => ?_
        refine pl_x HE145 HH131 (wt0 rfl) (x_move rfl) rfl rfl fun a_146 HE147 => ?_
        refine pl fun K_148 hK149 => ?_
        refine st_call HE147 (wt0 rfl) rfl rfl rfl en_28 rfl rfl (spec_l03ReverseE _ _ ((symS y32).1) _ (HH131.sl (i := 1) rfl) (by omega)) fun e w' hr => ?_
        obtain ⟨Ar40_0, cr40_0, rfl, hor40_0, hbr40⟩ := hr
        obtain ⟨Sr40, HH150⟩ := HH131.newS hbr40 hor40_0
        refine ⟨_, rfl, fun a_151 HE152 => hK149 _ _ ?_⟩
        refine pl_x HE152 HH150 (wt0 rfl) (x_move rfl) rfl rfl fun a_153 HE154 => ?_
        refine pl fun K_155 hK156 => ?_
        refine st_call HE154 (wt0 rfl) rfl rfl rfl en_29 rfl rfl (spec_l00Own _ _ ((symS y35).1) _ (HH150.sl (i := 1) rfl) (by omega)) fun e w' hr => ?_
        obtain ⟨Ar41_0, cr41_0, rfl, hor41_0, hbr41⟩ := hr
        obtain ⟨Sr41, HH157⟩ := HH150.newS hbr41 hor41_0
        refine ⟨_, rfl, fun a_158 HE159 => hK156 _ _ ?_⟩
        refine pl_x HE159 HH157 (wt0 rfl) (show XS _ _ _ _ (.agg #[.int .i64 ((numC y38).1), .slice Ar40_0 ((List.reverse ((symS y32).1)).length) cr40_0, .slice Ar41_0 (((symS y35).1).length) cr41_0]) from x_build (vs := [(0, .int .i64 ((numC y38).1)), (1, .slice Ar40_0 ((List.reverse ((symS y32).1)).length) cr40_0), (2, .slice Ar41_0 (((symS y35).1).length) cr41_0)]) tb_28 rfl (by simp [Value.oneCell'])) rfl rfl fun a_160 HE161 => ?_
        refine pl fun K_162 hK163 => ?_
        refine st_alloc HE161 HH157 tv_28 (wt0 rfl) rfl fun q42 a_164 w' HE165 HH166 => hK163 _ _ ?_
        refine pl fun K_167 hK168 => ?_
        refine st_store (vs := [.int .i64 ((numC y38).1), .slice Ar40_0 ((List.reverse ((symS y32).1)).length) cr40_0, .slice Ar41_0 (((symS y35).1).length) cr41_0]) 0 HE165 HH166 tv_28 rfl rfl rfl rfl rfl rfl (by simp [Value.oneCell']) (wt0 rfl) fun w' HH169 => hK168 _ _ ?_
        refine wpList_nil ?_
        clear a_142 HE143 a_144 HE145 HH131 a_146 HE147 a_151 HE152 K_148 hK149 HH150 a_153 HE154 a_158 HE159 K_155 hK156 a_160 HE161 HH157 K_162 hK163 HH166 hK168 K_167
        refine nrm ?_
        refine wp_seq ?_
        refine wp_seq ?_
        refine rg ?_
        refine pl_x HE165 HH169 (wt0 rfl) (x_move rfl) rfl rfl fun a_170 HE171 => ?_
        refine pl_x HE171 HH169 (wt0 rfl) (x_not rfl) rfl rfl fun a_172 HE173 => ?_
        refine pl_x HE173 HH169 (wt0 rfl) (x_move rfl) rfl rfl fun a_174 HE175 => ?_
        rcases Bool.eq_false_or_eq_true ((symS y32).2) with hc43 | hc43
        · refine pl_x HE175 HH169 (wtT HE175 rfl rfl rfl (not_f hc43)) (x_move rfl) rfl rfl fun a_176 HE177 => ?_
          refine pl_x HE177 HH169 (wtT HE177 rfl rfl rfl (not_f hc43)) (x_not rfl) rfl rfl fun a_178 HE179 => ?_
          refine pl_x HE179 HH169 (wt0 rfl) (x_pickF rfl (not_f hc43) rfl) rfl rfl fun a_180 HE181 => ?_
          refine pl_x HE181 HH169 (wt0 rfl) (x_move rfl) rfl rfl fun a_182 HE183 => ?_
          rcases Bool.eq_false_or_eq_true ((symS y35).2) with hc44 | hc44
          · refine pl_x HE183 HH169 (wtT HE183 rfl rfl rfl (not_f hc44)) (x_move rfl) rfl rfl fun a_184 HE185 => ?_
            refine pl_x HE185 HH169 (wtT HE185 rfl rfl rfl (not_f hc44)) (x_not rfl) rfl rfl fun a_186 HE187 => ?_
            refine pl_x HE187 HH169 (wt0 rfl) (x_pickF rfl (not_f hc44) rfl) rfl rfl fun a_188 HE189 => ?_
            refine pl_x HE189 HH169 (wt0 rfl) (x_move rfl) rfl rfl fun a_190 HE191 => ?_
            rcases Bool.eq_false_or_eq_true ((numC y38).2) with hc45 | hc45
            · refine pl fun K_192 hK193 => ?_
              refine st_call HE191 (wtT HE191 rfl rfl rfl (not_f hc45)) rfl rfl rfl en_30 rfl rfl (spec_l05Good _ _ _ a0 _ _ _ ((numC y38).1, (List.reverse ((symS y32).1)), ((symS y35).1)) _ (HH169.oldR H0) (c_blkN 8 rfl _ HH169) (rep_Config (x := ((numC y38).1, (List.reverse ((symS y32).1)), ((symS y35).1))) (by exact ⟨by omega, by omega⟩) (HH169.sl (i := 2) rfl) (HH169.sl (i := 1) rfl)) (c_blkN 0 rfl _ HH169) (by omega) (by omega)) fun e w' hr => ?_
              obtain ⟨rfl, hbr46⟩ := hr
              have HH194 := HH169.on hbr46
              refine ⟨_, rfl, fun a_195 HE196 => hK193 _ _ ?_⟩
              refine pl_x HE196 HH194 (wtT HE196 rfl rfl rfl (not_f hc45)) (x_not rfl) rfl rfl fun a_197 HE198 => ?_
              refine pl_x HE198 HH194 (wt0 rfl) (x_pickF rfl (not_f hc45) rfl) rfl rfl fun a_199 HE200 => ?_
              refine wpList_nil ?_
              clear a_164 HE165 a_170 HE171 a_172 HE173 a_174 HE175 a_176 HE177 a_178 HE179 a_180 HE181 a_182 HE183 a_184 HE185 a_186 HE187 a_188 HE189 HH169 a_190 HE191 a_195 HE196 a_197 HE198 hK193 K_192
              refine nrm ?_
              refine cnd_nb HE200 rfl (fun hc47 => ?_) (fun hc47 => ?_)
              · refine wp_seq ?_
                refine rg ?_
                refine pl_x HE200 HH194 (wt0 rfl) (show XS _ _ _ _ (.agg #[.int .i64 (0), .slice none (0) 0, .slice none (0) 0]) from x_build (vs := []) tb_28 rfl (by simp [Value.oneCell'])) rfl rfl fun a_201 HE202 => ?_
                refine pl fun K_203 hK204 => ?_
                refine st_store (vs := [.int .i64 (0), .slice none (0) 0, .slice none (0) 0]) 7 HE202 HH194 tv_28 rfl rfl rfl rfl rfl rfl (by simp [Value.oneCell']) (wt0 rfl) fun w' HH205 => hK204 _ _ ?_
                refine pl_x HE202 HH205 (wt0 rfl) (x_assign rfl) rfl rfl fun a_206 HE207 => ?_
                refine wpList_nil ?_
                clear a_199 HE200 HH194 a_201 HE202 hK204 K_203
                refine nrm ?_
                refine wp_ret ?_
                refine (thn_ret ?_)
                refine ret2 HE207 rfl (rv_cell rfl (tv_28.loadN (cs := [.int .i64 (0), .slice none (0) 0, .slice none (0) 0]) rfl (c_blkN 7 rfl _ HH205))) (rv_tmp rfl) ?_
                have HH208 := HH205.flatO (E := eConfig) (cs := [.int .i64 (0), .slice none (0) 0, .slice none (0) 0]) (x := (0, [], [])) (fun _ => (oPrN (oI (by exact ⟨by omega, by omega⟩)) (oPrN (oSl (So.nil (Nat.zero_le _))) (oSl (So.nil (Nat.zero_le _))))))
                have hF : (rdCfI a0 a1) = ((0, [], []), false) := by
                  rw [← rdCf_eq]; first | (unfold rdCfS; exact if_neg (fun hh => ff hh.1 (by assumption))) | (unfold rdCfS; exact if_neg (fun hh => by omega)) | exact rdCfS_len rfl (by omega) hz1 (by omega) | (rw [rdCfS_eq (by assumption) rfl (by omega) (by omega) hz0 hz1 rfl (by omega) (by omega) hy0 hy1]; first | (rw [if_pos ⟨⟨by assumption, by assumption, by assumption⟩, by assumption⟩]; rfl) | (exact if_neg (fun hh => ff hh.1.1 (by assumption))) | (exact if_neg (fun hh => ff hh.1.2.1 (by assumption))) | (exact if_neg (fun hh => ff hh.1.2.2 (by assumption))) | (exact if_neg (fun hh => ff hh.2 (by assumption))))
                exact ⟨_, by first | (rw [hF] <;> rfl) | rfl | (rw [hF]; simp only [Ending.returned.injEq, Value.slice.injEq, true_and, and_true]; first | omega | (simp; done)) | (rw [hF]; simp; omega), by rw [hF]; exact (HH208.o (i := 0) rfl), HH208.below⟩
              · refine wp_skip ?_
                refine nrm ?_
                refine wp_seq ?_
                refine rg ?_
                refine pl_x HE200 HH194 (wt0 rfl) (x_loadN (cs := [.int .i64 ((numC y38).1), .slice Ar40_0 ((List.reverse ((symS y32).1)).length) cr40_0, .slice Ar41_0 (((symS y35).1).length) cr41_0]) tv_28 rfl rfl (c_blkN 0 rfl)) rfl rfl fun a_209 HE210 => ?_
                refine pl fun K_211 hK212 => ?_
                refine st_store (vs := [.int .i64 ((numC y38).1), .slice Ar40_0 ((List.reverse ((symS y32).1)).length) cr40_0, .slice Ar41_0 (((symS y35).1).length) cr41_0]) 7 HE210 HH194 tv_28 rfl rfl rfl rfl rfl rfl (by simp [Value.oneCell']) (wt0 rfl) fun w' HH213 => hK212 _ _ ?_
                refine pl_x HE210 HH213 (wt0 rfl) (x_assign rfl) rfl rfl fun a_214 HE215 => ?_
                refine wpList_nil ?_
                clear a_199 HE200 HH194 a_209 HE210 hK212 K_211
                refine nrm ?_
                refine wp_ret ?_
                refine ret2 HE215 rfl (rv_cell rfl (tv_28.loadN (cs := [.int .i64 ((numC y38).1), .slice Ar40_0 ((List.reverse ((symS y32).1)).length) cr40_0, .slice Ar41_0 (((symS y35).1).length) cr41_0]) rfl (c_blkN 7 rfl _ HH213))) (rv_tmp rfl) ?_
                have HH216 := HH213.sel [2, 1, 0, 3, 4, 5, 6, 7, 8] (by decide) rfl
                have HH217 := HH216.sel [1, 0, 2, 3, 4, 5, 6, 7, 8] (by decide) rfl
                have HH218 := HH217.sel [1, 0, 2, 3, 4, 5, 6, 7, 8] (by decide) rfl
                have HH219 := HH218.pair
                have HH220 := HH219.pairF (E := eInt) (c1 := [.int .i64 ((numC y38).1)]) (x := (numC y38).1) (oI (by exact ⟨by omega, by omega⟩))
                obtain ⟨S48, HH221⟩ : ∃ S, Held Nob w (rO eConfig S [.int .i64 ((numC y38).1), .slice Ar40_0 ((List.reverse ((symS y32).1)).length) cr40_0, .slice Ar41_0 (((symS y35).1).length) cr41_0] ((numC y38).1, (List.reverse ((symS y32).1)), ((symS y35).1)) :: _) _ := ⟨_, HH220⟩
                have hF : (rdCfI a0 a1) = (((numC y38).1, (List.reverse ((symS y32).1)), ((symS y35).1)), true) := by
                  rw [← rdCf_eq]; first | (unfold rdCfS; exact if_neg (fun hh => ff hh.1 (by assumption))) | (unfold rdCfS; exact if_neg (fun hh => by omega)) | exact rdCfS_len rfl (by omega) hz1 (by omega) | (rw [rdCfS_eq (by assumption) rfl (by omega) (by omega) hz0 hz1 rfl (by omega) (by omega) hy0 hy1]; first | (rw [if_pos ⟨⟨by assumption, by assumption, by assumption⟩, by assumption⟩]; rfl) | (exact if_neg (fun hh => ff hh.1.1 (by assumption))) | (exact if_neg (fun hh => ff hh.1.2.1 (by assumption))) | (exact if_neg (fun hh => ff hh.1.2.2 (by assumption))) | (exact if_neg (fun hh => ff hh.2 (by assumption))))
                exact ⟨_, by first | (rw [hF] <;> rfl) | rfl | (rw [hF]; simp only [Ending.returned.injEq, Value.slice.injEq, true_and, and_true]; first | omega | (simp; done)) | (rw [hF]; simp; omega), by rw [hF]; exact (HH221.o (i := 0) rfl), HH221.below⟩
            · refine pl_no HE191 (wtF HE191 rfl rfl rfl (not_t hc45)) rfl rfl fun a_222 HE223 => ?_
              refine pl_no HE223 (wtF HE223 rfl rfl rfl (not_t hc45)) rfl rfl fun a_224 HE225 => ?_
              refine pl_x HE225 HH169 (wt0 rfl) (x_pickT rfl (not_t hc45) rfl) rfl rfl fun a_226 HE227 => ?_
              refine wpList_nil ?_
              clear a_164 HE165 a_170 HE171 a_172 HE173 a_174 HE175 a_176 HE177 a_178 HE179 a_180 HE181 a_182 HE183 a_184 HE185 a_186 HE187 a_188 HE189 a_190 HE191 a_222 HE223 a_224 HE225
              refine nrm ?_
              refine cndT HE227 rfl rfl ?_
              refine wp_seq ?_
              refine rg ?_
              refine pl_x HE227 HH169 (wt0 rfl) (show XS _ _ _ _ (.agg #[.int .i64 (0), .slice none (0) 0, .slice none (0) 0]) from x_build (vs := []) tb_28 rfl (by simp [Value.oneCell'])) rfl rfl fun a_228 HE229 => ?_
              refine pl fun K_230 hK231 => ?_
              refine st_store (vs := [.int .i64 (0), .slice none (0) 0, .slice none (0) 0]) 7 HE229 HH169 tv_28 rfl rfl rfl rfl rfl rfl (by simp [Value.oneCell']) (wt0 rfl) fun w' HH232 => hK231 _ _ ?_
              refine pl_x HE229 HH232 (wt0 rfl) (x_assign rfl) rfl rfl fun a_233 HE234 => ?_
              refine wpList_nil ?_
              clear a_226 HE227 HH169 a_228 HE229 hK231 K_230
              refine nrm ?_
              refine wp_ret ?_
              refine (thn_ret ?_)
              refine ret2 HE234 rfl (rv_cell rfl (tv_28.loadN (cs := [.int .i64 (0), .slice none (0) 0, .slice none (0) 0]) rfl (c_blkN 7 rfl _ HH232))) (rv_tmp rfl) ?_
              have HH235 := HH232.flatO (E := eConfig) (cs := [.int .i64 (0), .slice none (0) 0, .slice none (0) 0]) (x := (0, [], [])) (fun _ => (oPrN (oI (by exact ⟨by omega, by omega⟩)) (oPrN (oSl (So.nil (Nat.zero_le _))) (oSl (So.nil (Nat.zero_le _))))))
              have hF : (rdCfI a0 a1) = ((0, [], []), false) := by
                rw [← rdCf_eq]; first | (unfold rdCfS; exact if_neg (fun hh => ff hh.1 (by assumption))) | (unfold rdCfS; exact if_neg (fun hh => by omega)) | exact rdCfS_len rfl (by omega) hz1 (by omega) | (rw [rdCfS_eq (by assumption) rfl (by omega) (by omega) hz0 hz1 rfl (by omega) (by omega) hy0 hy1]; first | (rw [if_pos ⟨⟨by assumption, by assumption, by assumption⟩, by assumption⟩]; rfl) | (exact if_neg (fun hh => ff hh.1.1 (by assumption))) | (exact if_neg (fun hh => ff hh.1.2.1 (by assumption))) | (exact if_neg (fun hh => ff hh.1.2.2 (by assumption))) | (exact if_neg (fun hh => ff hh.2 (by assumption))))
              exact ⟨_, by first | (rw [hF] <;> rfl) | rfl | (rw [hF]; simp only [Ending.returned.injEq, Value.slice.injEq, true_and, and_true]; first | omega | (simp; done)) | (rw [hF]; simp; omega), by rw [hF]; exact (HH235.o (i := 0) rfl), HH235.below⟩
          · refine pl_no HE183 (wtF HE183 rfl rfl rfl (not_t hc44)) rfl rfl fun a_236 HE237 => ?_
            refine pl_no HE237 (wtF HE237 rfl rfl rfl (not_t hc44)) rfl rfl fun a_238 HE239 => ?_
            refine pl_x HE239 HH169 (wt0 rfl) (x_pickT rfl (not_t hc44) rfl) rfl rfl fun a_240 HE241 => ?_
            refine pl_x HE241 HH169 (wt0 rfl) (x_move rfl) rfl rfl fun a_242 HE243 => ?_
            refine pl_no HE243 (wtF HE243 rfl rfl rfl rfl) rfl rfl fun a_244 HE245 => ?_
            refine pl_no HE245 (wtF HE245 rfl rfl rfl rfl) rfl rfl fun a_246 HE247 => ?_
            refine pl_x HE247 HH169 (wt0 rfl) (x_pickT rfl rfl rfl) rfl rfl fun a_248 HE249 => ?_
            refine wpList_nil ?_
            clear a_164 HE165 a_170 HE171 a_172 HE173 a_174 HE175 a_176 HE177 a_178 HE179 a_180 HE181 a_182 HE183 a_236 HE237 a_238 HE239 a_240 HE241 a_242 HE243 a_244 HE245 a_246 HE247
            refine nrm ?_
            refine cndT HE249 rfl rfl ?_
            refine wp_seq ?_
            refine rg ?_
            refine pl_x HE249 HH169 (wt0 rfl) (show XS _ _ _ _ (.agg #[.int .i64 (0), .slice none (0) 0, .slice none (0) 0]) from x_build (vs := []) tb_28 rfl (by simp [Value.oneCell'])) rfl rfl fun a_250 HE251 => ?_
            refine pl fun K_252 hK253 => ?_
            refine st_store (vs := [.int .i64 (0), .slice none (0) 0, .slice none (0) 0]) 7 HE251 HH169 tv_28 rfl rfl rfl rfl rfl rfl (by simp [Value.oneCell']) (wt0 rfl) fun w' HH254 => hK253 _ _ ?_
            refine pl_x HE251 HH254 (wt0 rfl) (x_assign rfl) rfl rfl fun a_255 HE256 => ?_
            refine wpList_nil ?_
            clear a_248 HE249 HH169 a_250 HE251 hK253 K_252
            refine nrm ?_
            refine wp_ret ?_
            refine (thn_ret ?_)
            refine ret2 HE256 rfl (rv_cell rfl (tv_28.loadN (cs := [.int .i64 (0), .slice none (0) 0, .slice none (0) 0]) rfl (c_blkN 7 rfl _ HH254))) (rv_tmp rfl) ?_
            have HH257 := HH254.flatO (E := eConfig) (cs := [.int .i64 (0), .slice none (0) 0, .slice none (0) 0]) (x := (0, [], [])) (fun _ => (oPrN (oI (by exact ⟨by omega, by omega⟩)) (oPrN (oSl (So.nil (Nat.zero_le _))) (oSl (So.nil (Nat.zero_le _))))))
            have hF : (rdCfI a0 a1) = ((0, [], []), false) := by
              rw [← rdCf_eq]; first | (unfold rdCfS; exact if_neg (fun hh => ff hh.1 (by assumption))) | (unfold rdCfS; exact if_neg (fun hh => by omega)) | exact rdCfS_len rfl (by omega) hz1 (by omega) | (rw [rdCfS_eq (by assumption) rfl (by omega) (by omega) hz0 hz1 rfl (by omega) (by omega) hy0 hy1]; first | (rw [if_pos ⟨⟨by assumption, by assumption, by assumption⟩, by assumption⟩]; rfl) | (exact if_neg (fun hh => ff hh.1.1 (by assumption))) | (exact if_neg (fun hh => ff hh.1.2.1 (by assumption))) | (exact if_neg (fun hh => ff hh.1.2.2 (by assumption))) | (exact if_neg (fun hh => ff hh.2 (by assumption))))
            exact ⟨_, by first | (rw [hF] <;> rfl) | rfl | (rw [hF]; simp only [Ending.returned.injEq, Value.slice.injEq, true_and, and_true]; first | omega | (simp; done)) | (rw [hF]; simp; omega), by rw [hF]; exact (HH257.o (i := 0) rfl), HH257.below⟩
        · refine pl_no HE175 (wtF HE175 rfl rfl rfl (not_t hc43)) rfl rfl fun a_258 HE259 => ?_
          refine pl_no HE259 (wtF HE259 rfl rfl rfl (not_t hc43)) rfl rfl fun a_260 HE261 => ?_
          refine pl_x HE261 HH169 (wt0 rfl) (x_pickT rfl (not_t hc43) rfl) rfl rfl fun a_262 HE263 => ?_
          refine pl_x HE263 HH169 (wt0 rfl) (x_move rfl) rfl rfl fun a_264 HE265 => ?_
          refine pl_no HE265 (wtF HE265 rfl rfl rfl rfl) rfl rfl fun a_266 HE267 => ?_
          refine pl_no HE267 (wtF HE267 rfl rfl rfl rfl) rfl rfl fun a_268 HE269 => ?_
          refine pl_x HE269 HH169 (wt0 rfl) (x_pickT rfl rfl rfl) rfl rfl fun a_270 HE271 => ?_
          refine pl_x HE271 HH169 (wt0 rfl) (x_move rfl) rfl rfl fun a_272 HE273 => ?_
          refine pl_no HE273 (wtF HE273 rfl rfl rfl rfl) rfl rfl fun a_274 HE275 => ?_
          refine pl_no HE275 (wtF HE275 rfl rfl rfl rfl) rfl rfl fun a_276 HE277 => ?_
          refine pl_x HE277 HH169 (wt0 rfl) (x_pickT rfl rfl rfl) rfl rfl fun a_278 HE279 => ?_
          refine wpList_nil ?_
          clear a_164 HE165 a_170 HE171 a_172 HE173 a_174 HE175 a_258 HE259 a_260 HE261 a_262 HE263 a_264 HE265 a_266 HE267 a_268 HE269 a_270 HE271 a_272 HE273 a_274 HE275 a_276 HE277
          refine nrm ?_
          refine cndT HE279 rfl rfl ?_
          refine wp_seq ?_
          refine rg ?_
          refine pl_x HE279 HH169 (wt0 rfl) (show XS _ _ _ _ (.agg #[.int .i64 (0), .slice none (0) 0, .slice none (0) 0]) from x_build (vs := []) tb_28 rfl (by simp [Value.oneCell'])) rfl rfl fun a_280 HE281 => ?_
          refine pl fun K_282 hK283 => ?_
          refine st_store (vs := [.int .i64 (0), .slice none (0) 0, .slice none (0) 0]) 7 HE281 HH169 tv_28 rfl rfl rfl rfl rfl rfl (by simp [Value.oneCell']) (wt0 rfl) fun w' HH284 => hK283 _ _ ?_
          refine pl_x HE281 HH284 (wt0 rfl) (x_assign rfl) rfl rfl fun a_285 HE286 => ?_
          refine wpList_nil ?_
          clear a_278 HE279 HH169 a_280 HE281 hK283 K_282
          refine nrm ?_
          refine wp_ret ?_
          refine (thn_ret ?_)
          refine ret2 HE286 rfl (rv_cell rfl (tv_28.loadN (cs := [.int .i64 (0), .slice none (0) 0, .slice none (0) 0]) rfl (c_blkN 7 rfl _ HH284))) (rv_tmp rfl) ?_
          have HH287 := HH284.flatO (E := eConfig) (cs := [.int .i64 (0), .slice none (0) 0, .slice none (0) 0]) (x := (0, [], [])) (fun _ => (oPrN (oI (by exact ⟨by omega, by omega⟩)) (oPrN (oSl (So.nil (Nat.zero_le _))) (oSl (So.nil (Nat.zero_le _))))))
          have hF : (rdCfI a0 a1) = ((0, [], []), false) := by
            rw [← rdCf_eq]; first | (unfold rdCfS; exact if_neg (fun hh => ff hh.1 (by assumption))) | (unfold rdCfS; exact if_neg (fun hh => by omega)) | exact rdCfS_len rfl (by omega) hz1 (by omega) | (rw [rdCfS_eq (by assumption) rfl (by omega) (by omega) hz0 hz1 rfl (by omega) (by omega) hy0 hy1]; first | (rw [if_pos ⟨⟨by assumption, by assumption, by assumption⟩, by assumption⟩]; rfl) | (exact if_neg (fun hh => ff hh.1.1 (by assumption))) | (exact if_neg (fun hh => ff hh.1.2.1 (by assumption))) | (exact if_neg (fun hh => ff hh.1.2.2 (by assumption))) | (exact if_neg (fun hh => ff hh.2 (by assumption))))
          exact ⟨_, by first | (rw [hF] <;> rfl) | rfl | (rw [hF]; simp only [Ending.returned.injEq, Value.slice.injEq, true_and, and_true]; first | omega | (simp; done)) | (rw [hF]; simp; omega), by rw [hF]; exact (HH287.o (i := 0) rfl), HH287.below⟩

open Go.Lib in
set_option maxRecDepth 100000 in
set_option maxHeartbeats 4000000 in
theorem law_ReadConfig (es0 : List Value) (a0 : tMachine) (a1 : List UInt8) (w : World) (h0 : eMachine.R w (Old w) es0 a0) (h1 : a1.length ≤ 9223372036854775807) (hG : Glob2 w) :
    Calls Tryz.prog 3 #[.agg es0.toArray, .string (bs a1)] w fun e w' => e = .returned (.bool true) ∧ Below w.heap.size w w' := by
  have H0 := h0
  obtain ⟨Az0_2, cz0_2, rfl, gz0_0, gz0_1, gz0_2⟩ := shape_Machine h0
  have jz0_0 := gz0_0; unfold I64 at jz0_0
  have jz0_1 := gz0_1; unfold I64 at jz0_1
  have lz0_2 := gz0_2.len
  have m0 := cv_cost_Machine a0
  have n0 : (cv_Config (rdCfI a0 a1).1 : Int) ≤ 1000000000 := rdCf_ct a0 a1
  have HH1 := Held.start Nob w
  refine enter (n := 104) Tryz.func3 rfl rfl rfl fun a_2 HE3 => ?_
  refine wp_seq ?_
  refine rg ?_
  refine pl fun K_4 hK5 => ?_
  refine st_box (cs := [.int .i64 (a0.1), .int .i64 (a0.2.1), .slice Az0_2 (a0.2.2.length) cz0_2]) HE3 HH1 rfl rfl (wt0 rfl) rfl fun q21 a_6 w' HE7 HH8 => hK5 _ _ ?_
  refine pl_x HE7 HH8 (wt0 rfl) (x_assign rfl) rfl rfl fun a_9 HE10 => ?_
  refine wpList_nil ?_
  clear a_2 HE3 HH1 a_6 HE7 hK5 K_4
  refine nrm ?_
  refine wp_seq ?_
  refine wp_seq ?_
  refine rg ?_
  refine pl_x HE10 HH8 (wt0 rfl) (x_move rfl) rfl rfl fun a_11 HE12 => ?_
  refine pl_x HE12 HH8 (wt0 rfl) (x_lenB Tryz.underlying9 rfl) rfl rfl fun a_13 HE14 => ?_
  refine pl_x HE14 HH8 (wt0 rfl) (x_gtr rfl rfl) rfl rfl fun a_15 HE16 => ?_
  refine wpList_nil ?_
  clear a_9 HE10 a_11 HE12 a_13 HE14
  refine nrm ?_
  refine cnd_d HE16 rfl (fun hc22 => ?_) (fun hc22 => ?_)
  · refine wp_seq ?_
    refine rg ?_
    refine pl_x HE16 HH8 (wt0 rfl) (x_assign rfl) rfl rfl fun a_17 HE18 => ?_
    refine wpList_nil ?_
    clear a_15 HE16
    refine nrm ?_
    refine wp_ret ?_
    refine (thn_ret ?_)
    refine ret1 HE18 rfl (rv_tmp rfl) ?_
    have hF : true = true := by
      first | rfl | (exfalso; omega)
    exact ⟨by first | (rw [hF] <;> rfl) | rfl | (rw [hF]; simp only [Ending.returned.injEq, Value.slice.injEq, true_and, and_true]; first | omega | (simp; done)) | (rw [hF]; simp; omega), HH8.below⟩
  · refine wp_skip ?_
    refine nrm ?_
    refine wp_seq ?_
    refine rg ?_
    refine pl_x HE16 HH8 (wt0 rfl) (x_assign rfl) rfl rfl fun a_19 HE20 => ?_
    refine wpList_nil ?_
    clear a_15 HE16
    refine nrm ?_
    refine wp_seq ?_
    refine rg ?_
    refine pl_x HE20 HH8 (wt0 rfl) (x_loadN (cs := [.int .i64 (a0.1), .int .i64 (a0.2.1), .slice Az0_2 (a0.2.2.length) cz0_2]) tv_24 rfl rfl (c_blkN 0 rfl)) rfl rfl fun a_21 HE22 => ?_
    refine pl_x HE22 HH8 (wt0 rfl) (x_move rfl) rfl rfl fun a_23 HE24 => ?_
    refine pl fun K_25 hK26 => ?_
    refine st_call HE24 (wt0 rfl) rfl rfl rfl en_5 rfl rfl (sz_Machine [.int .i64 (a0.1), .int .i64 (a0.2.1), .slice Az0_2 (a0.2.2.length) cz0_2] a0 1048576 _ (HH8.oldR H0) (by omega) (by omega)) fun e w' hr => ?_
    obtain ⟨rfl, hbr23⟩ := hr
    have HH27 := HH8.on hbr23
    clear hbr23
    refine ⟨_, rfl, fun a_28 HE29 => hK26 _ _ ?_⟩
    refine pl_x HE29 HH27 (wt0 rfl) (x_assign rfl) rfl rfl fun a_30 HE31 => ?_
    refine wpList_nil ?_
    clear a_19 HE20 a_21 HE22 HH8 a_23 HE24 a_28 HE29 hK26 K_25
    refine nrm ?_
    refine wp_seq ?_
    refine wp_seq ?_
    refine rg ?_
    refine pl_x HE31 HH27 (wt0 rfl) (x_move rfl) rfl rfl fun a_32 HE33 => ?_
    refine pl_x HE33 HH27 (wt0 rfl) (x_lss rfl rfl) rfl rfl fun a_34 HE35 => ?_
    refine wpList_nil ?_
    clear a_30 HE31 a_32 HE33
    refine nrm ?_
    refine cnd_d HE35 rfl (fun hc24 => ?_) (fun hc24 => ?_)
    · refine wp_seq ?_
      refine rg ?_
      refine pl_x HE35 HH27 (wt0 rfl) (x_assign rfl) rfl rfl fun a_36 HE37 => ?_
      refine wpList_nil ?_
      clear a_34 HE35
      refine nrm ?_
      refine wp_ret ?_
      refine (thn_ret ?_)
      refine ret1 HE37 rfl (rv_tmp rfl) ?_
      have hF : true = true := by
        first | rfl | (exfalso; omega)
      exact ⟨by first | (rw [hF] <;> rfl) | rfl | (rw [hF]; simp only [Ending.returned.injEq, Value.slice.injEq, true_and, and_true]; first | omega | (simp; done)) | (rw [hF]; simp; omega), HH27.below⟩
    · have zr23 := left_ok hc24
      refine wp_skip ?_
      refine nrm ?_
      refine wp_seq ?_
      refine rg ?_
      refine pl_x HE35 HH27 (wt0 rfl) (x_loadN (cs := [.int .i64 (a0.1), .int .i64 (a0.2.1), .slice Az0_2 (a0.2.2.length) cz0_2]) tv_24 rfl rfl (c_blkN 0 rfl)) rfl rfl fun a_38 HE39 => ?_
      refine pl fun K_40 hK41 => ?_
      refine st_call HE39 (wt0 rfl) rfl rfl rfl en_7 rfl rfl (to_Machine [.int .i64 (a0.1), .int .i64 (a0.2.1), .slice Az0_2 (a0.2.2.length) cz0_2] a0 _ (HH27.oldR H0) (by omega)) fun e w' hr => ?_
      obtain ⟨esr25, rfl, hor25, hbr25⟩ := hr
      have hr := eMachine.read hor25
      obtain ⟨Sr25, HH42⟩ := HH27.newO hbr25 hor25
      obtain ⟨Ar25_2, cr25_2, rfl, gr25_0, gr25_1, gr25_2⟩ := shape_Machine hr
      clear hbr25 hor25 gr25_0 gr25_1 gr25_2
      refine ⟨_, rfl, fun a_43 HE44 => hK41 _ _ ?_⟩
      refine pl_x HE44 HH42 (wt0 rfl) (x_move rfl) rfl rfl fun a_45 HE46 => ?_
      refine pl fun K_47 hK48 => ?_
      refine st_call HE46 (wt0 rfl) rfl rfl rfl en_6 rfl rfl (spec_ReadConfig [.int .i64 (a0.1), .int .i64 (a0.2.1), .slice Ar25_2 (a0.2.2.length) cr25_2] a0 a1 _ (HH42.rd (i := 0) rfl) (by omega)) fun e w' hr => ?_
      obtain ⟨esr26_0, rfl, hor26_0, hbr26⟩ := hr
      have hr := eConfig.read hor26_0
      obtain ⟨Sr26, HH49⟩ := HH42.newO hbr26 hor26_0
      obtain ⟨Ar26_0_1, cr26_0_1, Ar26_0_2, cr26_0_2, rfl, gr26_0_0, gr26_0_1, gr26_0_2⟩ := shape_Config hr
      have jr26_0_0 := gr26_0_0; unfold I64 at jr26_0_0
      refine ⟨_, rfl, fun a_50 HE51 => hK48 _ _ ?_⟩
      refine pl_x HE51 HH49 (wt0 rfl) (x_move rfl) rfl rfl fun a_52 HE53 => ?_
      refine pl_x HE53 HH49 (wt0 rfl) (x_extract rfl rfl) rfl rfl fun a_54 HE55 => ?_
      refine pl_x HE55 HH49 (wt0 rfl) (x_extract rfl rfl) rfl rfl fun a_56 HE57 => ?_
      refine pl fun K_58 hK59 => ?_
      refine st_alloc HE57 HH49 tv_28 (wt0 rfl) rfl fun q27 a_60 w' HE61 HH62 => hK59 _ _ ?_
      refine pl fun K_63 hK64 => ?_
      refine st_store (vs := [.int .i64 ((rdCfI a0 a1).1.1), .slice Ar26_0_1 ((rdCfI a0 a1).1.2.1.length) cr26_0_1, .slice Ar26_0_2 ((rdCfI a0 a1).1.2.2.length) cr26_0_2]) 0 HE61 HH62 tv_28 rfl rfl rfl rfl rfl rfl (by simp [Value.oneCell']) (wt0 rfl) fun w' HH65 => hK64 _ _ ?_
      refine pl_x HE61 HH65 (wt0 rfl) (x_assign rfl) rfl rfl fun a_66 HE67 => ?_
      refine wpList_nil ?_
      clear a_34 HE35 HH27 a_38 HE39 a_43 HE44 K_40 hK41 HH42 a_45 HE46 a_50 HE51 a_52 HE53 a_54 HE55 K_47 hK48 a_56 HE57 HH49 K_58 hK59 HH62 a_60 HE61 hK64 K_63
      refine nrm ?_
      refine wp_seq ?_
      refine rg ?_
      refine pl_x HE67 HH65 (wt0 rfl) (x_loadN (cs := [.int .i64 (a0.1), .int .i64 (a0.2.1), .slice Az0_2 (a0.2.2.length) cz0_2]) tv_24 rfl rfl (c_blkN 3 rfl)) rfl rfl fun a_68 HE69 => ?_
      refine pl fun K_70 hK71 => ?_
      refine st_call HE69 (wt0 rfl) rfl rfl rfl en_7 rfl rfl (to_Machine [.int .i64 (a0.1), .int .i64 (a0.2.1), .slice Az0_2 (a0.2.2.length) cz0_2] a0 _ (HH65.oldR H0) (by omega)) fun e w' hr => ?_
      obtain ⟨esr28, rfl, hor28, hbr28⟩ := hr
      have hr := eMachine.read hor28
      obtain ⟨Sr28, HH72⟩ := HH65.newO hbr28 hor28
      obtain ⟨Ar28_2, cr28_2, rfl, gr28_0, gr28_1, gr28_2⟩ := shape_Machine hr
      clear hbr28 hor28 gr28_0 gr28_1 gr28_2
      refine ⟨_, rfl, fun a_73 HE74 => hK71 _ _ ?_⟩
      refine pl fun K_75 hK76 => ?_
      refine st_alloc HE74 HH72 tv_33 (wt0 rfl) rfl fun q29 a_77 w' HE78 HH79 => hK76 _ _ ?_
      refine pl fun K_80 hK81 => ?_
      refine st_store (vs := [.int .i64 (a0.1), .int .i64 (a0.2.1), .slice Ar28_2 (a0.2.2.length) cr28_2]) 0 HE78 HH79 tv_33 rfl rfl rfl rfl rfl rfl (by simp [Value.oneCell']) (wt0 rfl) fun w' HH82 => hK81 _ _ ?_
      refine wpList_nil ?_
      clear a_66 HE67 HH65 a_68 HE69 K_70 hK71 a_73 HE74 HH72 K_75 hK76 HH79 hK81 K_80
      refine nrm ?_
      refine wp_seq ?_
      refine rg ?_
      refine pl_x HE78 HH82 (wt0 rfl) (x_loadN (cs := [.int .i64 (a0.1), .int .i64 (a0.2.1), .slice Ar28_2 (a0.2.2.length) cr28_2]) tv_33 rfl rfl (c_blkN 0 rfl)) rfl rfl fun a_83 HE84 => ?_
      refine pl_x HE84 HH82 (wt0 rfl) (x_move rfl) rfl rfl fun a_85 HE86 => ?_
      refine pl fun K_87 hK88 => ?_
      refine st_call HE86 (wt0 rfl) rfl rfl rfl en_8 rfl rfl (impl_ReadConfig [.int .i64 (a0.1), .int .i64 (a0.2.1), .slice Ar28_2 (a0.2.2.length) cr28_2] a0 a1 _ (HH82.rd (i := 1) rfl) (HH82.glob2 hG) (by omega)) fun e w' hr => ?_
      obtain ⟨esr30_0, rfl, hor30_0, hbr30⟩ := hr
      have hr := eConfig.read hor30_0
      obtain ⟨Sr30, HH89⟩ := HH82.newO hbr30 hor30_0
      obtain ⟨Ar30_0_1, cr30_0_1, Ar30_0_2, cr30_0_2, rfl, gr30_0_0, gr30_0_1, gr30_0_2⟩ := shape_Config hr
      have jr30_0_0 := gr30_0_0; unfold I64 at jr30_0_0
      refine ⟨_, rfl, fun a_90 HE91 => hK88 _ _ ?_⟩
      refine pl_x HE91 HH89 (wt0 rfl) (x_move rfl) rfl rfl fun a_92 HE93 => ?_
      refine pl_x HE93 HH89 (wt0 rfl) (x_extract rfl rfl) rfl rfl fun a_94 HE95 => ?_
      refine pl_x HE95 HH89 (wt0 rfl) (x_extract rfl rfl) rfl rfl fun a_96 HE97 => ?_
      refine pl fun K_98 hK99 => ?_
      refine st_alloc HE97 HH89 tv_28 (wt0 rfl) rfl fun q31 a_100 w' HE101 HH102 => hK99 _ _ ?_
      refine pl fun K_103 hK104 => ?_
      refine st_store (vs := [.int .i64 ((rdCfI a0 a1).1.1), .slice Ar30_0_1 ((rdCfI a0 a1).1.2.1.length) cr30_0_1, .slice Ar30_0_2 ((rdCfI a0 a1).1.2.2.length) cr30_0_2]) 0 HE101 HH102 tv_28 rfl rfl rfl rfl rfl rfl (by simp [Value.oneCell']) (wt0 rfl) fun w' HH105 => hK104 _ _ ?_
      refine pl_x HE101 HH105 (wt0 rfl) (x_assign rfl) rfl rfl fun a_106 HE107 => ?_
      refine wpList_nil ?_
      clear a_77 HE78 a_83 HE84 HH82 a_85 HE86 a_90 HE91 a_92 HE93 a_94 HE95 K_87 hK88 a_96 HE97 HH89 K_98 hK99 HH102 a_100 HE101 hK104 K_103
      refine nrm ?_
      refine wp_seq ?_
      refine wp_seq ?_
      refine rg ?_
      refine pl_x HE107 HH105 (wt0 rfl) (x_loadN (cs := [.int .i64 ((rdCfI a0 a1).1.1), .slice Ar30_0_1 ((rdCfI a0 a1).1.2.1.length) cr30_0_1, .slice Ar30_0_2 ((rdCfI a0 a1).1.2.2.length) cr30_0_2]) tv_28 rfl rfl (c_blkN 0 rfl)) rfl rfl fun a_108 HE109 => ?_
      refine pl_x HE109 HH105 (wt0 rfl) (x_loadN (cs := [.int .i64 ((rdCfI a0 a1).1.1), .slice Ar26_0_1 ((rdCfI a0 a1).1.2.1.length) cr26_0_1, .slice Ar26_0_2 ((rdCfI a0 a1).1.2.2.length) cr26_0_2]) tv_28 rfl rfl (c_blkN 4 rfl)) rfl rfl fun a_110 HE111 => ?_
      refine pl fun K_112 hK113 => ?_
      refine st_call HE111 (wt0 rfl) rfl rfl rfl en_9 rfl rfl (eq_Config_c [.int .i64 ((rdCfI a0 a1).1.1), .slice Ar30_0_1 ((rdCfI a0 a1).1.2.1.length) cr30_0_1, .slice Ar30_0_2 ((rdCfI a0 a1).1.2.2.length) cr30_0_2] [.int .i64 ((rdCfI a0 a1).1.1), .slice Ar26_0_1 ((rdCfI a0 a1).1.2.1.length) cr26_0_1, .slice Ar26_0_2 ((rdCfI a0 a1).1.2.2.length) cr26_0_2] ((rdCfI a0 a1).1) ((rdCfI a0 a1).1) _ (HH105.rd (i := 1) rfl) (HH105.rd (i := 5) rfl)) fun e w' hr => ?_
      obtain ⟨rfl, hbr32⟩ := hr
      have HH114 := HH105.on hbr32
      clear hbr32
      refine ⟨_, rfl, fun a_115 HE116 => hK113 _ _ ?_⟩
      refine pl_x HE116 HH114 (wt0 rfl) (x_not rfl) rfl rfl fun a_117 HE118 => ?_
      refine pl_x HE118 HH114 (wt0 rfl) (x_move rfl) rfl rfl fun a_119 HE120 => ?_
      refine pl_x HE120 HH114 (wtT HE120 rfl rfl rfl (not_f (eq_Config_refl _))) (x_move rfl) rfl rfl fun a_121 HE122 => ?_
      refine pl_x HE122 HH114 (wtT HE122 rfl rfl rfl (not_f (eq_Config_refl _))) (x_move rfl) rfl rfl fun a_123 HE124 => ?_
      refine pl_x HE124 HH114 (wtT HE124 rfl rfl rfl (not_f (eq_Config_refl _))) (x_bneq Tryz.underlying4 rfl rfl) rfl rfl fun a_125 HE126 => ?_
      refine pl_x HE126 HH114 (wt0 rfl) (x_pickF rfl (not_f (eq_Config_refl _)) rfl) rfl rfl fun a_127 HE128 => ?_
      refine wpList_nil ?_
      clear a_106 HE107 a_108 HE109 HH105 a_110 HE111 a_115 HE116 a_117 HE118 a_119 HE120 a_121 HE122 a_123 HE124 a_125 HE126 hK113 K_112
      refine nrm ?_
      refine cndF HE128 rfl (not_f (beq_self_eq_true _)) ?_
      refine wp_skip ?_
      refine nrm ?_
      refine wp_seq ?_
      refine wp_seq ?_
      refine dr_start (Held Nob w [rBlk q31 28 [.int .i64 ((rdCfI a0 a1).1.1), .slice Ar30_0_1 ((rdCfI a0 a1).1.2.1.length) cr30_0_1, .slice Ar30_0_2 ((rdCfI a0 a1).1.2.2.length) cr30_0_2], rO eConfig Sr30 [.int .i64 ((rdCfI a0 a1).1.1), .slice Ar30_0_1 ((rdCfI a0 a1).1.2.1.length) cr30_0_1, .slice Ar30_0_2 ((rdCfI a0 a1).1.2.2.length) cr30_0_2] ((rdCfI a0 a1).1), rBlk q29 33 [.int .i64 (a0.1), .int .i64 (a0.2.1), .slice Ar28_2 (a0.2.2.length) cr28_2], rO eMachine Sr28 [.int .i64 (a0.1), .int .i64 (a0.2.1), .slice Ar28_2 (a0.2.2.length) cr28_2] a0, rBlk q27 28 [.int .i64 ((rdCfI a0 a1).1.1), .slice Ar26_0_1 ((rdCfI a0 a1).1.2.1.length) cr26_0_1, .slice Ar26_0_2 ((rdCfI a0 a1).1.2.2.length) cr26_0_2], rO eConfig Sr26 [.int .i64 ((rdCfI a0 a1).1.1), .slice Ar26_0_1 ((rdCfI a0 a1).1.2.1.length) cr26_0_1, .slice Ar26_0_2 ((rdCfI a0 a1).1.2.2.length) cr26_0_2] ((rdCfI a0 a1).1), rO eMachine Sr25 [.int .i64 (a0.1), .int .i64 (a0.2.1), .slice Ar25_2 (a0.2.2.length) cr25_2] a0, rBlk q21 24 [.int .i64 (a0.1), .int .i64 (a0.2.1), .slice Az0_2 (a0.2.2.length) cz0_2]]) 5 #[false, false, false, false, false] hmix rfl rfl HH114 (fun _ h => h.sel [0, 1, 2, 3, 4, 5, 6, 7] (by decide) rfl) fun w' HH129 => ?_
      have HS130 := HH129
      refine dr_take (i := 0) (ls' := #[true, false, false, false, false]) HE128 HS130 rfl (by kernel_rfl) (by kernel_rfl) (by kernel_rfl) (fun _ _ _ h => h) rfl (wt0 rfl) (x_loadN (cs := [.int .i64 (a0.1), .int .i64 (a0.2.1), .slice Ar28_2 (a0.2.2.length) cr28_2]) tv_33 rfl rfl (c_blkN 2 rfl)) rfl rfl fun a_131 HE132 => ?_
      refine dr_take (i := 1) (ls' := #[true, true, false, false, false]) HE132 HS130 rfl (by kernel_rfl) (by kernel_rfl) (by kernel_rfl) (fun _ _ _ h => h) rfl (wt0 rfl) (x_loadN (cs := [.int .i64 (a0.1), .int .i64 (a0.2.1), .slice Az0_2 (a0.2.2.length) cz0_2]) tv_24 rfl rfl (c_blkN 7 rfl)) rfl rfl fun a_133 HE134 => ?_
      refine dr_one (i := 2) (ls' := #[true, true, true, false, false]) rfl (by kernel_rfl) rfl fun K_135 hK136 => ?_
      refine st_call HE134 (wt0 rfl) rfl rfl rfl en_7 rfl rfl (to_Machine [.int .i64 (a0.1), .int .i64 (a0.2.1), .slice Az0_2 (a0.2.2.length) cz0_2] a0 _ (HH129.oldR H0) (by omega)) fun e w' hr => ?_
      obtain ⟨esr33, rfl, hor33, hbr33⟩ := hr
      have hr := eMachine.read hor33
      obtain ⟨Sr33, HH137⟩ := HH129.newO hbr33 hor33
      obtain ⟨Ar33_2, cr33_2, rfl, gr33_0, gr33_1, gr33_2⟩ := shape_Machine hr
      clear hbr33 hor33 gr33_0 gr33_1 gr33_2
      refine ⟨_, rfl, fun a_138 HE139 => hK136 _ _ (by exact HH137.sel [1, 2, 3, 4, 5, 6, 7, 8] (by decide) rfl) ?_⟩
      have HS140 := HH137.sel [1, 2, 3, 4, 5, 6, 7, 8] (by decide) rfl
      refine dr_one (i := 3) (ls' := #[true, true, true, true, false]) rfl (by kernel_rfl) rfl fun K_141 hK142 => ?_
      refine st_call HE139 (wt0 rfl) rfl rfl rfl en_10 rfl rfl (eq_Machine_c [.int .i64 (a0.1), .int .i64 (a0.2.1), .slice Ar28_2 (a0.2.2.length) cr28_2] [.int .i64 (a0.1), .int .i64 (a0.2.1), .slice Ar33_2 (a0.2.2.length) cr33_2] a0 a0 _ (HH137.rd (i := 4) rfl) (HH137.rd (i := 0) rfl)) fun e w' hr => ?_
      obtain ⟨rfl, hbr34⟩ := hr
      have HH143 := HH137.on hbr34
      clear hbr34
      refine ⟨_, rfl, fun a_144 HE145 => hK142 _ _ (by exact HH143.sel [1, 2, 3, 4, 5, 6, 7, 8] (by decide) rfl) ?_⟩
      have HS146 := HH143.sel [1, 2, 3, 4, 5, 6, 7, 8] (by decide) rfl
      refine dr_take (i := 4) (ls' := #[true, true, true, true, true]) HE145 HS146 rfl (by kernel_rfl) (by kernel_rfl) (by kernel_rfl) (fun _ _ _ h => h) rfl (wt0 rfl) (x_not rfl) rfl rfl fun a_147 HE148 => ?_
      refine dr_done (by kernel_rfl) ?_
      clear HH114 a_127 HE128 a_131 HE132 HH129 a_133 HE134 HS130 K_135 hK136 HH137 a_138 HE139 HS140 a_144 HE145 hK142 K_141
      refine nrm ?_
      refine cndF HE148 rfl (not_f (eq_Machine_refl _)) ?_
      refine wp_skip ?_
      refine nrm ?_
      refine wp_seq ?_
      refine rg ?_
      refine pl_x HE148 HH143 (wt0 rfl) (x_assign rfl) rfl rfl fun a_149 HE150 => ?_
      refine wpList_nil ?_
      clear a_147 HE148
      refine nrm ?_
      refine wp_seq ?_
      refine rg ?_
      refine pl_x HE150 HH143 (wt0 rfl) (x_loadN (cs := [.int .i64 (a0.1), .int .i64 (a0.2.1), .slice Ar28_2 (a0.2.2.length) cr28_2]) tv_33 rfl rfl (c_blkN 3 rfl)) rfl rfl fun a_151 HE152 => ?_
      refine pl_x HE152 HH143 (wt0 rfl) (x_move rfl) rfl rfl fun a_153 HE154 => ?_
      refine pl fun K_155 hK156 => ?_
      refine st_call HE154 (wt0 rfl) rfl rfl rfl en_11 rfl rfl (mark_Machine_c [.int .i64 (a0.1), .int .i64 (a0.2.1), .slice Ar28_2 (a0.2.2.length) cr28_2] a0 1 _ _ (HH143.get (i := 4) rfl) (HH143.lt (i := 4) rfl) (by omega) (by omega)) fun e w' hr => ?_
      obtain ⟨rfl, hsr35, hcr35⟩ := hr
      have HH157 := HH143.mut (i := 4) rfl hcr35 (rO eMachine Sr28 [.int .i64 (a0.1), .int .i64 (a0.2.1), .slice Ar28_2 (a0.2.2.length) cr28_2] (mv_Machine a0 1)) hsr35 (fun b hb => .inl hb)
      clear hsr35 hcr35
      refine ⟨_, rfl, fun a_158 HE159 => hK156 _ _ ?_⟩
      refine pl_x HE159 HH157 (wt0 rfl) (x_assign rfl) rfl rfl fun a_160 HE161 => ?_
      refine wpList_nil ?_
      clear a_149 HE150 a_151 HE152 HH143 a_153 HE154 a_158 HE159 hK156 K_155
      refine nrm ?_
      refine wp_seq ?_
      refine wp_seq ?_
      refine rg ?_
      refine pl_x HE161 HH157 (wt0 rfl) (x_move rfl) rfl rfl fun a_162 HE163 => ?_
      refine pl_x HE163 HH157 (wt0 rfl) (x_lss rfl rfl) rfl rfl fun a_164 HE165 => ?_
      refine pl_x HE165 HH157 (wt0 rfl) (x_move rfl) rfl rfl fun a_166 HE167 => ?_
      by_cases hc36 : (1 + (cv_Machine a0 : Int)) < 0
      · refine pl_no HE167 (wtF HE167 rfl rfl rfl (decide_eq_true hc36)) rfl rfl fun a_168 HE169 => ?_
        refine pl_no HE169 (wtF HE169 rfl rfl rfl (decide_eq_true hc36)) rfl rfl fun a_170 HE171 => ?_
        refine pl_no HE171 (wtF HE171 rfl rfl rfl (decide_eq_true hc36)) rfl rfl fun a_172 HE173 => ?_
        refine pl_no HE173 (wtF HE173 rfl rfl rfl (decide_eq_true hc36)) rfl rfl fun a_174 HE175 => ?_
        refine pl_x HE175 HH157 (wt0 rfl) (x_pickT rfl (decide_eq_true hc36) rfl) rfl rfl fun a_176 HE177 => ?_
        refine pl_x HE177 HH157 (wt0 rfl) (x_move rfl) rfl rfl fun a_178 HE179 => ?_
        refine pl_no HE179 (wtF HE179 rfl rfl rfl rfl) rfl rfl fun a_180 HE181 => ?_
        refine pl_no HE181 (wtF HE181 rfl rfl rfl rfl) rfl rfl fun a_182 HE183 => ?_
        refine pl_no HE183 (wtF HE183 rfl rfl rfl rfl) rfl rfl fun a_184 HE185 => ?_
        refine pl_x HE185 HH157 (wt0 rfl) (x_pickT rfl rfl rfl) rfl rfl fun a_186 HE187 => ?_
        refine wpList_nil ?_
        clear a_160 HE161 a_162 HE163 a_164 HE165 a_166 HE167 a_168 HE169 a_170 HE171 a_172 HE173 a_174 HE175 a_176 HE177 a_178 HE179 a_180 HE181 a_182 HE183 a_184 HE185
        refine nrm ?_
        refine cndT HE187 rfl rfl ?_
        refine wp_seq ?_
        refine rg ?_
        refine pl_x HE187 HH157 (wt0 rfl) (x_assign rfl) rfl rfl fun a_188 HE189 => ?_
        refine wpList_nil ?_
        clear a_186 HE187
        refine nrm ?_
        refine wp_ret ?_
        refine (thn_ret ?_)
        refine ret1 HE189 rfl (rv_tmp rfl) ?_
        have hF : true = false := by
          first | rfl | (exfalso; omega)
        exact ⟨by first | (rw [hF] <;> rfl) | rfl | (rw [hF]; simp only [Ending.returned.injEq, Value.slice.injEq, true_and, and_true]; first | omega | (simp; done)) | (rw [hF]; simp; omega), HH157.below⟩
      · refine pl_x HE167 HH157 (wtT HE167 rfl rfl rfl (decide_eq_false hc36)) (x_loadN (cs := [.int .i64 ((rdCfI a0 a1).1.1), .slice Ar30_0_1 ((rdCfI a0 a1).1.2.1.length) cr30_0_1, .slice Ar30_0_2 ((rdCfI a0 a1).1.2.2.length) cr30_0_2]) tv_28 rfl rfl (c_blkN 1 rfl)) rfl rfl fun a_190 HE191 => ?_
        refine pl_x HE191 HH157 (wtT HE191 rfl rfl rfl (decide_eq_false hc36)) (x_loadN (cs := [.int .i64 ((rdCfI a0 a1).1.1), .slice Ar26_0_1 ((rdCfI a0 a1).1.2.1.length) cr26_0_1, .slice Ar26_0_2 ((rdCfI a0 a1).1.2.2.length) cr26_0_2]) tv_28 rfl rfl (c_blkN 5 rfl)) rfl rfl fun a_192 HE193 => ?_
        refine pl fun K_194 hK195 => ?_
        refine st_call HE193 (wtT HE193 rfl rfl rfl (decide_eq_false hc36)) rfl rfl rfl en_9 rfl rfl (eq_Config_c [.int .i64 ((rdCfI a0 a1).1.1), .slice Ar30_0_1 ((rdCfI a0 a1).1.2.1.length) cr30_0_1, .slice Ar30_0_2 ((rdCfI a0 a1).1.2.2.length) cr30_0_2] [.int .i64 ((rdCfI a0 a1).1.1), .slice Ar26_0_1 ((rdCfI a0 a1).1.2.1.length) cr26_0_1, .slice Ar26_0_2 ((rdCfI a0 a1).1.2.2.length) cr26_0_2] ((rdCfI a0 a1).1) ((rdCfI a0 a1).1) _ (HH157.rd (i := 2) rfl) (HH157.rd (i := 6) rfl)) fun e w' hr => ?_
        obtain ⟨rfl, hbr37⟩ := hr
        have HH196 := HH157.on hbr37
        clear hbr37
        refine ⟨_, rfl, fun a_197 HE198 => hK195 _ _ ?_⟩
        refine pl_x HE198 HH196 (wtT HE198 rfl rfl rfl (decide_eq_false hc36)) (x_not rfl) rfl rfl fun a_199 HE200 => ?_
        refine pl_x HE200 HH196 (wt0 rfl) (x_pickF rfl (decide_eq_false hc36) rfl) rfl rfl fun a_201 HE202 => ?_
        refine pl_x HE202 HH196 (wt0 rfl) (x_move rfl) rfl rfl fun a_203 HE204 => ?_
        refine pl_x HE204 HH196 (wtT HE204 rfl rfl rfl (not_f (eq_Config_refl _))) (x_move rfl) rfl rfl fun a_205 HE206 => ?_
        refine pl_x HE206 HH196 (wtT HE206 rfl rfl rfl (not_f (eq_Config_refl _))) (x_move rfl) rfl rfl fun a_207 HE208 => ?_
        refine pl_x HE208 HH196 (wtT HE208 rfl rfl rfl (not_f (eq_Config_refl _))) (x_bneq Tryz.underlying4 rfl rfl) rfl rfl fun a_209 HE210 => ?_
        refine pl_x HE210 HH196 (wt0 rfl) (x_pickF rfl (not_f (eq_Config_refl _)) rfl) rfl rfl fun a_211 HE212 => ?_
        refine wpList_nil ?_
        clear a_160 HE161 a_162 HE163 a_164 HE165 a_166 HE167 a_190 HE191 HH157 a_192 HE193 a_197 HE198 a_199 HE200 a_201 HE202 a_203 HE204 a_205 HE206 a_207 HE208 a_209 HE210 hK195 K_194
        refine nrm ?_
        refine cndF HE212 rfl (not_f (beq_self_eq_true _)) ?_
        refine wp_skip ?_
        refine nrm ?_
        refine wp_seq ?_
        refine rg ?_
        refine pl_x HE212 HH196 (wt0 rfl) (x_assign rfl) rfl rfl fun a_213 HE214 => ?_
        refine wpList_nil ?_
        clear a_211 HE212
        refine nrm ?_
        refine wp_seq ?_
        refine rg ?_
        refine pl_x HE214 HH196 (wt0 rfl) (x_loadN (cs := [.int .i64 ((rdCfI a0 a1).1.1), .slice Ar30_0_1 ((rdCfI a0 a1).1.2.1.length) cr30_0_1, .slice Ar30_0_2 ((rdCfI a0 a1).1.2.2.length) cr30_0_2]) tv_28 rfl rfl (c_blkN 1 rfl)) rfl rfl fun a_215 HE216 => ?_
        refine pl_x HE216 HH196 (wt0 rfl) (x_move rfl) rfl rfl fun a_217 HE218 => ?_
        refine pl fun K_219 hK220 => ?_
        refine st_call HE218 (wt0 rfl) rfl rfl rfl en_12 rfl rfl (mark_Config_c [.int .i64 ((rdCfI a0 a1).1.1), .slice Ar30_0_1 ((rdCfI a0 a1).1.2.1.length) cr30_0_1, .slice Ar30_0_2 ((rdCfI a0 a1).1.2.2.length) cr30_0_2] ((rdCfI a0 a1).1) 1 _ _ (HH196.get (i := 2) rfl) (HH196.lt (i := 2) rfl) (by omega) (by omega)) fun e w' hr => ?_
        obtain ⟨rfl, hsr38, hcr38⟩ := hr
        have HH221 := HH196.mut (i := 2) rfl hcr38 (rO eConfig Sr30 [.int .i64 ((rdCfI a0 a1).1.1), .slice Ar30_0_1 ((rdCfI a0 a1).1.2.1.length) cr30_0_1, .slice Ar30_0_2 ((rdCfI a0 a1).1.2.2.length) cr30_0_2] (mv_Config ((rdCfI a0 a1).1) 1)) hsr38 (fun b hb => .inl hb)
        clear hsr38 hcr38
        refine ⟨_, rfl, fun a_222 HE223 => hK220 _ _ ?_⟩
        refine pl_x HE223 HH221 (wt0 rfl) (x_assign rfl) rfl rfl fun a_224 HE225 => ?_
        refine wpList_nil ?_
        clear a_213 HE214 a_215 HE216 HH196 a_217 HE218 a_222 HE223 hK220 K_219
        refine nrm ?_
        refine wp_seq ?_
        refine rg ?_
        refine pl_x HE225 HH221 (wt0 rfl) (x_assign rfl) rfl rfl fun a_226 HE227 => ?_
        refine wpList_nil ?_
        clear a_224 HE225
        refine nrm ?_
        refine wp_seq ?_
        refine rg ?_
        refine pl_x HE227 HH221 (wt0 rfl) (x_loadN (cs := [.int .i64 ((rdCfI a0 a1).1.1), .slice Ar30_0_1 ((rdCfI a0 a1).1.2.1.length) cr30_0_1, .slice Ar30_0_2 ((rdCfI a0 a1).1.2.2.length) cr30_0_2]) tv_28 rfl rfl (c_blkN 1 rfl)) rfl rfl fun a_228 HE229 => ?_
        refine pl_x HE229 HH221 (wt0 rfl) (x_move rfl) rfl rfl fun a_230 HE231 => ?_
        refine pl fun K_232 hK233 => ?_
        refine st_call HE231 (wt0 rfl) rfl rfl rfl en_13 rfl rfl (held_Config_c [.int .i64 ((rdCfI a0 a1).1.1), .slice Ar30_0_1 ((rdCfI a0 a1).1.2.1.length) cr30_0_1, .slice Ar30_0_2 ((rdCfI a0 a1).1.2.2.length) cr30_0_2] ((rdCfI a0 a1).1) 1 _ (HH221.rd (i := 2) rfl) (by omega) (by omega)) fun e w' hr => ?_
        obtain ⟨rfl, hbr39⟩ := hr
        have HH234 := HH221.on hbr39
        clear hbr39
        refine ⟨_, rfl, fun a_235 HE236 => hK233 _ _ ?_⟩
        refine pl_x HE236 HH234 (wt0 rfl) (x_assign rfl) rfl rfl fun a_237 HE238 => ?_
        refine wpList_nil ?_
        clear a_226 HE227 a_228 HE229 HH221 a_230 HE231 a_235 HE236 hK233 K_232
        refine nrm ?_
        refine wp_seq ?_
        refine wp_seq ?_
        refine rg ?_
        refine pl_x HE238 HH234 (wt0 rfl) (x_move rfl) rfl rfl fun a_239 HE240 => ?_
        refine pl_x HE240 HH234 (wt0 rfl) (x_lss rfl rfl) rfl rfl fun a_241 HE242 => ?_
        refine wpList_nil ?_
        clear a_237 HE238 a_239 HE240
        refine nrm ?_
        refine cnd_d HE242 rfl (fun hc40 => ?_) (fun hc40 => ?_)
        · refine wp_seq ?_
          refine rg ?_
          refine pl_x HE242 HH234 (wt0 rfl) (x_assign rfl) rfl rfl fun a_243 HE244 => ?_
          refine wpList_nil ?_
          clear a_241 HE242
          refine nrm ?_
          refine wp_ret ?_
          refine (thn_ret ?_)
          refine ret1 HE244 rfl (rv_tmp rfl) ?_
          have hF : true = false := by
            first | rfl | (exfalso; omega)
          exact ⟨by first | (rw [hF] <;> rfl) | rfl | (rw [hF]; simp only [Ending.returned.injEq, Value.slice.injEq, true_and, and_true]; first | omega | (simp; done)) | (rw [hF]; simp; omega), HH234.below⟩
        · refine wp_skip ?_
          refine nrm ?_
          refine wp_seq ?_
          refine wp_seq ?_
          refine rg ?_
          refine pl_x HE242 HH234 (wt0 rfl) (x_move rfl) rfl rfl fun a_245 HE246 => ?_
          refine pl_x HE246 HH234 (wt0 rfl) (x_move rfl) rfl rfl fun a_247 HE248 => ?_
          refine pl_x HE248 HH234 (wt0 rfl) (x_neq rfl rfl) rfl rfl fun a_249 HE250 => ?_
          refine wpList_nil ?_
          clear a_241 HE242 a_245 HE246 a_247 HE248
          refine nrm ?_
          refine cndF HE250 rfl (bne_f rfl) ?_
          refine wp_skip ?_
          refine nrm ?_
          refine wp_seq ?_
          refine rg ?_
          refine pl_x HE250 HH234 (wt0 rfl) (x_loadN (cs := [.int .i64 (a0.1), .int .i64 (a0.2.1), .slice Az0_2 (a0.2.2.length) cz0_2]) tv_24 rfl rfl (c_blkN 8 rfl)) rfl rfl fun a_251 HE252 => ?_
          refine pl fun K_253 hK254 => ?_
          refine st_call HE252 (wt0 rfl) rfl rfl rfl en_7 rfl rfl (to_Machine [.int .i64 (a0.1), .int .i64 (a0.2.1), .slice Az0_2 (a0.2.2.length) cz0_2] a0 _ (HH234.oldR H0) (by omega)) fun e w' hr => ?_
          obtain ⟨esr41, rfl, hor41, hbr41⟩ := hr
          have hr := eMachine.read hor41
          obtain ⟨Sr41, HH255⟩ := HH234.newO hbr41 hor41
          obtain ⟨Ar41_2, cr41_2, rfl, gr41_0, gr41_1, gr41_2⟩ := shape_Machine hr
          clear hbr41 hor41 gr41_0 gr41_1 gr41_2
          refine ⟨_, rfl, fun a_256 HE257 => hK254 _ _ ?_⟩
          refine pl_x HE257 HH255 (wt0 rfl) (x_move rfl) rfl rfl fun a_258 HE259 => ?_
          refine pl fun K_260 hK261 => ?_
          refine st_call HE259 (wt0 rfl) rfl rfl rfl en_8 rfl rfl (impl_ReadConfig [.int .i64 (a0.1), .int .i64 (a0.2.1), .slice Ar41_2 (a0.2.2.length) cr41_2] a0 a1 _ (HH255.rd (i := 0) rfl) (HH255.glob2 hG) (by omega)) fun e w' hr => ?_
          obtain ⟨esr42_0, rfl, hor42_0, hbr42⟩ := hr
          have hr := eConfig.read hor42_0
          obtain ⟨Sr42, HH262⟩ := HH255.newO hbr42 hor42_0
          obtain ⟨Ar42_0_1, cr42_0_1, Ar42_0_2, cr42_0_2, rfl, gr42_0_0, gr42_0_1, gr42_0_2⟩ := shape_Config hr
          have jr42_0_0 := gr42_0_0; unfold I64 at jr42_0_0
          refine ⟨_, rfl, fun a_263 HE264 => hK261 _ _ ?_⟩
          refine pl_x HE264 HH262 (wt0 rfl) (x_move rfl) rfl rfl fun a_265 HE266 => ?_
          refine pl_x HE266 HH262 (wt0 rfl) (x_extract rfl rfl) rfl rfl fun a_267 HE268 => ?_
          refine pl_x HE268 HH262 (wt0 rfl) (x_extract rfl rfl) rfl rfl fun a_269 HE270 => ?_
          refine pl fun K_271 hK272 => ?_
          refine st_alloc HE270 HH262 tv_28 (wt0 rfl) rfl fun q43 a_273 w' HE274 HH275 => hK272 _ _ ?_
          refine pl fun K_276 hK277 => ?_
          refine st_store (vs := [.int .i64 ((rdCfI a0 a1).1.1), .slice Ar42_0_1 ((rdCfI a0 a1).1.2.1.length) cr42_0_1, .slice Ar42_0_2 ((rdCfI a0 a1).1.2.2.length) cr42_0_2]) 0 HE274 HH275 tv_28 rfl rfl rfl rfl rfl rfl (by simp [Value.oneCell']) (wt0 rfl) fun w' HH278 => hK277 _ _ ?_
          refine pl_x HE274 HH278 (wt0 rfl) (x_assign rfl) rfl rfl fun a_279 HE280 => ?_
          refine wpList_nil ?_
          clear a_249 HE250 HH234 a_251 HE252 a_256 HE257 K_253 hK254 HH255 a_258 HE259 a_263 HE264 a_265 HE266 a_267 HE268 K_260 hK261 a_269 HE270 HH262 K_271 hK272 HH275 a_273 HE274 hK277 K_276
          refine nrm ?_
          refine wp_seq ?_
          refine wp_seq ?_
          refine rg ?_
          refine pl_x HE280 HH278 (wt0 rfl) (x_loadN (cs := [.int .i64 ((rdCfI a0 a1).1.1), .slice Ar42_0_1 ((rdCfI a0 a1).1.2.1.length) cr42_0_1, .slice Ar42_0_2 ((rdCfI a0 a1).1.2.2.length) cr42_0_2]) tv_28 rfl rfl (c_blkN 0 rfl)) rfl rfl fun a_281 HE282 => ?_
          refine pl_x HE282 HH278 (wt0 rfl) (x_loadN (cs := [.int .i64 ((rdCfI a0 a1).1.1), .slice Ar26_0_1 ((rdCfI a0 a1).1.2.1.length) cr26_0_1, .slice Ar26_0_2 ((rdCfI a0 a1).1.2.2.length) cr26_0_2]) tv_28 rfl rfl (c_blkN 8 rfl)) rfl rfl fun a_283 HE284 => ?_
          refine pl fun K_285 hK286 => ?_
          refine st_call HE284 (wt0 rfl) rfl rfl rfl en_9 rfl rfl (eq_Config_c [.int .i64 ((rdCfI a0 a1).1.1), .slice Ar42_0_1 ((rdCfI a0 a1).1.2.1.length) cr42_0_1, .slice Ar42_0_2 ((rdCfI a0 a1).1.2.2.length) cr42_0_2] [.int .i64 ((rdCfI a0 a1).1.1), .slice Ar26_0_1 ((rdCfI a0 a1).1.2.1.length) cr26_0_1, .slice Ar26_0_2 ((rdCfI a0 a1).1.2.2.length) cr26_0_2] ((rdCfI a0 a1).1) ((rdCfI a0 a1).1) _ (HH278.rd (i := 1) rfl) (HH278.rd (i := 9) rfl)) fun e w' hr => ?_
          obtain ⟨rfl, hbr44⟩ := hr
          have HH287 := HH278.on hbr44
          clear hbr44
          refine ⟨_, rfl, fun a_288 HE289 => hK286 _ _ ?_⟩
          refine pl_x HE289 HH287 (wt0 rfl) (x_not rfl) rfl rfl fun a_290 HE291 => ?_
          refine pl_x HE291 HH287 (wt0 rfl) (x_move rfl) rfl rfl fun a_292 HE293 => ?_
          refine pl_x HE293 HH287 (wtT HE293 rfl rfl rfl (not_f (eq_Config_refl _))) (x_move rfl) rfl rfl fun a_294 HE295 => ?_
          refine pl_x HE295 HH287 (wtT HE295 rfl rfl rfl (not_f (eq_Config_refl _))) (x_move rfl) rfl rfl fun a_296 HE297 => ?_
          refine pl_x HE297 HH287 (wtT HE297 rfl rfl rfl (not_f (eq_Config_refl _))) (x_bneq Tryz.underlying4 rfl rfl) rfl rfl fun a_298 HE299 => ?_
          refine pl_x HE299 HH287 (wt0 rfl) (x_pickF rfl (not_f (eq_Config_refl _)) rfl) rfl rfl fun a_300 HE301 => ?_
          refine wpList_nil ?_
          clear a_279 HE280 a_281 HE282 HH278 a_283 HE284 a_288 HE289 a_290 HE291 a_292 HE293 a_294 HE295 a_296 HE297 a_298 HE299 hK286 K_285
          refine nrm ?_
          refine cndF HE301 rfl (not_f (beq_self_eq_true _)) ?_
          refine wp_skip ?_
          refine nrm ?_
          refine wp_seq ?_
          refine rg ?_
          refine pl_x HE301 HH287 (wt0 rfl) (x_assign rfl) rfl rfl fun a_302 HE303 => ?_
          refine wpList_nil ?_
          clear a_300 HE301
          refine nrm ?_
          refine wp_seq ?_
          refine rg ?_
          refine pl_x HE303 HH287 (wt0 rfl) (x_loadN (cs := [.int .i64 ((rdCfI a0 a1).1.1), .slice Ar30_0_1 ((rdCfI a0 a1).1.2.1.length) cr30_0_1, .slice Ar30_0_2 ((rdCfI a0 a1).1.2.2.length) cr30_0_2]) tv_28 rfl rfl (c_blkN 4 rfl)) rfl rfl fun a_304 HE305 => ?_
          refine pl_x HE305 HH287 (wt0 rfl) (x_move rfl) rfl rfl fun a_306 HE307 => ?_
          refine pl fun K_308 hK309 => ?_
          refine st_call HE307 (wt0 rfl) rfl rfl rfl en_13 rfl rfl (held_Config_c [.int .i64 ((rdCfI a0 a1).1.1), .slice Ar30_0_1 ((rdCfI a0 a1).1.2.1.length) cr30_0_1, .slice Ar30_0_2 ((rdCfI a0 a1).1.2.2.length) cr30_0_2] ((rdCfI a0 a1).1) 1 _ (HH287.rd (i := 5) rfl) (by omega) (by omega)) fun e w' hr => ?_
          obtain ⟨rfl, hbr45⟩ := hr
          have HH310 := HH287.on hbr45
          clear hbr45
          refine ⟨_, rfl, fun a_311 HE312 => hK309 _ _ ?_⟩
          refine pl_x HE312 HH310 (wt0 rfl) (x_assign rfl) rfl rfl fun a_313 HE314 => ?_
          refine wpList_nil ?_
          clear a_302 HE303 a_304 HE305 HH287 a_306 HE307 a_311 HE312 hK309 K_308
          refine nrm ?_
          refine wp_seq ?_
          refine wp_seq ?_
          refine rg ?_
          refine pl_x HE314 HH310 (wt0 rfl) (x_move rfl) rfl rfl fun a_315 HE316 => ?_
          refine pl_x HE316 HH310 (wt0 rfl) (x_lss rfl rfl) rfl rfl fun a_317 HE318 => ?_
          refine wpList_nil ?_
          clear a_313 HE314 a_315 HE316
          refine nrm ?_
          refine cndF HE318 rfl (decide_eq_false hc40) ?_
          refine wp_skip ?_
          refine nrm ?_
          refine wp_seq ?_
          refine wp_seq ?_
          refine rg ?_
          refine pl_x HE318 HH310 (wt0 rfl) (x_move rfl) rfl rfl fun a_319 HE320 => ?_
          refine pl_x HE320 HH310 (wt0 rfl) (x_move rfl) rfl rfl fun a_321 HE322 => ?_
          refine pl_x HE322 HH310 (wt0 rfl) (x_neq rfl rfl) rfl rfl fun a_323 HE324 => ?_
          refine wpList_nil ?_
          clear a_317 HE318 a_319 HE320 a_321 HE322
          refine nrm ?_
          refine cndF HE324 rfl (bne_f rfl) ?_
          refine wp_skip ?_
          refine nrm ?_
          refine wp_seq ?_
          refine rg ?_
          refine pl_x HE324 HH310 (wt0 rfl) (x_assign rfl) rfl rfl fun a_325 HE326 => ?_
          refine wpList_nil ?_
          clear a_323 HE324
          refine nrm ?_
          refine wp_ret ?_
          refine ret1 HE326 rfl (rv_tmp rfl) ?_
          have hF : true = true := by
            first | rfl | (exfalso; omega)
          exact ⟨by first | (rw [hF] <;> rfl) | rfl | (rw [hF]; simp only [Ending.returned.injEq, Value.slice.injEq, true_and, and_true]; first | omega | (simp; done)) | (rw [hF]; simp; omega), HH310.below⟩

end Go.Proofs.YthknelhboibbnaaGreatDoor
