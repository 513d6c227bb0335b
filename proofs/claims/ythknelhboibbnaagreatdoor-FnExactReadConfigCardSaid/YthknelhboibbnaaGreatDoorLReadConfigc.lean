/- What the proof of FnExactReadConfig needs: contracts of the functions that it reaches, each once. -/
import Derived.Test.YthknelhboibbnaaGreatDoorProg
import Derived.Test.YthknelhboibbnaaGreatDoorQMem
import Derived.Test.YthknelhboibbnaaGreatDoorQOpen
import Derived.Test.YthknelhboibbnaaGreatDoorLReadConfiga
import Derived.Test.YthknelhboibbnaaGreatDoorLReadConfigb
import Derived.WalkKit
import Derived.WalkSpells
import Derived.Below
import Derived.LoopTactic
import Derived.Outline
import Derived.Deep.QuietTactic
import Derived.BigQuiet
import Derived.Deep.LoopGhost
import Derived.Handy
import Derived.Lib.Hide
import Derived.Shelf.Abstract
import Derived.StillTailTactics
import Derived.OwnWalk
import Derived.Maps.AppendAt
import Derived.RegionTactic
import Derived.Deep.RegionHeld3
import Derived.IntWalk
import Derived.Deep.Upon
import Derived.Laws.OwnMore
import Derived.Maps.AppendAt
import Derived.Laws.BytesString
import Derived.Laws.Strings
import Derived.Lib.Bytes
import Derived.Lib.Strings
import Derived.Lib.FrozenHead
import Derived.Lib.RuneBytes
import Derived.Lib.LaidTab
import Derived.Laws.StructEq
import Derived.Lib.SliceRun
import Derived.Lib.AppendZeros
import Derived.Lib.ItoaLen
import Derived.Lib.Join
import Derived.Shelf.Strconv.Itoa4
import Derived.Shelf.Strings.OnBuilder
import Derived.Shelf.Strings.BuilderK
import Derived.Shelf.Strings.BuilderRune
import Derived.Shelf.LaysM
import Derived.Ground.NamesProg
import Derived.Lib.ParseIntBTie
import Derived.Lib.SplitLaws
import Derived.Lib.Replace
import Derived.Shelf.LaysC
import Derived.Shelf.Strconv.ErrVarParseInt
import Derived.Shelf.Strconv.ParseIntPublic10
import Derived.Shelf.Strings.Prefix
import Derived.Shelf.Strings.Cut
import Derived.Shelf.Strings.Split
import Derived.Shelf.Strings.Replace
import Derived.Shelf.Small.Wraps
import Derived.Stop.IfaceNil
namespace Go.Proofs.YthknelhboibbnaaGreatDoor
open Go.RowKit

set_option maxRecDepth 100000 in
set_option maxHeartbeats 4000000 in
theorem impl_validRule (es0 : List Value) (a0 : tMachine) (es1 : List Value) (a1 : tRule) (w : World) (h0 : eMachine.R w (Old w) es0 a0) (h1 : eRule.R w (Old w) es1 a1) (s0 : 2 ≤ a0.1 ∧ a0.1 ≤ 6) (s1 : 1 ≤ a0.2.1 ∧ a0.2.1 ≤ 1000) :
    Calls Tryz.prog 118 #[.agg es0.toArray, .agg es1.toArray] w fun e w' => e = .returned (.bool ((fun m r => ruleB m.1 m.2.1 r) a0 a1)) ∧ Below w.heap.size w w' := by
  have H0 := h0
  obtain ⟨Az0_2, cz0_2, rfl, gz0_0, gz0_1, gz0_2⟩ := shape_Machine h0
  have jz0_0 := gz0_0; unfold I64 at jz0_0
  have jz0_1 := gz0_1; unfold I64 at jz0_1
  have lz0_2 := gz0_2.len
  have H1 := h1
  obtain ⟨rfl, gz1_0, gz1_1, gz1_2⟩ := shape_Rule h1
  have jz1_0 := gz1_0; unfold I64 at jz1_0
  have jz1_1 := gz1_1; unfold I64 at jz1_1
  have jz1_2 := gz1_2; unfold I64 at jz1_2
  have HH1 := Held.start Nob w
  refine enter (n := 32) Tryz.func118 rfl rfl rfl fun a_2 HE3 => ?_
  refine wp_seq ?_
  refine rg ?_
  refine pl fun K_4 hK5 => ?_
  refine st_box (cs := [.int .i64 (a0.1), .int .i64 (a0.2.1), .slice Az0_2 (a0.2.2.length) cz0_2]) HE3 HH1 rfl rfl (wt0 rfl) rfl fun q21 a_6 w' HE7 HH8 => hK5 _ _ ?_
  refine pl fun K_9 hK10 => ?_
  refine st_box (cs := [.int .i64 (a1.1), .int .i64 (a1.2.1), .int .i64 (a1.2.2)]) HE7 HH8 rfl rfl (wt0 rfl) rfl fun q22 a_11 w' HE12 HH13 => hK10 _ _ ?_
  refine pl_x HE12 HH13 (wt0 rfl) (x_assign rfl) rfl rfl fun a_14 HE15 => ?_
  refine wpList_nil ?_
  clear a_2 HE3 HH1 K_4 hK5 a_6 HE7 HH8 a_11 HE12 hK10 K_9
  refine nrm ?_
  refine wp_seq ?_
  refine wp_seq ?_
  refine rg ?_
  refine pl_x HE15 HH13 (wt0 rfl) (x_loadN (cs := [.int .i64 (a1.1), .int .i64 (a1.2.1), .int .i64 (a1.2.2)]) tv_92 rfl rfl (c_blkN 0 rfl)) rfl rfl fun a_16 HE17 => ?_
  refine pl fun K_18 hK19 => ?_
  refine st_call HE17 (wt0 rfl) rfl rfl rfl en_139 rfl rfl (impl_isRule [.int .i64 (a1.1), .int .i64 (a1.2.1), .int .i64 (a1.2.2)] a1 _ (HH13.oldR H1)) fun e w' hr => ?_
  obtain ⟨rfl, hbr23⟩ := hr
  have HH20 := HH13.on hbr23
  refine ⟨_, rfl, fun a_21 HE22 => hK19 _ _ ?_⟩
  refine pl_x HE22 HH20 (wt0 rfl) (x_not rfl) rfl rfl fun a_23 HE24 => ?_
  refine wpList_nil ?_
  clear a_14 HE15 HH13 a_16 HE17 a_21 HE22 hK19 K_18
  refine nrm ?_
  refine cnd_nb HE24 rfl (fun hc24 => ?_) (fun hc24 => ?_)
  · refine wp_seq ?_
    refine rg ?_
    refine pl_x HE24 HH20 (wt0 rfl) (x_assign rfl) rfl rfl fun a_25 HE26 => ?_
    refine wpList_nil ?_
    clear a_23 HE24
    refine nrm ?_
    refine wp_ret ?_
    refine (thn_ret ?_)
    refine ret1 HE26 rfl (rv_tmp rfl) ?_
    have hF : ((fun m r => ruleB m.1 m.2.1 r) a0 a1) = true := by
      unfold ruleB; simp [hc24]
    exact ⟨by first | (rw [hF] <;> rfl) | rfl | (rw [hF]; simp only [Ending.returned.injEq, Value.slice.injEq, true_and, and_true]; first | omega | (simp; done)) | (rw [hF]; simp; omega), HH20.below⟩
  · refine wp_skip ?_
    refine nrm ?_
    refine wp_seq ?_
    refine rg ?_
    refine pl_x HE24 HH20 (wt0 rfl) (x_fieldAddr fa_92_0 rfl) rfl rfl fun a_27 HE28 => ?_
    refine pl_x HE28 HH20 (wt0 rfl) (x_load1 tv_2 rfl (c_blk 0 rfl rfl)) rfl rfl fun a_29 HE30 => ?_
    refine pl_x HE30 HH20 (wt0 rfl) (x_fieldAddr fa_33_0 rfl) rfl rfl fun a_31 HE32 => ?_
    refine pl_x HE32 HH20 (wt0 rfl) (x_load1 tv_2 rfl (c_blk 1 rfl rfl)) rfl rfl fun a_33 HE34 => ?_
    refine pl_x HE34 HH20 (wt0 rfl) (x_sub rfl rfl (by exact ⟨by omega, by omega⟩)) rfl rfl fun a_35 HE36 => ?_
    refine pl fun K_37 hK38 => ?_
    refine st_call HE36 (wt0 rfl) rfl rfl rfl en_43 rfl rfl (impl_within a1.1 0 (a0.1 - 1) _ ) fun e w' hr => ?_
    obtain ⟨rfl, rfl⟩ := hr
    refine ⟨_, rfl, fun a_39 HE40 => hK38 _ _ ?_⟩
    refine pl_x HE40 HH20 (wt0 rfl) (x_move rfl) rfl rfl fun a_41 HE42 => ?_
    rcases Bool.eq_false_or_eq_true ((withinB a1.1 0 (a0.1 - 1))) with hc26 | hc26
    · refine pl_x HE42 HH20 (wtT HE42 rfl rfl rfl hc26) (x_fieldAddr fa_92_1 rfl) rfl rfl fun a_43 HE44 => ?_
      refine pl_x HE44 HH20 (wtT HE44 rfl rfl rfl hc26) (x_load1 tv_2 rfl (c_blk 0 rfl rfl)) rfl rfl fun a_45 HE46 => ?_
      refine pl_x HE46 HH20 (wtT HE46 rfl rfl rfl hc26) (x_eql rfl rfl) rfl rfl fun a_47 HE48 => ?_
      refine pl_x HE48 HH20 (wtT HE48 rfl rfl rfl hc26) (x_move rfl) rfl rfl fun a_49 HE50 => ?_
      by_cases hc27 : a1.2.1 = -1
      · refine pl_no HE50 (wtF HE50 rfl rfl rfl (beq_t hc27)) rfl rfl fun a_51 HE52 => ?_
        refine pl_no HE52 (wtF HE52 rfl rfl rfl (beq_t hc27)) rfl rfl fun a_53 HE54 => ?_
        refine pl_no HE54 (wtF HE54 rfl rfl rfl (beq_t hc27)) rfl rfl fun a_55 HE56 => ?_
        refine pl_x HE56 HH20 (wtT HE56 rfl rfl rfl hc26) (x_pickT rfl (beq_t hc27) rfl) rfl rfl fun a_57 HE58 => ?_
        refine pl_x HE58 HH20 (wt0 rfl) (x_pickT rfl hc26 rfl) rfl rfl fun a_59 HE60 => ?_
        refine pl_x HE60 HH20 (wt0 rfl) (x_move rfl) rfl rfl fun a_61 HE62 => ?_
        refine pl_x HE62 HH20 (wtT HE62 rfl rfl rfl rfl) (x_fieldAddr fa_92_2 rfl) rfl rfl fun a_63 HE64 => ?_
        refine pl_x HE64 HH20 (wtT HE64 rfl rfl rfl rfl) (x_load1 tv_2 rfl (c_blk 0 rfl rfl)) rfl rfl fun a_65 HE66 => ?_
        refine pl_x HE66 HH20 (wtT HE66 rfl rfl rfl rfl) (x_fieldAddr fa_33_1 rfl) rfl rfl fun a_67 HE68 => ?_
        refine pl_x HE68 HH20 (wtT HE68 rfl rfl rfl rfl) (x_load1 tv_2 rfl (c_blk 1 rfl rfl)) rfl rfl fun a_69 HE70 => ?_
        refine pl_x HE70 HH20 (wtT HE70 rfl rfl rfl rfl) (x_sub rfl rfl (by exact ⟨by omega, by omega⟩)) rfl rfl fun a_71 HE72 => ?_
        refine pl fun K_73 hK74 => ?_
        refine st_call HE72 (wtT HE72 rfl rfl rfl rfl) rfl rfl rfl en_43 rfl rfl (impl_within a1.2.2 0 (a0.2.1 - 1) _ ) fun e w' hr => ?_
        obtain ⟨rfl, rfl⟩ := hr
        refine ⟨_, rfl, fun a_75 HE76 => hK74 _ _ ?_⟩
        refine pl_x HE76 HH20 (wt0 rfl) (x_pickT rfl rfl rfl) rfl rfl fun a_77 HE78 => ?_
        refine pl_x HE78 HH20 (wt0 rfl) (x_assign rfl) rfl rfl fun a_79 HE80 => ?_
        refine wpList_nil ?_
        clear a_23 HE24 a_27 HE28 a_29 HE30 a_31 HE32 a_33 HE34 a_35 HE36 a_39 HE40 a_41 HE42 a_43 HE44 a_45 HE46 a_47 HE48 a_49 HE50 a_51 HE52 a_53 HE54 a_55 HE56 a_57 HE58 a_59 HE60 a_61 HE62 a_63 HE64 a_65 HE66 a_67 HE68 a_69 HE70 K_37 hK38 a_71 HE72 a_75 HE76 a_77 HE78 hK74 K_73
        refine nrm ?_
        refine wp_ret ?_
        refine ret1 HE80 rfl (rv_tmp rfl) ?_
        have hF : ((fun m r => ruleB m.1 m.2.1 r) a0 a1) = (withinB a1.2.2 0 (a0.2.1 - 1)) := by
          unfold ruleB; simp [hc24, hc26, hc27]
        exact ⟨by first | (rw [hF] <;> rfl) | rfl | (rw [hF]; simp only [Ending.returned.injEq, Value.slice.injEq, true_and, and_true]; first | omega | (simp; done)) | (rw [hF]; simp; omega), HH20.below⟩
      · refine pl_x HE50 HH20 (wtT HE50 rfl rfl rfl (beq_f hc27)) (x_fieldAddr fa_92_1 rfl) rfl rfl fun a_81 HE82 => ?_
        refine pl_x HE82 HH20 (wtT HE82 rfl rfl rfl (beq_f hc27)) (x_load1 tv_2 rfl (c_blk 0 rfl rfl)) rfl rfl fun a_83 HE84 => ?_
        refine pl_x HE84 HH20 (wtT HE84 rfl rfl rfl (beq_f hc27)) (x_eql rfl rfl) rfl rfl fun a_85 HE86 => ?_
        refine pl_x HE86 HH20 (wtT HE86 rfl rfl rfl hc26) (x_pickF rfl (beq_f hc27) rfl) rfl rfl fun a_87 HE88 => ?_
        refine pl_x HE88 HH20 (wt0 rfl) (x_pickT rfl hc26 rfl) rfl rfl fun a_89 HE90 => ?_
        refine pl_x HE90 HH20 (wt0 rfl) (x_move rfl) rfl rfl fun a_91 HE92 => ?_
        by_cases hc29 : a1.2.1 = 1
        · refine pl_x HE92 HH20 (wtT HE92 rfl rfl rfl (beq_t hc29)) (x_fieldAddr fa_92_2 rfl) rfl rfl fun a_93 HE94 => ?_
          refine pl_x HE94 HH20 (wtT HE94 rfl rfl rfl (beq_t hc29)) (x_load1 tv_2 rfl (c_blk 0 rfl rfl)) rfl rfl fun a_95 HE96 => ?_
          refine pl_x HE96 HH20 (wtT HE96 rfl rfl rfl (beq_t hc29)) (x_fieldAddr fa_33_1 rfl) rfl rfl fun a_97 HE98 => ?_
          refine pl_x HE98 HH20 (wtT HE98 rfl rfl rfl (beq_t hc29)) (x_load1 tv_2 rfl (c_blk 1 rfl rfl)) rfl rfl fun a_99 HE100 => ?_
          refine pl_x HE100 HH20 (wtT HE100 rfl rfl rfl (beq_t hc29)) (x_sub rfl rfl (by exact ⟨by omega, by omega⟩)) rfl rfl fun a_101 HE102 => ?_
          refine pl fun K_103 hK104 => ?_
          refine st_call HE102 (wtT HE102 rfl rfl rfl (beq_t hc29)) rfl rfl rfl en_43 rfl rfl (impl_within a1.2.2 0 (a0.2.1 - 1) _ ) fun e w' hr => ?_
          obtain ⟨rfl, rfl⟩ := hr
          refine ⟨_, rfl, fun a_105 HE106 => hK104 _ _ ?_⟩
          refine pl_x HE106 HH20 (wt0 rfl) (x_pickT rfl (beq_t hc29) rfl) rfl rfl fun a_107 HE108 => ?_
          refine pl_x HE108 HH20 (wt0 rfl) (x_assign rfl) rfl rfl fun a_109 HE110 => ?_
          refine wpList_nil ?_
          clear a_23 HE24 a_27 HE28 a_29 HE30 a_31 HE32 a_33 HE34 a_35 HE36 a_39 HE40 a_41 HE42 a_43 HE44 a_45 HE46 a_47 HE48 a_49 HE50 a_81 HE82 a_83 HE84 a_85 HE86 a_87 HE88 a_89 HE90 a_91 HE92 a_93 HE94 a_95 HE96 a_97 HE98 a_99 HE100 K_37 hK38 a_101 HE102 a_105 HE106 a_107 HE108 hK104 K_103
          refine nrm ?_
          refine wp_ret ?_
          refine ret1 HE110 rfl (rv_tmp rfl) ?_
          have hF : ((fun m r => ruleB m.1 m.2.1 r) a0 a1) = (withinB a1.2.2 0 (a0.2.1 - 1)) := by
            unfold ruleB; simp [hc24, hc26, hc27, hc29]
          exact ⟨by first | (rw [hF] <;> rfl) | rfl | (rw [hF]; simp only [Ending.returned.injEq, Value.slice.injEq, true_and, and_true]; first | omega | (simp; done)) | (rw [hF]; simp; omega), HH20.below⟩
        · refine pl_no HE92 (wtF HE92 rfl rfl rfl (beq_f hc29)) rfl rfl fun a_111 HE112 => ?_
          refine pl_no HE112 (wtF HE112 rfl rfl rfl (beq_f hc29)) rfl rfl fun a_113 HE114 => ?_
          refine pl_no HE114 (wtF HE114 rfl rfl rfl (beq_f hc29)) rfl rfl fun a_115 HE116 => ?_
          refine pl_no HE116 (wtF HE116 rfl rfl rfl (beq_f hc29)) rfl rfl fun a_117 HE118 => ?_
          refine pl_no HE118 (wtF HE118 rfl rfl rfl (beq_f hc29)) rfl rfl fun a_119 HE120 => ?_
          refine pl_no HE120 (wtF HE120 rfl rfl rfl (beq_f hc29)) rfl rfl fun a_121 HE122 => ?_
          refine pl_x HE122 HH20 (wt0 rfl) (x_pickF rfl (beq_f hc29) rfl) rfl rfl fun a_123 HE124 => ?_
          refine pl_x HE124 HH20 (wt0 rfl) (x_assign rfl) rfl rfl fun a_125 HE126 => ?_
          refine wpList_nil ?_
          clear a_23 HE24 a_27 HE28 a_29 HE30 a_31 HE32 a_33 HE34 a_35 HE36 a_39 HE40 a_41 HE42 a_43 HE44 a_45 HE46 a_47 HE48 a_49 HE50 a_81 HE82 a_83 HE84 a_85 HE86 a_87 HE88 a_89 HE90 a_91 HE92 a_111 HE112 a_113 HE114 a_115 HE116 a_117 HE118 a_119 HE120 a_121 HE122 a_123 HE124 hK38 K_37
          refine nrm ?_
          refine wp_ret ?_
          refine ret1 HE126 rfl (rv_tmp rfl) ?_
          have hF : ((fun m r => ruleB m.1 m.2.1 r) a0 a1) = false := by
            unfold ruleB; simp [hc24, hc26, hc27, hc29]
          exact ⟨by first | (rw [hF] <;> rfl) | rfl | (rw [hF]; simp only [Ending.returned.injEq, Value.slice.injEq, true_and, and_true]; first | omega | (simp; done)) | (rw [hF]; simp; omega), HH20.below⟩
    · refine pl_no HE42 (wtF HE42 rfl rfl rfl hc26) rfl rfl fun a_127 HE128 => ?_
      refine pl_no HE128 (wtF HE128 rfl rfl rfl hc26) rfl rfl fun a_129 HE130 => ?_
      refine pl_no HE130 (wtF HE130 rfl rfl rfl hc26) rfl rfl fun a_131 HE132 => ?_
      refine pl_no HE132 (wtF HE132 rfl rfl rfl hc26) rfl rfl fun a_133 HE134 => ?_
      refine pl_no HE134 (wtU HE134 rfl rfl rfl) rfl rfl fun a_135 HE136 => ?_
      refine pl_no HE136 (wtU HE136 rfl rfl rfl) rfl rfl fun a_137 HE138 => ?_
      refine pl_no HE138 (wtU HE138 rfl rfl rfl) rfl rfl fun a_139 HE140 => ?_
      refine pl_no HE140 (wtF HE140 rfl rfl rfl hc26) rfl rfl fun a_141 HE142 => ?_
      refine pl_x HE142 HH20 (wt0 rfl) (x_pickF rfl hc26 rfl) rfl rfl fun a_143 HE144 => ?_
      refine pl_x HE144 HH20 (wt0 rfl) (x_move rfl) rfl rfl fun a_145 HE146 => ?_
      refine pl_no HE146 (wtF HE146 rfl rfl rfl rfl) rfl rfl fun a_147 HE148 => ?_
      refine pl_no HE148 (wtF HE148 rfl rfl rfl rfl) rfl rfl fun a_149 HE150 => ?_
      refine pl_no HE150 (wtF HE150 rfl rfl rfl rfl) rfl rfl fun a_151 HE152 => ?_
      refine pl_no HE152 (wtF HE152 rfl rfl rfl rfl) rfl rfl fun a_153 HE154 => ?_
      refine pl_no HE154 (wtF HE154 rfl rfl rfl rfl) rfl rfl fun a_155 HE156 => ?_
      refine pl_no HE156 (wtF HE156 rfl rfl rfl rfl) rfl rfl fun a_157 HE158 => ?_
      refine pl_x HE158 HH20 (wt0 rfl) (x_pickF rfl rfl rfl) rfl rfl fun a_159 HE160 => ?_
      refine pl_x HE160 HH20 (wt0 rfl) (x_assign rfl) rfl rfl fun a_161 HE162 => ?_
      refine wpList_nil ?_
      clear a_23 HE24 a_27 HE28 a_29 HE30 a_31 HE32 a_33 HE34 a_35 HE36 a_39 HE40 a_41 HE42 a_127 HE128 a_129 HE130 a_131 HE132 a_133 HE134 a_135 HE136 a_137 HE138 a_139 HE140 a_141 HE142 a_143 HE144 a_145 HE146 a_147 HE148 a_149 HE150 a_151 HE152 a_153 HE154 a_155 HE156 a_157 HE158 a_159 HE160 hK38 K_37
      refine nrm ?_
      refine wp_ret ?_
      refine ret1 HE162 rfl (rv_tmp rfl) ?_
      have hF : ((fun m r => ruleB m.1 m.2.1 r) a0 a1) = false := by
        unfold ruleB; simp [hc24, hc26]
      exact ⟨by first | (rw [hF] <;> rfl) | rfl | (rw [hF]; simp only [Ending.returned.injEq, Value.slice.injEq, true_and, and_true]; first | omega | (simp; done)) | (rw [hF]; simp; omega), HH20.below⟩

set_option maxRecDepth 100000 in
set_option maxHeartbeats 4000000 in
theorem impl_ValidMachine1 (es0 : List Value) (a0 : tRule) (p1 : Nat) (es1 : List Value) (a1 : tMachine) (w : World) (h0 : eRule.R w (Old w) es0 a0) (h1 : eMachine.R w (Old w) es1 a1) (hq1 : ∀ j v, es1[j]? = some v → w.cell? ⟨p1, 0 + j, none⟩ = some v) (s0 : 2 ≤ a1.1 ∧ a1.1 ≤ 6) (s1 : 1 ≤ a1.2.1 ∧ a1.2.1 ≤ 1000) :
    Calls Tryz.prog 117 #[.agg es0.toArray, .pointer (some ⟨p1, 0, none⟩)] w fun e w' => e = .returned (.bool ((fun r m => !ruleB m.1 m.2.1 r) a0 a1)) ∧ Below w.heap.size w w' := by
  have H0 := h0
  obtain ⟨rfl, gz0_0, gz0_1, gz0_2⟩ := shape_Rule h0
  have jz0_0 := gz0_0; unfold I64 at jz0_0
  have jz0_1 := gz0_1; unfold I64 at jz0_1
  have jz0_2 := gz0_2; unfold I64 at jz0_2
  have H1 := h1
  obtain ⟨Az1_2, cz1_2, rfl, gz1_0, gz1_1, gz1_2⟩ := shape_Machine h1
  have jz1_0 := gz1_0; unfold I64 at jz1_0
  have jz1_1 := gz1_1; unfold I64 at jz1_1
  have lz1_2 := gz1_2.len
  have HH1 := Held.start Nob w
  refine enter (n := 8) Tryz.func117 rfl rfl rfl fun a_2 HE3 => ?_
  refine wp_seq ?_
  refine rg ?_
  refine pl fun K_4 hK5 => ?_
  refine st_box (cs := [.int .i64 (a0.1), .int .i64 (a0.2.1), .int .i64 (a0.2.2)]) HE3 HH1 rfl rfl (wt0 rfl) rfl fun q21 a_6 w' HE7 HH8 => hK5 _ _ ?_
  refine pl_x HE7 HH8 (wt0 rfl) (x_assign rfl) rfl rfl fun a_9 HE10 => ?_
  refine wpList_nil ?_
  clear a_2 HE3 HH1 a_6 HE7 hK5 K_4
  refine nrm ?_
  refine wp_seq ?_
  refine rg ?_
  refine pl_x HE10 HH8 (wt0 rfl) (x_loadN (cs := [.int .i64 (a1.1), .int .i64 (a1.2.1), .slice Az1_2 (a1.2.2.length) cz1_2]) tv_33 rfl rfl (c_oldN hq1)) rfl rfl fun a_11 HE12 => ?_
  refine pl_x HE12 HH8 (wt0 rfl) (x_loadN (cs := [.int .i64 (a0.1), .int .i64 (a0.2.1), .int .i64 (a0.2.2)]) tv_92 rfl rfl (c_blkN 0 rfl)) rfl rfl fun a_13 HE14 => ?_
  refine pl fun K_15 hK16 => ?_
  refine st_call HE14 (wt0 rfl) rfl rfl rfl en_118 rfl rfl (impl_validRule [.int .i64 (a1.1), .int .i64 (a1.2.1), .slice Az1_2 (a1.2.2.length) cz1_2] a1 [.int .i64 (a0.1), .int .i64 (a0.2.1), .int .i64 (a0.2.2)] a0 _ (HH8.oldR H1) (HH8.oldR H0) (by omega) (by omega)) fun e w' hr => ?_
  obtain ⟨rfl, hbr22⟩ := hr
  have HH17 := HH8.on hbr22
  refine ⟨_, rfl, fun a_18 HE19 => hK16 _ _ ?_⟩
  refine pl_x HE19 HH17 (wt0 rfl) (x_not rfl) rfl rfl fun a_20 HE21 => ?_
  refine pl_x HE21 HH17 (wt0 rfl) (x_assign rfl) rfl rfl fun a_22 HE23 => ?_
  refine wpList_nil ?_
  clear a_9 HE10 a_11 HE12 HH8 a_13 HE14 a_18 HE19 a_20 HE21 hK16 K_15
  refine nrm ?_
  refine wp_ret ?_
  refine ret1 HE23 rfl (rv_tmp rfl) ?_
  have hF : ((fun r m => !ruleB m.1 m.2.1 r) a0 a1) = !(ruleB a1.1 a1.2.1 a0) := by
    rfl
  exact ⟨by first | (rw [hF] <;> rfl) | rfl | (rw [hF]; simp only [Ending.returned.injEq, Value.slice.injEq, true_and, and_true]; first | omega | (simp; done)) | (rw [hF]; simp; omega), HH17.below⟩

set_option maxRecDepth 100000 in
set_option maxHeartbeats 4000000 in
theorem impl_ValidMachine (es0 : List Value) (a0 : tMachine) (w : World) (h0 : eMachine.R w (Old w) es0 a0) :
    Calls Tryz.prog 96 #[.agg es0.toArray] w fun e w' => e = .returned (.bool (validMach a0)) ∧ Below w.heap.size w w' := by
  have H0 := h0
  obtain ⟨Az0_2, cz0_2, rfl, gz0_0, gz0_1, gz0_2⟩ := shape_Machine h0
  have jz0_0 := gz0_0; unfold I64 at jz0_0
  have jz0_1 := gz0_1; unfold I64 at jz0_1
  have lz0_2 := gz0_2.len
  have HH1 := Held.start Nob w
  refine enter (n := 29) Tryz.func96 rfl rfl rfl fun a_2 HE3 => ?_
  refine wp_seq ?_
  refine rg ?_
  refine pl fun K_4 hK5 => ?_
  refine st_box (cs := [.int .i64 (a0.1), .int .i64 (a0.2.1), .slice Az0_2 (a0.2.2.length) cz0_2]) HE3 HH1 rfl rfl (wt0 rfl) rfl fun q21 a_6 w' HE7 HH8 => hK5 _ _ ?_
  refine pl_x HE7 HH8 (wt0 rfl) (x_assign rfl) rfl rfl fun a_9 HE10 => ?_
  refine wpList_nil ?_
  clear a_2 HE3 HH1 a_6 HE7 hK5 K_4
  refine nrm ?_
  refine wp_seq ?_
  refine wp_seq ?_
  refine dr_start (Held Nob w [rBlk q21 33 [.int .i64 (a0.1), .int .i64 (a0.2.1), .slice Az0_2 (a0.2.2.length) cz0_2]]) 21 #[false, false, false, false, false, false, false, false, false, false, false, false, false, false, false, false, false, false, false, false, false] hmix rfl rfl HH8 (fun _ h => h.sel [0] (by decide) rfl) fun w' HH11 => ?_
  have HS12 := HH11
  refine dr_take (i := 0) (ls' := #[true, false, false, false, false, false, false, false, false, false, false, false, false, false, false, false, false, false, false, false, false]) HE10 HS12 rfl (by kernel_rfl) (by kernel_rfl) (by kernel_rfl) (fun _ _ _ h => h) rfl (wt0 rfl) (x_fieldAddr fa_33_0 rfl) rfl rfl fun a_13 HE14 => ?_
  refine dr_take (i := 1) (ls' := #[true, true, false, false, false, false, false, false, false, false, false, false, false, false, false, false, false, false, false, false, false]) HE14 HS12 rfl (by kernel_rfl) (by kernel_rfl) (by kernel_rfl) (fun _ _ _ h => h) rfl (wt0 rfl) (x_load1 tv_2 rfl (c_blk 0 rfl rfl)) rfl rfl fun a_15 HE16 => ?_
  refine dr_one (i := 2) (ls' := #[true, true, true, false, false, false, false, false, false, false, false, false, false, false, false, false, false, false, false, false, false]) rfl (by kernel_rfl) rfl fun K_17 hK18 => ?_
  refine st_call HE16 (wt0 rfl) rfl rfl rfl en_43 rfl rfl (impl_within a0.1 2 6 _ ) fun e w' hr => ?_
  obtain ⟨rfl, rfl⟩ := hr
  refine ⟨_, rfl, fun a_19 HE20 => hK18 _ _ (by exact HH11.sel [0] (by decide) rfl) ?_⟩
  have HS21 := HH11.sel [0] (by decide) rfl
  refine dr_take (i := 3) (ls' := #[true, true, true, true, false, false, false, false, false, false, false, false, false, false, false, false, false, false, false, false, false]) HE20 HS21 rfl (by kernel_rfl) (by kernel_rfl) (by kernel_rfl) (fun _ _ _ h => h) rfl (wt0 rfl) (x_not rfl) rfl rfl fun a_22 HE23 => ?_
  refine dr_take (i := 4) (ls' := #[true, true, true, true, true, false, false, false, false, false, false, false, false, false, false, false, false, false, false, false, false]) HE23 HS21 rfl (by kernel_rfl) (by kernel_rfl) (by kernel_rfl) (fun _ _ _ h => h) rfl (wt0 rfl) (x_move rfl) rfl rfl fun a_24 HE25 => ?_
  rcases Bool.eq_false_or_eq_true ((withinB a0.1 2 6)) with hc23 | hc23
  · have m0 := withinB_true.1 hc23
    refine dr_take (i := 5) (ls' := #[true, true, true, true, true, true, false, false, false, false, false, false, false, false, false, false, false, false, false, false, false]) HE25 HS21 rfl (by kernel_rfl) (by kernel_rfl) (by kernel_rfl) (fun _ _ _ h => h) rfl (wtT HE25 rfl rfl rfl (not_f hc23)) (x_fieldAddr fa_33_1 rfl) rfl rfl fun a_26 HE27 => ?_
    refine dr_take (i := 6) (ls' := #[true, true, true, true, true, true, true, false, false, false, false, false, false, false, false, false, false, false, false, false, false]) HE27 HS21 rfl (by kernel_rfl) (by kernel_rfl) (by kernel_rfl) (fun _ _ _ h => h) rfl (wtT HE27 rfl rfl rfl (not_f hc23)) (x_load1 tv_2 rfl (c_blk 0 rfl rfl)) rfl rfl fun a_28 HE29 => ?_
    refine dr_one (i := 7) (ls' := #[true, true, true, true, true, true, true, true, false, false, false, false, false, false, false, false, false, false, false, false, false]) rfl (by kernel_rfl) rfl fun K_30 hK31 => ?_
    refine st_call HE29 (wtT HE29 rfl rfl rfl (not_f hc23)) rfl rfl rfl en_43 rfl rfl (impl_within a0.2.1 1 1000 _ ) fun e w' hr => ?_
    obtain ⟨rfl, rfl⟩ := hr
    refine ⟨_, rfl, fun a_32 HE33 => hK31 _ _ (by exact HH11.sel [0] (by decide) rfl) ?_⟩
    have HS34 := HH11.sel [0] (by decide) rfl
    refine dr_take (i := 8) (ls' := #[true, true, true, true, true, true, true, true, true, false, false, false, false, false, false, false, false, false, false, false, false]) HE33 HS34 rfl (by kernel_rfl) (by kernel_rfl) (by kernel_rfl) (fun _ _ _ h => h) rfl (wtT HE33 rfl rfl rfl (not_f hc23)) (x_not rfl) rfl rfl fun a_35 HE36 => ?_
    refine dr_take (i := 9) (ls' := #[true, true, true, true, true, true, true, true, true, true, false, false, false, false, false, false, false, false, false, false, false]) HE36 HS34 rfl (by kernel_rfl) (by kernel_rfl) (by kernel_rfl) (fun _ _ _ h => h) rfl (wt0 rfl) (x_pickF rfl (not_f hc23) rfl) rfl rfl fun a_37 HE38 => ?_
    refine dr_take (i := 10) (ls' := #[true, true, true, true, true, true, true, true, true, true, true, false, false, false, false, false, false, false, false, false, false]) HE38 HS34 rfl (by kernel_rfl) (by kernel_rfl) (by kernel_rfl) (fun _ _ _ h => h) rfl (wt0 rfl) (x_move rfl) rfl rfl fun a_39 HE40 => ?_
    rcases Bool.eq_false_or_eq_true ((withinB a0.2.1 1 1000)) with hc25 | hc25
    · have m1 := withinB_true.1 hc25
      obtain ⟨m2, m3⟩ := mul_bd2 m0 m1
      refine dr_take (i := 11) (ls' := #[true, true, true, true, true, true, true, true, true, true, true, true, false, false, false, false, false, false, false, false, false]) HE40 HS34 rfl (by kernel_rfl) (by kernel_rfl) (by kernel_rfl) (fun _ _ _ h => h) rfl (wtT HE40 rfl rfl rfl (not_f hc25)) (x_fieldAddr fa_33_2 rfl) rfl rfl fun a_41 HE42 => ?_
      refine dr_take (i := 12) (ls' := #[true, true, true, true, true, true, true, true, true, true, true, true, true, false, false, false, false, false, false, false, false]) HE42 HS34 rfl (by kernel_rfl) (by kernel_rfl) (by kernel_rfl) (fun _ _ _ h => h) rfl (wtT HE42 rfl rfl rfl (not_f hc25)) (x_load1 tv_31 rfl (c_blk 0 rfl rfl)) rfl rfl fun a_43 HE44 => ?_
      refine dr_take (i := 14) (ls' := #[true, true, true, true, true, true, true, true, true, true, true, true, true, false, true, false, false, false, false, false, false]) HE44 HS34 rfl (by kernel_rfl) (by kernel_rfl) (by kernel_rfl) (fun _ _ _ h => h) rfl (wtT HE44 rfl rfl rfl (not_f hc25)) (x_fieldAddr fa_33_1 rfl) rfl rfl fun a_45 HE46 => ?_
      refine dr_take (i := 15) (ls' := #[true, true, true, true, true, true, true, true, true, true, true, true, true, false, true, true, false, false, false, false, false]) HE46 HS34 rfl (by kernel_rfl) (by kernel_rfl) (by kernel_rfl) (fun _ _ _ h => h) rfl (wtT HE46 rfl rfl rfl (not_f hc25)) (x_load1 tv_2 rfl (c_blk 0 rfl rfl)) rfl rfl fun a_47 HE48 => ?_
      refine dr_take (i := 16) (ls' := #[true, true, true, true, true, true, true, true, true, true, true, true, true, false, true, true, true, false, false, false, false]) HE48 HS34 rfl (by kernel_rfl) (by kernel_rfl) (by kernel_rfl) (fun _ _ _ h => h) rfl (wtT HE48 rfl rfl rfl (not_f hc25)) (x_fieldAddr fa_33_0 rfl) rfl rfl fun a_49 HE50 => ?_
      refine dr_take (i := 17) (ls' := #[true, true, true, true, true, true, true, true, true, true, true, true, true, false, true, true, true, true, false, false, false]) HE50 HS34 rfl (by kernel_rfl) (by kernel_rfl) (by kernel_rfl) (fun _ _ _ h => h) rfl (wtT HE50 rfl rfl rfl (not_f hc25)) (x_load1 tv_2 rfl (c_blk 0 rfl rfl)) rfl rfl fun a_51 HE52 => ?_
      refine dr_take (i := 18) (ls' := #[true, true, true, true, true, true, true, true, true, true, true, true, true, false, true, true, true, true, true, false, false]) HE52 HS34 rfl (by kernel_rfl) (by kernel_rfl) (by kernel_rfl) (fun _ _ _ h => h) rfl (wtT HE52 rfl rfl rfl (not_f hc25)) (x_mul rfl rfl (by exact ⟨by omega, by omega⟩)) rfl rfl fun a_53 HE54 => ?_
      refine dr_one (i := 13) (ls' := #[true, true, true, true, true, true, true, true, true, true, true, true, true, true, true, true, true, true, true, false, false]) rfl (by kernel_rfl) rfl fun K_55 hK56 => ?_
      refine st_call HE54 (wtT HE54 rfl rfl rfl (not_f hc25)) rfl rfl rfl en_115 rfl rfl (impl_size_Rule _ _ _ _) fun e w' hr => ?_
      obtain ⟨rfl, rfl⟩ := hr
      refine ⟨_, rfl, fun a_57 HE58 => hK56 _ _ (by exact HH11.sel [0] (by decide) rfl) ?_⟩
      have HS59 := HH11.sel [0] (by decide) rfl
      refine dr_take (i := 19) (ls' := #[true, true, true, true, true, true, true, true, true, true, true, true, true, true, true, true, true, true, true, true, false]) HE58 HS59 rfl (by kernel_rfl) (by kernel_rfl) (by kernel_rfl) (fun _ _ _ h => h) rfl (wtT HE58 rfl rfl rfl (not_f hc25)) (x_neq rfl rfl) rfl rfl fun a_60 HE61 => ?_
      refine dr_take (i := 20) (ls' := #[true, true, true, true, true, true, true, true, true, true, true, true, true, true, true, true, true, true, true, true, true]) HE61 HS59 rfl (by kernel_rfl) (by kernel_rfl) (by kernel_rfl) (fun _ _ _ h => h) rfl (wt0 rfl) (x_pickF rfl (not_f hc25) rfl) rfl rfl fun a_62 HE63 => ?_
      refine dr_done (by kernel_rfl) ?_
      clear HH8 a_9 HE10 a_13 HE14 a_15 HE16 HS12 a_19 HE20 a_22 HE23 a_24 HE25 a_26 HE27 K_17 hK18 a_28 HE29 HS21 a_32 HE33 a_35 HE36 a_37 HE38 a_39 HE40 a_41 HE42 a_43 HE44 a_45 HE46 a_47 HE48 a_49 HE50 a_51 HE52 K_30 hK31 a_53 HE54 HS34 a_57 HE58 a_60 HE61 hK56 K_55
      refine nrm ?_
      refine cnd_ne HE63 rfl (fun hc27 => ?_) (fun hc27 => ?_)
      · refine wp_seq ?_
        refine rg ?_
        refine pl_x HE63 HH11 (wt0 rfl) (x_assign rfl) rfl rfl fun a_64 HE65 => ?_
        refine wpList_nil ?_
        clear a_62 HE63
        refine nrm ?_
        refine wp_ret ?_
        refine (thn_ret ?_)
        refine ret1 HE65 rfl (rv_tmp rfl) ?_
        have hF : (validMach a0) = false := by
          first | (simp [validMach, hc23, hc25, hc27]; done) | (unfold validMach; grind)
        exact ⟨by first | (rw [hF] <;> rfl) | rfl | (rw [hF]; simp only [Ending.returned.injEq, Value.slice.injEq, true_and, and_true]; first | omega | (simp; done)) | (rw [hF]; simp; omega), HH11.below⟩
      · refine wp_skip ?_
        refine nrm ?_
        refine wp_seq ?_
        refine rg ?_
        refine pl_x HE63 HH11 (wt0 rfl) (x_fieldAddr fa_33_2 rfl) rfl rfl fun a_66 HE67 => ?_
        refine pl_x HE67 HH11 (wt0 rfl) (x_load1 tv_31 rfl (c_blk 0 rfl rfl)) rfl rfl fun a_68 HE69 => ?_
        refine pl_x HE69 HH11 (wt0 rfl) (x_makeFunc rfl rfl) rfl rfl fun a_70 HE71 => ?_
        refine pl fun K_72 hK73 => ?_
        have hcl := ContainsFunc_Rule (fun r => !ruleB a0.1 a0.2.1 r) 117 #[.pointer (some ⟨q21, 0, none⟩)] _ _ a0.2.2 _ (HH11.old gz0_2) en_117 (fun W x es hx hb hR => impl_ValidMachine1 es x _ [.int .i64 (a0.1), .int .i64 (a0.2.1), .slice Az0_2 (a0.2.2.length) cz0_2] a0 W hR (((HH11.on hb).oldR H0)) (HH11.capB 0 rfl hb) (by omega) (by omega))
        refine st_call HE71 (wt0 rfl) rfl rfl rfl en_116 rfl rfl hcl fun e w' hr => ?_
        clear hcl
        obtain ⟨rfl, hbq⟩ := hr
        have HH74 := HH11.on hbq
        clear hbq
        refine ⟨_, rfl, fun a_75 HE76 => hK73 _ _ ?_⟩
        refine pl_x HE76 HH74 (wt0 rfl) (x_not rfl) rfl rfl fun a_77 HE78 => ?_
        refine pl_x HE78 HH74 (wt0 rfl) (x_assign rfl) rfl rfl fun a_79 HE80 => ?_
        refine wpList_nil ?_
        clear a_62 HE63 a_66 HE67 a_68 HE69 HH11 a_70 HE71 a_75 HE76 a_77 HE78 hK73 K_72
        refine nrm ?_
        refine wp_ret ?_
        refine ret1 HE80 rfl (rv_tmp rfl) ?_
        have hF : (validMach a0) = !(a0.2.2.any (fun r => !ruleB a0.1 a0.2.1 r)) := by
          first | (simp [validMach, hc23, hc25, hc27]; done) | (unfold validMach; grind)
        exact ⟨by first | (rw [hF] <;> rfl) | rfl | (rw [hF]; simp only [Ending.returned.injEq, Value.slice.injEq, true_and, and_true]; first | omega | (simp; done)) | (rw [hF]; simp; omega), HH74.below⟩
    · refine dr_takeNo (i := 11) (ls' := #[true, true, true, true, true, true, true, true, true, true, true, true, false, false, false, false, false, false, false, false, false]) HE40 HS34 rfl (by kernel_rfl) (by kernel_rfl) (by kernel_rfl) (fun _ _ _ h => h) rfl (wtF HE40 rfl rfl rfl (not_t hc25)) rfl rfl fun a_81 HE82 => ?_
      refine dr_takeNo (i := 12) (ls' := #[true, true, true, true, true, true, true, true, true, true, true, true, true, false, false, false, false, false, false, false, false]) HE82 HS34 rfl (by kernel_rfl) (by kernel_rfl) (by kernel_rfl) (fun _ _ _ h => h) rfl (wtF HE82 rfl rfl rfl (not_t hc25)) rfl rfl fun a_83 HE84 => ?_
      refine dr_takeNo (i := 13) (ls' := #[true, true, true, true, true, true, true, true, true, true, true, true, true, true, false, false, false, false, false, false, false]) HE84 HS34 rfl (by kernel_rfl) (by kernel_rfl) (by kernel_rfl) (fun _ _ _ h => h) rfl (wtF HE84 rfl rfl rfl (not_t hc25)) rfl rfl fun a_85 HE86 => ?_
      refine dr_takeNo (i := 14) (ls' := #[true, true, true, true, true, true, true, true, true, true, true, true, true, true, true, false, false, false, false, false, false]) HE86 HS34 rfl (by kernel_rfl) (by kernel_rfl) (by kernel_rfl) (fun _ _ _ h => h) rfl (wtF HE86 rfl rfl rfl (not_t hc25)) rfl rfl fun a_87 HE88 => ?_
      refine dr_takeNo (i := 15) (ls' := #[true, true, true, true, true, true, true, true, true, true, true, true, true, true, true, true, false, false, false, false, false]) HE88 HS34 rfl (by kernel_rfl) (by kernel_rfl) (by kernel_rfl) (fun _ _ _ h => h) rfl (wtF HE88 rfl rfl rfl (not_t hc25)) rfl rfl fun a_89 HE90 => ?_
      refine dr_takeNo (i := 16) (ls' := #[true, true, true, true, true, true, true, true, true, true, true, true, true, true, true, true, true, false, false, false, false]) HE90 HS34 rfl (by kernel_rfl) (by kernel_rfl) (by kernel_rfl) (fun _ _ _ h => h) rfl (wtF HE90 rfl rfl rfl (not_t hc25)) rfl rfl fun a_91 HE92 => ?_
      refine dr_takeNo (i := 17) (ls' := #[true, true, true, true, true, true, true, true, true, true, true, true, true, true, true, true, true, true, false, false, false]) HE92 HS34 rfl (by kernel_rfl) (by kernel_rfl) (by kernel_rfl) (fun _ _ _ h => h) rfl (wtF HE92 rfl rfl rfl (not_t hc25)) rfl rfl fun a_93 HE94 => ?_
      refine dr_takeNo (i := 18) (ls' := #[true, true, true, true, true, true, true, true, true, true, true, true, true, true, true, true, true, true, true, false, false]) HE94 HS34 rfl (by kernel_rfl) (by kernel_rfl) (by kernel_rfl) (fun _ _ _ h => h) rfl (wtF HE94 rfl rfl rfl (not_t hc25)) rfl rfl fun a_95 HE96 => ?_
      refine dr_takeNo (i := 19) (ls' := #[true, true, true, true, true, true, true, true, true, true, true, true, true, true, true, true, true, true, true, true, false]) HE96 HS34 rfl (by kernel_rfl) (by kernel_rfl) (by kernel_rfl) (fun _ _ _ h => h) rfl (wtF HE96 rfl rfl rfl (not_t hc25)) rfl rfl fun a_97 HE98 => ?_
      refine dr_take (i := 20) (ls' := #[true, true, true, true, true, true, true, true, true, true, true, true, true, true, true, true, true, true, true, true, true]) HE98 HS34 rfl (by kernel_rfl) (by kernel_rfl) (by kernel_rfl) (fun _ _ _ h => h) rfl (wt0 rfl) (x_pickT rfl (not_t hc25) rfl) rfl rfl fun a_99 HE100 => ?_
      refine dr_done (by kernel_rfl) ?_
      clear HH8 a_9 HE10 a_13 HE14 a_15 HE16 HS12 a_19 HE20 a_22 HE23 a_24 HE25 a_26 HE27 K_17 hK18 a_28 HE29 HS21 a_32 HE33 a_35 HE36 a_37 HE38 a_39 HE40 a_81 HE82 a_83 HE84 a_85 HE86 a_87 HE88 a_89 HE90 a_91 HE92 a_93 HE94 a_95 HE96 a_97 HE98 hK31 K_30
      refine nrm ?_
      refine cndT HE100 rfl rfl ?_
      refine wp_seq ?_
      refine rg ?_
      refine pl_x HE100 HH11 (wt0 rfl) (x_assign rfl) rfl rfl fun a_101 HE102 => ?_
      refine wpList_nil ?_
      clear a_99 HE100
      refine nrm ?_
      refine wp_ret ?_
      refine (thn_ret ?_)
      refine ret1 HE102 rfl (rv_tmp rfl) ?_
      have hF : (validMach a0) = false := by
        first | (simp [validMach, hc23, hc25]; done) | (unfold validMach; grind)
      exact ⟨by first | (rw [hF] <;> rfl) | rfl | (rw [hF]; simp only [Ending.returned.injEq, Value.slice.injEq, true_and, and_true]; first | omega | (simp; done)) | (rw [hF]; simp; omega), HH11.below⟩
  · refine dr_takeNo (i := 5) (ls' := #[true, true, true, true, true, true, false, false, false, false, false, false, false, false, false, false, false, false, false, false, false]) HE25 HS21 rfl (by kernel_rfl) (by kernel_rfl) (by kernel_rfl) (fun _ _ _ h => h) rfl (wtF HE25 rfl rfl rfl (not_t hc23)) rfl rfl fun a_103 HE104 => ?_
    refine dr_takeNo (i := 6) (ls' := #[true, true, true, true, true, true, true, false, false, false, false, false, false, false, false, false, false, false, false, false, false]) HE104 HS21 rfl (by kernel_rfl) (by kernel_rfl) (by kernel_rfl) (fun _ _ _ h => h) rfl (wtF HE104 rfl rfl rfl (not_t hc23)) rfl rfl fun a_105 HE106 => ?_
    refine dr_takeNo (i := 7) (ls' := #[true, true, true, true, true, true, true, true, false, false, false, false, false, false, false, false, false, false, false, false, false]) HE106 HS21 rfl (by kernel_rfl) (by kernel_rfl) (by kernel_rfl) (fun _ _ _ h => h) rfl (wtF HE106 rfl rfl rfl (not_t hc23)) rfl rfl fun a_107 HE108 => ?_
    refine dr_takeNo (i := 8) (ls' := #[true, true, true, true, true, true, true, true, true, false, false, false, false, false, false, false, false, false, false, false, false]) HE108 HS21 rfl (by kernel_rfl) (by kernel_rfl) (by kernel_rfl) (fun _ _ _ h => h) rfl (wtF HE108 rfl rfl rfl (not_t hc23)) rfl rfl fun a_109 HE110 => ?_
    refine dr_take (i := 9) (ls' := #[true, true, true, true, true, true, true, true, true, true, false, false, false, false, false, false, false, false, false, false, false]) HE110 HS21 rfl (by kernel_rfl) (by kernel_rfl) (by kernel_rfl) (fun _ _ _ h => h) rfl (wt0 rfl) (x_pickT rfl (not_t hc23) rfl) rfl rfl fun a_111 HE112 => ?_
    refine dr_take (i := 10) (ls' := #[true, true, true, true, true, true, true, true, true, true, true, false, false, false, false, false, false, false, false, false, false]) HE112 HS21 rfl (by kernel_rfl) (by kernel_rfl) (by kernel_rfl) (fun _ _ _ h => h) rfl (wt0 rfl) (x_move rfl) rfl rfl fun a_113 HE114 => ?_
    refine dr_takeNo (i := 11) (ls' := #[true, true, true, true, true, true, true, true, true, true, true, true, false, false, false, false, false, false, false, false, false]) HE114 HS21 rfl (by kernel_rfl) (by kernel_rfl) (by kernel_rfl) (fun _ _ _ h => h) rfl (wtF HE114 rfl rfl rfl rfl) rfl rfl fun a_115 HE116 => ?_
    refine dr_takeNo (i := 12) (ls' := #[true, true, true, true, true, true, true, true, true, true, true, true, true, false, false, false, false, false, false, false, false]) HE116 HS21 rfl (by kernel_rfl) (by kernel_rfl) (by kernel_rfl) (fun _ _ _ h => h) rfl (wtF HE116 rfl rfl rfl rfl) rfl rfl fun a_117 HE118 => ?_
    refine dr_takeNo (i := 13) (ls' := #[true, true, true, true, true, true, true, true, true, true, true, true, true, true, false, false, false, false, false, false, false]) HE118 HS21 rfl (by kernel_rfl) (by kernel_rfl) (by kernel_rfl) (fun _ _ _ h => h) rfl (wtF HE118 rfl rfl rfl rfl) rfl rfl fun a_119 HE120 => ?_
    refine dr_takeNo (i := 14) (ls' := #[true, true, true, true, true, true, true, true, true, true, true, true, true, true, true, false, false, false, false, false, false]) HE120 HS21 rfl (by kernel_rfl) (by kernel_rfl) (by kernel_rfl) (fun _ _ _ h => h) rfl (wtF HE120 rfl rfl rfl rfl) rfl rfl fun a_121 HE122 => ?_
    refine dr_takeNo (i := 15) (ls' := #[true, true, true, true, true, true, true, true, true, true, true, true, true, true, true, true, false, false, false, false, false]) HE122 HS21 rfl (by kernel_rfl) (by kernel_rfl) (by kernel_rfl) (fun _ _ _ h => h) rfl (wtF HE122 rfl rfl rfl rfl) rfl rfl fun a_123 HE124 => ?_
    refine dr_takeNo (i := 16) (ls' := #[true, true, true, true, true, true, true, true, true, true, true, true, true, true, true, true, true, false, false, false, false]) HE124 HS21 rfl (by kernel_rfl) (by kernel_rfl) (by kernel_rfl) (fun _ _ _ h => h) rfl (wtF HE124 rfl rfl rfl rfl) rfl rfl fun a_125 HE126 => ?_
    refine dr_takeNo (i := 17) (ls' := #[true, true, true, true, true, true, true, true, true, true, true, true, true, true, true, true, true, true, false, false, false]) HE126 HS21 rfl (by kernel_rfl) (by kernel_rfl) (by kernel_rfl) (fun _ _ _ h => h) rfl (wtF HE126 rfl rfl rfl rfl) rfl rfl fun a_127 HE128 => ?_
    refine dr_takeNo (i := 18) (ls' := #[true, true, true, true, true, true, true, true, true, true, true, true, true, true, true, true, true, true, true, false, false]) HE128 HS21 rfl (by kernel_rfl) (by kernel_rfl) (by kernel_rfl) (fun _ _ _ h => h) rfl (wtF HE128 rfl rfl rfl rfl) rfl rfl fun a_129 HE130 => ?_
    refine dr_takeNo (i := 19) (ls' := #[true, true, true, true, true, true, true, true, true, true, true, true, true, true, true, true, true, true, true, true, false]) HE130 HS21 rfl (by kernel_rfl) (by kernel_rfl) (by kernel_rfl) (fun _ _ _ h => h) rfl (wtF HE130 rfl rfl rfl rfl) rfl rfl fun a_131 HE132 => ?_
    refine dr_take (i := 20) (ls' := #[true, true, true, true, true, true, true, true, true, true, true, true, true, true, true, true, true, true, true, true, true]) HE132 HS21 rfl (by kernel_rfl) (by kernel_rfl) (by kernel_rfl) (fun _ _ _ h => h) rfl (wt0 rfl) (x_pickT rfl rfl rfl) rfl rfl fun a_133 HE134 => ?_
    refine dr_done (by kernel_rfl) ?_
    clear HH8 a_9 HE10 a_13 HE14 a_15 HE16 HS12 a_19 HE20 a_22 HE23 a_24 HE25 a_103 HE104 a_105 HE106 a_107 HE108 a_109 HE110 a_111 HE112 a_113 HE114 a_115 HE116 a_117 HE118 a_119 HE120 a_121 HE122 a_123 HE124 a_125 HE126 a_127 HE128 a_129 HE130 a_131 HE132 hK18 K_17
    refine nrm ?_
    refine cndT HE134 rfl rfl ?_
    refine wp_seq ?_
    refine rg ?_
    refine pl_x HE134 HH11 (wt0 rfl) (x_assign rfl) rfl rfl fun a_135 HE136 => ?_
    refine wpList_nil ?_
    clear a_133 HE134
    refine nrm ?_
    refine wp_ret ?_
    refine (thn_ret ?_)
    refine ret1 HE136 rfl (rv_tmp rfl) ?_
    have hF : (validMach a0) = false := by
      first | (simp [validMach, hc23]; done) | (unfold validMach; grind)
    exact ⟨by first | (rw [hF] <;> rfl) | rfl | (rw [hF]; simp only [Ending.returned.injEq, Value.slice.injEq, true_and, and_true]; first | omega | (simp; done)) | (rw [hF]; simp; omega), HH11.below⟩

set_option maxRecDepth 100000 in
set_option maxHeartbeats 4000000 in
theorem spec_l05None  (w : World)  :
    Calls Tryz.prog 90 #[] w fun e w' => ∃ (es0' : List Value), e = .returned (.agg es0'.toArray) ∧ eRule.O w' (Fr w w') es0' noRl ∧ Below w.heap.size w w' := by
  have HH1 := Held.start Nob w
  refine enter (n := 2) Tryz.func90 rfl rfl rfl fun a_2 HE3 => ?_
  refine wp_seq ?_
  refine rg ?_
  refine pl fun K_4 hK5 => ?_
  refine st_alloc HE3 HH1 tv_92 (wt0 rfl) rfl fun q21 a_6 w' HE7 HH8 => hK5 _ _ ?_
  refine wpList_nil ?_
  clear a_2 HE3 HH1 hK5 K_4
  refine nrm ?_
  refine wp_seq ?_
  refine rg ?_
  refine pl_x HE7 HH8 (wt0 rfl) (show XS _ _ _ _ (.agg #[.int .i64 (0), .int .i64 (0), .int .i64 (-1)]) from x_build (vs := [(2, .int .i64 (-1))]) tb_92 rfl (by simp [Value.oneCell'])) rfl rfl fun a_9 HE10 => ?_
  refine pl fun K_11 hK12 => ?_
  refine st_store (vs := [.int .i64 (0), .int .i64 (0), .int .i64 (-1)]) 0 HE10 HH8 tv_92 rfl rfl rfl rfl rfl rfl (by simp [Value.oneCell']) (wt0 rfl) fun w' HH13 => hK12 _ _ ?_
  refine wpList_nil ?_
  clear a_6 HE7 HH8 hK12 K_11
  refine nrm ?_
  refine wp_ret ?_
  refine ret1 HE10 rfl (rv_cell rfl (tv_92.loadN (cs := [.int .i64 (0), .int .i64 (0), .int .i64 (-1)]) rfl (c_blkN 0 rfl _ HH13))) ?_
  have HH14 := HH13.flatO (E := eRule) (cs := [.int .i64 (0), .int .i64 (0), .int .i64 (-1)]) (x := (0, 0, -1)) (fun _ => (oPrN (oI (by exact ⟨by omega, by omega⟩)) (oPrN (oI (by exact ⟨by omega, by omega⟩)) (oI (by exact ⟨by omega, by omega⟩)))))
  have hF : noRl = (0, 0, -1) := by
    rfl
  exact ⟨_, rfl, by rw [hF]; exact (HH14.o (i := 0) rfl), HH14.below⟩

set_option maxRecDepth 100000 in
set_option maxHeartbeats 4000000 in
theorem spec_l05Rule (es0 : List Value) (a0 : tRule) (a1 : Int) (a2 : Int) (w : World) (h0 : eRule.R w (Old w) es0 a0) (s0 : 2 ≤ a1 ∧ a1 ≤ 6) (s1 : 1 ≤ a2 ∧ a2 ≤ 1000) :
    Calls Tryz.prog 65 #[.agg es0.toArray, .int .i64 a1, .int .i64 a2] w fun e w' => e = .returned (.bool ((fun r s t => ruleB s t r) a0 a1 a2)) ∧ Below w.heap.size w w' := by
  have H0 := h0
  obtain ⟨rfl, gz0_0, gz0_1, gz0_2⟩ := shape_Rule h0
  have jz0_0 := gz0_0; unfold I64 at jz0_0
  have jz0_1 := gz0_1; unfold I64 at jz0_1
  have jz0_2 := gz0_2; unfold I64 at jz0_2
  have HH1 := Held.start Nob w
  refine enter (n := 32) Tryz.func65 rfl rfl rfl fun a_2 HE3 => ?_
  refine wp_seq ?_
  refine rg ?_
  refine pl fun K_4 hK5 => ?_
  refine st_box (cs := [.int .i64 (a0.1), .int .i64 (a0.2.1), .int .i64 (a0.2.2)]) HE3 HH1 rfl rfl (wt0 rfl) rfl fun q21 a_6 w' HE7 HH8 => hK5 _ _ ?_
  refine pl_x HE7 HH8 (wt0 rfl) (x_assign rfl) rfl rfl fun a_9 HE10 => ?_
  refine wpList_nil ?_
  clear a_2 HE3 HH1 a_6 HE7 hK5 K_4
  refine nrm ?_
  refine wp_seq ?_
  refine wp_seq ?_
  refine dr_start (Held Nob w [rBlk q21 92 [.int .i64 (a0.1), .int .i64 (a0.2.1), .int .i64 (a0.2.2)]]) 3 #[false, false, false] hmix rfl rfl HH8 (fun _ h => h.sel [0] (by decide) rfl) fun w' HH11 => ?_
  have HS12 := HH11
  refine dr_take (i := 0) (ls' := #[true, false, false]) HE10 HS12 rfl (by kernel_rfl) (by kernel_rfl) (by kernel_rfl) (fun _ _ _ h => h) rfl (wt0 rfl) (x_loadN (cs := [.int .i64 (a0.1), .int .i64 (a0.2.1), .int .i64 (a0.2.2)]) tv_92 rfl rfl (c_blkN 0 rfl)) rfl rfl fun a_13 HE14 => ?_
  refine dr_one (i := 1) (ls' := #[true, true, false]) rfl (by kernel_rfl) rfl fun K_15 hK16 => ?_
  refine st_call HE14 (wt0 rfl) rfl rfl rfl en_90 rfl rfl (spec_l05None  _ ) fun e w' hr => ?_
  obtain ⟨esr22_0, rfl, hor22_0, hbr22⟩ := hr
  have hr := eRule.read hor22_0
  obtain ⟨Sr22, HH17⟩ := HH11.newO hbr22 hor22_0
  obtain ⟨rfl, gr22_0_0, gr22_0_1, gr22_0_2⟩ := shape_Rule hr
  have jr22_0_0 := gr22_0_0; unfold I64 at jr22_0_0
  have jr22_0_1 := gr22_0_1; unfold I64 at jr22_0_1
  have jr22_0_2 := gr22_0_2; unfold I64 at jr22_0_2
  have HH18 := HH17.sel [1] (by decide) rfl
  refine ⟨_, rfl, fun a_19 HE20 => hK16 _ _ (by exact HH18.sel [0] (by decide) rfl) ?_⟩
  have HS21 := HH18.sel [0] (by decide) rfl
  refine dr_take (i := 2) (ls' := #[true, true, true]) HE20 HS21 rfl (by kernel_rfl) (by kernel_rfl) (by kernel_rfl) (fun _ _ _ h => h) rfl (wt0 rfl) (x_aeql eqg_Rule (fun w => eqr_Rule w _ _ _ _ _ _) rfl rfl) rfl rfl fun a_22 HE23 => ?_
  refine dr_done (by kernel_rfl) ?_
  clear HH8 a_9 HE10 HH11 HH17 a_13 HE14 HS12 a_19 HE20 hK16 K_15
  refine nrm ?_
  refine cnd_b HE23 rfl (fun hc23 => ?_) (fun hc23 => ?_)
  · refine wp_seq ?_
    refine rg ?_
    refine pl_x HE23 HH18 (wt0 rfl) (x_assign rfl) rfl rfl fun a_24 HE25 => ?_
    refine wpList_nil ?_
    clear a_22 HE23
    refine nrm ?_
    refine wp_ret ?_
    refine (thn_ret ?_)
    refine ret1 HE25 rfl (rv_tmp rfl) ?_
    have hF : ((fun r s t => ruleB s t r) a0 a1 a2) = true := by
      unfold ruleB isRl; first | (simp [hc23]; done) | grind
    exact ⟨by first | (rw [hF] <;> rfl) | rfl | (rw [hF]; simp only [Ending.returned.injEq, Value.slice.injEq, true_and, and_true]; first | omega | (simp; done)) | (rw [hF]; simp; omega), HH18.below⟩
  · refine wp_skip ?_
    refine nrm ?_
    refine wp_seq ?_
    refine rg ?_
    refine pl_x HE23 HH18 (wt0 rfl) (x_fieldAddr fa_92_0 rfl) rfl rfl fun a_26 HE27 => ?_
    refine pl_x HE27 HH18 (wt0 rfl) (x_load1 tv_2 rfl (c_blk 0 rfl rfl)) rfl rfl fun a_28 HE29 => ?_
    refine pl_x HE29 HH18 (wt0 rfl) (x_move rfl) rfl rfl fun a_30 HE31 => ?_
    refine pl_x HE31 HH18 (wt0 rfl) (x_sub rfl rfl (by exact ⟨by omega, by omega⟩)) rfl rfl fun a_32 HE33 => ?_
    refine pl fun K_34 hK35 => ?_
    refine st_call HE33 (wt0 rfl) rfl rfl rfl en_64 rfl rfl (spec_l00In a0.1 0 (a1 - 1) _ ) fun e w' hr => ?_
    obtain ⟨rfl, rfl⟩ := hr
    refine ⟨_, rfl, fun a_36 HE37 => hK35 _ _ ?_⟩
    refine pl_x HE37 HH18 (wt0 rfl) (x_move rfl) rfl rfl fun a_38 HE39 => ?_
    rcases Bool.eq_false_or_eq_true ((withinB a0.1 0 (a1 - 1))) with hc25 | hc25
    · refine pl_x HE39 HH18 (wtT HE39 rfl rfl rfl hc25) (x_fieldAddr fa_92_1 rfl) rfl rfl fun a_40 HE41 => ?_
      refine pl_x HE41 HH18 (wtT HE41 rfl rfl rfl hc25) (x_load1 tv_2 rfl (c_blk 0 rfl rfl)) rfl rfl fun a_42 HE43 => ?_
      refine pl_x HE43 HH18 (wtT HE43 rfl rfl rfl hc25) (x_eql rfl rfl) rfl rfl fun a_44 HE45 => ?_
      refine pl_x HE45 HH18 (wtT HE45 rfl rfl rfl hc25) (x_move rfl) rfl rfl fun a_46 HE47 => ?_
      by_cases hc26 : a0.2.1 = 1
      · refine pl_no HE47 (wtF HE47 rfl rfl rfl (beq_t hc26)) rfl rfl fun a_48 HE49 => ?_
        refine pl_no HE49 (wtF HE49 rfl rfl rfl (beq_t hc26)) rfl rfl fun a_50 HE51 => ?_
        refine pl_no HE51 (wtF HE51 rfl rfl rfl (beq_t hc26)) rfl rfl fun a_52 HE53 => ?_
        refine pl_x HE53 HH18 (wtT HE53 rfl rfl rfl hc25) (x_pickT rfl (beq_t hc26) rfl) rfl rfl fun a_54 HE55 => ?_
        refine pl_x HE55 HH18 (wt0 rfl) (x_pickT rfl hc25 rfl) rfl rfl fun a_56 HE57 => ?_
        refine pl_x HE57 HH18 (wt0 rfl) (x_move rfl) rfl rfl fun a_58 HE59 => ?_
        refine pl_x HE59 HH18 (wtT HE59 rfl rfl rfl rfl) (x_fieldAddr fa_92_2 rfl) rfl rfl fun a_60 HE61 => ?_
        refine pl_x HE61 HH18 (wtT HE61 rfl rfl rfl rfl) (x_load1 tv_2 rfl (c_blk 0 rfl rfl)) rfl rfl fun a_62 HE63 => ?_
        refine pl_x HE63 HH18 (wtT HE63 rfl rfl rfl rfl) (x_move rfl) rfl rfl fun a_64 HE65 => ?_
        refine pl_x HE65 HH18 (wtT HE65 rfl rfl rfl rfl) (x_sub rfl rfl (by exact ⟨by omega, by omega⟩)) rfl rfl fun a_66 HE67 => ?_
        refine pl fun K_68 hK69 => ?_
        refine st_call HE67 (wtT HE67 rfl rfl rfl rfl) rfl rfl rfl en_64 rfl rfl (spec_l00In a0.2.2 0 (a2 - 1) _ ) fun e w' hr => ?_
        obtain ⟨rfl, rfl⟩ := hr
        refine ⟨_, rfl, fun a_70 HE71 => hK69 _ _ ?_⟩
        refine pl_x HE71 HH18 (wt0 rfl) (x_pickT rfl rfl rfl) rfl rfl fun a_72 HE73 => ?_
        refine pl_x HE73 HH18 (wt0 rfl) (x_assign rfl) rfl rfl fun a_74 HE75 => ?_
        refine wpList_nil ?_
        clear a_22 HE23 a_26 HE27 a_28 HE29 a_30 HE31 a_32 HE33 a_36 HE37 a_38 HE39 a_40 HE41 a_42 HE43 a_44 HE45 a_46 HE47 a_48 HE49 a_50 HE51 a_52 HE53 a_54 HE55 a_56 HE57 a_58 HE59 a_60 HE61 a_62 HE63 a_64 HE65 K_34 hK35 a_66 HE67 a_70 HE71 a_72 HE73 hK69 K_68
        refine nrm ?_
        refine wp_ret ?_
        refine ret1 HE75 rfl (rv_tmp rfl) ?_
        have hF : ((fun r s t => ruleB s t r) a0 a1 a2) = (withinB a0.2.2 0 (a2 - 1)) := by
          unfold ruleB isRl; first | (simp [hc23, hc25, hc26]; done) | grind
        exact ⟨by first | (rw [hF] <;> rfl) | rfl | (rw [hF]; simp only [Ending.returned.injEq, Value.slice.injEq, true_and, and_true]; first | omega | (simp; done)) | (rw [hF]; simp; omega), HH18.below⟩
      · refine pl_x HE47 HH18 (wtT HE47 rfl rfl rfl (beq_f hc26)) (x_fieldAddr fa_92_1 rfl) rfl rfl fun a_76 HE77 => ?_
        refine pl_x HE77 HH18 (wtT HE77 rfl rfl rfl (beq_f hc26)) (x_load1 tv_2 rfl (c_blk 0 rfl rfl)) rfl rfl fun a_78 HE79 => ?_
        refine pl_x HE79 HH18 (wtT HE79 rfl rfl rfl (beq_f hc26)) (x_eql rfl rfl) rfl rfl fun a_80 HE81 => ?_
        refine pl_x HE81 HH18 (wtT HE81 rfl rfl rfl hc25) (x_pickF rfl (beq_f hc26) rfl) rfl rfl fun a_82 HE83 => ?_
        refine pl_x HE83 HH18 (wt0 rfl) (x_pickT rfl hc25 rfl) rfl rfl fun a_84 HE85 => ?_
        refine pl_x HE85 HH18 (wt0 rfl) (x_move rfl) rfl rfl fun a_86 HE87 => ?_
        by_cases hc28 : a0.2.1 = -1
        · refine pl_x HE87 HH18 (wtT HE87 rfl rfl rfl (beq_t hc28)) (x_fieldAddr fa_92_2 rfl) rfl rfl fun a_88 HE89 => ?_
          refine pl_x HE89 HH18 (wtT HE89 rfl rfl rfl (beq_t hc28)) (x_load1 tv_2 rfl (c_blk 0 rfl rfl)) rfl rfl fun a_90 HE91 => ?_
          refine pl_x HE91 HH18 (wtT HE91 rfl rfl rfl (beq_t hc28)) (x_move rfl) rfl rfl fun a_92 HE93 => ?_
          refine pl_x HE93 HH18 (wtT HE93 rfl rfl rfl (beq_t hc28)) (x_sub rfl rfl (by exact ⟨by omega, by omega⟩)) rfl rfl fun a_94 HE95 => ?_
          refine pl fun K_96 hK97 => ?_
          refine st_call HE95 (wtT HE95 rfl rfl rfl (beq_t hc28)) rfl rfl rfl en_64 rfl rfl (spec_l00In a0.2.2 0 (a2 - 1) _ ) fun e w' hr => ?_
          obtain ⟨rfl, rfl⟩ := hr
          refine ⟨_, rfl, fun a_98 HE99 => hK97 _ _ ?_⟩
          refine pl_x HE99 HH18 (wt0 rfl) (x_pickT rfl (beq_t hc28) rfl) rfl rfl fun a_100 HE101 => ?_
          refine pl_x HE101 HH18 (wt0 rfl) (x_assign rfl) rfl rfl fun a_102 HE103 => ?_
          refine wpList_nil ?_
          clear a_22 HE23 a_26 HE27 a_28 HE29 a_30 HE31 a_32 HE33 a_36 HE37 a_38 HE39 a_40 HE41 a_42 HE43 a_44 HE45 a_46 HE47 a_76 HE77 a_78 HE79 a_80 HE81 a_82 HE83 a_84 HE85 a_86 HE87 a_88 HE89 a_90 HE91 a_92 HE93 K_34 hK35 a_94 HE95 a_98 HE99 a_100 HE101 hK97 K_96
          refine nrm ?_
          refine wp_ret ?_
          refine ret1 HE103 rfl (rv_tmp rfl) ?_
          have hF : ((fun r s t => ruleB s t r) a0 a1 a2) = (withinB a0.2.2 0 (a2 - 1)) := by
            unfold ruleB isRl; first | (simp [hc23, hc25, hc26, hc28]; done) | grind
          exact ⟨by first | (rw [hF] <;> rfl) | rfl | (rw [hF]; simp only [Ending.returned.injEq, Value.slice.injEq, true_and, and_true]; first | omega | (simp; done)) | (rw [hF]; simp; omega), HH18.below⟩
        · refine pl_no HE87 (wtF HE87 rfl rfl rfl (beq_f hc28)) rfl rfl fun a_104 HE105 => ?_
          refine pl_no HE105 (wtF HE105 rfl rfl rfl (beq_f hc28)) rfl rfl fun a_106 HE107 => ?_
          refine pl_no HE107 (wtF HE107 rfl rfl rfl (beq_f hc28)) rfl rfl fun a_108 HE109 => ?_
          refine pl_no HE109 (wtF HE109 rfl rfl rfl (beq_f hc28)) rfl rfl fun a_110 HE111 => ?_
          refine pl_no HE111 (wtF HE111 rfl rfl rfl (beq_f hc28)) rfl rfl fun a_112 HE113 => ?_
          refine pl_x HE113 HH18 (wt0 rfl) (x_pickF rfl (beq_f hc28) rfl) rfl rfl fun a_114 HE115 => ?_
          refine pl_x HE115 HH18 (wt0 rfl) (x_assign rfl) rfl rfl fun a_116 HE117 => ?_
          refine wpList_nil ?_
          clear a_22 HE23 a_26 HE27 a_28 HE29 a_30 HE31 a_32 HE33 a_36 HE37 a_38 HE39 a_40 HE41 a_42 HE43 a_44 HE45 a_46 HE47 a_76 HE77 a_78 HE79 a_80 HE81 a_82 HE83 a_84 HE85 a_86 HE87 a_104 HE105 a_106 HE107 a_108 HE109 a_110 HE111 a_112 HE113 a_114 HE115 hK35 K_34
          refine nrm ?_
          refine wp_ret ?_
          refine ret1 HE117 rfl (rv_tmp rfl) ?_
          have hF : ((fun r s t => ruleB s t r) a0 a1 a2) = false := by
            unfold ruleB isRl; first | (simp [hc23, hc25, hc26, hc28]; done) | grind
          exact ⟨by first | (rw [hF] <;> rfl) | rfl | (rw [hF]; simp only [Ending.returned.injEq, Value.slice.injEq, true_and, and_true]; first | omega | (simp; done)) | (rw [hF]; simp; omega), HH18.below⟩
    · refine pl_no HE39 (wtF HE39 rfl rfl rfl hc25) rfl rfl fun a_118 HE119 => ?_
      refine pl_no HE119 (wtF HE119 rfl rfl rfl hc25) rfl rfl fun a_120 HE121 => ?_
      refine pl_no HE121 (wtF HE121 rfl rfl rfl hc25) rfl rfl fun a_122 HE123 => ?_
      refine pl_no HE123 (wtF HE123 rfl rfl rfl hc25) rfl rfl fun a_124 HE125 => ?_
      refine pl_no HE125 (wtU HE125 rfl rfl rfl) rfl rfl fun a_126 HE127 => ?_
      refine pl_no HE127 (wtU HE127 rfl rfl rfl) rfl rfl fun a_128 HE129 => ?_
      refine pl_no HE129 (wtU HE129 rfl rfl rfl) rfl rfl fun a_130 HE131 => ?_
      refine pl_no HE131 (wtF HE131 rfl rfl rfl hc25) rfl rfl fun a_132 HE133 => ?_
      refine pl_x HE133 HH18 (wt0 rfl) (x_pickF rfl hc25 rfl) rfl rfl fun a_134 HE135 => ?_
      refine pl_x HE135 HH18 (wt0 rfl) (x_move rfl) rfl rfl fun a_136 HE137 => ?_
      refine pl_no HE137 (wtF HE137 rfl rfl rfl rfl) rfl rfl fun a_138 HE139 => ?_
      refine pl_no HE139 (wtF HE139 rfl rfl rfl rfl) rfl rfl fun a_140 HE141 => ?_
      refine pl_no HE141 (wtF HE141 rfl rfl rfl rfl) rfl rfl fun a_142 HE143 => ?_
      refine pl_no HE143 (wtF HE143 rfl rfl rfl rfl) rfl rfl fun a_144 HE145 => ?_
      refine pl_no HE145 (wtF HE145 rfl rfl rfl rfl) rfl rfl fun a_146 HE147 => ?_
      refine pl_x HE147 HH18 (wt0 rfl) (x_pickF rfl rfl rfl) rfl rfl fun a_148 HE149 => ?_
      refine pl_x HE149 HH18 (wt0 rfl) (x_assign rfl) rfl rfl fun a_150 HE151 => ?_
      refine wpList_nil ?_
      clear a_22 HE23 a_26 HE27 a_28 HE29 a_30 HE31 a_32 HE33 a_36 HE37 a_38 HE39 a_118 HE119 a_120 HE121 a_122 HE123 a_124 HE125 a_126 HE127 a_128 HE129 a_130 HE131 a_132 HE133 a_134 HE135 a_136 HE137 a_138 HE139 a_140 HE141 a_142 HE143 a_144 HE145 a_146 HE147 a_148 HE149 hK35 K_34
      refine nrm ?_
      refine wp_ret ?_
      refine ret1 HE151 rfl (rv_tmp rfl) ?_
      have hF : ((fun r s t => ruleB s t r) a0 a1 a2) = false := by
        unfold ruleB isRl; first | (simp [hc23, hc25]; done) | grind
      exact ⟨by first | (rw [hF] <;> rfl) | rfl | (rw [hF]; simp only [Ending.returned.injEq, Value.slice.injEq, true_and, and_true]; first | omega | (simp; done)) | (rw [hF]; simp; omega), HH18.below⟩

set_option maxRecDepth 100000 in
set_option maxHeartbeats 4000000 in
theorem spec_l05Is (p0 o0 : Nat) (es0 : List Value) (a0 : tMachine) (w : World) (h0 : eMachine.R w (Old w) es0 a0) (hq0 : ∀ j v, es0[j]? = some v → w.cell? ⟨p0, o0 + j, none⟩ = some v) :
    Calls Tryz.prog 24 #[.pointer (some ⟨p0, o0, none⟩)] w fun e w' => e = .returned (.bool (validMach a0)) ∧ Below w.heap.size w w' := by
  have H0 := h0
  obtain ⟨Az0_2, cz0_2, rfl, gz0_0, gz0_1, gz0_2⟩ := shape_Machine h0
  have jz0_0 := gz0_0; unfold I64 at jz0_0
  have jz0_1 := gz0_1; unfold I64 at jz0_1
  have lz0_2 := gz0_2.len
  have HH1 := Held.start Nob w
  refine enter (n := 61) Tryz.func24 rfl rfl rfl fun a_2 HE3 => ?_
  refine wp_seq ?_
  refine rg ?_
  refine pl_x HE3 HH1 (wt0 rfl) (x_assign rfl) rfl rfl fun a_4 HE5 => ?_
  refine wpList_nil ?_
  clear a_2 HE3
  refine nrm ?_
  refine wp_seq ?_
  refine wp_seq ?_
  refine dr_start (Held Nob w []) 31 #[false, false, false, false, false, false, false, false, false, false, false, false, false, false, false, false, false, false, false, false, false, false, false, false, false, false, false, false, false, false, false] hmix rfl rfl HH1 (fun _ h => h.sel [] (by decide) rfl) fun w' HH6 => ?_
  have HS7 := HH6
  refine dr_take (i := 0) (ls' := #[true, false, false, false, false, false, false, false, false, false, false, false, false, false, false, false, false, false, false, false, false, false, false, false, false, false, false, false, false, false, false]) HE5 HS7 rfl (by kernel_rfl) (by kernel_rfl) (by kernel_rfl) (fun _ _ _ h => h) rfl (wt0 rfl) (x_move rfl) rfl rfl fun a_8 HE9 => ?_
  refine dr_take (i := 1) (ls' := #[true, true, false, false, false, false, false, false, false, false, false, false, false, false, false, false, false, false, false, false, false, false, false, false, false, false, false, false, false, false, false]) HE9 HS7 rfl (by kernel_rfl) (by kernel_rfl) (by kernel_rfl) (fun _ _ _ h => h) rfl (wt0 rfl) (x_nilCheck rfl) rfl rfl fun a_10 HE11 => ?_
  refine dr_take (i := 2) (ls' := #[true, true, true, false, false, false, false, false, false, false, false, false, false, false, false, false, false, false, false, false, false, false, false, false, false, false, false, false, false, false, false]) HE11 HS7 rfl (by kernel_rfl) (by kernel_rfl) (by kernel_rfl) (fun _ _ _ h => h) rfl (wt0 rfl) (x_fieldAddr fa_33_0 rfl) rfl rfl fun a_12 HE13 => ?_
  refine dr_take (i := 3) (ls' := #[true, true, true, true, false, false, false, false, false, false, false, false, false, false, false, false, false, false, false, false, false, false, false, false, false, false, false, false, false, false, false]) HE13 HS7 rfl (by kernel_rfl) (by kernel_rfl) (by kernel_rfl) (fun _ _ _ h => h) rfl (wt0 rfl) (x_load1 tv_2 rfl (c_old (hq0 0 _ rfl))) rfl rfl fun a_14 HE15 => ?_
  refine dr_one (i := 4) (ls' := #[true, true, true, true, true, false, false, false, false, false, false, false, false, false, false, false, false, false, false, false, false, false, false, false, false, false, false, false, false, false, false]) rfl (by kernel_rfl) rfl fun K_16 hK17 => ?_
  refine st_call HE15 (wt0 rfl) rfl rfl rfl en_64 rfl rfl (spec_l00In a0.1 2 6 _ ) fun e w' hr => ?_
  obtain ⟨rfl, rfl⟩ := hr
  refine ⟨_, rfl, fun a_18 HE19 => hK17 _ _ (by exact HH6.sel [] (by decide) rfl) ?_⟩
  have HS20 := HH6.sel [] (by decide) rfl
  refine dr_take (i := 5) (ls' := #[true, true, true, true, true, true, false, false, false, false, false, false, false, false, false, false, false, false, false, false, false, false, false, false, false, false, false, false, false, false, false]) HE19 HS20 rfl (by kernel_rfl) (by kernel_rfl) (by kernel_rfl) (fun _ _ _ h => h) rfl (wt0 rfl) (x_not rfl) rfl rfl fun a_21 HE22 => ?_
  refine dr_take (i := 6) (ls' := #[true, true, true, true, true, true, true, false, false, false, false, false, false, false, false, false, false, false, false, false, false, false, false, false, false, false, false, false, false, false, false]) HE22 HS20 rfl (by kernel_rfl) (by kernel_rfl) (by kernel_rfl) (fun _ _ _ h => h) rfl (wt0 rfl) (x_move rfl) rfl rfl fun a_23 HE24 => ?_
  rcases Bool.eq_false_or_eq_true ((withinB a0.1 2 6)) with hc22 | hc22
  · have m0 := withinB_true.1 hc22
    refine dr_take (i := 7) (ls' := #[true, true, true, true, true, true, true, true, false, false, false, false, false, false, false, false, false, false, false, false, false, false, false, false, false, false, false, false, false, false, false]) HE24 HS20 rfl (by kernel_rfl) (by kernel_rfl) (by kernel_rfl) (fun _ _ _ h => h) rfl (wtT HE24 rfl rfl rfl (not_f hc22)) (x_move rfl) rfl rfl fun a_25 HE26 => ?_
    refine dr_take (i := 8) (ls' := #[true, true, true, true, true, true, true, true, true, false, false, false, false, false, false, false, false, false, false, false, false, false, false, false, false, false, false, false, false, false, false]) HE26 HS20 rfl (by kernel_rfl) (by kernel_rfl) (by kernel_rfl) (fun _ _ _ h => h) rfl (wtT HE26 rfl rfl rfl (not_f hc22)) (x_nilCheck rfl) rfl rfl fun a_27 HE28 => ?_
    refine dr_take (i := 9) (ls' := #[true, true, true, true, true, true, true, true, true, true, false, false, false, false, false, false, false, false, false, false, false, false, false, false, false, false, false, false, false, false, false]) HE28 HS20 rfl (by kernel_rfl) (by kernel_rfl) (by kernel_rfl) (fun _ _ _ h => h) rfl (wtT HE28 rfl rfl rfl (not_f hc22)) (x_fieldAddr fa_33_1 rfl) rfl rfl fun a_29 HE30 => ?_
    refine dr_take (i := 10) (ls' := #[true, true, true, true, true, true, true, true, true, true, true, false, false, false, false, false, false, false, false, false, false, false, false, false, false, false, false, false, false, false, false]) HE30 HS20 rfl (by kernel_rfl) (by kernel_rfl) (by kernel_rfl) (fun _ _ _ h => h) rfl (wtT HE30 rfl rfl rfl (not_f hc22)) (x_load1 tv_2 rfl (c_old (hq0 1 _ rfl))) rfl rfl fun a_31 HE32 => ?_
    refine dr_one (i := 11) (ls' := #[true, true, true, true, true, true, true, true, true, true, true, true, false, false, false, false, false, false, false, false, false, false, false, false, false, false, false, false, false, false, false]) rfl (by kernel_rfl) rfl fun K_33 hK34 => ?_
    refine st_call HE32 (wtT HE32 rfl rfl rfl (not_f hc22)) rfl rfl rfl en_64 rfl rfl (spec_l00In a0.2.1 1 1000 _ ) fun e w' hr => ?_
    obtain ⟨rfl, rfl⟩ := hr
    refine ⟨_, rfl, fun a_35 HE36 => hK34 _ _ (by exact HH6.sel [] (by decide) rfl) ?_⟩
    have HS37 := HH6.sel [] (by decide) rfl
    refine dr_take (i := 12) (ls' := #[true, true, true, true, true, true, true, true, true, true, true, true, true, false, false, false, false, false, false, false, false, false, false, false, false, false, false, false, false, false, false]) HE36 HS37 rfl (by kernel_rfl) (by kernel_rfl) (by kernel_rfl) (fun _ _ _ h => h) rfl (wtT HE36 rfl rfl rfl (not_f hc22)) (x_not rfl) rfl rfl fun a_38 HE39 => ?_
    refine dr_take (i := 13) (ls' := #[true, true, true, true, true, true, true, true, true, true, true, true, true, true, false, false, false, false, false, false, false, false, false, false, false, false, false, false, false, false, false]) HE39 HS37 rfl (by kernel_rfl) (by kernel_rfl) (by kernel_rfl) (fun _ _ _ h => h) rfl (wt0 rfl) (x_pickF rfl (not_f hc22) rfl) rfl rfl fun a_40 HE41 => ?_
    refine dr_take (i := 14) (ls' := #[true, true, true, true, true, true, true, true, true, true, true, true, true, true, true, false, false, false, false, false, false, false, false, false, false, false, false, false, false, false, false]) HE41 HS37 rfl (by kernel_rfl) (by kernel_rfl) (by kernel_rfl) (fun _ _ _ h => h) rfl (wt0 rfl) (x_move rfl) rfl rfl fun a_42 HE43 => ?_
    rcases Bool.eq_false_or_eq_true ((withinB a0.2.1 1 1000)) with hc24 | hc24
    · have m1 := withinB_true.1 hc24
      obtain ⟨m2, m3⟩ := mul_bd2 m0 m1
      refine dr_take (i := 15) (ls' := #[true, true, true, true, true, true, true, true, true, true, true, true, true, true, true, true, false, false, false, false, false, false, false, false, false, false, false, false, false, false, false]) HE43 HS37 rfl (by kernel_rfl) (by kernel_rfl) (by kernel_rfl) (fun _ _ _ h => h) rfl (wtT HE43 rfl rfl rfl (not_f hc24)) (x_move rfl) rfl rfl fun a_44 HE45 => ?_
      refine dr_take (i := 16) (ls' := #[true, true, true, true, true, true, true, true, true, true, true, true, true, true, true, true, true, false, false, false, false, false, false, false, false, false, false, false, false, false, false]) HE45 HS37 rfl (by kernel_rfl) (by kernel_rfl) (by kernel_rfl) (fun _ _ _ h => h) rfl (wtT HE45 rfl rfl rfl (not_f hc24)) (x_nilCheck rfl) rfl rfl fun a_46 HE47 => ?_
      refine dr_take (i := 17) (ls' := #[true, true, true, true, true, true, true, true, true, true, true, true, true, true, true, true, true, true, false, false, false, false, false, false, false, false, false, false, false, false, false]) HE47 HS37 rfl (by kernel_rfl) (by kernel_rfl) (by kernel_rfl) (fun _ _ _ h => h) rfl (wtT HE47 rfl rfl rfl (not_f hc24)) (x_fieldAddr fa_33_2 rfl) rfl rfl fun a_48 HE49 => ?_
      refine dr_take (i := 18) (ls' := #[true, true, true, true, true, true, true, true, true, true, true, true, true, true, true, true, true, true, true, false, false, false, false, false, false, false, false, false, false, false, false]) HE49 HS37 rfl (by kernel_rfl) (by kernel_rfl) (by kernel_rfl) (fun _ _ _ h => h) rfl (wtT HE49 rfl rfl rfl (not_f hc24)) (x_load1 tv_31 rfl (c_old (hq0 2 _ rfl))) rfl rfl fun a_50 HE51 => ?_
      refine dr_take (i := 19) (ls' := #[true, true, true, true, true, true, true, true, true, true, true, true, true, true, true, true, true, true, true, true, false, false, false, false, false, false, false, false, false, false, false]) HE51 HS37 rfl (by kernel_rfl) (by kernel_rfl) (by kernel_rfl) (fun _ _ _ h => h) rfl (wtT HE51 rfl rfl rfl (not_f hc24)) (x_len Tryz.underlying31 rfl) rfl rfl fun a_52 HE53 => ?_
      refine dr_take (i := 20) (ls' := #[true, true, true, true, true, true, true, true, true, true, true, true, true, true, true, true, true, true, true, true, true, false, false, false, false, false, false, false, false, false, false]) HE53 HS37 rfl (by kernel_rfl) (by kernel_rfl) (by kernel_rfl) (fun _ _ _ h => h) rfl (wtT HE53 rfl rfl rfl (not_f hc24)) (x_move rfl) rfl rfl fun a_54 HE55 => ?_
      refine dr_take (i := 21) (ls' := #[true, true, true, true, true, true, true, true, true, true, true, true, true, true, true, true, true, true, true, true, true, true, false, false, false, false, false, false, false, false, false]) HE55 HS37 rfl (by kernel_rfl) (by kernel_rfl) (by kernel_rfl) (fun _ _ _ h => h) rfl (wtT HE55 rfl rfl rfl (not_f hc24)) (x_nilCheck rfl) rfl rfl fun a_56 HE57 => ?_
      refine dr_take (i := 22) (ls' := #[true, true, true, true, true, true, true, true, true, true, true, true, true, true, true, true, true, true, true, true, true, true, true, false, false, false, false, false, false, false, false]) HE57 HS37 rfl (by kernel_rfl) (by kernel_rfl) (by kernel_rfl) (fun _ _ _ h => h) rfl (wtT HE57 rfl rfl rfl (not_f hc24)) (x_fieldAddr fa_33_0 rfl) rfl rfl fun a_58 HE59 => ?_
      refine dr_take (i := 23) (ls' := #[true, true, true, true, true, true, true, true, true, true, true, true, true, true, true, true, true, true, true, true, true, true, true, true, false, false, false, false, false, false, false]) HE59 HS37 rfl (by kernel_rfl) (by kernel_rfl) (by kernel_rfl) (fun _ _ _ h => h) rfl (wtT HE59 rfl rfl rfl (not_f hc24)) (x_load1 tv_2 rfl (c_old (hq0 0 _ rfl))) rfl rfl fun a_60 HE61 => ?_
      refine dr_take (i := 24) (ls' := #[true, true, true, true, true, true, true, true, true, true, true, true, true, true, true, true, true, true, true, true, true, true, true, true, true, false, false, false, false, false, false]) HE61 HS37 rfl (by kernel_rfl) (by kernel_rfl) (by kernel_rfl) (fun _ _ _ h => h) rfl (wtT HE61 rfl rfl rfl (not_f hc24)) (x_move rfl) rfl rfl fun a_62 HE63 => ?_
      refine dr_take (i := 25) (ls' := #[true, true, true, true, true, true, true, true, true, true, true, true, true, true, true, true, true, true, true, true, true, true, true, true, true, true, false, false, false, false, false]) HE63 HS37 rfl (by kernel_rfl) (by kernel_rfl) (by kernel_rfl) (fun _ _ _ h => h) rfl (wtT HE63 rfl rfl rfl (not_f hc24)) (x_nilCheck rfl) rfl rfl fun a_64 HE65 => ?_
      refine dr_take (i := 26) (ls' := #[true, true, true, true, true, true, true, true, true, true, true, true, true, true, true, true, true, true, true, true, true, true, true, true, true, true, true, false, false, false, false]) HE65 HS37 rfl (by kernel_rfl) (by kernel_rfl) (by kernel_rfl) (fun _ _ _ h => h) rfl (wtT HE65 rfl rfl rfl (not_f hc24)) (x_fieldAddr fa_33_1 rfl) rfl rfl fun a_66 HE67 => ?_
      refine dr_take (i := 27) (ls' := #[true, true, true, true, true, true, true, true, true, true, true, true, true, true, true, true, true, true, true, true, true, true, true, true, true, true, true, true, false, false, false]) HE67 HS37 rfl (by kernel_rfl) (by kernel_rfl) (by kernel_rfl) (fun _ _ _ h => h) rfl (wtT HE67 rfl rfl rfl (not_f hc24)) (x_load1 tv_2 rfl (c_old (hq0 1 _ rfl))) rfl rfl fun a_68 HE69 => ?_
      refine dr_take (i := 28) (ls' := #[true, true, true, true, true, true, true, true, true, true, true, true, true, true, true, true, true, true, true, true, true, true, true, true, true, true, true, true, true, false, false]) HE69 HS37 rfl (by kernel_rfl) (by kernel_rfl) (by kernel_rfl) (fun _ _ _ h => h) rfl (wtT HE69 rfl rfl rfl (not_f hc24)) (x_mul rfl rfl (by exact ⟨by omega, by omega⟩)) rfl rfl fun a_70 HE71 => ?_
      refine dr_take (i := 29) (ls' := #[true, true, true, true, true, true, true, true, true, true, true, true, true, true, true, true, true, true, true, true, true, true, true, true, true, true, true, true, true, true, false]) HE71 HS37 rfl (by kernel_rfl) (by kernel_rfl) (by kernel_rfl) (fun _ _ _ h => h) rfl (wtT HE71 rfl rfl rfl (not_f hc24)) (x_neq rfl rfl) rfl rfl fun a_72 HE73 => ?_
      refine dr_take (i := 30) (ls' := #[true, true, true, true, true, true, true, true, true, true, true, true, true, true, true, true, true, true, true, true, true, true, true, true, true, true, true, true, true, true, true]) HE73 HS37 rfl (by kernel_rfl) (by kernel_rfl) (by kernel_rfl) (fun _ _ _ h => h) rfl (wt0 rfl) (x_pickF rfl (not_f hc24) rfl) rfl rfl fun a_74 HE75 => ?_
      refine dr_done (by kernel_rfl) ?_
      clear HH1 a_4 HE5 a_8 HE9 a_10 HE11 a_12 HE13 a_14 HE15 HS7 a_18 HE19 a_21 HE22 a_23 HE24 a_25 HE26 a_27 HE28 a_29 HE30 K_16 hK17 a_31 HE32 HS20 a_35 HE36 a_38 HE39 a_40 HE41 a_42 HE43 a_44 HE45 a_46 HE47 a_48 HE49 a_50 HE51 a_52 HE53 a_54 HE55 a_56 HE57 a_58 HE59 a_60 HE61 a_62 HE63 a_64 HE65 a_66 HE67 a_68 HE69 a_70 HE71 a_72 HE73 hK34 K_33
      refine nrm ?_
      refine cnd_ne HE75 rfl (fun hc25 => ?_) (fun hc25 => ?_)
      · refine wp_seq ?_
        refine rg ?_
        refine pl_x HE75 HH6 (wt0 rfl) (x_assign rfl) rfl rfl fun a_76 HE77 => ?_
        refine wpList_nil ?_
        clear a_74 HE75
        refine nrm ?_
        refine wp_ret ?_
        refine (thn_ret ?_)
        refine ret1 HE77 rfl (rv_tmp rfl) ?_
        have hF : (validMach a0) = false := by
          first | (simp [validMach, hc22, hc24, hc25]; done) | (unfold validMach; rw [any_hit (by omega : k < a0.2.2.length) (by rw [← xe0]; simp [hc25])]; simp; done) | (have hq := p0_1; rw [List.take_of_length_le (by omega)] at hq; unfold validMach; rw [hq]; grind) | (unfold validMach; grind)
        exact ⟨by first | (rw [hF] <;> rfl) | rfl | (rw [hF]; simp only [Ending.returned.injEq, Value.slice.injEq, true_and, and_true]; first | omega | (simp; done)) | (rw [hF]; simp; omega), HH6.below⟩
      · refine wp_skip ?_
        refine nrm ?_
        refine wp_seq ?_
        refine wp_seq ?_
        refine rg ?_
        refine pl_x HE75 HH6 (wt0 rfl) (x_assign rfl) rfl rfl fun a_78 HE79 => ?_
        refine wpList_nil ?_
        clear a_74 HE75
        refine nrm ?_
        refine wp_block ?_
        refine lp (fun m a w' => ∃ (k : Nat), m = a0.2.2.length - k ∧ Env 61 [(3, .int .i64 (k : Int)), (0, .pointer (some ⟨p0, o0, none⟩))] a ∧ Held Nob w [] w' ∧ (k ≤ a0.2.2.length) ∧ ((a0.2.2.take k).any (fun r => !ruleB a0.1 a0.2.1 r) = false)) (a0.2.2.length - (0)) ?_ ?_
        · exact ⟨0, rfl, HE79.sub ⟨(lkI rfl (by first | rfl | omega | (simp [hc22, hc24, hc25]; done))), rfl, trivial⟩, (HH6.sel [] (by decide) rfl), (by first | omega | assumption | (simp; done) | simp_all), (by rfl)⟩
        · rintro m a_80 w' ⟨k, rfl, HE81, HH82, p26_0, p26_1⟩
          refine wp_seq ?_
          refine wp_seq ?_
          refine rg ?_
          refine pl_x HE81 HH82 (wt0 rfl) (x_move rfl) rfl rfl fun a_83 HE84 => ?_
          refine pl_x HE84 HH82 (wt0 rfl) (x_move rfl) rfl rfl fun a_85 HE86 => ?_
          refine pl_x HE86 HH82 (wt0 rfl) (x_nilCheck rfl) rfl rfl fun a_87 HE88 => ?_
          refine pl_x HE88 HH82 (wt0 rfl) (x_fieldAddr fa_33_2 rfl) rfl rfl fun a_89 HE90 => ?_
          refine pl_x HE90 HH82 (wt0 rfl) (x_load1 tv_31 rfl (c_old (hq0 2 _ rfl))) rfl rfl fun a_91 HE92 => ?_
          refine pl_x HE92 HH82 (wt0 rfl) (x_len Tryz.underlying31 rfl) rfl rfl fun a_93 HE94 => ?_
          refine pl_x HE94 HH82 (wt0 rfl) (x_lss rfl rfl) rfl rfl fun a_95 HE96 => ?_
          refine wpList_nil ?_
          clear a_78 HE79 HH6 a_80 HE81 a_83 HE84 a_85 HE86 a_87 HE88 a_89 HE90 a_91 HE92 a_93 HE94
          refine nrm ?_
          refine cnd_d HE96 rfl (fun hc27 => ?_) (fun hc27 => ?_)
          · refine wp_skip ?_
            refine nrm ?_
            refine wp_seq ?_
            refine wp_block ?_
            refine wp_seq ?_
            refine dr_start (Held Nob w []) 17 #[false, false, false, false, false, false, false, false, false, false, false, false, false, false, false, false, false] hmix rfl rfl HH82 (fun _ h => h.sel [] (by decide) rfl) fun w' HH97 => ?_
            have HS98 := HH97
            refine dr_take (i := 0) (ls' := #[true, false, false, false, false, false, false, false, false, false, false, false, false, false, false, false, false]) HE96 HS98 rfl (by kernel_rfl) (by kernel_rfl) (by kernel_rfl) (fun _ _ _ h => h) rfl (wt0 rfl) (x_move rfl) rfl rfl fun a_99 HE100 => ?_
            refine dr_take (i := 1) (ls' := #[true, true, false, false, false, false, false, false, false, false, false, false, false, false, false, false, false]) HE100 HS98 rfl (by kernel_rfl) (by kernel_rfl) (by kernel_rfl) (fun _ _ _ h => h) rfl (wt0 rfl) (x_nilCheck rfl) rfl rfl fun a_101 HE102 => ?_
            refine dr_take (i := 2) (ls' := #[true, true, true, false, false, false, false, false, false, false, false, false, false, false, false, false, false]) HE102 HS98 rfl (by kernel_rfl) (by kernel_rfl) (by kernel_rfl) (fun _ _ _ h => h) rfl (wt0 rfl) (x_fieldAddr fa_33_2 rfl) rfl rfl fun a_103 HE104 => ?_
            refine dr_take (i := 3) (ls' := #[true, true, true, true, false, false, false, false, false, false, false, false, false, false, false, false, false]) HE104 HS98 rfl (by kernel_rfl) (by kernel_rfl) (by kernel_rfl) (fun _ _ _ h => h) rfl (wt0 rfl) (x_load1 tv_31 rfl (c_old (hq0 2 _ rfl))) rfl rfl fun a_105 HE106 => ?_
            refine dr_take (i := 4) (ls' := #[true, true, true, true, true, false, false, false, false, false, false, false, false, false, false, false, false]) HE106 HS98 rfl (by kernel_rfl) (by kernel_rfl) (by kernel_rfl) (fun _ _ _ h => h) rfl (wt0 rfl) (x_move rfl) rfl rfl fun a_107 HE108 => ?_
            have ke28 : k < a0.2.2.length := by omega
            obtain ⟨be28, fe28, ese28, Ae28, Re28, De28⟩ := el_old gz0_2 ke28
            obtain ⟨e28, xe28⟩ : ∃ x_, x_ = a0.2.2[k] := ⟨_, rfl⟩
            rw [← xe28] at Re28
            have Qe28 := Re28
            obtain ⟨rfl, ge28_0, ge28_1, ge28_2⟩ := shape_Rule Re28
            have je28_0 := ge28_0; unfold I64 at je28_0
            have je28_1 := ge28_1; unfold I64 at je28_1
            have je28_2 := ge28_2; unfold I64 at je28_2
            refine dr_take (i := 5) (ls' := #[true, true, true, true, true, true, false, false, false, false, false, false, false, false, false, false, false]) HE108 HS98 rfl (by kernel_rfl) (by kernel_rfl) (by kernel_rfl) (fun _ _ _ h => h) rfl (wt0 rfl) (x_indexAddr ts_31 rfl rfl Ae28 rfl ke28) rfl rfl fun a_109 HE110 => ?_
            refine dr_take (i := 6) (ls' := #[true, true, true, true, true, true, true, false, false, false, false, false, false, false, false, false, false]) HE110 HS98 rfl (by kernel_rfl) (by kernel_rfl) (by kernel_rfl) (fun _ _ _ h => h) rfl (wt0 rfl) (x_loadN (cs := [.int .i64 (e28.1), .int .i64 (e28.2.1), .int .i64 (e28.2.2)]) tv_92 rfl rfl (c_oldN De28)) rfl rfl fun a_111 HE112 => ?_
            refine dr_take (i := 7) (ls' := #[true, true, true, true, true, true, true, true, false, false, false, false, false, false, false, false, false]) HE112 HS98 rfl (by kernel_rfl) (by kernel_rfl) (by kernel_rfl) (fun _ _ _ h => h) rfl (wt0 rfl) (x_move rfl) rfl rfl fun a_113 HE114 => ?_
            refine dr_take (i := 8) (ls' := #[true, true, true, true, true, true, true, true, true, false, false, false, false, false, false, false, false]) HE114 HS98 rfl (by kernel_rfl) (by kernel_rfl) (by kernel_rfl) (fun _ _ _ h => h) rfl (wt0 rfl) (x_nilCheck rfl) rfl rfl fun a_115 HE116 => ?_
            refine dr_take (i := 9) (ls' := #[true, true, true, true, true, true, true, true, true, true, false, false, false, false, false, false, false]) HE116 HS98 rfl (by kernel_rfl) (by kernel_rfl) (by kernel_rfl) (fun _ _ _ h => h) rfl (wt0 rfl) (x_fieldAddr fa_33_0 rfl) rfl rfl fun a_117 HE118 => ?_
            refine dr_take (i := 10) (ls' := #[true, true, true, true, true, true, true, true, true, true, true, false, false, false, false, false, false]) HE118 HS98 rfl (by kernel_rfl) (by kernel_rfl) (by kernel_rfl) (fun _ _ _ h => h) rfl (wt0 rfl) (x_load1 tv_2 rfl (c_old (hq0 0 _ rfl))) rfl rfl fun a_119 HE120 => ?_
            refine dr_take (i := 11) (ls' := #[true, true, true, true, true, true, true, true, true, true, true, true, false, false, false, false, false]) HE120 HS98 rfl (by kernel_rfl) (by kernel_rfl) (by kernel_rfl) (fun _ _ _ h => h) rfl (wt0 rfl) (x_move rfl) rfl rfl fun a_121 HE122 => ?_
            refine dr_take (i := 12) (ls' := #[true, true, true, true, true, true, true, true, true, true, true, true, true, false, false, false, false]) HE122 HS98 rfl (by kernel_rfl) (by kernel_rfl) (by kernel_rfl) (fun _ _ _ h => h) rfl (wt0 rfl) (x_nilCheck rfl) rfl rfl fun a_123 HE124 => ?_
            refine dr_take (i := 13) (ls' := #[true, true, true, true, true, true, true, true, true, true, true, true, true, true, false, false, false]) HE124 HS98 rfl (by kernel_rfl) (by kernel_rfl) (by kernel_rfl) (fun _ _ _ h => h) rfl (wt0 rfl) (x_fieldAddr fa_33_1 rfl) rfl rfl fun a_125 HE126 => ?_
            refine dr_take (i := 14) (ls' := #[true, true, true, true, true, true, true, true, true, true, true, true, true, true, true, false, false]) HE126 HS98 rfl (by kernel_rfl) (by kernel_rfl) (by kernel_rfl) (fun _ _ _ h => h) rfl (wt0 rfl) (x_load1 tv_2 rfl (c_old (hq0 1 _ rfl))) rfl rfl fun a_127 HE128 => ?_
            refine dr_one (i := 15) (ls' := #[true, true, true, true, true, true, true, true, true, true, true, true, true, true, true, true, false]) rfl (by kernel_rfl) rfl fun K_129 hK130 => ?_
            refine st_call HE128 (wt0 rfl) rfl rfl rfl en_65 rfl rfl (spec_l05Rule [.int .i64 (e28.1), .int .i64 (e28.2.1), .int .i64 (e28.2.2)] e28 a0.1 a0.2.1 _ (HH97.oldR Qe28) (by omega) (by omega)) fun e w' hr => ?_
            obtain ⟨rfl, hbr29⟩ := hr
            have HH131 := HH97.on hbr29
            refine ⟨_, rfl, fun a_132 HE133 => hK130 _ _ (by exact HH131.sel [] (by decide) rfl) ?_⟩
            have HS134 := HH131.sel [] (by decide) rfl
            refine dr_take (i := 16) (ls' := #[true, true, true, true, true, true, true, true, true, true, true, true, true, true, true, true, true]) HE133 HS134 rfl (by kernel_rfl) (by kernel_rfl) (by kernel_rfl) (fun _ _ _ h => h) rfl (wt0 rfl) (x_not rfl) rfl rfl fun a_135 HE136 => ?_
            refine dr_done (by kernel_rfl) ?_
            clear HH82 HS37 a_95 HE96 a_99 HE100 a_101 HE102 a_103 HE104 a_105 HE106 a_107 HE108 a_109 HE110 a_111 HE112 a_113 HE114 a_115 HE116 a_117 HE118 a_119 HE120 a_121 HE122 a_123 HE124 a_125 HE126 HH97 a_127 HE128 HS98 a_132 HE133 hK130 K_129
            refine nrm ?_
            refine cnd_nb HE136 rfl (fun hc30 => ?_) (fun hc30 => ?_)
            · refine wp_seq ?_
              refine rg ?_
              refine pl_x HE136 HH131 (wt0 rfl) (x_assign rfl) rfl rfl fun a_137 HE138 => ?_
              refine wpList_nil ?_
              clear a_135 HE136
              refine nrm ?_
              refine wp_ret ?_
              refine (blk_ret (thn_ret (thn_ret (blk_ret (thn_ret ?_)))))
              refine ret1 HE138 rfl (rv_tmp rfl) ?_
              have hF : (validMach a0) = false := by
                first | (simp [validMach, hc22, hc24, hc25, p26_0, p26_1, hc27, xe28, hc30]; done) | (unfold validMach; rw [any_hit (by omega : k < a0.2.2.length) (by rw [← xe28]; simp [hc30])]; simp; done) | (have hq := p26_1; rw [List.take_of_length_le (by omega)] at hq; unfold validMach; rw [hq]; grind) | (unfold validMach; grind)
              exact ⟨by first | (rw [hF] <;> rfl) | rfl | (rw [hF]; simp only [Ending.returned.injEq, Value.slice.injEq, true_and, and_true]; first | omega | (simp; done)) | (rw [hF]; simp; omega), HH131.below⟩
            · refine wp_skip ?_
              refine blk_n ?_
              refine nrm ?_
              refine rg ?_
              refine pl_x HE136 HH131 (wt0 rfl) (x_move rfl) rfl rfl fun a_139 HE140 => ?_
              refine pl_x HE140 HH131 (wt0 rfl) (x_add rfl rfl (by exact ⟨by omega, by omega⟩)) rfl rfl fun a_141 HE142 => ?_
              refine pl_x HE142 HH131 (wt0 rfl) (x_assign rfl) rfl rfl fun a_143 HE144 => ?_
              refine wpList_nil ?_
              clear a_135 HE136 a_139 HE140 a_141 HE142
              exact nrm ⟨a0.2.2.length - (k + 1), (by omega), k + 1, rfl, HE144.sub ⟨(lkI rfl (by first | rfl | omega | (simp [hc22, hc24, hc25, p26_0, p26_1, hc27, xe28, hc30]; done))), rfl, trivial⟩, (HH131.sel [] (by decide) rfl), (by first | omega | assumption | (simp; done) | simp_all), (by exact any_step (by omega) p26_1 (by rw [← xe28]; simp [hc30]))⟩
          · refine wp_exit ?_
            refine (thn_exit (thn_exit (blk_hit ?_)))
            refine nrm ?_
            refine wp_seq ?_
            refine rg ?_
            refine pl_x HE96 HH82 (wt0 rfl) (x_assign rfl) rfl rfl fun a_145 HE146 => ?_
            refine wpList_nil ?_
            clear a_95 HE96
            refine nrm ?_
            refine wp_ret ?_
            refine ret1 HE146 rfl (rv_tmp rfl) ?_
            have hF : (validMach a0) = true := by
              first | (simp [validMach, hc22, hc24, hc25, p26_0, p26_1, hc27]; done) | (unfold validMach; rw [any_hit (by omega : k < a0.2.2.length) (by rw [← xe0]; simp [hc27])]; simp; done) | (have hq := p26_1; rw [List.take_of_length_le (by omega)] at hq; unfold validMach; rw [hq]; grind) | (unfold validMach; grind)
            exact ⟨by first | (rw [hF] <;> rfl) | rfl | (rw [hF]; simp only [Ending.returned.injEq, Value.slice.injEq, true_and, and_true]; first | omega | (simp; done)) | (rw [hF]; simp; omega), HH82.below⟩
    · refine dr_takeNo (i := 15) (ls' := #[true, true, true, true, true, true, true, true, true, true, true, true, true, true, true, true, false, false, false, false, false, false, false, false, false, false, false, false, false, false, false]) HE43 HS37 rfl (by kernel_rfl) (by kernel_rfl) (by kernel_rfl) (fun _ _ _ h => h) rfl (wtF HE43 rfl rfl rfl (not_t hc24)) rfl rfl fun a_147 HE148 => ?_
      refine dr_takeNo (i := 16) (ls' := #[true, true, true, true, true, true, true, true, true, true, true, true, true, true, true, true, true, false, false, false, false, false, false, false, false, false, false, false, false, false, false]) HE148 HS37 rfl (by kernel_rfl) (by kernel_rfl) (by kernel_rfl) (fun _ _ _ h => h) rfl (wtF HE148 rfl rfl rfl (not_t hc24)) rfl rfl fun a_149 HE150 => ?_
      refine dr_takeNo (i := 17) (ls' := #[true, true, true, true, true, true, true, true, true, true, true, true, true, true, true, true, true, true, false, false, false, false, false, false, false, false, false, false, false, false, false]) HE150 HS37 rfl (by kernel_rfl) (by kernel_rfl) (by kernel_rfl) (fun _ _ _ h => h) rfl (wtF HE150 rfl rfl rfl (not_t hc24)) rfl rfl fun a_151 HE152 => ?_
      refine dr_takeNo (i := 18) (ls' := #[true, true, true, true, true, true, true, true, true, true, true, true, true, true, true, true, true, true, true, false, false, false, false, false, false, false, false, false, false, false, false]) HE152 HS37 rfl (by kernel_rfl) (by kernel_rfl) (by kernel_rfl) (fun _ _ _ h => h) rfl (wtF HE152 rfl rfl rfl (not_t hc24)) rfl rfl fun a_153 HE154 => ?_
      refine dr_takeNo (i := 19) (ls' := #[true, true, true, true, true, true, true, true, true, true, true, true, true, true, true, true, true, true, true, true, false, false, false, false, false, false, false, false, false, false, false]) HE154 HS37 rfl (by kernel_rfl) (by kernel_rfl) (by kernel_rfl) (fun _ _ _ h => h) rfl (wtF HE154 rfl rfl rfl (not_t hc24)) rfl rfl fun a_155 HE156 => ?_
      refine dr_takeNo (i := 20) (ls' := #[true, true, true, true, true, true, true, true, true, true, true, true, true, true, true, true, true, true, true, true, true, false, false, false, false, false, false, false, false, false, false]) HE156 HS37 rfl (by kernel_rfl) (by kernel_rfl) (by kernel_rfl) (fun _ _ _ h => h) rfl (wtF HE156 rfl rfl rfl (not_t hc24)) rfl rfl fun a_157 HE158 => ?_
      refine dr_takeNo (i := 21) (ls' := #[true, true, true, true, true, true, true, true, true, true, true, true, true, true, true, true, true, true, true, true, true, true, false, false, false, false, false, false, false, false, false]) HE158 HS37 rfl (by kernel_rfl) (by kernel_rfl) (by kernel_rfl) (fun _ _ _ h => h) rfl (wtF HE158 rfl rfl rfl (not_t hc24)) rfl rfl fun a_159 HE160 => ?_
      refine dr_takeNo (i := 22) (ls' := #[true, true, true, true, true, true, true, true, true, true, true, true, true, true, true, true, true, true, true, true, true, true, true, false, false, false, false, false, false, false, false]) HE160 HS37 rfl (by kernel_rfl) (by kernel_rfl) (by kernel_rfl) (fun _ _ _ h => h) rfl (wtF HE160 rfl rfl rfl (not_t hc24)) rfl rfl fun a_161 HE162 => ?_
      refine dr_takeNo (i := 23) (ls' := #[true, true, true, true, true, true, true, true, true, true, true, true, true, true, true, true, true, true, true, true, true, true, true, true, false, false, false, false, false, false, false]) HE162 HS37 rfl (by kernel_rfl) (by kernel_rfl) (by kernel_rfl) (fun _ _ _ h => h) rfl (wtF HE162 rfl rfl rfl (not_t hc24)) rfl rfl fun a_163 HE164 => ?_
      refine dr_takeNo (i := 24) (ls' := #[true, true, true, true, true, true, true, true, true, true, true, true, true, true, true, true, true, true, true, true, true, true, true, true, true, false, false, false, false, false, false]) HE164 HS37 rfl (by kernel_rfl) (by kernel_rfl) (by kernel_rfl) (fun _ _ _ h => h) rfl (wtF HE164 rfl rfl rfl (not_t hc24)) rfl rfl fun a_165 HE166 => ?_
      refine dr_takeNo (i := 25) (ls' := #[true, true, true, true, true, true, true, true, true, true, true, true, true, true, true, true, true, true, true, true, true, true, true, true, true, true, false, false, false, false, false]) HE166 HS37 rfl (by kernel_rfl) (by kernel_rfl) (by kernel_rfl) (fun _ _ _ h => h) rfl (wtF HE166 rfl rfl rfl (not_t hc24)) rfl rfl fun a_167 HE168 => ?_
      refine dr_takeNo (i := 26) (ls' := #[true, true, true, true, true, true, true, true, true, true, true, true, true, true, true, true, true, true, true, true, true, true, true, true, true, true, true, false, false, false, false]) HE168 HS37 rfl (by kernel_rfl) (by kernel_rfl) (by kernel_rfl) (fun _ _ _ h => h) rfl (wtF HE168 rfl rfl rfl (not_t hc24)) rfl rfl fun a_169 HE170 => ?_
      refine dr_takeNo (i := 27) (ls' := #[true, true, true, true, true, true, true, true, true, true, true, true, true, true, true, true, true, true, true, true, true, true, true, true, true, true, true, true, false, false, false]) HE170 HS37 rfl (by kernel_rfl) (by kernel_rfl) (by kernel_rfl) (fun _ _ _ h => h) rfl (wtF HE170 rfl rfl rfl (not_t hc24)) rfl rfl fun a_171 HE172 => ?_
      refine dr_takeNo (i := 28) (ls' := #[true, true, true, true, true, true, true, true, true, true, true, true, true, true, true, true, true, true, true, true, true, true, true, true, true, true, true, true, true, false, false]) HE172 HS37 rfl (by kernel_rfl) (by kernel_rfl) (by kernel_rfl) (fun _ _ _ h => h) rfl (wtF HE172 rfl rfl rfl (not_t hc24)) rfl rfl fun a_173 HE174 => ?_
      refine dr_takeNo (i := 29) (ls' := #[true, true, true, true, true, true, true, true, true, true, true, true, true, true, true, true, true, true, true, true, true, true, true, true, true, true, true, true, true, true, false]) HE174 HS37 rfl (by kernel_rfl) (by kernel_rfl) (by kernel_rfl) (fun _ _ _ h => h) rfl (wtF HE174 rfl rfl rfl (not_t hc24)) rfl rfl fun a_175 HE176 => ?_
      refine dr_take (i := 30) (ls' := #[true, true, true, true, true, true, true, true, true, true, true, true, true, true, true, true, true, true, true, true, true, true, true, true, true, true, true, true, true, true, true]) HE176 HS37 rfl (by kernel_rfl) (by kernel_rfl) (by kernel_rfl) (fun _ _ _ h => h) rfl (wt0 rfl) (x_pickT rfl (not_t hc24) rfl) rfl rfl fun a_177 HE178 => ?_
      refine dr_done (by kernel_rfl) ?_
      clear HH1 a_4 HE5 a_8 HE9 a_10 HE11 a_12 HE13 a_14 HE15 HS7 a_18 HE19 a_21 HE22 a_23 HE24 a_25 HE26 a_27 HE28 a_29 HE30 K_16 hK17 a_31 HE32 HS20 a_35 HE36 a_38 HE39 a_40 HE41 a_42 HE43 a_147 HE148 a_149 HE150 a_151 HE152 a_153 HE154 a_155 HE156 a_157 HE158 a_159 HE160 a_161 HE162 a_163 HE164 a_165 HE166 a_167 HE168 a_169 HE170 a_171 HE172 a_173 HE174 a_175 HE176 hK34 K_33
      refine nrm ?_
      refine cndT HE178 rfl rfl ?_
      refine wp_seq ?_
      refine rg ?_
      refine pl_x HE178 HH6 (wt0 rfl) (x_assign rfl) rfl rfl fun a_179 HE180 => ?_
      refine wpList_nil ?_
      clear a_177 HE178
      refine nrm ?_
      refine wp_ret ?_
      refine (thn_ret ?_)
      refine ret1 HE180 rfl (rv_tmp rfl) ?_
      have hF : (validMach a0) = false := by
        first | (simp [validMach, hc22, hc24]; done) | (unfold validMach; rw [any_hit (by omega : k < a0.2.2.length) (by rw [← xe0]; simp [hc24])]; simp; done) | (have hq := p0_1; rw [List.take_of_length_le (by omega)] at hq; unfold validMach; rw [hq]; grind) | (unfold validMach; grind)
      exact ⟨by first | (rw [hF] <;> rfl) | rfl | (rw [hF]; simp only [Ending.returned.injEq, Value.slice.injEq, true_and, and_true]; first | omega | (simp; done)) | (rw [hF]; simp; omega), HH6.below⟩
  · refine dr_takeNo (i := 7) (ls' := #[true, true, true, true, true, true, true, true, false, false, false, false, false, false, false, false, false, false, false, false, false, false, false, false, false, false, false, false, false, false, false]) HE24 HS20 rfl (by kernel_rfl) (by kernel_rfl) (by kernel_rfl) (fun _ _ _ h => h) rfl (wtF HE24 rfl rfl rfl (not_t hc22)) rfl rfl fun a_181 HE182 => ?_
    refine dr_takeNo (i := 8) (ls' := #[true, true, true, true, true, true, true, true, true, false, false, false, false, false, false, false, false, false, false, false, false, false, false, false, false, false, false, false, false, false, false]) HE182 HS20 rfl (by kernel_rfl) (by kernel_rfl) (by kernel_rfl) (fun _ _ _ h => h) rfl (wtF HE182 rfl rfl rfl (not_t hc22)) rfl rfl fun a_183 HE184 => ?_
    refine dr_takeNo (i := 9) (ls' := #[true, true, true, true, true, true, true, true, true, true, false, false, false, false, false, false, false, false, false, false, false, false, false, false, false, false, false, false, false, false, false]) HE184 HS20 rfl (by kernel_rfl) (by kernel_rfl) (by kernel_rfl) (fun _ _ _ h => h) rfl (wtF HE184 rfl rfl rfl (not_t hc22)) rfl rfl fun a_185 HE186 => ?_
    refine dr_takeNo (i := 10) (ls' := #[true, true, true, true, true, true, true, true, true, true, true, false, false, false, false, false, false, false, false, false, false, false, false, false, false, false, false, false, false, false, false]) HE186 HS20 rfl (by kernel_rfl) (by kernel_rfl) (by kernel_rfl) (fun _ _ _ h => h) rfl (wtF HE186 rfl rfl rfl (not_t hc22)) rfl rfl fun a_187 HE188 => ?_
    refine dr_takeNo (i := 11) (ls' := #[true, true, true, true, true, true, true, true, true, true, true, true, false, false, false, false, false, false, false, false, false, false, false, false, false, false, false, false, false, false, false]) HE188 HS20 rfl (by kernel_rfl) (by kernel_rfl) (by kernel_rfl) (fun _ _ _ h => h) rfl (wtF HE188 rfl rfl rfl (not_t hc22)) rfl rfl fun a_189 HE190 => ?_
    refine dr_takeNo (i := 12) (ls' := #[true, true, true, true, true, true, true, true, true, true, true, true, true, false, false, false, false, false, false, false, false, false, false, false, false, false, false, false, false, false, false]) HE190 HS20 rfl (by kernel_rfl) (by kernel_rfl) (by kernel_rfl) (fun _ _ _ h => h) rfl (wtF HE190 rfl rfl rfl (not_t hc22)) rfl rfl fun a_191 HE192 => ?_
    refine dr_take (i := 13) (ls' := #[true, true, true, true, true, true, true, true, true, true, true, true, true, true, false, false, false, false, false, false, false, false, false, false, false, false, false, false, false, false, false]) HE192 HS20 rfl (by kernel_rfl) (by kernel_rfl) (by kernel_rfl) (fun _ _ _ h => h) rfl (wt0 rfl) (x_pickT rfl (not_t hc22) rfl) rfl rfl fun a_193 HE194 => ?_
    refine dr_take (i := 14) (ls' := #[true, true, true, true, true, true, true, true, true, true, true, true, true, true, true, false, false, false, false, false, false, false, false, false, false, false, false, false, false, false, false]) HE194 HS20 rfl (by kernel_rfl) (by kernel_rfl) (by kernel_rfl) (fun _ _ _ h => h) rfl (wt0 rfl) (x_move rfl) rfl rfl fun a_195 HE196 => ?_
    refine dr_takeNo (i := 15) (ls' := #[true, true, true, true, true, true, true, true, true, true, true, true, true, true, true, true, false, false, false, false, false, false, false, false, false, false, false, false, false, false, false]) HE196 HS20 rfl (by kernel_rfl) (by kernel_rfl) (by kernel_rfl) (fun _ _ _ h => h) rfl (wtF HE196 rfl rfl rfl rfl) rfl rfl fun a_197 HE198 => ?_
    refine dr_takeNo (i := 16) (ls' := #[true, true, true, true, true, true, true, true, true, true, true, true, true, true, true, true, true, false, false, false, false, false, false, false, false, false, false, false, false, false, false]) HE198 HS20 rfl (by kernel_rfl) (by kernel_rfl) (by kernel_rfl) (fun _ _ _ h => h) rfl (wtF HE198 rfl rfl rfl rfl) rfl rfl fun a_199 HE200 => ?_
    refine dr_takeNo (i := 17) (ls' := #[true, true, true, true, true, true, true, true, true, true, true, true, true, true, true, true, true, true, false, false, false, false, false, false, false, false, false, false, false, false, false]) HE200 HS20 rfl (by kernel_rfl) (by kernel_rfl) (by kernel_rfl) (fun _ _ _ h => h) rfl (wtF HE200 rfl rfl rfl rfl) rfl rfl fun a_201 HE202 => ?_
    refine dr_takeNo (i := 18) (ls' := #[true, true, true, true, true, true, true, true, true, true, true, true, true, true, true, true, true, true, true, false, false, false, false, false, false, false, false, false, false, false, false]) HE202 HS20 rfl (by kernel_rfl) (by kernel_rfl) (by kernel_rfl) (fun _ _ _ h => h) rfl (wtF HE202 rfl rfl rfl rfl) rfl rfl fun a_203 HE204 => ?_
    refine dr_takeNo (i := 19) (ls' := #[true, true, true, true, true, true, true, true, true, true, true, true, true, true, true, true, true, true, true, true, false, false, false, false, false, false, false, false, false, false, false]) HE204 HS20 rfl (by kernel_rfl) (by kernel_rfl) (by kernel_rfl) (fun _ _ _ h => h) rfl (wtF HE204 rfl rfl rfl rfl) rfl rfl fun a_205 HE206 => ?_
    refine dr_takeNo (i := 20) (ls' := #[true, true, true, true, true, true, true, true, true, true, true, true, true, true, true, true, true, true, true, true, true, false, false, false, false, false, false, false, false, false, false]) HE206 HS20 rfl (by kernel_rfl) (by kernel_rfl) (by kernel_rfl) (fun _ _ _ h => h) rfl (wtF HE206 rfl rfl rfl rfl) rfl rfl fun a_207 HE208 => ?_
    refine dr_takeNo (i := 21) (ls' := #[true, true, true, true, true, true, true, true, true, true, true, true, true, true, true, true, true, true, true, true, true, true, false, false, false, false, false, false, false, false, false]) HE208 HS20 rfl (by kernel_rfl) (by kernel_rfl) (by kernel_rfl) (fun _ _ _ h => h) rfl (wtF HE208 rfl rfl rfl rfl) rfl rfl fun a_209 HE210 => ?_
    refine dr_takeNo (i := 22) (ls' := #[true, true, true, true, true, true, true, true, true, true, true, true, true, true, true, true, true, true, true, true, true, true, true, false, false, false, false, false, false, false, false]) HE210 HS20 rfl (by kernel_rfl) (by kernel_rfl) (by kernel_rfl) (fun _ _ _ h => h) rfl (wtF HE210 rfl rfl rfl rfl) rfl rfl fun a_211 HE212 => ?_
    refine dr_takeNo (i := 23) (ls' := #[true, true, true, true, true, true, true, true, true, true, true, true, true, true, true, true, true, true, true, true, true, true, true, true, false, false, false, false, false, false, false]) HE212 HS20 rfl (by kernel_rfl) (by kernel_rfl) (by kernel_rfl) (fun _ _ _ h => h) rfl (wtF HE212 rfl rfl rfl rfl) rfl rfl fun a_213 HE214 => ?_
    refine dr_takeNo (i := 24) (ls' := #[true, true, true, true, true, true, true, true, true, true, true, true, true, true, true, true, true, true, true, true, true, true, true, true, true, false, false, false, false, false, false]) HE214 HS20 rfl (by kernel_rfl) (by kernel_rfl) (by kernel_rfl) (fun _ _ _ h => h) rfl (wtF HE214 rfl rfl rfl rfl) rfl rfl fun a_215 HE216 => ?_
    refine dr_takeNo (i := 25) (ls' := #[true, true, true, true, true, true, true, true, true, true, true, true, true, true, true, true, true, true, true, true, true, true, true, true, true, true, false, false, false, false, false]) HE216 HS20 rfl (by kernel_rfl) (by kernel_rfl) (by kernel_rfl) (fun _ _ _ h => h) rfl (wtF HE216 rfl rfl rfl rfl) rfl rfl fun a_217 HE218 => ?_
    refine dr_takeNo (i := 26) (ls' := #[true, true, true, true, true, true, true, true, true, true, true, true, true, true, true, true, true, true, true, true, true, true, true, true, true, true, true, false, false, false, false]) HE218 HS20 rfl (by kernel_rfl) (by kernel_rfl) (by kernel_rfl) (fun _ _ _ h => h) rfl (wtF HE218 rfl rfl rfl rfl) rfl rfl fun a_219 HE220 => ?_
    refine dr_takeNo (i := 27) (ls' := #[true, true, true, true, true, true, true, true, true, true, true, true, true, true, true, true, true, true, true, true, true, true, true, true, true, true, true, true, false, false, false]) HE220 HS20 rfl (by kernel_rfl) (by kernel_rfl) (by kernel_rfl) (fun _ _ _ h => h) rfl (wtF HE220 rfl rfl rfl rfl) rfl rfl fun a_221 HE222 => ?_
    refine dr_takeNo (i := 28) (ls' := #[true, true, true, true, true, true, true, true, true, true, true, true, true, true, true, true, true, true, true, true, true, true, true, true, true, true, true, true, true, false, false]) HE222 HS20 rfl (by kernel_rfl) (by kernel_rfl) (by kernel_rfl) (fun _ _ _ h => h) rfl (wtF HE222 rfl rfl rfl rfl) rfl rfl fun a_223 HE224 => ?_
    refine dr_takeNo (i := 29) (ls' := #[true, true, true, true, true, true, true, true, true, true, true, true, true, true, true, true, true, true, true, true, true, true, true, true, true, true, true, true, true, true, false]) HE224 HS20 rfl (by kernel_rfl) (by kernel_rfl) (by kernel_rfl) (fun _ _ _ h => h) rfl (wtF HE224 rfl rfl rfl rfl) rfl rfl fun a_225 HE226 => ?_
    refine dr_take (i := 30) (ls' := #[true, true, true, true, true, true, true, true, true, true, true, true, true, true, true, true, true, true, true, true, true, true, true, true, true, true, true, true, true, true, true]) HE226 HS20 rfl (by kernel_rfl) (by kernel_rfl) (by kernel_rfl) (fun _ _ _ h => h) rfl (wt0 rfl) (x_pickT rfl rfl rfl) rfl rfl fun a_227 HE228 => ?_
    refine dr_done (by kernel_rfl) ?_
    clear HH1 a_4 HE5 a_8 HE9 a_10 HE11 a_12 HE13 a_14 HE15 HS7 a_18 HE19 a_21 HE22 a_23 HE24 a_181 HE182 a_183 HE184 a_185 HE186 a_187 HE188 a_189 HE190 a_191 HE192 a_193 HE194 a_195 HE196 a_197 HE198 a_199 HE200 a_201 HE202 a_203 HE204 a_205 HE206 a_207 HE208 a_209 HE210 a_211 HE212 a_213 HE214 a_215 HE216 a_217 HE218 a_219 HE220 a_221 HE222 a_223 HE224 a_225 HE226 hK17 K_16
    refine nrm ?_
    refine cndT HE228 rfl rfl ?_
    refine wp_seq ?_
    refine rg ?_
    refine pl_x HE228 HH6 (wt0 rfl) (x_assign rfl) rfl rfl fun a_229 HE230 => ?_
    refine wpList_nil ?_
    clear a_227 HE228
    refine nrm ?_
    refine wp_ret ?_
    refine (thn_ret ?_)
    refine ret1 HE230 rfl (rv_tmp rfl) ?_
    have hF : (validMach a0) = false := by
      first | (simp [validMach, hc22]; done) | (unfold validMach; rw [any_hit (by omega : k < a0.2.2.length) (by rw [← xe0]; simp [hc22])]; simp; done) | (have hq := p0_1; rw [List.take_of_length_le (by omega)] at hq; unfold validMach; rw [hq]; grind) | (unfold validMach; grind)
    exact ⟨by first | (rw [hF] <;> rfl) | rfl | (rw [hF]; simp only [Ending.returned.injEq, Value.slice.injEq, true_and, and_true]; first | omega | (simp; done)) | (rw [hF]; simp; omega), HH6.below⟩

def goodCfg (m : tMachine) (c : tConfig) : Bool := withinB c.1 0 (m.2.1 - 1) && sideB c.2.1 m.1 200 && sideB c.2.2 m.1 200

def validCfg (m : tMachine) (c : tConfig) : Bool := validMach m && goodCfg m c

def confT (c : tConfig) : List UInt8 := digT c.2.1.reverse ++ [40] ++ Go.Lib.itoa c.1 ++ [41] ++ digT c.2.2

def confText (m : tMachine) (c : tConfig) : List UInt8 := if validCfg m c = true then confT c else []

theorem sideB_facts {xs : List Int} {s most : Int} (h : sideB xs s most = true) : (xs.length : Int) ≤ most ∧ ∀ x ∈ xs, 0 ≤ x ∧ x ≤ s - 1 := by
  unfold sideB at h
  simp only [Bool.and_eq_true, decide_eq_true_eq] at h
  exact ⟨h.1.1, allW_mem h.1.2⟩

theorem validCfg_facts {m : tMachine} {c : tConfig} (h : validCfg m c = true) : (0 ≤ c.1 ∧ c.1 ≤ 999) ∧ (c.2.1.length ≤ 200 ∧ ∀ x ∈ c.2.1, 0 ≤ x ∧ x ≤ 9) ∧ c.2.2.length ≤ 200 ∧ ∀ x ∈ c.2.2, 0 ≤ x ∧ x ≤ 9 := by
  unfold validCfg goodCfg at h
  simp only [Bool.and_eq_true] at h
  obtain ⟨h1, h2, _⟩ := validMach_facts h.1
  have h3 := withinB_true.1 h.2.1.1
  have h4 := sideB_facts h.2.1.2
  have h5 := sideB_facts h.2.2
  exact ⟨by omega, ⟨by omega, fun x hx => by have := h4.2 x hx; omega⟩, by omega, fun x hx => by have := h5.2 x hx; omega⟩

theorem rev_facts {xs : List Int} {n : Nat} (h : xs.length ≤ n ∧ ∀ x ∈ xs, 0 ≤ x ∧ x ≤ 9) : xs.reverse.length ≤ n ∧ ∀ x ∈ xs.reverse, 0 ≤ x ∧ x ≤ 9 := ⟨by rw [List.length_reverse]; exact h.1, fun x hx => h.2 x (List.mem_reverse.1 hx)⟩

set_option maxRecDepth 100000 in
set_option maxHeartbeats 4000000 in
theorem impl_configOf (es0 : List Value) (a0 : tMachine) (es1 : List Value) (a1 : tConfig) (w : World) (h0 : eMachine.R w (Old w) es0 a0) (h1 : eConfig.R w (Old w) es1 a1) (s0 : 2 ≤ a0.1 ∧ a0.1 ≤ 6) (s1 : 1 ≤ a0.2.1 ∧ a0.2.1 ≤ 1000) :
    Calls Tryz.prog 97 #[.agg es0.toArray, .agg es1.toArray] w fun e w' => e = .returned (.bool (goodCfg a0 a1)) ∧ Below w.heap.size w w' := by
  have H0 := h0
  obtain ⟨Az0_2, cz0_2, rfl, gz0_0, gz0_1, gz0_2⟩ := shape_Machine h0
  have jz0_0 := gz0_0; unfold I64 at jz0_0
  have jz0_1 := gz0_1; unfold I64 at jz0_1
  have lz0_2 := gz0_2.len
  have H1 := h1
  obtain ⟨Az1_1, cz1_1, Az1_2, cz1_2, rfl, gz1_0, gz1_1, gz1_2⟩ := shape_Config h1
  have jz1_0 := gz1_0; unfold I64 at jz1_0
  have lz1_1 := gz1_1.len
  have lz1_2 := gz1_2.len
  have HH1 := Held.start Nob w
  refine enter (n := 25) Tryz.func97 rfl rfl rfl fun a_2 HE3 => ?_
  refine wp_seq ?_
  refine rg ?_
  refine pl fun K_4 hK5 => ?_
  refine st_box (cs := [.int .i64 (a0.1), .int .i64 (a0.2.1), .slice Az0_2 (a0.2.2.length) cz0_2]) HE3 HH1 rfl rfl (wt0 rfl) rfl fun q21 a_6 w' HE7 HH8 => hK5 _ _ ?_
  refine pl fun K_9 hK10 => ?_
  refine st_box (cs := [.int .i64 (a1.1), .slice Az1_1 (a1.2.1.length) cz1_1, .slice Az1_2 (a1.2.2.length) cz1_2]) HE7 HH8 rfl rfl (wt0 rfl) rfl fun q22 a_11 w' HE12 HH13 => hK10 _ _ ?_
  refine pl_x HE12 HH13 (wt0 rfl) (x_assign rfl) rfl rfl fun a_14 HE15 => ?_
  refine wpList_nil ?_
  clear a_2 HE3 HH1 K_4 hK5 a_6 HE7 HH8 a_11 HE12 hK10 K_9
  refine nrm ?_
  refine wp_seq ?_
  refine rg ?_
  refine pl_x HE15 HH13 (wt0 rfl) (x_fieldAddr fa_28_0 rfl) rfl rfl fun a_16 HE17 => ?_
  refine pl_x HE17 HH13 (wt0 rfl) (x_load1 tv_2 rfl (c_blk 0 rfl rfl)) rfl rfl fun a_18 HE19 => ?_
  refine pl_x HE19 HH13 (wt0 rfl) (x_fieldAddr fa_33_1 rfl) rfl rfl fun a_20 HE21 => ?_
  refine pl_x HE21 HH13 (wt0 rfl) (x_load1 tv_2 rfl (c_blk 1 rfl rfl)) rfl rfl fun a_22 HE23 => ?_
  refine pl_x HE23 HH13 (wt0 rfl) (x_sub rfl rfl (by exact ⟨by omega, by omega⟩)) rfl rfl fun a_24 HE25 => ?_
  refine pl fun K_26 hK27 => ?_
  refine st_call HE25 (wt0 rfl) rfl rfl rfl en_43 rfl rfl (impl_within a1.1 0 (a0.2.1 - 1) _ ) fun e w' hr => ?_
  obtain ⟨rfl, rfl⟩ := hr
  refine ⟨_, rfl, fun a_28 HE29 => hK27 _ _ ?_⟩
  refine pl_x HE29 HH13 (wt0 rfl) (x_move rfl) rfl rfl fun a_30 HE31 => ?_
  rcases Bool.eq_false_or_eq_true ((withinB a1.1 0 (a0.2.1 - 1))) with hc24 | hc24
  · refine pl_x HE31 HH13 (wtT HE31 rfl rfl rfl hc24) (x_fieldAddr fa_28_1 rfl) rfl rfl fun a_32 HE33 => ?_
    refine pl_x HE33 HH13 (wtT HE33 rfl rfl rfl hc24) (x_load1 tv_26 rfl (c_blk 0 rfl rfl)) rfl rfl fun a_34 HE35 => ?_
    refine pl_x HE35 HH13 (wtT HE35 rfl rfl rfl hc24) (x_fieldAddr fa_33_0 rfl) rfl rfl fun a_36 HE37 => ?_
    refine pl_x HE37 HH13 (wtT HE37 rfl rfl rfl hc24) (x_load1 tv_2 rfl (c_blk 1 rfl rfl)) rfl rfl fun a_38 HE39 => ?_
    refine pl fun K_40 hK41 => ?_
    refine st_call HE39 (wtT HE39 rfl rfl rfl hc24) rfl rfl rfl en_119 rfl rfl (impl_validSide _ _ a1.2.1 a0.1 200 _ (HH13.old gz1_1) (by omega)) fun e w' hr => ?_
    obtain ⟨rfl, rfl⟩ := hr
    refine ⟨_, rfl, fun a_42 HE43 => hK41 _ _ ?_⟩
    refine pl_x HE43 HH13 (wt0 rfl) (x_pickT rfl hc24 rfl) rfl rfl fun a_44 HE45 => ?_
    refine pl_x HE45 HH13 (wt0 rfl) (x_move rfl) rfl rfl fun a_46 HE47 => ?_
    rcases Bool.eq_false_or_eq_true ((sideB a1.2.1 a0.1 200)) with hc26 | hc26
    · refine pl_x HE47 HH13 (wtT HE47 rfl rfl rfl hc26) (x_fieldAddr fa_28_2 rfl) rfl rfl fun a_48 HE49 => ?_
      refine pl_x HE49 HH13 (wtT HE49 rfl rfl rfl hc26) (x_load1 tv_26 rfl (c_blk 0 rfl rfl)) rfl rfl fun a_50 HE51 => ?_
      refine pl_x HE51 HH13 (wtT HE51 rfl rfl rfl hc26) (x_fieldAddr fa_33_0 rfl) rfl rfl fun a_52 HE53 => ?_
      refine pl_x HE53 HH13 (wtT HE53 rfl rfl rfl hc26) (x_load1 tv_2 rfl (c_blk 1 rfl rfl)) rfl rfl fun a_54 HE55 => ?_
      refine pl fun K_56 hK57 => ?_
      refine st_call HE55 (wtT HE55 rfl rfl rfl hc26) rfl rfl rfl en_119 rfl rfl (impl_validSide _ _ a1.2.2 a0.1 200 _ (HH13.old gz1_2) (by omega)) fun e w' hr => ?_
      obtain ⟨rfl, rfl⟩ := hr
      refine ⟨_, rfl, fun a_58 HE59 => hK57 _ _ ?_⟩
      refine pl_x HE59 HH13 (wt0 rfl) (x_pickT rfl hc26 rfl) rfl rfl fun a_60 HE61 => ?_
      refine pl_x HE61 HH13 (wt0 rfl) (x_assign rfl) rfl rfl fun a_62 HE63 => ?_
      refine wpList_nil ?_
      clear a_14 HE15 a_16 HE17 a_18 HE19 a_20 HE21 a_22 HE23 a_24 HE25 a_28 HE29 a_30 HE31 a_32 HE33 a_34 HE35 a_36 HE37 K_26 hK27 a_38 HE39 a_42 HE43 a_44 HE45 a_46 HE47 a_48 HE49 a_50 HE51 a_52 HE53 K_40 hK41 a_54 HE55 a_58 HE59 a_60 HE61 hK57 K_56
      refine nrm ?_
      refine wp_ret ?_
      refine ret1 HE63 rfl (rv_tmp rfl) ?_
      have hF : (goodCfg a0 a1) = (sideB a1.2.2 a0.1 200) := by
        simp [goodCfg, hc24, hc26]
      exact ⟨by first | (rw [hF] <;> rfl) | rfl | (rw [hF]; simp only [Ending.returned.injEq, Value.slice.injEq, true_and, and_true]; first | omega | (simp; done)) | (rw [hF]; simp; omega), HH13.below⟩
    · refine pl_no HE47 (wtF HE47 rfl rfl rfl hc26) rfl rfl fun a_64 HE65 => ?_
      refine pl_no HE65 (wtF HE65 rfl rfl rfl hc26) rfl rfl fun a_66 HE67 => ?_
      refine pl_no HE67 (wtF HE67 rfl rfl rfl hc26) rfl rfl fun a_68 HE69 => ?_
      refine pl_no HE69 (wtF HE69 rfl rfl rfl hc26) rfl rfl fun a_70 HE71 => ?_
      refine pl_no HE71 (wtF HE71 rfl rfl rfl hc26) rfl rfl fun a_72 HE73 => ?_
      refine pl_x HE73 HH13 (wt0 rfl) (x_pickF rfl hc26 rfl) rfl rfl fun a_74 HE75 => ?_
      refine pl_x HE75 HH13 (wt0 rfl) (x_assign rfl) rfl rfl fun a_76 HE77 => ?_
      refine wpList_nil ?_
      clear a_14 HE15 a_16 HE17 a_18 HE19 a_20 HE21 a_22 HE23 a_24 HE25 a_28 HE29 a_30 HE31 a_32 HE33 a_34 HE35 a_36 HE37 K_26 hK27 a_38 HE39 a_42 HE43 a_44 HE45 a_46 HE47 a_64 HE65 a_66 HE67 a_68 HE69 a_70 HE71 a_72 HE73 a_74 HE75 hK41 K_40
      refine nrm ?_
      refine wp_ret ?_
      refine ret1 HE77 rfl (rv_tmp rfl) ?_
      have hF : (goodCfg a0 a1) = false := by
        simp [goodCfg, hc24, hc26]
      exact ⟨by first | (rw [hF] <;> rfl) | rfl | (rw [hF]; simp only [Ending.returned.injEq, Value.slice.injEq, true_and, and_true]; first | omega | (simp; done)) | (rw [hF]; simp; omega), HH13.below⟩
  · refine pl_no HE31 (wtF HE31 rfl rfl rfl hc24) rfl rfl fun a_78 HE79 => ?_
    refine pl_no HE79 (wtF HE79 rfl rfl rfl hc24) rfl rfl fun a_80 HE81 => ?_
    refine pl_no HE81 (wtF HE81 rfl rfl rfl hc24) rfl rfl fun a_82 HE83 => ?_
    refine pl_no HE83 (wtF HE83 rfl rfl rfl hc24) rfl rfl fun a_84 HE85 => ?_
    refine pl_no HE85 (wtF HE85 rfl rfl rfl hc24) rfl rfl fun a_86 HE87 => ?_
    refine pl_x HE87 HH13 (wt0 rfl) (x_pickF rfl hc24 rfl) rfl rfl fun a_88 HE89 => ?_
    refine pl_x HE89 HH13 (wt0 rfl) (x_move rfl) rfl rfl fun a_90 HE91 => ?_
    refine pl_no HE91 (wtF HE91 rfl rfl rfl rfl) rfl rfl fun a_92 HE93 => ?_
    refine pl_no HE93 (wtF HE93 rfl rfl rfl rfl) rfl rfl fun a_94 HE95 => ?_
    refine pl_no HE95 (wtF HE95 rfl rfl rfl rfl) rfl rfl fun a_96 HE97 => ?_
    refine pl_no HE97 (wtF HE97 rfl rfl rfl rfl) rfl rfl fun a_98 HE99 => ?_
    refine pl_no HE99 (wtF HE99 rfl rfl rfl rfl) rfl rfl fun a_100 HE101 => ?_
    refine pl_x HE101 HH13 (wt0 rfl) (x_pickF rfl rfl rfl) rfl rfl fun a_102 HE103 => ?_
    refine pl_x HE103 HH13 (wt0 rfl) (x_assign rfl) rfl rfl fun a_104 HE105 => ?_
    refine wpList_nil ?_
    clear a_14 HE15 a_16 HE17 a_18 HE19 a_20 HE21 a_22 HE23 a_24 HE25 a_28 HE29 a_30 HE31 a_78 HE79 a_80 HE81 a_82 HE83 a_84 HE85 a_86 HE87 a_88 HE89 a_90 HE91 a_92 HE93 a_94 HE95 a_96 HE97 a_98 HE99 a_100 HE101 a_102 HE103 hK27 K_26
    refine nrm ?_
    refine wp_ret ?_
    refine ret1 HE105 rfl (rv_tmp rfl) ?_
    have hF : (goodCfg a0 a1) = false := by
      simp [goodCfg, hc24]
    exact ⟨by first | (rw [hF] <;> rfl) | rfl | (rw [hF]; simp only [Ending.returned.injEq, Value.slice.injEq, true_and, and_true]; first | omega | (simp; done)) | (rw [hF]; simp; omega), HH13.below⟩

set_option maxRecDepth 100000 in
set_option maxHeartbeats 4000000 in
theorem impl_ValidConfig (es0 : List Value) (a0 : tMachine) (es1 : List Value) (a1 : tConfig) (w : World) (h0 : eMachine.R w (Old w) es0 a0) (h1 : eConfig.R w (Old w) es1 a1) :
    Calls Tryz.prog 75 #[.agg es0.toArray, .agg es1.toArray] w fun e w' => e = .returned (.bool (validCfg a0 a1)) ∧ Below w.heap.size w w' := by
  have H0 := h0
  obtain ⟨Az0_2, cz0_2, rfl, gz0_0, gz0_1, gz0_2⟩ := shape_Machine h0
  have jz0_0 := gz0_0; unfold I64 at jz0_0
  have jz0_1 := gz0_1; unfold I64 at jz0_1
  have lz0_2 := gz0_2.len
  have H1 := h1
  obtain ⟨Az1_1, cz1_1, Az1_2, cz1_2, rfl, gz1_0, gz1_1, gz1_2⟩ := shape_Config h1
  have jz1_0 := gz1_0; unfold I64 at jz1_0
  have lz1_1 := gz1_1.len
  have lz1_2 := gz1_2.len
  have HH1 := Held.start Nob w
  refine enter (n := 12) Tryz.func75 rfl rfl rfl fun a_2 HE3 => ?_
  refine wp_seq ?_
  refine rg ?_
  refine pl fun K_4 hK5 => ?_
  refine st_box (cs := [.int .i64 (a0.1), .int .i64 (a0.2.1), .slice Az0_2 (a0.2.2.length) cz0_2]) HE3 HH1 rfl rfl (wt0 rfl) rfl fun q21 a_6 w' HE7 HH8 => hK5 _ _ ?_
  refine pl fun K_9 hK10 => ?_
  refine st_box (cs := [.int .i64 (a1.1), .slice Az1_1 (a1.2.1.length) cz1_1, .slice Az1_2 (a1.2.2.length) cz1_2]) HE7 HH8 rfl rfl (wt0 rfl) rfl fun q22 a_11 w' HE12 HH13 => hK10 _ _ ?_
  refine pl_x HE12 HH13 (wt0 rfl) (x_assign rfl) rfl rfl fun a_14 HE15 => ?_
  refine wpList_nil ?_
  clear a_2 HE3 HH1 K_4 hK5 a_6 HE7 HH8 a_11 HE12 hK10 K_9
  refine nrm ?_
  refine wp_seq ?_
  refine rg ?_
  refine pl_x HE15 HH13 (wt0 rfl) (x_loadN (cs := [.int .i64 (a0.1), .int .i64 (a0.2.1), .slice Az0_2 (a0.2.2.length) cz0_2]) tv_33 rfl rfl (c_blkN 1 rfl)) rfl rfl fun a_16 HE17 => ?_
  refine pl fun K_18 hK19 => ?_
  refine st_call HE17 (wt0 rfl) rfl rfl rfl en_96 rfl rfl (impl_ValidMachine [.int .i64 (a0.1), .int .i64 (a0.2.1), .slice Az0_2 (a0.2.2.length) cz0_2] a0 _ (HH13.oldR H0)) fun e w' hr => ?_
  obtain ⟨rfl, hbr23⟩ := hr
  have HH20 := HH13.on hbr23
  refine ⟨_, rfl, fun a_21 HE22 => hK19 _ _ ?_⟩
  refine pl_x HE22 HH20 (wt0 rfl) (x_move rfl) rfl rfl fun a_23 HE24 => ?_
  rcases Bool.eq_false_or_eq_true ((validMach a0)) with hc24 | hc24
  · obtain ⟨v0, v1, v2, v3⟩ := validMach_facts hc24
    refine pl_x HE24 HH20 (wtT HE24 rfl rfl rfl hc24) (x_loadN (cs := [.int .i64 (a0.1), .int .i64 (a0.2.1), .slice Az0_2 (a0.2.2.length) cz0_2]) tv_33 rfl rfl (c_blkN 1 rfl)) rfl rfl fun a_25 HE26 => ?_
    refine pl_x HE26 HH20 (wtT HE26 rfl rfl rfl hc24) (x_loadN (cs := [.int .i64 (a1.1), .slice Az1_1 (a1.2.1.length) cz1_1, .slice Az1_2 (a1.2.2.length) cz1_2]) tv_28 rfl rfl (c_blkN 0 rfl)) rfl rfl fun a_27 HE28 => ?_
    refine pl fun K_29 hK30 => ?_
    refine st_call HE28 (wtT HE28 rfl rfl rfl hc24) rfl rfl rfl en_97 rfl rfl (impl_configOf [.int .i64 (a0.1), .int .i64 (a0.2.1), .slice Az0_2 (a0.2.2.length) cz0_2] a0 [.int .i64 (a1.1), .slice Az1_1 (a1.2.1.length) cz1_1, .slice Az1_2 (a1.2.2.length) cz1_2] a1 _ (HH20.oldR H0) (HH20.oldR H1) (by omega) (by omega)) fun e w' hr => ?_
    obtain ⟨rfl, hbr25⟩ := hr
    have HH31 := HH20.on hbr25
    refine ⟨_, rfl, fun a_32 HE33 => hK30 _ _ ?_⟩
    refine pl_x HE33 HH31 (wt0 rfl) (x_pickT rfl hc24 rfl) rfl rfl fun a_34 HE35 => ?_
    refine pl_x HE35 HH31 (wt0 rfl) (x_assign rfl) rfl rfl fun a_36 HE37 => ?_
    refine wpList_nil ?_
    clear a_14 HE15 HH13 a_16 HE17 a_21 HE22 a_23 HE24 a_25 HE26 K_18 hK19 HH20 a_27 HE28 a_32 HE33 a_34 HE35 hK30 K_29
    refine nrm ?_
    refine wp_ret ?_
    refine ret1 HE37 rfl (rv_tmp rfl) ?_
    have hF : (validCfg a0 a1) = (goodCfg a0 a1) := by
      simp [validCfg, hc24]
    exact ⟨by first | (rw [hF] <;> rfl) | rfl | (rw [hF]; simp only [Ending.returned.injEq, Value.slice.injEq, true_and, and_true]; first | omega | (simp; done)) | (rw [hF]; simp; omega), HH31.below⟩
  · refine pl_no HE24 (wtF HE24 rfl rfl rfl hc24) rfl rfl fun a_38 HE39 => ?_
    refine pl_no HE39 (wtF HE39 rfl rfl rfl hc24) rfl rfl fun a_40 HE41 => ?_
    refine pl_no HE41 (wtF HE41 rfl rfl rfl hc24) rfl rfl fun a_42 HE43 => ?_
    refine pl_x HE43 HH20 (wt0 rfl) (x_pickF rfl hc24 rfl) rfl rfl fun a_44 HE45 => ?_
    refine pl_x HE45 HH20 (wt0 rfl) (x_assign rfl) rfl rfl fun a_46 HE47 => ?_
    refine wpList_nil ?_
    clear a_14 HE15 HH13 a_16 HE17 a_21 HE22 a_23 HE24 a_38 HE39 a_40 HE41 a_42 HE43 a_44 HE45 hK19 K_18
    refine nrm ?_
    refine wp_ret ?_
    refine ret1 HE47 rfl (rv_tmp rfl) ?_
    have hF : (validCfg a0 a1) = false := by
      simp [validCfg, hc24]
    exact ⟨by first | (rw [hF] <;> rfl) | rfl | (rw [hF]; simp only [Ending.returned.injEq, Value.slice.injEq, true_and, and_true]; first | omega | (simp; done)) | (rw [hF]; simp; omega), HH20.below⟩

set_option maxRecDepth 100000 in
set_option maxHeartbeats 4000000 in
theorem impl_ConfigText (es0 : List Value) (a0 : tMachine) (es1 : List Value) (a1 : tConfig) (w : World) (h0 : eMachine.R w (Old w) es0 a0) (h1 : eConfig.R w (Old w) es1 a1) (hG : Glob w) :
    Calls Tryz.prog 36 #[.agg es0.toArray, .agg es1.toArray] w fun e w' => e = .returned (.string (bs (confText a0 a1))) ∧ Below w.heap.size w w' := by
  have H0 := h0
  obtain ⟨Az0_2, cz0_2, rfl, gz0_0, gz0_1, gz0_2⟩ := shape_Machine h0
  have jz0_0 := gz0_0; unfold I64 at jz0_0
  have jz0_1 := gz0_1; unfold I64 at jz0_1
  have lz0_2 := gz0_2.len
  have H1 := h1
  obtain ⟨Az1_1, cz1_1, Az1_2, cz1_2, rfl, gz1_0, gz1_1, gz1_2⟩ := shape_Config h1
  have jz1_0 := gz1_0; unfold I64 at jz1_0
  have lz1_1 := gz1_1.len
  have lz1_2 := gz1_2.len
  have HH1 := Held.start Nob w
  refine enter (n := 23) Tryz.func36 rfl rfl rfl fun a_2 HE3 => ?_
  refine wp_seq ?_
  refine rg ?_
  refine pl fun K_4 hK5 => ?_
  refine st_box (cs := [.int .i64 (a0.1), .int .i64 (a0.2.1), .slice Az0_2 (a0.2.2.length) cz0_2]) HE3 HH1 rfl rfl (wt0 rfl) rfl fun q21 a_6 w' HE7 HH8 => hK5 _ _ ?_
  refine pl fun K_9 hK10 => ?_
  refine st_box (cs := [.int .i64 (a1.1), .slice Az1_1 (a1.2.1.length) cz1_1, .slice Az1_2 (a1.2.2.length) cz1_2]) HE7 HH8 rfl rfl (wt0 rfl) rfl fun q22 a_11 w' HE12 HH13 => hK10 _ _ ?_
  refine pl_x HE12 HH13 (wt0 rfl) (x_assign rfl) rfl rfl fun a_14 HE15 => ?_
  refine wpList_nil ?_
  clear a_2 HE3 HH1 K_4 hK5 a_6 HE7 HH8 a_11 HE12 hK10 K_9
  refine nrm ?_
  refine wp_seq ?_
  refine wp_seq ?_
  refine rg ?_
  refine pl_x HE15 HH13 (wt0 rfl) (x_loadN (cs := [.int .i64 (a0.1), .int .i64 (a0.2.1), .slice Az0_2 (a0.2.2.length) cz0_2]) tv_33 rfl rfl (c_blkN 1 rfl)) rfl rfl fun a_16 HE17 => ?_
  refine pl_x HE17 HH13 (wt0 rfl) (x_loadN (cs := [.int .i64 (a1.1), .slice Az1_1 (a1.2.1.length) cz1_1, .slice Az1_2 (a1.2.2.length) cz1_2]) tv_28 rfl rfl (c_blkN 0 rfl)) rfl rfl fun a_18 HE19 => ?_
  refine pl fun K_20 hK21 => ?_
  refine st_call HE19 (wt0 rfl) rfl rfl rfl en_75 rfl rfl (impl_ValidConfig [.int .i64 (a0.1), .int .i64 (a0.2.1), .slice Az0_2 (a0.2.2.length) cz0_2] a0 [.int .i64 (a1.1), .slice Az1_1 (a1.2.1.length) cz1_1, .slice Az1_2 (a1.2.2.length) cz1_2] a1 _ (HH13.oldR H0) (HH13.oldR H1)) fun e w' hr => ?_
  obtain ⟨rfl, hbr23⟩ := hr
  have HH22 := HH13.on hbr23
  refine ⟨_, rfl, fun a_23 HE24 => hK21 _ _ ?_⟩
  refine pl_x HE24 HH22 (wt0 rfl) (x_not rfl) rfl rfl fun a_25 HE26 => ?_
  refine wpList_nil ?_
  clear a_14 HE15 a_16 HE17 HH13 a_18 HE19 a_23 HE24 hK21 K_20
  refine nrm ?_
  refine cnd_nb HE26 rfl (fun hc24 => ?_) (fun hc24 => ?_)
  · refine wp_seq ?_
    refine rg ?_
    refine pl_x HE26 HH22 (wt0 rfl) (x_assign rfl) rfl rfl fun a_27 HE28 => ?_
    refine wpList_nil ?_
    clear a_25 HE26
    refine nrm ?_
    refine wp_ret ?_
    refine (thn_ret ?_)
    refine ret1 HE28 rfl (rv_tmp rfl) ?_
    have hF : (confText a0 a1) = [] := by
      first | (simp [confText, hc24]; done) | (unfold confText; rw [if_pos ‹_›]; rfl)
    exact ⟨by first | (rw [hF] <;> rfl) | rfl | (rw [hF]; simp only [Ending.returned.injEq, Value.slice.injEq, true_and, and_true]; first | omega | (simp; done)) | (rw [hF]; simp; omega), HH22.below⟩
  · obtain ⟨v0, v1, v2, v3⟩ := validCfg_facts hc24
    obtain ⟨v4, v5⟩ := v1
    obtain ⟨v6, v7⟩ := rev_facts ⟨v4, v5⟩
    have v8 := digT_len a1.2.1.reverse
    have v9 := digT_len a1.2.2
    have v10 : (List.reverse a1.2.1).length = a1.2.1.length := List.length_reverse
    refine wp_skip ?_
    refine nrm ?_
    refine wp_seq ?_
    refine dr_start (Held Nob w [rBlk q22 28 [.int .i64 (a1.1), .slice Az1_1 (a1.2.1.length) cz1_1, .slice Az1_2 (a1.2.2.length) cz1_2], rBlk q21 33 [.int .i64 (a0.1), .int .i64 (a0.2.1), .slice Az0_2 (a0.2.2.length) cz0_2]]) 15 #[false, false, false, false, false, false, false, false, false, false, false, false, false, false, false] hmix rfl rfl HH22 (fun _ h => h.sel [0, 1] (by decide) rfl) fun w' HH29 => ?_
    have HS30 := HH29
    refine dr_take (i := 0) (ls' := #[true, false, false, false, false, false, false, false, false, false, false, false, false, false, false]) HE26 HS30 rfl (by kernel_rfl) (by kernel_rfl) (by kernel_rfl) (fun _ _ _ h => h) rfl (wt0 rfl) (x_fieldAddr fa_28_1 rfl) rfl rfl fun a_31 HE32 => ?_
    refine dr_take (i := 1) (ls' := #[true, true, false, false, false, false, false, false, false, false, false, false, false, false, false]) HE32 HS30 rfl (by kernel_rfl) (by kernel_rfl) (by kernel_rfl) (fun _ _ _ h => h) rfl (wt0 rfl) (x_load1 tv_26 rfl (c_blk 0 rfl rfl)) rfl rfl fun a_33 HE34 => ?_
    refine dr_take (i := 5) (ls' := #[true, true, false, false, false, true, false, false, false, false, false, false, false, false, false]) HE34 HS30 rfl (by kernel_rfl) (by kernel_rfl) (by kernel_rfl) (fun _ _ _ h => h) rfl (wt0 rfl) (x_fieldAddr fa_28_0 rfl) rfl rfl fun a_35 HE36 => ?_
    refine dr_take (i := 6) (ls' := #[true, true, false, false, false, true, true, false, false, false, false, false, false, false, false]) HE36 HS30 rfl (by kernel_rfl) (by kernel_rfl) (by kernel_rfl) (fun _ _ _ h => h) rfl (wt0 rfl) (x_load1 tv_2 rfl (c_blk 0 rfl rfl)) rfl rfl fun a_37 HE38 => ?_
    refine dr_take (i := 10) (ls' := #[true, true, false, false, false, true, true, false, false, false, true, false, false, false, false]) HE38 HS30 rfl (by kernel_rfl) (by kernel_rfl) (by kernel_rfl) (fun _ _ _ h => h) rfl (wt0 rfl) (x_fieldAddr fa_28_2 rfl) rfl rfl fun a_39 HE40 => ?_
    refine dr_take (i := 11) (ls' := #[true, true, false, false, false, true, true, false, false, false, true, true, false, false, false]) HE40 HS30 rfl (by kernel_rfl) (by kernel_rfl) (by kernel_rfl) (fun _ _ _ h => h) rfl (wt0 rfl) (x_load1 tv_26 rfl (c_blk 0 rfl rfl)) rfl rfl fun a_41 HE42 => ?_
    refine dr_one (i := 2) (ls' := #[true, true, true, false, false, true, true, false, false, false, true, true, false, false, false]) rfl (by kernel_rfl) rfl fun K_43 hK44 => ?_
    refine st_call HE42 (wt0 rfl) rfl rfl rfl en_35 rfl rfl (impl_reversed _ _ a1.2.1 _ (HH29.old gz1_1) (by omega)) fun e w' hr => ?_
    obtain ⟨Ar25_0, cr25_0, rfl, hor25_0, hbr25⟩ := hr
    obtain ⟨Sr25, HH45⟩ := HH29.newS hbr25 hor25_0
    refine ⟨_, rfl, fun a_46 HE47 => hK44 _ _ (by exact HH45.sel [1, 2] (by decide) rfl) ?_⟩
    have HS48 := HH45.sel [1, 2] (by decide) rfl
    refine dr_one (i := 3) (ls' := #[true, true, true, true, false, true, true, false, false, false, true, true, false, false, false]) rfl (by kernel_rfl) rfl fun K_49 hK50 => ?_
    refine st_call HE47 (wt0 rfl) rfl rfl rfl en_76 rfl rfl (impl_digitsText _ _ (List.reverse a1.2.1) _ (HH45.sl (i := 0) rfl) (by assumption) (by omega)) fun e w' hr => ?_
    have hAr26_0 := digT_len (List.reverse a1.2.1)
    obtain ⟨rfl, hbr26⟩ := hr
    have HH51 := HH45.on hbr26
    refine ⟨_, rfl, fun a_52 HE53 => hK50 _ _ (by exact HH51.sel [1, 2] (by decide) rfl) ?_⟩
    have HS54 := HH51.sel [1, 2] (by decide) rfl
    refine dr_take (i := 4) (ls' := #[true, true, true, true, true, true, true, false, false, false, true, true, false, false, false]) HE53 HS54 rfl (by kernel_rfl) (by kernel_rfl) (by kernel_rfl) (fun _ _ _ h => h) rfl (wt0 rfl) (x_sadd rfl rfl (by first | omega | (simp only [List.length_append, List.length_cons, List.length_nil]; omega) | (simp; omega))) rfl rfl fun a_55 HE56 => ?_
    refine dr_one (i := 7) (ls' := #[true, true, true, true, true, true, true, true, false, false, true, true, false, false, false]) rfl (by kernel_rfl) rfl fun K_57 hK58 => ?_
    refine st_call HE56 (wt0 rfl) rfl rfl rfl en_72 rfl rfl (impl_Decimal a1.1 _ (HH51.glob hG) (by omega)) fun e w' hr => ?_
    have hAr27_0 := itoa_len (n := a1.1) (by omega)
    obtain ⟨rfl, hbr27⟩ := hr
    have HH59 := HH51.on hbr27
    refine ⟨_, rfl, fun a_60 HE61 => hK58 _ _ (by exact HH59.sel [1, 2] (by decide) rfl) ?_⟩
    have HS62 := HH59.sel [1, 2] (by decide) rfl
    refine dr_take (i := 8) (ls' := #[true, true, true, true, true, true, true, true, true, false, true, true, false, false, false]) HE61 HS62 rfl (by kernel_rfl) (by kernel_rfl) (by kernel_rfl) (fun _ _ _ h => h) rfl (wt0 rfl) (x_sadd rfl rfl (by first | omega | (simp only [List.length_append, List.length_cons, List.length_nil]; omega) | (simp; omega))) rfl rfl fun a_63 HE64 => ?_
    refine dr_take (i := 9) (ls' := #[true, true, true, true, true, true, true, true, true, true, true, true, false, false, false]) HE64 HS62 rfl (by kernel_rfl) (by kernel_rfl) (by kernel_rfl) (fun _ _ _ h => h) rfl (wt0 rfl) (x_sadd rfl rfl (by first | omega | (simp only [List.length_append, List.length_cons, List.length_nil]; omega) | (simp; omega))) rfl rfl fun a_65 HE66 => ?_
    refine dr_one (i := 12) (ls' := #[true, true, true, true, true, true, true, true, true, true, true, true, true, false, false]) rfl (by kernel_rfl) rfl fun K_67 hK68 => ?_
    refine st_call HE66 (wt0 rfl) rfl rfl rfl en_76 rfl rfl (impl_digitsText _ _ a1.2.2 _ (HH59.old gz1_2) (by assumption) (by omega)) fun e w' hr => ?_
    have hAr28_0 := digT_len a1.2.2
    obtain ⟨rfl, hbr28⟩ := hr
    have HH69 := HH59.on hbr28
    refine ⟨_, rfl, fun a_70 HE71 => hK68 _ _ (by exact HH69.sel [1, 2] (by decide) rfl) ?_⟩
    have HS72 := HH69.sel [1, 2] (by decide) rfl
    refine dr_take (i := 13) (ls' := #[true, true, true, true, true, true, true, true, true, true, true, true, true, true, false]) HE71 HS72 rfl (by kernel_rfl) (by kernel_rfl) (by kernel_rfl) (fun _ _ _ h => h) rfl (wt0 rfl) (x_sadd rfl rfl (by first | omega | (simp only [List.length_append, List.length_cons, List.length_nil]; omega) | (simp; omega))) rfl rfl fun a_73 HE74 => ?_
    refine dr_take (i := 14) (ls' := #[true, true, true, true, true, true, true, true, true, true, true, true, true, true, true]) HE74 HS72 rfl (by kernel_rfl) (by kernel_rfl) (by kernel_rfl) (fun _ _ _ h => h) rfl (wt0 rfl) (x_assign rfl) rfl rfl fun a_75 HE76 => ?_
    refine dr_done (by kernel_rfl) ?_
    clear HH22 a_25 HE26 a_31 HE32 a_33 HE34 a_35 HE36 a_37 HE38 a_39 HE40 HH29 a_41 HE42 HS30 K_43 hK44 HH45 a_46 HE47 HS48 a_52 HE53 K_49 hK50 HH51 a_55 HE56 HS54 a_60 HE61 a_63 HE64 K_57 hK58 HH59 a_65 HE66 HS62 a_70 HE71 a_73 HE74 hK68 K_67
    refine nrm ?_
    refine wp_ret ?_
    refine ret1 HE76 rfl (rv_tmp rfl) ?_
    have hF : (confText a0 a1) = (((((digT (List.reverse a1.2.1)) ++ [40]) ++ (Go.Lib.itoa a1.1)) ++ [41]) ++ (digT a1.2.2)) := by
      first | (simp [confText, hc24]; done) | (unfold confText; rw [if_pos ‹_›]; rfl)
    exact ⟨by first | (rw [hF] <;> rfl) | rfl | (rw [hF]; simp only [Ending.returned.injEq, Value.slice.injEq, true_and, and_true]; first | omega | (simp; done)) | (rw [hF]; simp; omega), HH69.below⟩

set_option maxRecDepth 100000 in
set_option maxHeartbeats 4000000 in
theorem spec_l05Cells (p0 o0 : Nat) (es0 : List Value) (a0 : tMachine) (A1 : Option Addr) (c1 : Nat) (a1 : (List Int)) (w : World) (h0 : eMachine.R w (Old w) es0 a0) (hq0 : ∀ j v, es0[j]? = some v → w.cell? ⟨p0, o0 + j, none⟩ = some v) (h1 : Sl eInt w (Old w) A1 c1 a1) (s0 : 2 ≤ a0.1 ∧ a0.1 ≤ 6) :
    Calls Tryz.prog 68 #[.pointer (some ⟨p0, o0, none⟩), .slice A1 a1.length c1] w fun e w' => e = .returned (.bool ((fun m l => sideB l m.1 200) a0 a1)) ∧ Below w.heap.size w w' := by
  have H0 := h0
  obtain ⟨Az0_2, cz0_2, rfl, gz0_0, gz0_1, gz0_2⟩ := shape_Machine h0
  have jz0_0 := gz0_0; unfold I64 at jz0_0
  have jz0_1 := gz0_1; unfold I64 at jz0_1
  have lz0_2 := gz0_2.len
  have l1 := h1.len
  have HH1 := Held.start Nob w
  refine enter (n := 40) Tryz.func68 rfl rfl rfl fun a_2 HE3 => ?_
  refine wp_seq ?_
  refine rg ?_
  refine pl_x HE3 HH1 (wt0 rfl) (x_assign rfl) rfl rfl fun a_4 HE5 => ?_
  refine wpList_nil ?_
  clear a_2 HE3
  refine nrm ?_
  refine wp_seq ?_
  refine wp_seq ?_
  refine rg ?_
  refine pl_x HE5 HH1 (wt0 rfl) (x_assign rfl) rfl rfl fun a_6 HE7 => ?_
  refine wpList_nil ?_
  clear a_4 HE5
  refine nrm ?_
  refine wp_block ?_
  refine lp (fun m a w' => ∃ (k : Nat), m = a1.length - k ∧ Env 40 [(5, .int .i64 (k : Int)), (0, .pointer (some ⟨p0, o0, none⟩)), (1, .slice A1 (a1.length) c1)] a ∧ Held Nob w [] w' ∧ (k ≤ a1.length) ∧ ((a1.take k).any (outB 0 (a0.1 - 1)) = false)) (a1.length - (0)) ?_ ?_
  · exact ⟨0, rfl, HE7.sub ⟨(lkI rfl (by first | rfl | omega | (simp []; done))), rfl, rfl, trivial⟩, (HH1.sel [] (by decide) rfl), (by first | omega | assumption | (simp; done) | simp_all), (by rfl)⟩
  · rintro m a_8 w' ⟨k, rfl, HE9, HH10, p21_0, p21_1⟩
    refine wp_seq ?_
    refine wp_seq ?_
    refine rg ?_
    refine pl_x HE9 HH10 (wt0 rfl) (x_move rfl) rfl rfl fun a_11 HE12 => ?_
    refine pl_x HE12 HH10 (wt0 rfl) (x_move rfl) rfl rfl fun a_13 HE14 => ?_
    refine pl_x HE14 HH10 (wt0 rfl) (x_len Tryz.underlying26 rfl) rfl rfl fun a_15 HE16 => ?_
    refine pl_x HE16 HH10 (wt0 rfl) (x_lss rfl rfl) rfl rfl fun a_17 HE18 => ?_
    refine wpList_nil ?_
    clear a_6 HE7 HH1 a_8 HE9 a_11 HE12 a_13 HE14 a_15 HE16
    refine nrm ?_
    refine cnd_d HE18 rfl (fun hc22 => ?_) (fun hc22 => ?_)
    · refine wp_skip ?_
      refine nrm ?_
      refine wp_seq ?_
      refine wp_block ?_
      refine wp_seq ?_
      refine dr_start (Held Nob w []) 11 #[false, false, false, false, false, false, false, false, false, false, false] hmix rfl rfl HH10 (fun _ h => h.sel [] (by decide) rfl) fun w' HH19 => ?_
      have HS20 := HH19
      refine dr_take (i := 0) (ls' := #[true, false, false, false, false, false, false, false, false, false, false]) HE18 HS20 rfl (by kernel_rfl) (by kernel_rfl) (by kernel_rfl) (fun _ _ _ h => h) rfl (wt0 rfl) (x_move rfl) rfl rfl fun a_21 HE22 => ?_
      refine dr_take (i := 1) (ls' := #[true, true, false, false, false, false, false, false, false, false, false]) HE22 HS20 rfl (by kernel_rfl) (by kernel_rfl) (by kernel_rfl) (fun _ _ _ h => h) rfl (wt0 rfl) (x_move rfl) rfl rfl fun a_23 HE24 => ?_
      have ke23 : k < a1.length := by omega
      obtain ⟨be23, fe23, ese23, Ae23, Re23, De23⟩ := el_old h1 ke23
      obtain ⟨e23, xe23⟩ : ∃ x_, x_ = a1[k] := ⟨_, rfl⟩
      rw [← xe23] at Re23
      have Qe23 := Re23
      obtain ⟨rfl, ie23⟩ := Re23
      have je23 := ie23; unfold I64 at je23
      refine dr_take (i := 2) (ls' := #[true, true, true, false, false, false, false, false, false, false, false]) HE24 HS20 rfl (by kernel_rfl) (by kernel_rfl) (by kernel_rfl) (fun _ _ _ h => h) rfl (wt0 rfl) (x_indexAddr ts_26 rfl rfl Ae23 rfl ke23) rfl rfl fun a_25 HE26 => ?_
      refine dr_take (i := 3) (ls' := #[true, true, true, true, false, false, false, false, false, false, false]) HE26 HS20 rfl (by kernel_rfl) (by kernel_rfl) (by kernel_rfl) (fun _ _ _ h => h) rfl (wt0 rfl) (x_load1 tv_2 rfl (c_old (De23 0 _ rfl))) rfl rfl fun a_27 HE28 => ?_
      refine dr_take (i := 4) (ls' := #[true, true, true, true, true, false, false, false, false, false, false]) HE28 HS20 rfl (by kernel_rfl) (by kernel_rfl) (by kernel_rfl) (fun _ _ _ h => h) rfl (wt0 rfl) (x_move rfl) rfl rfl fun a_29 HE30 => ?_
      refine dr_take (i := 5) (ls' := #[true, true, true, true, true, true, false, false, false, false, false]) HE30 HS20 rfl (by kernel_rfl) (by kernel_rfl) (by kernel_rfl) (fun _ _ _ h => h) rfl (wt0 rfl) (x_nilCheck rfl) rfl rfl fun a_31 HE32 => ?_
      refine dr_take (i := 6) (ls' := #[true, true, true, true, true, true, true, false, false, false, false]) HE32 HS20 rfl (by kernel_rfl) (by kernel_rfl) (by kernel_rfl) (fun _ _ _ h => h) rfl (wt0 rfl) (x_fieldAddr fa_33_0 rfl) rfl rfl fun a_33 HE34 => ?_
      refine dr_take (i := 7) (ls' := #[true, true, true, true, true, true, true, true, false, false, false]) HE34 HS20 rfl (by kernel_rfl) (by kernel_rfl) (by kernel_rfl) (fun _ _ _ h => h) rfl (wt0 rfl) (x_load1 tv_2 rfl (c_old (hq0 0 _ rfl))) rfl rfl fun a_35 HE36 => ?_
      refine dr_take (i := 8) (ls' := #[true, true, true, true, true, true, true, true, true, false, false]) HE36 HS20 rfl (by kernel_rfl) (by kernel_rfl) (by kernel_rfl) (fun _ _ _ h => h) rfl (wt0 rfl) (x_sub rfl rfl (by exact ⟨by omega, by omega⟩)) rfl rfl fun a_37 HE38 => ?_
      refine dr_one (i := 9) (ls' := #[true, true, true, true, true, true, true, true, true, true, false]) rfl (by kernel_rfl) rfl fun K_39 hK40 => ?_
      refine st_call HE38 (wt0 rfl) rfl rfl rfl en_64 rfl rfl (spec_l00In e23 0 (a0.1 - 1) _ ) fun e w' hr => ?_
      obtain ⟨rfl, rfl⟩ := hr
      refine ⟨_, rfl, fun a_41 HE42 => hK40 _ _ (by exact HH19.sel [] (by decide) rfl) ?_⟩
      have HS43 := HH19.sel [] (by decide) rfl
      refine dr_take (i := 10) (ls' := #[true, true, true, true, true, true, true, true, true, true, true]) HE42 HS43 rfl (by kernel_rfl) (by kernel_rfl) (by kernel_rfl) (fun _ _ _ h => h) rfl (wt0 rfl) (x_not rfl) rfl rfl fun a_44 HE45 => ?_
      refine dr_done (by kernel_rfl) ?_
      clear HH10 a_17 HE18 a_21 HE22 a_23 HE24 a_25 HE26 a_27 HE28 a_29 HE30 a_31 HE32 a_33 HE34 a_35 HE36 a_37 HE38 HS20 a_41 HE42 hK40 K_39
      refine nrm ?_
      refine cnd_nb HE45 rfl (fun hc25 => ?_) (fun hc25 => ?_)
      · refine wp_seq ?_
        refine rg ?_
        refine pl_x HE45 HH19 (wt0 rfl) (x_assign rfl) rfl rfl fun a_46 HE47 => ?_
        refine wpList_nil ?_
        clear a_44 HE45
        refine nrm ?_
        refine wp_ret ?_
        refine (blk_ret (thn_ret (thn_ret (blk_ret (thn_ret ?_)))))
        refine ret1 HE47 rfl (rv_tmp rfl) ?_
        have hF : ((fun m l => sideB l m.1 200) a0 a1) = false := by
          show sideB a1 a0.1 200 = _; first | (unfold sideB allW; rw [any_hit (by omega : k < a1.length) (by rw [← xe23, outB_eq, hc25]; rfl)]; simp; done) | (unfold sideB; rw [decide_eq_false (by omega)]; rfl) | (have hq := p21_1; rw [List.take_of_length_le (by omega)] at hq; unfold sideB allW; rw [hq]; grind)
        exact ⟨by first | (rw [hF] <;> rfl) | rfl | (rw [hF]; simp only [Ending.returned.injEq, Value.slice.injEq, true_and, and_true]; first | omega | (simp; done)) | (rw [hF]; simp; omega), HH19.below⟩
      · refine wp_skip ?_
        refine blk_n ?_
        refine nrm ?_
        refine rg ?_
        refine pl_x HE45 HH19 (wt0 rfl) (x_move rfl) rfl rfl fun a_48 HE49 => ?_
        refine pl_x HE49 HH19 (wt0 rfl) (x_add rfl rfl (by exact ⟨by omega, by omega⟩)) rfl rfl fun a_50 HE51 => ?_
        refine pl_x HE51 HH19 (wt0 rfl) (x_assign rfl) rfl rfl fun a_52 HE53 => ?_
        refine wpList_nil ?_
        clear a_44 HE45 a_48 HE49 a_50 HE51
        exact nrm ⟨a1.length - (k + 1), (by omega), k + 1, rfl, HE53.sub ⟨(lkI rfl (by first | rfl | omega | (simp [p21_0, p21_1, hc22, xe23, hc25]; done))), rfl, rfl, trivial⟩, (HH19.sel [] (by decide) rfl), (by first | omega | assumption | (simp; done) | simp_all), (by exact any_step (by omega) p21_1 (by rw [← xe23, outB_eq, hc25]; rfl))⟩
    · refine wp_exit ?_
      refine (thn_exit (thn_exit (blk_hit ?_)))
      refine nrm ?_
      refine wp_seq ?_
      refine rg ?_
      refine pl_x HE18 HH10 (wt0 rfl) (x_move rfl) rfl rfl fun a_54 HE55 => ?_
      refine pl_x HE55 HH10 (wt0 rfl) (x_len Tryz.underlying26 rfl) rfl rfl fun a_56 HE57 => ?_
      refine pl_x HE57 HH10 (wt0 rfl) (x_leq rfl rfl) rfl rfl fun a_58 HE59 => ?_
      refine pl_x HE59 HH10 (wt0 rfl) (x_move rfl) rfl rfl fun a_60 HE61 => ?_
      by_cases hc26 : (a1.length : Int) ≤ 200
      · refine pl_x HE61 HH10 (wtT HE61 rfl rfl rfl (decide_eq_true hc26)) (x_move rfl) rfl rfl fun a_62 HE63 => ?_
        refine pl_x HE63 HH10 (wtT HE63 rfl rfl rfl (decide_eq_true hc26)) (x_len Tryz.underlying26 rfl) rfl rfl fun a_64 HE65 => ?_
        refine pl_x HE65 HH10 (wtT HE65 rfl rfl rfl (decide_eq_true hc26)) (x_eql rfl rfl) rfl rfl fun a_66 HE67 => ?_
        refine pl_x HE67 HH10 (wtT HE67 rfl rfl rfl (decide_eq_true hc26)) (x_move rfl) rfl rfl fun a_68 HE69 => ?_
        by_cases hc27 : (a1.length : Int) = 0
        · refine pl_no HE69 (wtF HE69 rfl rfl rfl (beq_t hc27)) rfl rfl fun a_70 HE71 => ?_
          refine pl_no HE71 (wtF HE71 rfl rfl rfl (beq_t hc27)) rfl rfl fun a_72 HE73 => ?_
          refine pl_no HE73 (wtF HE73 rfl rfl rfl (beq_t hc27)) rfl rfl fun a_74 HE75 => ?_
          refine pl_no HE75 (wtF HE75 rfl rfl rfl (beq_t hc27)) rfl rfl fun a_76 HE77 => ?_
          refine pl_no HE77 (wtF HE77 rfl rfl rfl (beq_t hc27)) rfl rfl fun a_78 HE79 => ?_
          refine pl_no HE79 (wtF HE79 rfl rfl rfl (beq_t hc27)) rfl rfl fun a_80 HE81 => ?_
          refine pl_no HE81 (wtF HE81 rfl rfl rfl (beq_t hc27)) rfl rfl fun a_82 HE83 => ?_
          refine pl_x HE83 HH10 (wtT HE83 rfl rfl rfl (decide_eq_true hc26)) (x_pickT rfl (beq_t hc27) rfl) rfl rfl fun a_84 HE85 => ?_
          refine pl_x HE85 HH10 (wt0 rfl) (x_pickT rfl (decide_eq_true hc26) rfl) rfl rfl fun a_86 HE87 => ?_
          refine pl_x HE87 HH10 (wt0 rfl) (x_assign rfl) rfl rfl fun a_88 HE89 => ?_
          refine wpList_nil ?_
          clear a_17 HE18 a_54 HE55 a_56 HE57 a_58 HE59 a_60 HE61 a_62 HE63 a_64 HE65 a_66 HE67 a_68 HE69 a_70 HE71 a_72 HE73 a_74 HE75 a_76 HE77 a_78 HE79 a_80 HE81 a_82 HE83 a_84 HE85 a_86 HE87
          refine nrm ?_
          refine wp_ret ?_
          refine ret1 HE89 rfl (rv_tmp rfl) ?_
          have hF : ((fun m l => sideB l m.1 200) a0 a1) = true := by
            show sideB a1 a0.1 200 = _; first | (unfold sideB allW; rw [any_hit (by omega : k < a1.length) (by rw [← xe0, outB_eq, hc27]; rfl)]; simp; done) | (unfold sideB; rw [decide_eq_false (by omega)]; rfl) | (have hq := p21_1; rw [List.take_of_length_le (by omega)] at hq; unfold sideB allW; rw [hq]; grind)
          exact ⟨by first | (rw [hF] <;> rfl) | rfl | (rw [hF]; simp only [Ending.returned.injEq, Value.slice.injEq, true_and, and_true]; first | omega | (simp; done)) | (rw [hF]; simp; omega), HH10.below⟩
        · refine pl_x HE69 HH10 (wtT HE69 rfl rfl rfl (beq_f hc27)) (x_move rfl) rfl rfl fun a_90 HE91 => ?_
          refine pl_x HE91 HH10 (wtT HE91 rfl rfl rfl (beq_f hc27)) (x_move rfl) rfl rfl fun a_92 HE93 => ?_
          refine pl_x HE93 HH10 (wtT HE93 rfl rfl rfl (beq_f hc27)) (x_len Tryz.underlying26 rfl) rfl rfl fun a_94 HE95 => ?_
          refine pl_x HE95 HH10 (wtT HE95 rfl rfl rfl (beq_f hc27)) (x_sub rfl rfl (by exact ⟨by omega, by omega⟩)) rfl rfl fun a_96 HE97 => ?_
          have ke28 : (a1.length - 1) < a1.length := by omega
          obtain ⟨be28, fe28, ese28, Ae28, Re28, De28⟩ := el_old h1 ke28
          obtain ⟨e28, xe28⟩ : ∃ x_, x_ = a1[(a1.length - 1)] := ⟨_, rfl⟩
          rw [← xe28] at Re28
          have Qe28 := Re28
          obtain ⟨rfl, ie28⟩ := Re28
          have je28 := ie28; unfold I64 at je28
          refine pl_x HE97 HH10 (wtT HE97 rfl rfl rfl (beq_f hc27)) (x_indexAddr ts_26 rfl rfl Ae28 (by omega) ke28) rfl rfl fun a_98 HE99 => ?_
          refine pl_x HE99 HH10 (wtT HE99 rfl rfl rfl (beq_f hc27)) (x_load1 tv_2 rfl (c_old (De28 0 _ rfl))) rfl rfl fun a_100 HE101 => ?_
          refine pl_x HE101 HH10 (wtT HE101 rfl rfl rfl (beq_f hc27)) (x_neq rfl rfl) rfl rfl fun a_102 HE103 => ?_
          refine pl_x HE103 HH10 (wtT HE103 rfl rfl rfl (decide_eq_true hc26)) (x_pickF rfl (beq_f hc27) rfl) rfl rfl fun a_104 HE105 => ?_
          refine pl_x HE105 HH10 (wt0 rfl) (x_pickT rfl (decide_eq_true hc26) rfl) rfl rfl fun a_106 HE107 => ?_
          refine pl_x HE107 HH10 (wt0 rfl) (x_assign rfl) rfl rfl fun a_108 HE109 => ?_
          refine wpList_nil ?_
          clear a_17 HE18 a_54 HE55 a_56 HE57 a_58 HE59 a_60 HE61 a_62 HE63 a_64 HE65 a_66 HE67 a_68 HE69 a_90 HE91 a_92 HE93 a_94 HE95 a_96 HE97 a_98 HE99 a_100 HE101 a_102 HE103 a_104 HE105 a_106 HE107
          refine nrm ?_
          refine wp_ret ?_
          refine ret1 HE109 rfl (rv_tmp rfl) ?_
          have hF : ((fun m l => sideB l m.1 200) a0 a1) = (e28 != 0) := by
            show sideB a1 a0.1 200 = _; first | (unfold sideB allW; rw [any_hit (by omega : k < a1.length) (by rw [← xe28, outB_eq, hc27]; rfl)]; simp; done) | (unfold sideB; rw [decide_eq_false (by omega)]; rfl) | (have hq := p21_1; rw [List.take_of_length_le (by omega)] at hq; unfold sideB allW; rw [hq]; grind)
          exact ⟨by first | (rw [hF] <;> rfl) | rfl | (rw [hF]; simp only [Ending.returned.injEq, Value.slice.injEq, true_and, and_true]; first | omega | (simp; done)) | (rw [hF]; simp; omega), HH10.below⟩
      · refine pl_no HE61 (wtF HE61 rfl rfl rfl (decide_eq_false hc26)) rfl rfl fun a_110 HE111 => ?_
        refine pl_no HE111 (wtF HE111 rfl rfl rfl (decide_eq_false hc26)) rfl rfl fun a_112 HE113 => ?_
        refine pl_no HE113 (wtF HE113 rfl rfl rfl (decide_eq_false hc26)) rfl rfl fun a_114 HE115 => ?_
        refine pl_no HE115 (wtF HE115 rfl rfl rfl (decide_eq_false hc26)) rfl rfl fun a_116 HE117 => ?_
        refine pl_no HE117 (wtU HE117 rfl rfl rfl) rfl rfl fun a_118 HE119 => ?_
        refine pl_no HE119 (wtU HE119 rfl rfl rfl) rfl rfl fun a_120 HE121 => ?_
        refine pl_no HE121 (wtU HE121 rfl rfl rfl) rfl rfl fun a_122 HE123 => ?_
        refine pl_no HE123 (wtU HE123 rfl rfl rfl) rfl rfl fun a_124 HE125 => ?_
        refine pl_no HE125 (wtU HE125 rfl rfl rfl) rfl rfl fun a_126 HE127 => ?_
        refine pl_no HE127 (wtU HE127 rfl rfl rfl) rfl rfl fun a_128 HE129 => ?_
        refine pl_no HE129 (wtU HE129 rfl rfl rfl) rfl rfl fun a_130 HE131 => ?_
        refine pl_no HE131 (wtF HE131 rfl rfl rfl (decide_eq_false hc26)) rfl rfl fun a_132 HE133 => ?_
        refine pl_x HE133 HH10 (wt0 rfl) (x_pickF rfl (decide_eq_false hc26) rfl) rfl rfl fun a_134 HE135 => ?_
        refine pl_x HE135 HH10 (wt0 rfl) (x_assign rfl) rfl rfl fun a_136 HE137 => ?_
        refine wpList_nil ?_
        clear a_17 HE18 a_54 HE55 a_56 HE57 a_58 HE59 a_60 HE61 a_110 HE111 a_112 HE113 a_114 HE115 a_116 HE117 a_118 HE119 a_120 HE121 a_122 HE123 a_124 HE125 a_126 HE127 a_128 HE129 a_130 HE131 a_132 HE133 a_134 HE135
        refine nrm ?_
        refine wp_ret ?_
        refine ret1 HE137 rfl (rv_tmp rfl) ?_
        have hF : ((fun m l => sideB l m.1 200) a0 a1) = false := by
          show sideB a1 a0.1 200 = _; first | (unfold sideB allW; rw [any_hit (by omega : k < a1.length) (by rw [← xe0, outB_eq, hc26]; rfl)]; simp; done) | (unfold sideB; rw [decide_eq_false (by omega)]; rfl) | (have hq := p21_1; rw [List.take_of_length_le (by omega)] at hq; unfold sideB allW; rw [hq]; grind)
        exact ⟨by first | (rw [hF] <;> rfl) | rfl | (rw [hF]; simp only [Ending.returned.injEq, Value.slice.injEq, true_and, and_true]; first | omega | (simp; done)) | (rw [hF]; simp; omega), HH10.below⟩

end Go.Proofs.YthknelhboibbnaaGreatDoor
