/- What the proof of FnExactMultiText needs: contracts of the functions that it reaches, each once. -/
import Derived.Test.YtjnnkmflpbildaaDoorProg
import Derived.Test.YtjnnkmflpbildaaDoorQMem
import Derived.Test.YtjnnkmflpbildaaDoorQOpen
import Derived.Test.YtjnnkmflpbildaaDoorLMultiTexta
import Derived.Test.YtjnnkmflpbildaaDoorLMultiTextb
import Derived.Test.YtjnnkmflpbildaaDoorLMultiTextc
import Derived.WalkKit
import Derived.WalkSpells
import Derived.Below
import Derived.LoopTactic
import Derived.Outline
import Derived.Deep.QuietTactic
import Derived.BigQuiet
import Derived.Deep.LoopGhost
import Derived.Handy
import Derived.Lib.Hide
import Derived.Shelf.Abstract
import Derived.StillTailTactics
import Derived.OwnWalk
import Derived.Maps.AppendAt
import Derived.RegionTactic
import Derived.Deep.RegionHeld3
import Derived.IntWalk
import Derived.Deep.Upon
import Derived.Laws.OwnMore
import Derived.Maps.AppendAt
import Derived.Laws.BytesString
import Derived.Laws.Strings
import Derived.Lib.Bytes
import Derived.Lib.Strings
import Derived.Lib.FrozenHead
import Derived.Lib.RuneBytes
import Derived.Lib.LaidTab
import Derived.Laws.StructEq
import Derived.Lib.ItoaLen
import Derived.Lib.Join
import Derived.Shelf.Strconv.Itoa4
import Derived.Shelf.Strings.OnBuilder
import Derived.Shelf.Strings.BuilderK
import Derived.Shelf.Strings.BuilderRune
import Derived.Shelf.LaysM
import Derived.Ground.NamesProg
namespace Go.Proofs.YtjnnkmflpbildaaDoor
open Go.RowKit

set_option maxRecDepth 100000 in
set_option maxHeartbeats 4000000 in
theorem spec_l06Is (p0 o0 : Nat) (es0 : List Value) (a0 : tMulti) (w : World) (h0 : eMulti.R w (Old w) es0 a0) (hq0 : ∀ j v, es0[j]? = some v → w.cell? ⟨p0, o0 + j, none⟩ = some v) :
    Calls Tryd.prog 97 #[.pointer (some ⟨p0, o0, none⟩)] w fun e w' => e = .returned (.bool (validMulti a0)) ∧ Below w.heap.size w w' := by
  have H0 := h0
  obtain ⟨Az0_3, cz0_3, rfl, gz0_0, gz0_1, gz0_2, gz0_3⟩ := shape_Multi h0
  have jz0_0 := gz0_0; unfold I64 at jz0_0
  have jz0_1 := gz0_1; unfold I64 at jz0_1
  have jz0_2 := gz0_2; unfold I64 at jz0_2
  have lz0_3 := gz0_3.len
  have HH1 := Held.start Nob w
  refine enter (n := 132) Tryd.func97 rfl rfl rfl fun a_2 HE3 => ?_
  refine wp_seq ?_
  refine rg ?_
  refine pl_x HE3 HH1 (wt0 rfl) (x_assign rfl) rfl rfl fun a_4 HE5 => ?_
  refine wpList_nil ?_
  clear a_2 HE3
  refine nrm ?_
  refine wp_seq ?_
  refine wp_seq ?_
  refine rg ?_
  refine pl_x HE5 HH1 (wt0 rfl) (x_move rfl) rfl rfl fun a_6 HE7 => ?_
  refine pl_x HE7 HH1 (wt0 rfl) (x_nilCheck rfl) rfl rfl fun a_8 HE9 => ?_
  refine pl_x HE9 HH1 (wt0 rfl) (x_fieldAddr fa_92_0 rfl) rfl rfl fun a_10 HE11 => ?_
  refine pl_x HE11 HH1 (wt0 rfl) (x_load1 tv_2 rfl (c_old (hq0 0 _ rfl))) rfl rfl fun a_12 HE13 => ?_
  refine pl fun K_14 hK15 => ?_
  refine st_call HE13 (wt0 rfl) rfl rfl rfl en_52 rfl rfl (spec_l00In a0.1 2 3 _ ) fun e w' hr => ?_
  obtain ⟨rfl, rfl⟩ := hr
  refine ⟨_, rfl, fun a_16 HE17 => hK15 _ _ ?_⟩
  refine pl_x HE17 HH1 (wt0 rfl) (x_not rfl) rfl rfl fun a_18 HE19 => ?_
  refine pl_x HE19 HH1 (wt0 rfl) (x_move rfl) rfl rfl fun a_20 HE21 => ?_
  rcases Bool.eq_false_or_eq_true ((withinB a0.1 2 3)) with hc22 | hc22
  · refine pl_x HE21 HH1 (wtT HE21 rfl rfl rfl (not_f hc22)) (x_move rfl) rfl rfl fun a_22 HE23 => ?_
    refine pl_x HE23 HH1 (wtT HE23 rfl rfl rfl (not_f hc22)) (x_nilCheck rfl) rfl rfl fun a_24 HE25 => ?_
    refine pl_x HE25 HH1 (wtT HE25 rfl rfl rfl (not_f hc22)) (x_fieldAddr fa_92_1 rfl) rfl rfl fun a_26 HE27 => ?_
    refine pl_x HE27 HH1 (wtT HE27 rfl rfl rfl (not_f hc22)) (x_load1 tv_2 rfl (c_old (hq0 1 _ rfl))) rfl rfl fun a_28 HE29 => ?_
    refine pl fun K_30 hK31 => ?_
    refine st_call HE29 (wtT HE29 rfl rfl rfl (not_f hc22)) rfl rfl rfl en_52 rfl rfl (spec_l00In a0.2.1 2 3 _ ) fun e w' hr => ?_
    obtain ⟨rfl, rfl⟩ := hr
    refine ⟨_, rfl, fun a_32 HE33 => hK31 _ _ ?_⟩
    refine pl_x HE33 HH1 (wtT HE33 rfl rfl rfl (not_f hc22)) (x_not rfl) rfl rfl fun a_34 HE35 => ?_
    refine pl_x HE35 HH1 (wt0 rfl) (x_pickF rfl (not_f hc22) rfl) rfl rfl fun a_36 HE37 => ?_
    refine pl_x HE37 HH1 (wt0 rfl) (x_move rfl) rfl rfl fun a_38 HE39 => ?_
    rcases Bool.eq_false_or_eq_true ((withinB a0.2.1 2 3)) with hc24 | hc24
    · have v1 := withinB_true.1 hc24
      refine pl_x HE39 HH1 (wtT HE39 rfl rfl rfl (not_f hc24)) (x_move rfl) rfl rfl fun a_40 HE41 => ?_
      refine pl_x HE41 HH1 (wtT HE41 rfl rfl rfl (not_f hc24)) (x_nilCheck rfl) rfl rfl fun a_42 HE43 => ?_
      refine pl_x HE43 HH1 (wtT HE43 rfl rfl rfl (not_f hc24)) (x_fieldAddr fa_92_2 rfl) rfl rfl fun a_44 HE45 => ?_
      refine pl_x HE45 HH1 (wtT HE45 rfl rfl rfl (not_f hc24)) (x_load1 tv_2 rfl (c_old (hq0 2 _ rfl))) rfl rfl fun a_46 HE47 => ?_
      refine pl fun K_48 hK49 => ?_
      refine st_call HE47 (wtT HE47 rfl rfl rfl (not_f hc24)) rfl rfl rfl en_52 rfl rfl (spec_l00In a0.2.2.1 1 16 _ ) fun e w' hr => ?_
      obtain ⟨rfl, rfl⟩ := hr
      refine ⟨_, rfl, fun a_50 HE51 => hK49 _ _ ?_⟩
      refine pl_x HE51 HH1 (wtT HE51 rfl rfl rfl (not_f hc24)) (x_not rfl) rfl rfl fun a_52 HE53 => ?_
      refine pl_x HE53 HH1 (wt0 rfl) (x_pickF rfl (not_f hc24) rfl) rfl rfl fun a_54 HE55 => ?_
      refine pl_x HE55 HH1 (wt0 rfl) (x_move rfl) rfl rfl fun a_56 HE57 => ?_
      rcases Bool.eq_false_or_eq_true ((withinB a0.2.2.1 1 16)) with hc26 | hc26
      · have v2 := withinB_true.1 hc26
        refine pl_x HE57 HH1 (wtT HE57 rfl rfl rfl (not_f hc26)) (x_move rfl) rfl rfl fun a_58 HE59 => ?_
        refine pl_x HE59 HH1 (wtT HE59 rfl rfl rfl (not_f hc26)) (x_nilCheck rfl) rfl rfl fun a_60 HE61 => ?_
        refine pl_x HE61 HH1 (wtT HE61 rfl rfl rfl (not_f hc26)) (x_fieldAddr fa_92_3 rfl) rfl rfl fun a_62 HE63 => ?_
        refine pl_x HE63 HH1 (wtT HE63 rfl rfl rfl (not_f hc26)) (x_load1 tv_90 rfl (c_old (hq0 3 _ rfl))) rfl rfl fun a_64 HE65 => ?_
        refine pl_x HE65 HH1 (wtT HE65 rfl rfl rfl (not_f hc26)) (x_len Tryd.underlying90 rfl) rfl rfl fun a_66 HE67 => ?_
        refine pl_x HE67 HH1 (wtT HE67 rfl rfl rfl (not_f hc26)) (x_gtr rfl rfl) rfl rfl fun a_68 HE69 => ?_
        refine pl_x HE69 HH1 (wt0 rfl) (x_pickF rfl (not_f hc26) rfl) rfl rfl fun a_70 HE71 => ?_
        refine wpList_nil ?_
        clear a_4 HE5 a_6 HE7 a_8 HE9 a_10 HE11 a_12 HE13 a_16 HE17 a_18 HE19 a_20 HE21 a_22 HE23 a_24 HE25 a_26 HE27 K_14 hK15 a_28 HE29 a_32 HE33 a_34 HE35 a_36 HE37 a_38 HE39 a_40 HE41 a_42 HE43 a_44 HE45 K_30 hK31 a_46 HE47 a_50 HE51 a_52 HE53 a_54 HE55 a_56 HE57 a_58 HE59 a_60 HE61 a_62 HE63 a_64 HE65 a_66 HE67 a_68 HE69 hK49 K_48
        refine nrm ?_
        refine cnd_d HE71 rfl (fun hc27 => ?_) (fun hc27 => ?_)
        · refine wp_seq ?_
          refine rg ?_
          refine pl_x HE71 HH1 (wt0 rfl) (x_assign rfl) rfl rfl fun a_72 HE73 => ?_
          refine wpList_nil ?_
          clear a_70 HE71
          refine nrm ?_
          refine wp_ret ?_
          refine (thn_ret ?_)
          refine ret1 HE73 rfl (rv_tmp rfl) ?_
          have hF : (validMulti a0) = false := by
            first | (simp [validMulti, hc22, hc24, hc26, hc27]; done) | (unfold validMulti; rw [decide_eq_false (by omega)]; simp) | (unfold validMulti; rw [rg_hit (by omega : k < a0.2.2.2.length) (by unfold badMR; grind [beforeMR, validMR, rowB])]; simp) | (have hq := p0_1; rw [show k = a0.2.2.2.length from by omega] at hq; unfold validMulti; rw [hq, decide_eq_true (by omega)]; simp [hc22, hc24, hc26, hc27])
          exact ⟨by first | (rw [hF] <;> rfl) | rfl | (rw [hF]; simp only [Ending.returned.injEq, Value.slice.injEq, true_and, and_true]; first | omega | (simp; done)) | (rw [hF]; simp; omega), HH1.below⟩
        · refine wp_skip ?_
          refine nrm ?_
          refine wp_seq ?_
          refine wp_seq ?_
          refine rg ?_
          refine pl_x HE71 HH1 (wt0 rfl) (x_assign rfl) rfl rfl fun a_74 HE75 => ?_
          refine wpList_nil ?_
          clear a_70 HE71
          refine nrm ?_
          refine wp_block ?_
          refine lp (fun m a w' => ∃ (k : Nat), m = a0.2.2.2.length - k ∧ Env 132 [(3, .int .i64 (k : Int)), (0, .pointer (some ⟨p0, o0, none⟩))] a ∧ Held Nob w [] w' ∧ (k ≤ a0.2.2.2.length) ∧ ((List.range k).any (badMR a0) = false)) (a0.2.2.2.length - (0)) ?_ ?_
          · exact ⟨0, rfl, HE75.sub ⟨(lkI rfl (by first | rfl | omega | (simp [hc22, hc24, hc26, hc27]; done))), rfl, trivial⟩, (HH1.sel [] (by decide) rfl), (by first | omega | assumption | (simp; done) | simp_all), (by rfl)⟩
          · rintro m a_76 w' ⟨k, rfl, HE77, HH78, p28_0, p28_1⟩
            refine wp_seq ?_
            refine wp_seq ?_
            refine rg ?_
            refine pl_x HE77 HH78 (wt0 rfl) (x_move rfl) rfl rfl fun a_79 HE80 => ?_
            refine pl_x HE80 HH78 (wt0 rfl) (x_move rfl) rfl rfl fun a_81 HE82 => ?_
            refine pl_x HE82 HH78 (wt0 rfl) (x_nilCheck rfl) rfl rfl fun a_83 HE84 => ?_
            refine pl_x HE84 HH78 (wt0 rfl) (x_fieldAddr fa_92_3 rfl) rfl rfl fun a_85 HE86 => ?_
            refine pl_x HE86 HH78 (wt0 rfl) (x_load1 tv_90 rfl (c_old (hq0 3 _ rfl))) rfl rfl fun a_87 HE88 => ?_
            refine pl_x HE88 HH78 (wt0 rfl) (x_len Tryd.underlying90 rfl) rfl rfl fun a_89 HE90 => ?_
            refine pl_x HE90 HH78 (wt0 rfl) (x_lss rfl rfl) rfl rfl fun a_91 HE92 => ?_
            refine wpList_nil ?_
            clear a_74 HE75 HH1 a_76 HE77 a_79 HE80 a_81 HE82 a_83 HE84 a_85 HE86 a_87 HE88 a_89 HE90
            refine nrm ?_
            refine cnd_d HE92 rfl (fun hc29 => ?_) (fun hc29 => ?_)
            · refine wp_skip ?_
              refine nrm ?_
              refine wp_seq ?_
              refine wp_block ?_
              refine wp_seq ?_
              refine rg ?_
              refine pl_x HE92 HH78 (wt0 rfl) (x_move rfl) rfl rfl fun a_93 HE94 => ?_
              refine pl_x HE94 HH78 (wt0 rfl) (x_nilCheck rfl) rfl rfl fun a_95 HE96 => ?_
              refine pl_x HE96 HH78 (wt0 rfl) (x_fieldAddr fa_92_3 rfl) rfl rfl fun a_97 HE98 => ?_
              refine pl_x HE98 HH78 (wt0 rfl) (x_load1 tv_90 rfl (c_old (hq0 3 _ rfl))) rfl rfl fun a_99 HE100 => ?_
              refine pl_x HE100 HH78 (wt0 rfl) (x_move rfl) rfl rfl fun a_101 HE102 => ?_
              have ke30 : k < a0.2.2.2.length := by omega
              obtain ⟨be30, fe30, ese30, Ae30, Re30, De30⟩ := el_old gz0_3 ke30
              obtain ⟨e30, xe30⟩ : ∃ x_, x_ = a0.2.2.2[k] := ⟨_, rfl⟩
              rw [← xe30] at Re30
              have Qe30 := Re30
              obtain ⟨Ae30_1, ce30_1, Ae30_2, ce30_2, Ae30_3, ce30_3, rfl, ge30_0, ge30_1, ge30_2, ge30_3, ge30_4⟩ := shape_MultiRule Re30
              have je30_0 := ge30_0; unfold I64 at je30_0
              have le30_1 := ge30_1.len
              have le30_2 := ge30_2.len
              have le30_3 := ge30_3.len
              have je30_4 := ge30_4; unfold I64 at je30_4
              have ge30 : a0.2.2.2[k]?.getD default = e30 := by rw [List.getElem?_eq_getElem ke30, xe30]; rfl
              refine pl_x HE102 HH78 (wt0 rfl) (x_indexAddr ts_90 rfl rfl Ae30 rfl ke30) rfl rfl fun a_103 HE104 => ?_
              refine pl_x HE104 HH78 (wt0 rfl) (x_assign rfl) rfl rfl fun a_105 HE106 => ?_
              refine wpList_nil ?_
              clear a_91 HE92 a_93 HE94 a_95 HE96 a_97 HE98 a_99 HE100 a_101 HE102 a_103 HE104
              refine nrm ?_
              refine wp_seq ?_
              refine wp_seq ?_
              refine dr_start (Held Nob w []) 24 #[false, false, false, false, false, false, false, false, false, false, false, false, false, false, false, false, false, false, false, false, false, false, false, false] hmix rfl rfl HH78 (fun _ h => h.sel [] (by decide) rfl) fun w' HH107 => ?_
              have HS108 := HH107
              refine dr_take (i := 0) (ls' := #[true, false, false, false, false, false, false, false, false, false, false, false, false, false, false, false, false, false, false, false, false, false, false, false]) HE106 HS108 rfl (by kernel_rfl) (by kernel_rfl) (by kernel_rfl) (fun _ _ _ h => h) rfl (wt0 rfl) (x_move rfl) rfl rfl fun a_109 HE110 => ?_
              refine dr_take (i := 1) (ls' := #[true, true, false, false, false, false, false, false, false, false, false, false, false, false, false, false, false, false, false, false, false, false, false, false]) HE110 HS108 rfl (by kernel_rfl) (by kernel_rfl) (by kernel_rfl) (fun _ _ _ h => h) rfl (wt0 rfl) (x_nilCheck rfl) rfl rfl fun a_111 HE112 => ?_
              refine dr_take (i := 2) (ls' := #[true, true, true, false, false, false, false, false, false, false, false, false, false, false, false, false, false, false, false, false, false, false, false, false]) HE112 HS108 rfl (by kernel_rfl) (by kernel_rfl) (by kernel_rfl) (fun _ _ _ h => h) rfl (wt0 rfl) (x_fieldAddr fa_152_0 rfl) rfl rfl fun a_113 HE114 => ?_
              refine dr_take (i := 3) (ls' := #[true, true, true, true, false, false, false, false, false, false, false, false, false, false, false, false, false, false, false, false, false, false, false, false]) HE114 HS108 rfl (by kernel_rfl) (by kernel_rfl) (by kernel_rfl) (fun _ _ _ h => h) rfl (wt0 rfl) (x_load1 tv_2 rfl (c_old (De30 0 _ rfl))) rfl rfl fun a_115 HE116 => ?_
              refine dr_take (i := 4) (ls' := #[true, true, true, true, true, false, false, false, false, false, false, false, false, false, false, false, false, false, false, false, false, false, false, false]) HE116 HS108 rfl (by kernel_rfl) (by kernel_rfl) (by kernel_rfl) (fun _ _ _ h => h) rfl (wt0 rfl) (x_move rfl) rfl rfl fun a_117 HE118 => ?_
              refine dr_take (i := 5) (ls' := #[true, true, true, true, true, true, false, false, false, false, false, false, false, false, false, false, false, false, false, false, false, false, false, false]) HE118 HS108 rfl (by kernel_rfl) (by kernel_rfl) (by kernel_rfl) (fun _ _ _ h => h) rfl (wt0 rfl) (x_nilCheck rfl) rfl rfl fun a_119 HE120 => ?_
              refine dr_take (i := 6) (ls' := #[true, true, true, true, true, true, true, false, false, false, false, false, false, false, false, false, false, false, false, false, false, false, false, false]) HE120 HS108 rfl (by kernel_rfl) (by kernel_rfl) (by kernel_rfl) (fun _ _ _ h => h) rfl (wt0 rfl) (x_fieldAddr fa_92_2 rfl) rfl rfl fun a_121 HE122 => ?_
              refine dr_take (i := 7) (ls' := #[true, true, true, true, true, true, true, true, false, false, false, false, false, false, false, false, false, false, false, false, false, false, false, false]) HE122 HS108 rfl (by kernel_rfl) (by kernel_rfl) (by kernel_rfl) (fun _ _ _ h => h) rfl (wt0 rfl) (x_load1 tv_2 rfl (c_old (hq0 2 _ rfl))) rfl rfl fun a_123 HE124 => ?_
              refine dr_take (i := 8) (ls' := #[true, true, true, true, true, true, true, true, true, false, false, false, false, false, false, false, false, false, false, false, false, false, false, false]) HE124 HS108 rfl (by kernel_rfl) (by kernel_rfl) (by kernel_rfl) (fun _ _ _ h => h) rfl (wt0 rfl) (x_sub rfl rfl (by exact ⟨by omega, by omega⟩)) rfl rfl fun a_125 HE126 => ?_
              refine dr_one (i := 9) (ls' := #[true, true, true, true, true, true, true, true, true, true, false, false, false, false, false, false, false, false, false, false, false, false, false, false]) rfl (by kernel_rfl) rfl fun K_127 hK128 => ?_
              refine st_call HE126 (wt0 rfl) rfl rfl rfl en_52 rfl rfl (spec_l00In e30.1 0 (a0.2.2.1 - 1) _ ) fun e w' hr => ?_
              obtain ⟨rfl, rfl⟩ := hr
              refine ⟨_, rfl, fun a_129 HE130 => hK128 _ _ (by exact HH107.sel [] (by decide) rfl) ?_⟩
              have HS131 := HH107.sel [] (by decide) rfl
              refine dr_take (i := 10) (ls' := #[true, true, true, true, true, true, true, true, true, true, true, false, false, false, false, false, false, false, false, false, false, false, false, false]) HE130 HS131 rfl (by kernel_rfl) (by kernel_rfl) (by kernel_rfl) (fun _ _ _ h => h) rfl (wt0 rfl) (x_not rfl) rfl rfl fun a_132 HE133 => ?_
              refine dr_take (i := 11) (ls' := #[true, true, true, true, true, true, true, true, true, true, true, true, false, false, false, false, false, false, false, false, false, false, false, false]) HE133 HS131 rfl (by kernel_rfl) (by kernel_rfl) (by kernel_rfl) (fun _ _ _ h => h) rfl (wt0 rfl) (x_move rfl) rfl rfl fun a_134 HE135 => ?_
              rcases Bool.eq_false_or_eq_true ((withinB e30.1 0 (a0.2.2.1 - 1))) with hc32 | hc32
              · refine dr_take (i := 12) (ls' := #[true, true, true, true, true, true, true, true, true, true, true, true, true, false, false, false, false, false, false, false, false, false, false, false]) HE135 HS131 rfl (by kernel_rfl) (by kernel_rfl) (by kernel_rfl) (fun _ _ _ h => h) rfl (wtT HE135 rfl rfl rfl (not_f hc32)) (x_move rfl) rfl rfl fun a_136 HE137 => ?_
                refine dr_take (i := 13) (ls' := #[true, true, true, true, true, true, true, true, true, true, true, true, true, true, false, false, false, false, false, false, false, false, false, false]) HE137 HS131 rfl (by kernel_rfl) (by kernel_rfl) (by kernel_rfl) (fun _ _ _ h => h) rfl (wtT HE137 rfl rfl rfl (not_f hc32)) (x_nilCheck rfl) rfl rfl fun a_138 HE139 => ?_
                refine dr_take (i := 14) (ls' := #[true, true, true, true, true, true, true, true, true, true, true, true, true, true, true, false, false, false, false, false, false, false, false, false]) HE139 HS131 rfl (by kernel_rfl) (by kernel_rfl) (by kernel_rfl) (fun _ _ _ h => h) rfl (wtT HE139 rfl rfl rfl (not_f hc32)) (x_fieldAddr fa_152_4 rfl) rfl rfl fun a_140 HE141 => ?_
                refine dr_take (i := 15) (ls' := #[true, true, true, true, true, true, true, true, true, true, true, true, true, true, true, true, false, false, false, false, false, false, false, false]) HE141 HS131 rfl (by kernel_rfl) (by kernel_rfl) (by kernel_rfl) (fun _ _ _ h => h) rfl (wtT HE141 rfl rfl rfl (not_f hc32)) (x_load1 tv_2 rfl (c_old (De30 4 _ rfl))) rfl rfl fun a_142 HE143 => ?_
                refine dr_take (i := 16) (ls' := #[true, true, true, true, true, true, true, true, true, true, true, true, true, true, true, true, true, false, false, false, false, false, false, false]) HE143 HS131 rfl (by kernel_rfl) (by kernel_rfl) (by kernel_rfl) (fun _ _ _ h => h) rfl (wtT HE143 rfl rfl rfl (not_f hc32)) (x_move rfl) rfl rfl fun a_144 HE145 => ?_
                refine dr_take (i := 17) (ls' := #[true, true, true, true, true, true, true, true, true, true, true, true, true, true, true, true, true, true, false, false, false, false, false, false]) HE145 HS131 rfl (by kernel_rfl) (by kernel_rfl) (by kernel_rfl) (fun _ _ _ h => h) rfl (wtT HE145 rfl rfl rfl (not_f hc32)) (x_nilCheck rfl) rfl rfl fun a_146 HE147 => ?_
                refine dr_take (i := 18) (ls' := #[true, true, true, true, true, true, true, true, true, true, true, true, true, true, true, true, true, true, true, false, false, false, false, false]) HE147 HS131 rfl (by kernel_rfl) (by kernel_rfl) (by kernel_rfl) (fun _ _ _ h => h) rfl (wtT HE147 rfl rfl rfl (not_f hc32)) (x_fieldAddr fa_92_2 rfl) rfl rfl fun a_148 HE149 => ?_
                refine dr_take (i := 19) (ls' := #[true, true, true, true, true, true, true, true, true, true, true, true, true, true, true, true, true, true, true, true, false, false, false, false]) HE149 HS131 rfl (by kernel_rfl) (by kernel_rfl) (by kernel_rfl) (fun _ _ _ h => h) rfl (wtT HE149 rfl rfl rfl (not_f hc32)) (x_load1 tv_2 rfl (c_old (hq0 2 _ rfl))) rfl rfl fun a_150 HE151 => ?_
                refine dr_take (i := 20) (ls' := #[true, true, true, true, true, true, true, true, true, true, true, true, true, true, true, true, true, true, true, true, true, false, false, false]) HE151 HS131 rfl (by kernel_rfl) (by kernel_rfl) (by kernel_rfl) (fun _ _ _ h => h) rfl (wtT HE151 rfl rfl rfl (not_f hc32)) (x_sub rfl rfl (by exact ⟨by omega, by omega⟩)) rfl rfl fun a_152 HE153 => ?_
                refine dr_one (i := 21) (ls' := #[true, true, true, true, true, true, true, true, true, true, true, true, true, true, true, true, true, true, true, true, true, true, false, false]) rfl (by kernel_rfl) rfl fun K_154 hK155 => ?_
                refine st_call HE153 (wtT HE153 rfl rfl rfl (not_f hc32)) rfl rfl rfl en_52 rfl rfl (spec_l00In e30.2.2.2.2 0 (a0.2.2.1 - 1) _ ) fun e w' hr => ?_
                obtain ⟨rfl, rfl⟩ := hr
                refine ⟨_, rfl, fun a_156 HE157 => hK155 _ _ (by exact HH107.sel [] (by decide) rfl) ?_⟩
                have HS158 := HH107.sel [] (by decide) rfl
                refine dr_take (i := 22) (ls' := #[true, true, true, true, true, true, true, true, true, true, true, true, true, true, true, true, true, true, true, true, true, true, true, false]) HE157 HS158 rfl (by kernel_rfl) (by kernel_rfl) (by kernel_rfl) (fun _ _ _ h => h) rfl (wtT HE157 rfl rfl rfl (not_f hc32)) (x_not rfl) rfl rfl fun a_159 HE160 => ?_
                refine dr_take (i := 23) (ls' := #[true, true, true, true, true, true, true, true, true, true, true, true, true, true, true, true, true, true, true, true, true, true, true, true]) HE160 HS158 rfl (by kernel_rfl) (by kernel_rfl) (by kernel_rfl) (fun _ _ _ h => h) rfl (wt0 rfl) (x_pickF rfl (not_f hc32) rfl) rfl rfl fun a_161 HE162 => ?_
                refine dr_done (by kernel_rfl) ?_
                clear HH78 a_105 HE106 a_109 HE110 a_111 HE112 a_113 HE114 a_115 HE116 a_117 HE118 a_119 HE120 a_121 HE122 a_123 HE124 a_125 HE126 HS108 a_129 HE130 a_132 HE133 a_134 HE135 a_136 HE137 a_138 HE139 a_140 HE141 a_142 HE143 a_144 HE145 a_146 HE147 a_148 HE149 a_150 HE151 K_127 hK128 a_152 HE153 HS131 a_156 HE157 a_159 HE160 hK155 K_154
                refine nrm ?_
                refine cnd_nb HE162 rfl (fun hc34 => ?_) (fun hc34 => ?_)
                · refine wp_seq ?_
                  refine rg ?_
                  refine pl_x HE162 HH107 (wt0 rfl) (x_assign rfl) rfl rfl fun a_163 HE164 => ?_
                  refine wpList_nil ?_
                  clear a_161 HE162
                  refine nrm ?_
                  refine wp_ret ?_
                  refine (thn_ret (blk_ret (thn_ret (thn_ret (blk_ret (thn_ret ?_))))))
                  refine ret1 HE164 rfl (rv_tmp rfl) ?_
                  have hF : (validMulti a0) = false := by
                    first | (simp [validMulti, hc22, hc24, hc26, hc27, p28_0, p28_1, hc29, xe30, hc32, hc34]; done) | (unfold validMulti; rw [decide_eq_false (by omega)]; simp) | (unfold validMulti; rw [rg_hit (by omega : k < a0.2.2.2.length) (by unfold badMR; grind [beforeMR, validMR, rowB])]; simp) | (have hq := p28_1; rw [show k = a0.2.2.2.length from by omega] at hq; unfold validMulti; rw [hq, decide_eq_true (by omega)]; simp [hc22, hc24, hc26, hc27, p28_0, p28_1, hc29, xe30, hc32, hc34])
                  exact ⟨by first | (rw [hF] <;> rfl) | rfl | (rw [hF]; simp only [Ending.returned.injEq, Value.slice.injEq, true_and, and_true]; first | omega | (simp; done)) | (rw [hF]; simp; omega), HH107.below⟩
                · refine wp_skip ?_
                  refine nrm ?_
                  refine wp_seq ?_
                  refine wp_seq ?_
                  refine dr_start (Held Nob w []) 44 #[false, false, false, false, false, false, false, false, false, false, false, false, false, false, false, false, false, false, false, false, false, false, false, false, false, false, false, false, false, false, false, false, false, false, false, false, false, false, false, false, false, false, false, false] hmix rfl rfl HH107 (fun _ h => h.sel [] (by decide) rfl) fun w' HH165 => ?_
                  have HS166 := HH165
                  refine dr_take (i := 0) (ls' := #[true, false, false, false, false, false, false, false, false, false, false, false, false, false, false, false, false, false, false, false, false, false, false, false, false, false, false, false, false, false, false, false, false, false, false, false, false, false, false, false, false, false, false, false]) HE162 HS166 rfl (by kernel_rfl) (by kernel_rfl) (by kernel_rfl) (fun _ _ _ h => h) rfl (wt0 rfl) (x_move rfl) rfl rfl fun a_167 HE168 => ?_
                  refine dr_take (i := 1) (ls' := #[true, true, false, false, false, false, false, false, false, false, false, false, false, false, false, false, false, false, false, false, false, false, false, false, false, false, false, false, false, false, false, false, false, false, false, false, false, false, false, false, false, false, false, false]) HE168 HS166 rfl (by kernel_rfl) (by kernel_rfl) (by kernel_rfl) (fun _ _ _ h => h) rfl (wt0 rfl) (x_nilCheck rfl) rfl rfl fun a_169 HE170 => ?_
                  refine dr_take (i := 2) (ls' := #[true, true, true, false, false, false, false, false, false, false, false, false, false, false, false, false, false, false, false, false, false, false, false, false, false, false, false, false, false, false, false, false, false, false, false, false, false, false, false, false, false, false, false, false]) HE170 HS166 rfl (by kernel_rfl) (by kernel_rfl) (by kernel_rfl) (fun _ _ _ h => h) rfl (wt0 rfl) (x_fieldAddr fa_152_1 rfl) rfl rfl fun a_171 HE172 => ?_
                  refine dr_take (i := 3) (ls' := #[true, true, true, true, false, false, false, false, false, false, false, false, false, false, false, false, false, false, false, false, false, false, false, false, false, false, false, false, false, false, false, false, false, false, false, false, false, false, false, false, false, false, false, false]) HE172 HS166 rfl (by kernel_rfl) (by kernel_rfl) (by kernel_rfl) (fun _ _ _ h => h) rfl (wt0 rfl) (x_load1 tv_51 rfl (c_old (De30 1 _ rfl))) rfl rfl fun a_173 HE174 => ?_
                  refine dr_take (i := 4) (ls' := #[true, true, true, true, true, false, false, false, false, false, false, false, false, false, false, false, false, false, false, false, false, false, false, false, false, false, false, false, false, false, false, false, false, false, false, false, false, false, false, false, false, false, false, false]) HE174 HS166 rfl (by kernel_rfl) (by kernel_rfl) (by kernel_rfl) (fun _ _ _ h => h) rfl (wt0 rfl) (x_move rfl) rfl rfl fun a_175 HE176 => ?_
                  refine dr_take (i := 5) (ls' := #[true, true, true, true, true, true, false, false, false, false, false, false, false, false, false, false, false, false, false, false, false, false, false, false, false, false, false, false, false, false, false, false, false, false, false, false, false, false, false, false, false, false, false, false]) HE176 HS166 rfl (by kernel_rfl) (by kernel_rfl) (by kernel_rfl) (fun _ _ _ h => h) rfl (wt0 rfl) (x_nilCheck rfl) rfl rfl fun a_177 HE178 => ?_
                  refine dr_take (i := 6) (ls' := #[true, true, true, true, true, true, true, false, false, false, false, false, false, false, false, false, false, false, false, false, false, false, false, false, false, false, false, false, false, false, false, false, false, false, false, false, false, false, false, false, false, false, false, false]) HE178 HS166 rfl (by kernel_rfl) (by kernel_rfl) (by kernel_rfl) (fun _ _ _ h => h) rfl (wt0 rfl) (x_fieldAddr fa_92_0 rfl) rfl rfl fun a_179 HE180 => ?_
                  refine dr_take (i := 7) (ls' := #[true, true, true, true, true, true, true, true, false, false, false, false, false, false, false, false, false, false, false, false, false, false, false, false, false, false, false, false, false, false, false, false, false, false, false, false, false, false, false, false, false, false, false, false]) HE180 HS166 rfl (by kernel_rfl) (by kernel_rfl) (by kernel_rfl) (fun _ _ _ h => h) rfl (wt0 rfl) (x_load1 tv_2 rfl (c_old (hq0 0 _ rfl))) rfl rfl fun a_181 HE182 => ?_
                  refine dr_take (i := 8) (ls' := #[true, true, true, true, true, true, true, true, true, false, false, false, false, false, false, false, false, false, false, false, false, false, false, false, false, false, false, false, false, false, false, false, false, false, false, false, false, false, false, false, false, false, false, false]) HE182 HS166 rfl (by kernel_rfl) (by kernel_rfl) (by kernel_rfl) (fun _ _ _ h => h) rfl (wt0 rfl) (x_move rfl) rfl rfl fun a_183 HE184 => ?_
                  refine dr_take (i := 9) (ls' := #[true, true, true, true, true, true, true, true, true, true, false, false, false, false, false, false, false, false, false, false, false, false, false, false, false, false, false, false, false, false, false, false, false, false, false, false, false, false, false, false, false, false, false, false]) HE184 HS166 rfl (by kernel_rfl) (by kernel_rfl) (by kernel_rfl) (fun _ _ _ h => h) rfl (wt0 rfl) (x_nilCheck rfl) rfl rfl fun a_185 HE186 => ?_
                  refine dr_take (i := 10) (ls' := #[true, true, true, true, true, true, true, true, true, true, true, false, false, false, false, false, false, false, false, false, false, false, false, false, false, false, false, false, false, false, false, false, false, false, false, false, false, false, false, false, false, false, false, false]) HE186 HS166 rfl (by kernel_rfl) (by kernel_rfl) (by kernel_rfl) (fun _ _ _ h => h) rfl (wt0 rfl) (x_fieldAddr fa_92_1 rfl) rfl rfl fun a_187 HE188 => ?_
                  refine dr_take (i := 11) (ls' := #[true, true, true, true, true, true, true, true, true, true, true, true, false, false, false, false, false, false, false, false, false, false, false, false, false, false, false, false, false, false, false, false, false, false, false, false, false, false, false, false, false, false, false, false]) HE188 HS166 rfl (by kernel_rfl) (by kernel_rfl) (by kernel_rfl) (fun _ _ _ h => h) rfl (wt0 rfl) (x_load1 tv_2 rfl (c_old (hq0 1 _ rfl))) rfl rfl fun a_189 HE190 => ?_
                  refine dr_take (i := 12) (ls' := #[true, true, true, true, true, true, true, true, true, true, true, true, true, false, false, false, false, false, false, false, false, false, false, false, false, false, false, false, false, false, false, false, false, false, false, false, false, false, false, false, false, false, false, false]) HE190 HS166 rfl (by kernel_rfl) (by kernel_rfl) (by kernel_rfl) (fun _ _ _ h => h) rfl (wt0 rfl) (x_sub rfl rfl (by exact ⟨by omega, by omega⟩)) rfl rfl fun a_191 HE192 => ?_
                  refine dr_one (i := 13) (ls' := #[true, true, true, true, true, true, true, true, true, true, true, true, true, true, false, false, false, false, false, false, false, false, false, false, false, false, false, false, false, false, false, false, false, false, false, false, false, false, false, false, false, false, false, false]) rfl (by kernel_rfl) rfl fun K_193 hK194 => ?_
                  refine st_call HE192 (wt0 rfl) rfl rfl rfl en_139 rfl rfl (spec_l06RowE _ _ e30.2.1 a0.1 0 (a0.2.1 - 1) _ (HH165.old ge30_1)) fun e w' hr => ?_
                  obtain ⟨rfl, hbr35⟩ := hr
                  have HH195 := HH165.on hbr35
                  refine ⟨_, rfl, fun a_196 HE197 => hK194 _ _ (by exact HH195.sel [] (by decide) rfl) ?_⟩
                  have HS198 := HH195.sel [] (by decide) rfl
                  refine dr_take (i := 14) (ls' := #[true, true, true, true, true, true, true, true, true, true, true, true, true, true, true, false, false, false, false, false, false, false, false, false, false, false, false, false, false, false, false, false, false, false, false, false, false, false, false, false, false, false, false, false]) HE197 HS198 rfl (by kernel_rfl) (by kernel_rfl) (by kernel_rfl) (fun _ _ _ h => h) rfl (wt0 rfl) (x_not rfl) rfl rfl fun a_199 HE200 => ?_
                  refine dr_take (i := 15) (ls' := #[true, true, true, true, true, true, true, true, true, true, true, true, true, true, true, true, false, false, false, false, false, false, false, false, false, false, false, false, false, false, false, false, false, false, false, false, false, false, false, false, false, false, false, false]) HE200 HS198 rfl (by kernel_rfl) (by kernel_rfl) (by kernel_rfl) (fun _ _ _ h => h) rfl (wt0 rfl) (x_move rfl) rfl rfl fun a_201 HE202 => ?_
                  rcases Bool.eq_false_or_eq_true ((rowB e30.2.1 a0.1 0 (a0.2.1 - 1))) with hc36 | hc36
                  · refine dr_take (i := 16) (ls' := #[true, true, true, true, true, true, true, true, true, true, true, true, true, true, true, true, true, false, false, false, false, false, false, false, false, false, false, false, false, false, false, false, false, false, false, false, false, false, false, false, false, false, false, false]) HE202 HS198 rfl (by kernel_rfl) (by kernel_rfl) (by kernel_rfl) (fun _ _ _ h => h) rfl (wtT HE202 rfl rfl rfl (not_f hc36)) (x_move rfl) rfl rfl fun a_203 HE204 => ?_
                    refine dr_take (i := 17) (ls' := #[true, true, true, true, true, true, true, true, true, true, true, true, true, true, true, true, true, true, false, false, false, false, false, false, false, false, false, false, false, false, false, false, false, false, false, false, false, false, false, false, false, false, false, false]) HE204 HS198 rfl (by kernel_rfl) (by kernel_rfl) (by kernel_rfl) (fun _ _ _ h => h) rfl (wtT HE204 rfl rfl rfl (not_f hc36)) (x_nilCheck rfl) rfl rfl fun a_205 HE206 => ?_
                    refine dr_take (i := 18) (ls' := #[true, true, true, true, true, true, true, true, true, true, true, true, true, true, true, true, true, true, true, false, false, false, false, false, false, false, false, false, false, false, false, false, false, false, false, false, false, false, false, false, false, false, false, false]) HE206 HS198 rfl (by kernel_rfl) (by kernel_rfl) (by kernel_rfl) (fun _ _ _ h => h) rfl (wtT HE206 rfl rfl rfl (not_f hc36)) (x_fieldAddr fa_152_2 rfl) rfl rfl fun a_207 HE208 => ?_
                    refine dr_take (i := 19) (ls' := #[true, true, true, true, true, true, true, true, true, true, true, true, true, true, true, true, true, true, true, true, false, false, false, false, false, false, false, false, false, false, false, false, false, false, false, false, false, false, false, false, false, false, false, false]) HE208 HS198 rfl (by kernel_rfl) (by kernel_rfl) (by kernel_rfl) (fun _ _ _ h => h) rfl (wtT HE208 rfl rfl rfl (not_f hc36)) (x_load1 tv_51 rfl (c_old (De30 2 _ rfl))) rfl rfl fun a_209 HE210 => ?_
                    refine dr_take (i := 20) (ls' := #[true, true, true, true, true, true, true, true, true, true, true, true, true, true, true, true, true, true, true, true, true, false, false, false, false, false, false, false, false, false, false, false, false, false, false, false, false, false, false, false, false, false, false, false]) HE210 HS198 rfl (by kernel_rfl) (by kernel_rfl) (by kernel_rfl) (fun _ _ _ h => h) rfl (wtT HE210 rfl rfl rfl (not_f hc36)) (x_move rfl) rfl rfl fun a_211 HE212 => ?_
                    refine dr_take (i := 21) (ls' := #[true, true, true, true, true, true, true, true, true, true, true, true, true, true, true, true, true, true, true, true, true, true, false, false, false, false, false, false, false, false, false, false, false, false, false, false, false, false, false, false, false, false, false, false]) HE212 HS198 rfl (by kernel_rfl) (by kernel_rfl) (by kernel_rfl) (fun _ _ _ h => h) rfl (wtT HE212 rfl rfl rfl (not_f hc36)) (x_nilCheck rfl) rfl rfl fun a_213 HE214 => ?_
                    refine dr_take (i := 22) (ls' := #[true, true, true, true, true, true, true, true, true, true, true, true, true, true, true, true, true, true, true, true, true, true, true, false, false, false, false, false, false, false, false, false, false, false, false, false, false, false, false, false, false, false, false, false]) HE214 HS198 rfl (by kernel_rfl) (by kernel_rfl) (by kernel_rfl) (fun _ _ _ h => h) rfl (wtT HE214 rfl rfl rfl (not_f hc36)) (x_fieldAddr fa_92_0 rfl) rfl rfl fun a_215 HE216 => ?_
                    refine dr_take (i := 23) (ls' := #[true, true, true, true, true, true, true, true, true, true, true, true, true, true, true, true, true, true, true, true, true, true, true, true, false, false, false, false, false, false, false, false, false, false, false, false, false, false, false, false, false, false, false, false]) HE216 HS198 rfl (by kernel_rfl) (by kernel_rfl) (by kernel_rfl) (fun _ _ _ h => h) rfl (wtT HE216 rfl rfl rfl (not_f hc36)) (x_load1 tv_2 rfl (c_old (hq0 0 _ rfl))) rfl rfl fun a_217 HE218 => ?_
                    refine dr_take (i := 24) (ls' := #[true, true, true, true, true, true, true, true, true, true, true, true, true, true, true, true, true, true, true, true, true, true, true, true, true, false, false, false, false, false, false, false, false, false, false, false, false, false, false, false, false, false, false, false]) HE218 HS198 rfl (by kernel_rfl) (by kernel_rfl) (by kernel_rfl) (fun _ _ _ h => h) rfl (wtT HE218 rfl rfl rfl (not_f hc36)) (x_move rfl) rfl rfl fun a_219 HE220 => ?_
                    refine dr_take (i := 25) (ls' := #[true, true, true, true, true, true, true, true, true, true, true, true, true, true, true, true, true, true, true, true, true, true, true, true, true, true, false, false, false, false, false, false, false, false, false, false, false, false, false, false, false, false, false, false]) HE220 HS198 rfl (by kernel_rfl) (by kernel_rfl) (by kernel_rfl) (fun _ _ _ h => h) rfl (wtT HE220 rfl rfl rfl (not_f hc36)) (x_nilCheck rfl) rfl rfl fun a_221 HE222 => ?_
                    refine dr_take (i := 26) (ls' := #[true, true, true, true, true, true, true, true, true, true, true, true, true, true, true, true, true, true, true, true, true, true, true, true, true, true, true, false, false, false, false, false, false, false, false, false, false, false, false, false, false, false, false, false]) HE222 HS198 rfl (by kernel_rfl) (by kernel_rfl) (by kernel_rfl) (fun _ _ _ h => h) rfl (wtT HE222 rfl rfl rfl (not_f hc36)) (x_fieldAddr fa_92_1 rfl) rfl rfl fun a_223 HE224 => ?_
                    refine dr_take (i := 27) (ls' := #[true, true, true, true, true, true, true, true, true, true, true, true, true, true, true, true, true, true, true, true, true, true, true, true, true, true, true, true, false, false, false, false, false, false, false, false, false, false, false, false, false, false, false, false]) HE224 HS198 rfl (by kernel_rfl) (by kernel_rfl) (by kernel_rfl) (fun _ _ _ h => h) rfl (wtT HE224 rfl rfl rfl (not_f hc36)) (x_load1 tv_2 rfl (c_old (hq0 1 _ rfl))) rfl rfl fun a_225 HE226 => ?_
                    refine dr_take (i := 28) (ls' := #[true, true, true, true, true, true, true, true, true, true, true, true, true, true, true, true, true, true, true, true, true, true, true, true, true, true, true, true, true, false, false, false, false, false, false, false, false, false, false, false, false, false, false, false]) HE226 HS198 rfl (by kernel_rfl) (by kernel_rfl) (by kernel_rfl) (fun _ _ _ h => h) rfl (wtT HE226 rfl rfl rfl (not_f hc36)) (x_sub rfl rfl (by exact ⟨by omega, by omega⟩)) rfl rfl fun a_227 HE228 => ?_
                    refine dr_one (i := 29) (ls' := #[true, true, true, true, true, true, true, true, true, true, true, true, true, true, true, true, true, true, true, true, true, true, true, true, true, true, true, true, true, true, false, false, false, false, false, false, false, false, false, false, false, false, false, false]) rfl (by kernel_rfl) rfl fun K_229 hK230 => ?_
                    refine st_call HE228 (wtT HE228 rfl rfl rfl (not_f hc36)) rfl rfl rfl en_139 rfl rfl (spec_l06RowE _ _ e30.2.2.1 a0.1 0 (a0.2.1 - 1) _ (HH195.old ge30_2)) fun e w' hr => ?_
                    obtain ⟨rfl, hbr37⟩ := hr
                    have HH231 := HH195.on hbr37
                    refine ⟨_, rfl, fun a_232 HE233 => hK230 _ _ (by exact HH231.sel [] (by decide) rfl) ?_⟩
                    have HS234 := HH231.sel [] (by decide) rfl
                    refine dr_take (i := 30) (ls' := #[true, true, true, true, true, true, true, true, true, true, true, true, true, true, true, true, true, true, true, true, true, true, true, true, true, true, true, true, true, true, true, false, false, false, false, false, false, false, false, false, false, false, false, false]) HE233 HS234 rfl (by kernel_rfl) (by kernel_rfl) (by kernel_rfl) (fun _ _ _ h => h) rfl (wtT HE233 rfl rfl rfl (not_f hc36)) (x_not rfl) rfl rfl fun a_235 HE236 => ?_
                    refine dr_take (i := 31) (ls' := #[true, true, true, true, true, true, true, true, true, true, true, true, true, true, true, true, true, true, true, true, true, true, true, true, true, true, true, true, true, true, true, true, false, false, false, false, false, false, false, false, false, false, false, false]) HE236 HS234 rfl (by kernel_rfl) (by kernel_rfl) (by kernel_rfl) (fun _ _ _ h => h) rfl (wt0 rfl) (x_pickF rfl (not_f hc36) rfl) rfl rfl fun a_237 HE238 => ?_
                    refine dr_take (i := 32) (ls' := #[true, true, true, true, true, true, true, true, true, true, true, true, true, true, true, true, true, true, true, true, true, true, true, true, true, true, true, true, true, true, true, true, true, false, false, false, false, false, false, false, false, false, false, false]) HE238 HS234 rfl (by kernel_rfl) (by kernel_rfl) (by kernel_rfl) (fun _ _ _ h => h) rfl (wt0 rfl) (x_move rfl) rfl rfl fun a_239 HE240 => ?_
                    rcases Bool.eq_false_or_eq_true ((rowB e30.2.2.1 a0.1 0 (a0.2.1 - 1))) with hc38 | hc38
                    · refine dr_take (i := 33) (ls' := #[true, true, true, true, true, true, true, true, true, true, true, true, true, true, true, true, true, true, true, true, true, true, true, true, true, true, true, true, true, true, true, true, true, true, false, false, false, false, false, false, false, false, false, false]) HE240 HS234 rfl (by kernel_rfl) (by kernel_rfl) (by kernel_rfl) (fun _ _ _ h => h) rfl (wtT HE240 rfl rfl rfl (not_f hc38)) (x_move rfl) rfl rfl fun a_241 HE242 => ?_
                      refine dr_take (i := 34) (ls' := #[true, true, true, true, true, true, true, true, true, true, true, true, true, true, true, true, true, true, true, true, true, true, true, true, true, true, true, true, true, true, true, true, true, true, true, false, false, false, false, false, false, false, false, false]) HE242 HS234 rfl (by kernel_rfl) (by kernel_rfl) (by kernel_rfl) (fun _ _ _ h => h) rfl (wtT HE242 rfl rfl rfl (not_f hc38)) (x_nilCheck rfl) rfl rfl fun a_243 HE244 => ?_
                      refine dr_take (i := 35) (ls' := #[true, true, true, true, true, true, true, true, true, true, true, true, true, true, true, true, true, true, true, true, true, true, true, true, true, true, true, true, true, true, true, true, true, true, true, true, false, false, false, false, false, false, false, false]) HE244 HS234 rfl (by kernel_rfl) (by kernel_rfl) (by kernel_rfl) (fun _ _ _ h => h) rfl (wtT HE244 rfl rfl rfl (not_f hc38)) (x_fieldAddr fa_152_3 rfl) rfl rfl fun a_245 HE246 => ?_
                      refine dr_take (i := 36) (ls' := #[true, true, true, true, true, true, true, true, true, true, true, true, true, true, true, true, true, true, true, true, true, true, true, true, true, true, true, true, true, true, true, true, true, true, true, true, true, false, false, false, false, false, false, false]) HE246 HS234 rfl (by kernel_rfl) (by kernel_rfl) (by kernel_rfl) (fun _ _ _ h => h) rfl (wtT HE246 rfl rfl rfl (not_f hc38)) (x_load1 tv_51 rfl (c_old (De30 3 _ rfl))) rfl rfl fun a_247 HE248 => ?_
                      refine dr_take (i := 37) (ls' := #[true, true, true, true, true, true, true, true, true, true, true, true, true, true, true, true, true, true, true, true, true, true, true, true, true, true, true, true, true, true, true, true, true, true, true, true, true, true, false, false, false, false, false, false]) HE248 HS234 rfl (by kernel_rfl) (by kernel_rfl) (by kernel_rfl) (fun _ _ _ h => h) rfl (wtT HE248 rfl rfl rfl (not_f hc38)) (x_move rfl) rfl rfl fun a_249 HE250 => ?_
                      refine dr_take (i := 38) (ls' := #[true, true, true, true, true, true, true, true, true, true, true, true, true, true, true, true, true, true, true, true, true, true, true, true, true, true, true, true, true, true, true, true, true, true, true, true, true, true, true, false, false, false, false, false]) HE250 HS234 rfl (by kernel_rfl) (by kernel_rfl) (by kernel_rfl) (fun _ _ _ h => h) rfl (wtT HE250 rfl rfl rfl (not_f hc38)) (x_nilCheck rfl) rfl rfl fun a_251 HE252 => ?_
                      refine dr_take (i := 39) (ls' := #[true, true, true, true, true, true, true, true, true, true, true, true, true, true, true, true, true, true, true, true, true, true, true, true, true, true, true, true, true, true, true, true, true, true, true, true, true, true, true, true, false, false, false, false]) HE252 HS234 rfl (by kernel_rfl) (by kernel_rfl) (by kernel_rfl) (fun _ _ _ h => h) rfl (wtT HE252 rfl rfl rfl (not_f hc38)) (x_fieldAddr fa_92_0 rfl) rfl rfl fun a_253 HE254 => ?_
                      refine dr_take (i := 40) (ls' := #[true, true, true, true, true, true, true, true, true, true, true, true, true, true, true, true, true, true, true, true, true, true, true, true, true, true, true, true, true, true, true, true, true, true, true, true, true, true, true, true, true, false, false, false]) HE254 HS234 rfl (by kernel_rfl) (by kernel_rfl) (by kernel_rfl) (fun _ _ _ h => h) rfl (wtT HE254 rfl rfl rfl (not_f hc38)) (x_load1 tv_2 rfl (c_old (hq0 0 _ rfl))) rfl rfl fun a_255 HE256 => ?_
                      refine dr_one (i := 41) (ls' := #[true, true, true, true, true, true, true, true, true, true, true, true, true, true, true, true, true, true, true, true, true, true, true, true, true, true, true, true, true, true, true, true, true, true, true, true, true, true, true, true, true, true, false, false]) rfl (by kernel_rfl) rfl fun K_257 hK258 => ?_
                      refine st_call HE256 (wtT HE256 rfl rfl rfl (not_f hc38)) rfl rfl rfl en_139 rfl rfl (spec_l06RowE _ _ e30.2.2.2.1 a0.1 (-1) 1 _ (HH231.old ge30_3)) fun e w' hr => ?_
                      obtain ⟨rfl, hbr39⟩ := hr
                      have HH259 := HH231.on hbr39
                      refine ⟨_, rfl, fun a_260 HE261 => hK258 _ _ (by exact HH259.sel [] (by decide) rfl) ?_⟩
                      have HS262 := HH259.sel [] (by decide) rfl
                      refine dr_take (i := 42) (ls' := #[true, true, true, true, true, true, true, true, true, true, true, true, true, true, true, true, true, true, true, true, true, true, true, true, true, true, true, true, true, true, true, true, true, true, true, true, true, true, true, true, true, true, true, false]) HE261 HS262 rfl (by kernel_rfl) (by kernel_rfl) (by kernel_rfl) (fun _ _ _ h => h) rfl (wtT HE261 rfl rfl rfl (not_f hc38)) (x_not rfl) rfl rfl fun a_263 HE264 => ?_
                      refine dr_take (i := 43) (ls' := #[true, true, true, true, true, true, true, true, true, true, true, true, true, true, true, true, true, true, true, true, true, true, true, true, true, true, true, true, true, true, true, true, true, true, true, true, true, true, true, true, true, true, true, true]) HE264 HS262 rfl (by kernel_rfl) (by kernel_rfl) (by kernel_rfl) (fun _ _ _ h => h) rfl (wt0 rfl) (x_pickF rfl (not_f hc38) rfl) rfl rfl fun a_265 HE266 => ?_
                      refine dr_done (by kernel_rfl) ?_
                      clear HH107 HS158 a_161 HE162 a_167 HE168 a_169 HE170 a_171 HE172 a_173 HE174 a_175 HE176 a_177 HE178 a_179 HE180 a_181 HE182 a_183 HE184 a_185 HE186 a_187 HE188 a_189 HE190 HH165 a_191 HE192 HS166 a_196 HE197 a_199 HE200 a_201 HE202 a_203 HE204 a_205 HE206 a_207 HE208 a_209 HE210 a_211 HE212 a_213 HE214 a_215 HE216 a_217 HE218 a_219 HE220 a_221 HE222 a_223 HE224 a_225 HE226 K_193 hK194 HH195 a_227 HE228 HS198 a_232 HE233 a_235 HE236 a_237 HE238 a_239 HE240 a_241 HE242 a_243 HE244 a_245 HE246 a_247 HE248 a_249 HE250 a_251 HE252 a_253 HE254 K_229 hK230 HH231 a_255 HE256 HS234 a_260 HE261 a_263 HE264 hK258 K_257
                      refine nrm ?_
                      refine cnd_nb HE266 rfl (fun hc40 => ?_) (fun hc40 => ?_)
                      · refine wp_seq ?_
                        refine rg ?_
                        refine pl_x HE266 HH259 (wt0 rfl) (x_assign rfl) rfl rfl fun a_267 HE268 => ?_
                        refine wpList_nil ?_
                        clear a_265 HE266
                        refine nrm ?_
                        refine wp_ret ?_
                        refine (thn_ret (blk_ret (thn_ret (thn_ret (blk_ret (thn_ret ?_))))))
                        refine ret1 HE268 rfl (rv_tmp rfl) ?_
                        have hF : (validMulti a0) = false := by
                          first | (simp [validMulti, hc22, hc24, hc26, hc27, p28_0, p28_1, hc29, xe30, hc32, hc34, hc36, hc38, hc40]; done) | (unfold validMulti; rw [decide_eq_false (by omega)]; simp) | (unfold validMulti; rw [rg_hit (by omega : k < a0.2.2.2.length) (by unfold badMR; grind [beforeMR, validMR, rowB])]; simp) | (have hq := p28_1; rw [show k = a0.2.2.2.length from by omega] at hq; unfold validMulti; rw [hq, decide_eq_true (by omega)]; simp [hc22, hc24, hc26, hc27, p28_0, p28_1, hc29, xe30, hc32, hc34, hc36, hc38, hc40])
                        exact ⟨by first | (rw [hF] <;> rfl) | rfl | (rw [hF]; simp only [Ending.returned.injEq, Value.slice.injEq, true_and, and_true]; first | omega | (simp; done)) | (rw [hF]; simp; omega), HH259.below⟩
                      · refine wp_skip ?_
                        refine nrm ?_
                        refine wp_seq ?_
                        refine rg ?_
                        refine pl_x HE266 HH259 (wt0 rfl) (x_move rfl) rfl rfl fun a_269 HE270 => ?_
                        refine pl_x HE270 HH259 (wt0 rfl) (x_gtr rfl rfl) rfl rfl fun a_271 HE272 => ?_
                        refine pl_x HE272 HH259 (wt0 rfl) (x_move rfl) rfl rfl fun a_273 HE274 => ?_
                        by_cases hc41 : 0 < (k : Int)
                        · refine pl_x HE274 HH259 (wtT HE274 rfl rfl rfl (decide_eq_true hc41)) (x_move rfl) rfl rfl fun a_275 HE276 => ?_
                          refine pl_x HE276 HH259 (wtT HE276 rfl rfl rfl (decide_eq_true hc41)) (x_nilCheck rfl) rfl rfl fun a_277 HE278 => ?_
                          refine pl_x HE278 HH259 (wtT HE278 rfl rfl rfl (decide_eq_true hc41)) (x_fieldAddr fa_92_3 rfl) rfl rfl fun a_279 HE280 => ?_
                          refine pl_x HE280 HH259 (wtT HE280 rfl rfl rfl (decide_eq_true hc41)) (x_load1 tv_90 rfl (c_old (hq0 3 _ rfl))) rfl rfl fun a_281 HE282 => ?_
                          refine pl_x HE282 HH259 (wtT HE282 rfl rfl rfl (decide_eq_true hc41)) (x_move rfl) rfl rfl fun a_283 HE284 => ?_
                          refine pl_x HE284 HH259 (wtT HE284 rfl rfl rfl (decide_eq_true hc41)) (x_sub rfl rfl (by exact ⟨by omega, by omega⟩)) rfl rfl fun a_285 HE286 => ?_
                          have ke42 : (k - 1) < a0.2.2.2.length := by omega
                          obtain ⟨be42, fe42, ese42, Ae42, Re42, De42⟩ := el_old gz0_3 ke42
                          obtain ⟨e42, xe42⟩ : ∃ x_, x_ = a0.2.2.2[(k - 1)] := ⟨_, rfl⟩
                          rw [← xe42] at Re42
                          have Qe42 := Re42
                          obtain ⟨Ae42_1, ce42_1, Ae42_2, ce42_2, Ae42_3, ce42_3, rfl, ge42_0, ge42_1, ge42_2, ge42_3, ge42_4⟩ := shape_MultiRule Re42
                          have je42_0 := ge42_0; unfold I64 at je42_0
                          have le42_1 := ge42_1.len
                          have le42_2 := ge42_2.len
                          have le42_3 := ge42_3.len
                          have je42_4 := ge42_4; unfold I64 at je42_4
                          have ge42 : a0.2.2.2[(k - 1)]?.getD default = e42 := by rw [List.getElem?_eq_getElem ke42, xe42]; rfl
                          refine pl_x HE286 HH259 (wtT HE286 rfl rfl rfl (decide_eq_true hc41)) (x_indexAddr ts_90 rfl rfl Ae42 (by omega) ke42) rfl rfl fun a_287 HE288 => ?_
                          refine pl_x HE288 HH259 (wtT HE288 rfl rfl rfl (decide_eq_true hc41)) (x_move rfl) rfl rfl fun a_289 HE290 => ?_
                          refine pl fun K_291 hK292 => ?_
                          refine st_call HE290 (wtT HE290 rfl rfl rfl (decide_eq_true hc41)) rfl rfl rfl en_140 rfl rfl (spec_l06Before _ _ _ e42 _ _ _ e30 _ (HH259.oldR Qe42) (c_oldN De42 _ HH259) (HH259.oldR Qe30) (c_oldN De30 _ HH259)) fun e w' hr => ?_
                          obtain ⟨rfl, hbr43⟩ := hr
                          have HH293 := HH259.on hbr43
                          refine ⟨_, rfl, fun a_294 HE295 => hK292 _ _ ?_⟩
                          refine pl_x HE295 HH293 (wtT HE295 rfl rfl rfl (decide_eq_true hc41)) (x_not rfl) rfl rfl fun a_296 HE297 => ?_
                          refine pl_x HE297 HH293 (wt0 rfl) (x_pickT rfl (decide_eq_true hc41) rfl) rfl rfl fun a_298 HE299 => ?_
                          refine wpList_nil ?_
                          clear a_265 HE266 a_269 HE270 a_271 HE272 a_273 HE274 a_275 HE276 a_277 HE278 a_279 HE280 a_281 HE282 a_283 HE284 a_285 HE286 a_287 HE288 HH259 a_289 HE290 a_294 HE295 a_296 HE297 hK292 K_291
                          refine nrm ?_
                          refine cnd_nb HE299 rfl (fun hc44 => ?_) (fun hc44 => ?_)
                          · refine wp_seq ?_
                            refine rg ?_
                            refine pl_x HE299 HH293 (wt0 rfl) (x_assign rfl) rfl rfl fun a_300 HE301 => ?_
                            refine wpList_nil ?_
                            clear a_298 HE299
                            refine nrm ?_
                            refine wp_ret ?_
                            refine (blk_ret (thn_ret (thn_ret (blk_ret (thn_ret ?_)))))
                            refine ret1 HE301 rfl (rv_tmp rfl) ?_
                            have hF : (validMulti a0) = false := by
                              first | (simp [validMulti, hc22, hc24, hc26, hc27, p28_0, p28_1, hc29, xe30, hc32, hc34, hc36, hc38, hc40, hc41, xe42, hc44]; done) | (unfold validMulti; rw [decide_eq_false (by omega)]; simp) | (unfold validMulti; rw [rg_hit (by omega : k < a0.2.2.2.length) (by unfold badMR; grind [beforeMR, validMR, rowB])]; simp) | (have hq := p28_1; rw [show k = a0.2.2.2.length from by omega] at hq; unfold validMulti; rw [hq, decide_eq_true (by omega)]; simp [hc22, hc24, hc26, hc27, p28_0, p28_1, hc29, xe30, hc32, hc34, hc36, hc38, hc40, hc41, xe42, hc44])
                            exact ⟨by first | (rw [hF] <;> rfl) | rfl | (rw [hF]; simp only [Ending.returned.injEq, Value.slice.injEq, true_and, and_true]; first | omega | (simp; done)) | (rw [hF]; simp; omega), HH293.below⟩
                          · refine wp_skip ?_
                            refine blk_n ?_
                            refine nrm ?_
                            refine rg ?_
                            refine pl_x HE299 HH293 (wt0 rfl) (x_move rfl) rfl rfl fun a_302 HE303 => ?_
                            refine pl_x HE303 HH293 (wt0 rfl) (x_add rfl rfl (by exact ⟨by omega, by omega⟩)) rfl rfl fun a_304 HE305 => ?_
                            refine pl_x HE305 HH293 (wt0 rfl) (x_assign rfl) rfl rfl fun a_306 HE307 => ?_
                            refine wpList_nil ?_
                            clear a_298 HE299 a_302 HE303 a_304 HE305
                            exact nrm ⟨a0.2.2.2.length - (k + 1), (by omega), k + 1, rfl, HE307.sub ⟨(lkI rfl (by first | rfl | omega | (simp [hc22, hc24, hc26, hc27, p28_0, p28_1, hc29, xe30, hc32, hc34, hc36, hc38, hc40, hc41, xe42, hc44]; done))), rfl, trivial⟩, (HH293.sel [] (by decide) rfl), (by first | omega | assumption | (simp; done) | simp_all), (by exact rg_step p28_1 (by unfold badMR; grind [beforeMR, validMR, rowB]))⟩
                        · refine pl_no HE274 (wtF HE274 rfl rfl rfl (decide_eq_false hc41)) rfl rfl fun a_308 HE309 => ?_
                          refine pl_no HE309 (wtF HE309 rfl rfl rfl (decide_eq_false hc41)) rfl rfl fun a_310 HE311 => ?_
                          refine pl_no HE311 (wtF HE311 rfl rfl rfl (decide_eq_false hc41)) rfl rfl fun a_312 HE313 => ?_
                          refine pl_no HE313 (wtF HE313 rfl rfl rfl (decide_eq_false hc41)) rfl rfl fun a_314 HE315 => ?_
                          refine pl_no HE315 (wtF HE315 rfl rfl rfl (decide_eq_false hc41)) rfl rfl fun a_316 HE317 => ?_
                          refine pl_no HE317 (wtF HE317 rfl rfl rfl (decide_eq_false hc41)) rfl rfl fun a_318 HE319 => ?_
                          refine pl_no HE319 (wtF HE319 rfl rfl rfl (decide_eq_false hc41)) rfl rfl fun a_320 HE321 => ?_
                          refine pl_no HE321 (wtF HE321 rfl rfl rfl (decide_eq_false hc41)) rfl rfl fun a_322 HE323 => ?_
                          refine pl_no HE323 (wtF HE323 rfl rfl rfl (decide_eq_false hc41)) rfl rfl fun a_324 HE325 => ?_
                          refine pl_no HE325 (wtF HE325 rfl rfl rfl (decide_eq_false hc41)) rfl rfl fun a_326 HE327 => ?_
                          refine pl_x HE327 HH259 (wt0 rfl) (x_pickF rfl (decide_eq_false hc41) rfl) rfl rfl fun a_328 HE329 => ?_
                          refine wpList_nil ?_
                          clear a_265 HE266 a_269 HE270 a_271 HE272 a_273 HE274 a_308 HE309 a_310 HE311 a_312 HE313 a_314 HE315 a_316 HE317 a_318 HE319 a_320 HE321 a_322 HE323 a_324 HE325 a_326 HE327
                          refine nrm ?_
                          refine cndF HE329 rfl rfl ?_
                          refine wp_skip ?_
                          refine blk_n ?_
                          refine nrm ?_
                          refine rg ?_
                          refine pl_x HE329 HH259 (wt0 rfl) (x_move rfl) rfl rfl fun a_330 HE331 => ?_
                          refine pl_x HE331 HH259 (wt0 rfl) (x_add rfl rfl (by exact ⟨by omega, by omega⟩)) rfl rfl fun a_332 HE333 => ?_
                          refine pl_x HE333 HH259 (wt0 rfl) (x_assign rfl) rfl rfl fun a_334 HE335 => ?_
                          refine wpList_nil ?_
                          clear a_328 HE329 a_330 HE331 a_332 HE333
                          exact nrm ⟨a0.2.2.2.length - (k + 1), (by omega), k + 1, rfl, HE335.sub ⟨(lkI rfl (by first | rfl | omega | (simp [hc22, hc24, hc26, hc27, p28_0, p28_1, hc29, xe30, hc32, hc34, hc36, hc38, hc40, hc41]; done))), rfl, trivial⟩, (HH259.sel [] (by decide) rfl), (by first | omega | assumption | (simp; done) | simp_all), (by exact rg_step p28_1 (by unfold badMR; grind [beforeMR, validMR, rowB]))⟩
                    · refine dr_takeNo (i := 33) (ls' := #[true, true, true, true, true, true, true, true, true, true, true, true, true, true, true, true, true, true, true, true, true, true, true, true, true, true, true, true, true, true, true, true, true, true, false, false, false, false, false, false, false, false, false, false]) HE240 HS234 rfl (by kernel_rfl) (by kernel_rfl) (by kernel_rfl) (fun _ _ _ h => h) rfl (wtF HE240 rfl rfl rfl (not_t hc38)) rfl rfl fun a_336 HE337 => ?_
                      refine dr_takeNo (i := 34) (ls' := #[true, true, true, true, true, true, true, true, true, true, true, true, true, true, true, true, true, true, true, true, true, true, true, true, true, true, true, true, true, true, true, true, true, true, true, false, false, false, false, false, false, false, false, false]) HE337 HS234 rfl (by kernel_rfl) (by kernel_rfl) (by kernel_rfl) (fun _ _ _ h => h) rfl (wtF HE337 rfl rfl rfl (not_t hc38)) rfl rfl fun a_338 HE339 => ?_
                      refine dr_takeNo (i := 35) (ls' := #[true, true, true, true, true, true, true, true, true, true, true, true, true, true, true, true, true, true, true, true, true, true, true, true, true, true, true, true, true, true, true, true, true, true, true, true, false, false, false, false, false, false, false, false]) HE339 HS234 rfl (by kernel_rfl) (by kernel_rfl) (by kernel_rfl) (fun _ _ _ h => h) rfl (wtF HE339 rfl rfl rfl (not_t hc38)) rfl rfl fun a_340 HE341 => ?_
                      refine dr_takeNo (i := 36) (ls' := #[true, true, true, true, true, true, true, true, true, true, true, true, true, true, true, true, true, true, true, true, true, true, true, true, true, true, true, true, true, true, true, true, true, true, true, true, true, false, false, false, false, false, false, false]) HE341 HS234 rfl (by kernel_rfl) (by kernel_rfl) (by kernel_rfl) (fun _ _ _ h => h) rfl (wtF HE341 rfl rfl rfl (not_t hc38)) rfl rfl fun a_342 HE343 => ?_
                      refine dr_takeNo (i := 37) (ls' := #[true, true, true, true, true, true, true, true, true, true, true, true, true, true, true, true, true, true, true, true, true, true, true, true, true, true, true, true, true, true, true, true, true, true, true, true, true, true, false, false, false, false, false, false]) HE343 HS234 rfl (by kernel_rfl) (by kernel_rfl) (by kernel_rfl) (fun _ _ _ h => h) rfl (wtF HE343 rfl rfl rfl (not_t hc38)) rfl rfl fun a_344 HE345 => ?_
                      refine dr_takeNo (i := 38) (ls' := #[true, true, true, true, true, true, true, true, true, true, true, true, true, true, true, true, true, true, true, true, true, true, true, true, true, true, true, true, true, true, true, true, true, true, true, true, true, true, true, false, false, false, false, false]) HE345 HS234 rfl (by kernel_rfl) (by kernel_rfl) (by kernel_rfl) (fun _ _ _ h => h) rfl (wtF HE345 rfl rfl rfl (not_t hc38)) rfl rfl fun a_346 HE347 => ?_
                      refine dr_takeNo (i := 39) (ls' := #[true, true, true, true, true, true, true, true, true, true, true, true, true, true, true, true, true, true, true, true, true, true, true, true, true, true, true, true, true, true, true, true, true, true, true, true, true, true, true, true, false, false, false, false]) HE347 HS234 rfl (by kernel_rfl) (by kernel_rfl) (by kernel_rfl) (fun _ _ _ h => h) rfl (wtF HE347 rfl rfl rfl (not_t hc38)) rfl rfl fun a_348 HE349 => ?_
                      refine dr_takeNo (i := 40) (ls' := #[true, true, true, true, true, true, true, true, true, true, true, true, true, true, true, true, true, true, true, true, true, true, true, true, true, true, true, true, true, true, true, true, true, true, true, true, true, true, true, true, true, false, false, false]) HE349 HS234 rfl (by kernel_rfl) (by kernel_rfl) (by kernel_rfl) (fun _ _ _ h => h) rfl (wtF HE349 rfl rfl rfl (not_t hc38)) rfl rfl fun a_350 HE351 => ?_
                      refine dr_takeNo (i := 41) (ls' := #[true, true, true, true, true, true, true, true, true, true, true, true, true, true, true, true, true, true, true, true, true, true, true, true, true, true, true, true, true, true, true, true, true, true, true, true, true, true, true, true, true, true, false, false]) HE351 HS234 rfl (by kernel_rfl) (by kernel_rfl) (by kernel_rfl) (fun _ _ _ h => h) rfl (wtF HE351 rfl rfl rfl (not_t hc38)) rfl rfl fun a_352 HE353 => ?_
                      refine dr_takeNo (i := 42) (ls' := #[true, true, true, true, true, true, true, true, true, true, true, true, true, true, true, true, true, true, true, true, true, true, true, true, true, true, true, true, true, true, true, true, true, true, true, true, true, true, true, true, true, true, true, false]) HE353 HS234 rfl (by kernel_rfl) (by kernel_rfl) (by kernel_rfl) (fun _ _ _ h => h) rfl (wtF HE353 rfl rfl rfl (not_t hc38)) rfl rfl fun a_354 HE355 => ?_
                      refine dr_take (i := 43) (ls' := #[true, true, true, true, true, true, true, true, true, true, true, true, true, true, true, true, true, true, true, true, true, true, true, true, true, true, true, true, true, true, true, true, true, true, true, true, true, true, true, true, true, true, true, true]) HE355 HS234 rfl (by kernel_rfl) (by kernel_rfl) (by kernel_rfl) (fun _ _ _ h => h) rfl (wt0 rfl) (x_pickT rfl (not_t hc38) rfl) rfl rfl fun a_356 HE357 => ?_
                      refine dr_done (by kernel_rfl) ?_
                      clear HH107 HS158 a_161 HE162 a_167 HE168 a_169 HE170 a_171 HE172 a_173 HE174 a_175 HE176 a_177 HE178 a_179 HE180 a_181 HE182 a_183 HE184 a_185 HE186 a_187 HE188 a_189 HE190 HH165 a_191 HE192 HS166 a_196 HE197 a_199 HE200 a_201 HE202 a_203 HE204 a_205 HE206 a_207 HE208 a_209 HE210 a_211 HE212 a_213 HE214 a_215 HE216 a_217 HE218 a_219 HE220 a_221 HE222 a_223 HE224 a_225 HE226 K_193 hK194 HH195 a_227 HE228 HS198 a_232 HE233 a_235 HE236 a_237 HE238 a_239 HE240 a_336 HE337 a_338 HE339 a_340 HE341 a_342 HE343 a_344 HE345 a_346 HE347 a_348 HE349 a_350 HE351 a_352 HE353 a_354 HE355 hK230 K_229
                      refine nrm ?_
                      refine cndT HE357 rfl rfl ?_
                      refine wp_seq ?_
                      refine rg ?_
                      refine pl_x HE357 HH231 (wt0 rfl) (x_assign rfl) rfl rfl fun a_358 HE359 => ?_
                      refine wpList_nil ?_
                      clear a_356 HE357
                      refine nrm ?_
                      refine wp_ret ?_
                      refine (thn_ret (blk_ret (thn_ret (thn_ret (blk_ret (thn_ret ?_))))))
                      refine ret1 HE359 rfl (rv_tmp rfl) ?_
                      have hF : (validMulti a0) = false := by
                        first | (simp [validMulti, hc22, hc24, hc26, hc27, p28_0, p28_1, hc29, xe30, hc32, hc34, hc36, hc38]; done) | (unfold validMulti; rw [decide_eq_false (by omega)]; simp) | (unfold validMulti; rw [rg_hit (by omega : k < a0.2.2.2.length) (by unfold badMR; grind [beforeMR, validMR, rowB])]; simp) | (have hq := p28_1; rw [show k = a0.2.2.2.length from by omega] at hq; unfold validMulti; rw [hq, decide_eq_true (by omega)]; simp [hc22, hc24, hc26, hc27, p28_0, p28_1, hc29, xe30, hc32, hc34, hc36, hc38])
                      exact ⟨by first | (rw [hF] <;> rfl) | rfl | (rw [hF]; simp only [Ending.returned.injEq, Value.slice.injEq, true_and, and_true]; first | omega | (simp; done)) | (rw [hF]; simp; omega), HH231.below⟩
                  · refine dr_takeNo (i := 16) (ls' := #[true, true, true, true, true, true, true, true, true, true, true, true, true, true, true, true, true, false, false, false, false, false, false, false, false, false, false, false, false, false, false, false, false, false, false, false, false, false, false, false, false, false, false, false]) HE202 HS198 rfl (by kernel_rfl) (by kernel_rfl) (by kernel_rfl) (fun _ _ _ h => h) rfl (wtF HE202 rfl rfl rfl (not_t hc36)) rfl rfl fun a_360 HE361 => ?_
                    refine dr_takeNo (i := 17) (ls' := #[true, true, true, true, true, true, true, true, true, true, true, true, true, true, true, true, true, true, false, false, false, false, false, false, false, false, false, false, false, false, false, false, false, false, false, false, false, false, false, false, false, false, false, false]) HE361 HS198 rfl (by kernel_rfl) (by kernel_rfl) (by kernel_rfl) (fun _ _ _ h => h) rfl (wtF HE361 rfl rfl rfl (not_t hc36)) rfl rfl fun a_362 HE363 => ?_
                    refine dr_takeNo (i := 18) (ls' := #[true, true, true, true, true, true, true, true, true, true, true, true, true, true, true, true, true, true, true, false, false, false, false, false, false, false, false, false, false, false, false, false, false, false, false, false, false, false, false, false, false, false, false, false]) HE363 HS198 rfl (by kernel_rfl) (by kernel_rfl) (by kernel_rfl) (fun _ _ _ h => h) rfl (wtF HE363 rfl rfl rfl (not_t hc36)) rfl rfl fun a_364 HE365 => ?_
                    refine dr_takeNo (i := 19) (ls' := #[true, true, true, true, true, true, true, true, true, true, true, true, true, true, true, true, true, true, true, true, false, false, false, false, false, false, false, false, false, false, false, false, false, false, false, false, false, false, false, false, false, false, false, false]) HE365 HS198 rfl (by kernel_rfl) (by kernel_rfl) (by kernel_rfl) (fun _ _ _ h => h) rfl (wtF HE365 rfl rfl rfl (not_t hc36)) rfl rfl fun a_366 HE367 => ?_
                    refine dr_takeNo (i := 20) (ls' := #[true, true, true, true, true, true, true, true, true, true, true, true, true, true, true, true, true, true, true, true, true, false, false, false, false, false, false, false, false, false, false, false, false, false, false, false, false, false, false, false, false, false, false, false]) HE367 HS198 rfl (by kernel_rfl) (by kernel_rfl) (by kernel_rfl) (fun _ _ _ h => h) rfl (wtF HE367 rfl rfl rfl (not_t hc36)) rfl rfl fun a_368 HE369 => ?_
                    refine dr_takeNo (i := 21) (ls' := #[true, true, true, true, true, true, true, true, true, true, true, true, true, true, true, true, true, true, true, true, true, true, false, false, false, false, false, false, false, false, false, false, false, false, false, false, false, false, false, false, false, false, false, false]) HE369 HS198 rfl (by kernel_rfl) (by kernel_rfl) (by kernel_rfl) (fun _ _ _ h => h) rfl (wtF HE369 rfl rfl rfl (not_t hc36)) rfl rfl fun a_370 HE371 => ?_
                    refine dr_takeNo (i := 22) (ls' := #[true, true, true, true, true, true, true, true, true, true, true, true, true, true, true, true, true, true, true, true, true, true, true, false, false, false, false, false, false, false, false, false, false, false, false, false, false, false, false, false, false, false, false, false]) HE371 HS198 rfl (by kernel_rfl) (by kernel_rfl) (by kernel_rfl) (fun _ _ _ h => h) rfl (wtF HE371 rfl rfl rfl (not_t hc36)) rfl rfl fun a_372 HE373 => ?_
                    refine dr_takeNo (i := 23) (ls' := #[true, true, true, true, true, true, true, true, true, true, true, true, true, true, true, true, true, true, true, true, true, true, true, true, false, false, false, false, false, false, false, false, false, false, false, false, false, false, false, false, false, false, false, false]) HE373 HS198 rfl (by kernel_rfl) (by kernel_rfl) (by kernel_rfl) (fun _ _ _ h => h) rfl (wtF HE373 rfl rfl rfl (not_t hc36)) rfl rfl fun a_374 HE375 => ?_
                    refine dr_takeNo (i := 24) (ls' := #[true, true, true, true, true, true, true, true, true, true, true, true, true, true, true, true, true, true, true, true, true, true, true, true, true, false, false, false, false, false, false, false, false, false, false, false, false, false, false, false, false, false, false, false]) HE375 HS198 rfl (by kernel_rfl) (by kernel_rfl) (by kernel_rfl) (fun _ _ _ h => h) rfl (wtF HE375 rfl rfl rfl (not_t hc36)) rfl rfl fun a_376 HE377 => ?_
                    refine dr_takeNo (i := 25) (ls' := #[true, true, true, true, true, true, true, true, true, true, true, true, true, true, true, true, true, true, true, true, true, true, true, true, true, true, false, false, false, false, false, false, false, false, false, false, false, false, false, false, false, false, false, false]) HE377 HS198 rfl (by kernel_rfl) (by kernel_rfl) (by kernel_rfl) (fun _ _ _ h => h) rfl (wtF HE377 rfl rfl rfl (not_t hc36)) rfl rfl fun a_378 HE379 => ?_
                    refine dr_takeNo (i := 26) (ls' := #[true, true, true, true, true, true, true, true, true, true, true, true, true, true, true, true, true, true, true, true, true, true, true, true, true, true, true, false, false, false, false, false, false, false, false, false, false, false, false, false, false, false, false, false]) HE379 HS198 rfl (by kernel_rfl) (by kernel_rfl) (by kernel_rfl) (fun _ _ _ h => h) rfl (wtF HE379 rfl rfl rfl (not_t hc36)) rfl rfl fun a_380 HE381 => ?_
                    refine dr_takeNo (i := 27) (ls' := #[true, true, true, true, true, true, true, true, true, true, true, true, true, true, true, true, true, true, true, true, true, true, true, true, true, true, true, true, false, false, false, false, false, false, false, false, false, false, false, false, false, false, false, false]) HE381 HS198 rfl (by kernel_rfl) (by kernel_rfl) (by kernel_rfl) (fun _ _ _ h => h) rfl (wtF HE381 rfl rfl rfl (not_t hc36)) rfl rfl fun a_382 HE383 => ?_
                    refine dr_takeNo (i := 28) (ls' := #[true, true, true, true, true, true, true, true, true, true, true, true, true, true, true, true, true, true, true, true, true, true, true, true, true, true, true, true, true, false, false, false, false, false, false, false, false, false, false, false, false, false, false, false]) HE383 HS198 rfl (by kernel_rfl) (by kernel_rfl) (by kernel_rfl) (fun _ _ _ h => h) rfl (wtF HE383 rfl rfl rfl (not_t hc36)) rfl rfl fun a_384 HE385 => ?_
                    refine dr_takeNo (i := 29) (ls' := #[true, true, true, true, true, true, true, true, true, true, true, true, true, true, true, true, true, true, true, true, true, true, true, true, true, true, true, true, true, true, false, false, false, false, false, false, false, false, false, false, false, false, false, false]) HE385 HS198 rfl (by kernel_rfl) (by kernel_rfl) (by kernel_rfl) (fun _ _ _ h => h) rfl (wtF HE385 rfl rfl rfl (not_t hc36)) rfl rfl fun a_386 HE387 => ?_
                    refine dr_takeNo (i := 30) (ls' := #[true, true, true, true, true, true, true, true, true, true, true, true, true, true, true, true, true, true, true, true, true, true, true, true, true, true, true, true, true, true, true, false, false, false, false, false, false, false, false, false, false, false, false, false]) HE387 HS198 rfl (by kernel_rfl) (by kernel_rfl) (by kernel_rfl) (fun _ _ _ h => h) rfl (wtF HE387 rfl rfl rfl (not_t hc36)) rfl rfl fun a_388 HE389 => ?_
                    refine dr_take (i := 31) (ls' := #[true, true, true, true, true, true, true, true, true, true, true, true, true, true, true, true, true, true, true, true, true, true, true, true, true, true, true, true, true, true, true, true, false, false, false, false, false, false, false, false, false, false, false, false]) HE389 HS198 rfl (by kernel_rfl) (by kernel_rfl) (by kernel_rfl) (fun _ _ _ h => h) rfl (wt0 rfl) (x_pickT rfl (not_t hc36) rfl) rfl rfl fun a_390 HE391 => ?_
                    refine dr_take (i := 32) (ls' := #[true, true, true, true, true, true, true, true, true, true, true, true, true, true, true, true, true, true, true, true, true, true, true, true, true, true, true, true, true, true, true, true, true, false, false, false, false, false, false, false, false, false, false, false]) HE391 HS198 rfl (by kernel_rfl) (by kernel_rfl) (by kernel_rfl) (fun _ _ _ h => h) rfl (wt0 rfl) (x_move rfl) rfl rfl fun a_392 HE393 => ?_
                    refine dr_takeNo (i := 33) (ls' := #[true, true, true, true, true, true, true, true, true, true, true, true, true, true, true, true, true, true, true, true, true, true, true, true, true, true, true, true, true, true, true, true, true, true, false, false, false, false, false, false, false, false, false, false]) HE393 HS198 rfl (by kernel_rfl) (by kernel_rfl) (by kernel_rfl) (fun _ _ _ h => h) rfl (wtF HE393 rfl rfl rfl rfl) rfl rfl fun a_394 HE395 => ?_
                    refine dr_takeNo (i := 34) (ls' := #[true, true, true, true, true, true, true, true, true, true, true, true, true, true, true, true, true, true, true, true, true, true, true, true, true, true, true, true, true, true, true, true, true, true, true, false, false, false, false, false, false, false, false, false]) HE395 HS198 rfl (by kernel_rfl) (by kernel_rfl) (by kernel_rfl) (fun _ _ _ h => h) rfl (wtF HE395 rfl rfl rfl rfl) rfl rfl fun a_396 HE397 => ?_
                    refine dr_takeNo (i := 35) (ls' := #[true, true, true, true, true, true, true, true, true, true, true, true, true, true, true, true, true, true, true, true, true, true, true, true, true, true, true, true, true, true, true, true, true, true, true, true, false, false, false, false, false, false, false, false]) HE397 HS198 rfl (by kernel_rfl) (by kernel_rfl) (by kernel_rfl) (fun _ _ _ h => h) rfl (wtF HE397 rfl rfl rfl rfl) rfl rfl fun a_398 HE399 => ?_
                    refine dr_takeNo (i := 36) (ls' := #[true, true, true, true, true, true, true, true, true, true, true, true, true, true, true, true, true, true, true, true, true, true, true, true, true, true, true, true, true, true, true, true, true, true, true, true, true, false, false, false, false, false, false, false]) HE399 HS198 rfl (by kernel_rfl) (by kernel_rfl) (by kernel_rfl) (fun _ _ _ h => h) rfl (wtF HE399 rfl rfl rfl rfl) rfl rfl fun a_400 HE401 => ?_
                    refine dr_takeNo (i := 37) (ls' := #[true, true, true, true, true, true, true, true, true, true, true, true, true, true, true, true, true, true, true, true, true, true, true, true, true, true, true, true, true, true, true, true, true, true, true, true, true, true, false, false, false, false, false, false]) HE401 HS198 rfl (by kernel_rfl) (by kernel_rfl) (by kernel_rfl) (fun _ _ _ h => h) rfl (wtF HE401 rfl rfl rfl rfl) rfl rfl fun a_402 HE403 => ?_
                    refine dr_takeNo (i := 38) (ls' := #[true, true, true, true, true, true, true, true, true, true, true, true, true, true, true, true, true, true, true, true, true, true, true, true, true, true, true, true, true, true, true, true, true, true, true, true, true, true, true, false, false, false, false, false]) HE403 HS198 rfl (by kernel_rfl) (by kernel_rfl) (by kernel_rfl) (fun _ _ _ h => h) rfl (wtF HE403 rfl rfl rfl rfl) rfl rfl fun a_404 HE405 => ?_
                    refine dr_takeNo (i := 39) (ls' := #[true, true, true, true, true, true, true, true, true, true, true, true, true, true, true, true, true, true, true, true, true, true, true, true, true, true, true, true, true, true, true, true, true, true, true, true, true, true, true, true, false, false, false, false]) HE405 HS198 rfl (by kernel_rfl) (by kernel_rfl) (by kernel_rfl) (fun _ _ _ h => h) rfl (wtF HE405 rfl rfl rfl rfl) rfl rfl fun a_406 HE407 => ?_
                    refine dr_takeNo (i := 40) (ls' := #[true, true, true, true, true, true, true, true, true, true, true, true, true, true, true, true, true, true, true, true, true, true, true, true, true, true, true, true, true, true, true, true, true, true, true, true, true, true, true, true, true, false, false, false]) HE407 HS198 rfl (by kernel_rfl) (by kernel_rfl) (by kernel_rfl) (fun _ _ _ h => h) rfl (wtF HE407 rfl rfl rfl rfl) rfl rfl fun a_408 HE409 => ?_
                    refine dr_takeNo (i := 41) (ls' := #[true, true, true, true, true, true, true, true, true, true, true, true, true, true, true, true, true, true, true, true, true, true, true, true, true, true, true, true, true, true, true, true, true, true, true, true, true, true, true, true, true, true, false, false]) HE409 HS198 rfl (by kernel_rfl) (by kernel_rfl) (by kernel_rfl) (fun _ _ _ h => h) rfl (wtF HE409 rfl rfl rfl rfl) rfl rfl fun a_410 HE411 => ?_
                    refine dr_takeNo (i := 42) (ls' := #[true, true, true, true, true, true, true, true, true, true, true, true, true, true, true, true, true, true, true, true, true, true, true, true, true, true, true, true, true, true, true, true, true, true, true, true, true, true, true, true, true, true, true, false]) HE411 HS198 rfl (by kernel_rfl) (by kernel_rfl) (by kernel_rfl) (fun _ _ _ h => h) rfl (wtF HE411 rfl rfl rfl rfl) rfl rfl fun a_412 HE413 => ?_
                    refine dr_take (i := 43) (ls' := #[true, true, true, true, true, true, true, true, true, true, true, true, true, true, true, true, true, true, true, true, true, true, true, true, true, true, true, true, true, true, true, true, true, true, true, true, true, true, true, true, true, true, true, true]) HE413 HS198 rfl (by kernel_rfl) (by kernel_rfl) (by kernel_rfl) (fun _ _ _ h => h) rfl (wt0 rfl) (x_pickT rfl rfl rfl) rfl rfl fun a_414 HE415 => ?_
                    refine dr_done (by kernel_rfl) ?_
                    clear HH107 HS158 a_161 HE162 a_167 HE168 a_169 HE170 a_171 HE172 a_173 HE174 a_175 HE176 a_177 HE178 a_179 HE180 a_181 HE182 a_183 HE184 a_185 HE186 a_187 HE188 a_189 HE190 HH165 a_191 HE192 HS166 a_196 HE197 a_199 HE200 a_201 HE202 a_360 HE361 a_362 HE363 a_364 HE365 a_366 HE367 a_368 HE369 a_370 HE371 a_372 HE373 a_374 HE375 a_376 HE377 a_378 HE379 a_380 HE381 a_382 HE383 a_384 HE385 a_386 HE387 a_388 HE389 a_390 HE391 a_392 HE393 a_394 HE395 a_396 HE397 a_398 HE399 a_400 HE401 a_402 HE403 a_404 HE405 a_406 HE407 a_408 HE409 a_410 HE411 a_412 HE413 hK194 K_193
                    refine nrm ?_
                    refine cndT HE415 rfl rfl ?_
                    refine wp_seq ?_
                    refine rg ?_
                    refine pl_x HE415 HH195 (wt0 rfl) (x_assign rfl) rfl rfl fun a_416 HE417 => ?_
                    refine wpList_nil ?_
                    clear a_414 HE415
                    refine nrm ?_
                    refine wp_ret ?_
                    refine (thn_ret (blk_ret (thn_ret (thn_ret (blk_ret (thn_ret ?_))))))
                    refine ret1 HE417 rfl (rv_tmp rfl) ?_
                    have hF : (validMulti a0) = false := by
                      first | (simp [validMulti, hc22, hc24, hc26, hc27, p28_0, p28_1, hc29, xe30, hc32, hc34, hc36]; done) | (unfold validMulti; rw [decide_eq_false (by omega)]; simp) | (unfold validMulti; rw [rg_hit (by omega : k < a0.2.2.2.length) (by unfold badMR; grind [beforeMR, validMR, rowB])]; simp) | (have hq := p28_1; rw [show k = a0.2.2.2.length from by omega] at hq; unfold validMulti; rw [hq, decide_eq_true (by omega)]; simp [hc22, hc24, hc26, hc27, p28_0, p28_1, hc29, xe30, hc32, hc34, hc36])
                    exact ⟨by first | (rw [hF] <;> rfl) | rfl | (rw [hF]; simp only [Ending.returned.injEq, Value.slice.injEq, true_and, and_true]; first | omega | (simp; done)) | (rw [hF]; simp; omega), HH195.below⟩
              · refine dr_takeNo (i := 12) (ls' := #[true, true, true, true, true, true, true, true, true, true, true, true, true, false, false, false, false, false, false, false, false, false, false, false]) HE135 HS131 rfl (by kernel_rfl) (by kernel_rfl) (by kernel_rfl) (fun _ _ _ h => h) rfl (wtF HE135 rfl rfl rfl (not_t hc32)) rfl rfl fun a_418 HE419 => ?_
                refine dr_takeNo (i := 13) (ls' := #[true, true, true, true, true, true, true, true, true, true, true, true, true, true, false, false, false, false, false, false, false, false, false, false]) HE419 HS131 rfl (by kernel_rfl) (by kernel_rfl) (by kernel_rfl) (fun _ _ _ h => h) rfl (wtF HE419 rfl rfl rfl (not_t hc32)) rfl rfl fun a_420 HE421 => ?_
                refine dr_takeNo (i := 14) (ls' := #[true, true, true, true, true, true, true, true, true, true, true, true, true, true, true, false, false, false, false, false, false, false, false, false]) HE421 HS131 rfl (by kernel_rfl) (by kernel_rfl) (by kernel_rfl) (fun _ _ _ h => h) rfl (wtF HE421 rfl rfl rfl (not_t hc32)) rfl rfl fun a_422 HE423 => ?_
                refine dr_takeNo (i := 15) (ls' := #[true, true, true, true, true, true, true, true, true, true, true, true, true, true, true, true, false, false, false, false, false, false, false, false]) HE423 HS131 rfl (by kernel_rfl) (by kernel_rfl) (by kernel_rfl) (fun _ _ _ h => h) rfl (wtF HE423 rfl rfl rfl (not_t hc32)) rfl rfl fun a_424 HE425 => ?_
                refine dr_takeNo (i := 16) (ls' := #[true, true, true, true, true, true, true, true, true, true, true, true, true, true, true, true, true, false, false, false, false, false, false, false]) HE425 HS131 rfl (by kernel_rfl) (by kernel_rfl) (by kernel_rfl) (fun _ _ _ h => h) rfl (wtF HE425 rfl rfl rfl (not_t hc32)) rfl rfl fun a_426 HE427 => ?_
                refine dr_takeNo (i := 17) (ls' := #[true, true, true, true, true, true, true, true, true, true, true, true, true, true, true, true, true, true, false, false, false, false, false, false]) HE427 HS131 rfl (by kernel_rfl) (by kernel_rfl) (by kernel_rfl) (fun _ _ _ h => h) rfl (wtF HE427 rfl rfl rfl (not_t hc32)) rfl rfl fun a_428 HE429 => ?_
                refine dr_takeNo (i := 18) (ls' := #[true, true, true, true, true, true, true, true, true, true, true, true, true, true, true, true, true, true, true, false, false, false, false, false]) HE429 HS131 rfl (by kernel_rfl) (by kernel_rfl) (by kernel_rfl) (fun _ _ _ h => h) rfl (wtF HE429 rfl rfl rfl (not_t hc32)) rfl rfl fun a_430 HE431 => ?_
                refine dr_takeNo (i := 19) (ls' := #[true, true, true, true, true, true, true, true, true, true, true, true, true, true, true, true, true, true, true, true, false, false, false, false]) HE431 HS131 rfl (by kernel_rfl) (by kernel_rfl) (by kernel_rfl) (fun _ _ _ h => h) rfl (wtF HE431 rfl rfl rfl (not_t hc32)) rfl rfl fun a_432 HE433 => ?_
                refine dr_takeNo (i := 20) (ls' := #[true, true, true, true, true, true, true, true, true, true, true, true, true, true, true, true, true, true, true, true, true, false, false, false]) HE433 HS131 rfl (by kernel_rfl) (by kernel_rfl) (by kernel_rfl) (fun _ _ _ h => h) rfl (wtF HE433 rfl rfl rfl (not_t hc32)) rfl rfl fun a_434 HE435 => ?_
                refine dr_takeNo (i := 21) (ls' := #[true, true, true, true, true, true, true, true, true, true, true, true, true, true, true, true, true, true, true, true, true, true, false, false]) HE435 HS131 rfl (by kernel_rfl) (by kernel_rfl) (by kernel_rfl) (fun _ _ _ h => h) rfl (wtF HE435 rfl rfl rfl (not_t hc32)) rfl rfl fun a_436 HE437 => ?_
                refine dr_takeNo (i := 22) (ls' := #[true, true, true, true, true, true, true, true, true, true, true, true, true, true, true, true, true, true, true, true, true, true, true, false]) HE437 HS131 rfl (by kernel_rfl) (by kernel_rfl) (by kernel_rfl) (fun _ _ _ h => h) rfl (wtF HE437 rfl rfl rfl (not_t hc32)) rfl rfl fun a_438 HE439 => ?_
                refine dr_take (i := 23) (ls' := #[true, true, true, true, true, true, true, true, true, true, true, true, true, true, true, true, true, true, true, true, true, true, true, true]) HE439 HS131 rfl (by kernel_rfl) (by kernel_rfl) (by kernel_rfl) (fun _ _ _ h => h) rfl (wt0 rfl) (x_pickT rfl (not_t hc32) rfl) rfl rfl fun a_440 HE441 => ?_
                refine dr_done (by kernel_rfl) ?_
                clear HH78 a_105 HE106 a_109 HE110 a_111 HE112 a_113 HE114 a_115 HE116 a_117 HE118 a_119 HE120 a_121 HE122 a_123 HE124 a_125 HE126 HS108 a_129 HE130 a_132 HE133 a_134 HE135 a_418 HE419 a_420 HE421 a_422 HE423 a_424 HE425 a_426 HE427 a_428 HE429 a_430 HE431 a_432 HE433 a_434 HE435 a_436 HE437 a_438 HE439 hK128 K_127
                refine nrm ?_
                refine cndT HE441 rfl rfl ?_
                refine wp_seq ?_
                refine rg ?_
                refine pl_x HE441 HH107 (wt0 rfl) (x_assign rfl) rfl rfl fun a_442 HE443 => ?_
                refine wpList_nil ?_
                clear a_440 HE441
                refine nrm ?_
                refine wp_ret ?_
                refine (thn_ret (blk_ret (thn_ret (thn_ret (blk_ret (thn_ret ?_))))))
                refine ret1 HE443 rfl (rv_tmp rfl) ?_
                have hF : (validMulti a0) = false := by
                  first | (simp [validMulti, hc22, hc24, hc26, hc27, p28_0, p28_1, hc29, xe30, hc32]; done) | (unfold validMulti; rw [decide_eq_false (by omega)]; simp) | (unfold validMulti; rw [rg_hit (by omega : k < a0.2.2.2.length) (by unfold badMR; grind [beforeMR, validMR, rowB])]; simp) | (have hq := p28_1; rw [show k = a0.2.2.2.length from by omega] at hq; unfold validMulti; rw [hq, decide_eq_true (by omega)]; simp [hc22, hc24, hc26, hc27, p28_0, p28_1, hc29, xe30, hc32])
                exact ⟨by first | (rw [hF] <;> rfl) | rfl | (rw [hF]; simp only [Ending.returned.injEq, Value.slice.injEq, true_and, and_true]; first | omega | (simp; done)) | (rw [hF]; simp; omega), HH107.below⟩
            · refine wp_exit ?_
              refine (thn_exit (thn_exit (blk_hit ?_)))
              refine nrm ?_
              refine wp_seq ?_
              refine rg ?_
              refine pl_x HE92 HH78 (wt0 rfl) (x_assign rfl) rfl rfl fun a_444 HE445 => ?_
              refine wpList_nil ?_
              clear a_91 HE92
              refine nrm ?_
              refine wp_ret ?_
              refine ret1 HE445 rfl (rv_tmp rfl) ?_
              have hF : (validMulti a0) = true := by
                first | (simp [validMulti, hc22, hc24, hc26, hc27, p28_0, p28_1, hc29]; done) | (unfold validMulti; rw [decide_eq_false (by omega)]; simp) | (unfold validMulti; rw [rg_hit (by omega : k < a0.2.2.2.length) (by unfold badMR; grind [beforeMR, validMR, rowB])]; simp) | (have hq := p28_1; rw [show k = a0.2.2.2.length from by omega] at hq; unfold validMulti; rw [hq, decide_eq_true (by omega)]; simp [hc22, hc24, hc26, hc27, p28_0, p28_1, hc29])
              exact ⟨by first | (rw [hF] <;> rfl) | rfl | (rw [hF]; simp only [Ending.returned.injEq, Value.slice.injEq, true_and, and_true]; first | omega | (simp; done)) | (rw [hF]; simp; omega), HH78.below⟩
      · refine pl_no HE57 (wtF HE57 rfl rfl rfl (not_t hc26)) rfl rfl fun a_446 HE447 => ?_
        refine pl_no HE447 (wtF HE447 rfl rfl rfl (not_t hc26)) rfl rfl fun a_448 HE449 => ?_
        refine pl_no HE449 (wtF HE449 rfl rfl rfl (not_t hc26)) rfl rfl fun a_450 HE451 => ?_
        refine pl_no HE451 (wtF HE451 rfl rfl rfl (not_t hc26)) rfl rfl fun a_452 HE453 => ?_
        refine pl_no HE453 (wtF HE453 rfl rfl rfl (not_t hc26)) rfl rfl fun a_454 HE455 => ?_
        refine pl_no HE455 (wtF HE455 rfl rfl rfl (not_t hc26)) rfl rfl fun a_456 HE457 => ?_
        refine pl_x HE457 HH1 (wt0 rfl) (x_pickT rfl (not_t hc26) rfl) rfl rfl fun a_458 HE459 => ?_
        refine wpList_nil ?_
        clear a_4 HE5 a_6 HE7 a_8 HE9 a_10 HE11 a_12 HE13 a_16 HE17 a_18 HE19 a_20 HE21 a_22 HE23 a_24 HE25 a_26 HE27 K_14 hK15 a_28 HE29 a_32 HE33 a_34 HE35 a_36 HE37 a_38 HE39 a_40 HE41 a_42 HE43 a_44 HE45 K_30 hK31 a_46 HE47 a_50 HE51 a_52 HE53 a_54 HE55 a_56 HE57 a_446 HE447 a_448 HE449 a_450 HE451 a_452 HE453 a_454 HE455 a_456 HE457 hK49 K_48
        refine nrm ?_
        refine cndT HE459 rfl rfl ?_
        refine wp_seq ?_
        refine rg ?_
        refine pl_x HE459 HH1 (wt0 rfl) (x_assign rfl) rfl rfl fun a_460 HE461 => ?_
        refine wpList_nil ?_
        clear a_458 HE459
        refine nrm ?_
        refine wp_ret ?_
        refine (thn_ret ?_)
        refine ret1 HE461 rfl (rv_tmp rfl) ?_
        have hF : (validMulti a0) = false := by
          first | (simp [validMulti, hc22, hc24, hc26]; done) | (unfold validMulti; rw [decide_eq_false (by omega)]; simp) | (unfold validMulti; rw [rg_hit (by omega : k < a0.2.2.2.length) (by unfold badMR; grind [beforeMR, validMR, rowB])]; simp) | (have hq := p0_1; rw [show k = a0.2.2.2.length from by omega] at hq; unfold validMulti; rw [hq, decide_eq_true (by omega)]; simp [hc22, hc24, hc26])
        exact ⟨by first | (rw [hF] <;> rfl) | rfl | (rw [hF]; simp only [Ending.returned.injEq, Value.slice.injEq, true_and, and_true]; first | omega | (simp; done)) | (rw [hF]; simp; omega), HH1.below⟩
    · refine pl_no HE39 (wtF HE39 rfl rfl rfl (not_t hc24)) rfl rfl fun a_462 HE463 => ?_
      refine pl_no HE463 (wtF HE463 rfl rfl rfl (not_t hc24)) rfl rfl fun a_464 HE465 => ?_
      refine pl_no HE465 (wtF HE465 rfl rfl rfl (not_t hc24)) rfl rfl fun a_466 HE467 => ?_
      refine pl_no HE467 (wtF HE467 rfl rfl rfl (not_t hc24)) rfl rfl fun a_468 HE469 => ?_
      refine pl_no HE469 (wtF HE469 rfl rfl rfl (not_t hc24)) rfl rfl fun a_470 HE471 => ?_
      refine pl_no HE471 (wtF HE471 rfl rfl rfl (not_t hc24)) rfl rfl fun a_472 HE473 => ?_
      refine pl_x HE473 HH1 (wt0 rfl) (x_pickT rfl (not_t hc24) rfl) rfl rfl fun a_474 HE475 => ?_
      refine pl_x HE475 HH1 (wt0 rfl) (x_move rfl) rfl rfl fun a_476 HE477 => ?_
      refine pl_no HE477 (wtF HE477 rfl rfl rfl rfl) rfl rfl fun a_478 HE479 => ?_
      refine pl_no HE479 (wtF HE479 rfl rfl rfl rfl) rfl rfl fun a_480 HE481 => ?_
      refine pl_no HE481 (wtF HE481 rfl rfl rfl rfl) rfl rfl fun a_482 HE483 => ?_
      refine pl_no HE483 (wtF HE483 rfl rfl rfl rfl) rfl rfl fun a_484 HE485 => ?_
      refine pl_no HE485 (wtF HE485 rfl rfl rfl rfl) rfl rfl fun a_486 HE487 => ?_
      refine pl_no HE487 (wtF HE487 rfl rfl rfl rfl) rfl rfl fun a_488 HE489 => ?_
      refine pl_x HE489 HH1 (wt0 rfl) (x_pickT rfl rfl rfl) rfl rfl fun a_490 HE491 => ?_
      refine wpList_nil ?_
      clear a_4 HE5 a_6 HE7 a_8 HE9 a_10 HE11 a_12 HE13 a_16 HE17 a_18 HE19 a_20 HE21 a_22 HE23 a_24 HE25 a_26 HE27 K_14 hK15 a_28 HE29 a_32 HE33 a_34 HE35 a_36 HE37 a_38 HE39 a_462 HE463 a_464 HE465 a_466 HE467 a_468 HE469 a_470 HE471 a_472 HE473 a_474 HE475 a_476 HE477 a_478 HE479 a_480 HE481 a_482 HE483 a_484 HE485 a_486 HE487 a_488 HE489 hK31 K_30
      refine nrm ?_
      refine cndT HE491 rfl rfl ?_
      refine wp_seq ?_
      refine rg ?_
      refine pl_x HE491 HH1 (wt0 rfl) (x_assign rfl) rfl rfl fun a_492 HE493 => ?_
      refine wpList_nil ?_
      clear a_490 HE491
      refine nrm ?_
      refine wp_ret ?_
      refine (thn_ret ?_)
      refine ret1 HE493 rfl (rv_tmp rfl) ?_
      have hF : (validMulti a0) = false := by
        first | (simp [validMulti, hc22, hc24]; done) | (unfold validMulti; rw [decide_eq_false (by omega)]; simp) | (unfold validMulti; rw [rg_hit (by omega : k < a0.2.2.2.length) (by unfold badMR; grind [beforeMR, validMR, rowB])]; simp) | (have hq := p0_1; rw [show k = a0.2.2.2.length from by omega] at hq; unfold validMulti; rw [hq, decide_eq_true (by omega)]; simp [hc22, hc24])
      exact ⟨by first | (rw [hF] <;> rfl) | rfl | (rw [hF]; simp only [Ending.returned.injEq, Value.slice.injEq, true_and, and_true]; first | omega | (simp; done)) | (rw [hF]; simp; omega), HH1.below⟩
  · refine pl_no HE21 (wtF HE21 rfl rfl rfl (not_t hc22)) rfl rfl fun a_494 HE495 => ?_
    refine pl_no HE495 (wtF HE495 rfl rfl rfl (not_t hc22)) rfl rfl fun a_496 HE497 => ?_
    refine pl_no HE497 (wtF HE497 rfl rfl rfl (not_t hc22)) rfl rfl fun a_498 HE499 => ?_
    refine pl_no HE499 (wtF HE499 rfl rfl rfl (not_t hc22)) rfl rfl fun a_500 HE501 => ?_
    refine pl_no HE501 (wtF HE501 rfl rfl rfl (not_t hc22)) rfl rfl fun a_502 HE503 => ?_
    refine pl_no HE503 (wtF HE503 rfl rfl rfl (not_t hc22)) rfl rfl fun a_504 HE505 => ?_
    refine pl_x HE505 HH1 (wt0 rfl) (x_pickT rfl (not_t hc22) rfl) rfl rfl fun a_506 HE507 => ?_
    refine pl_x HE507 HH1 (wt0 rfl) (x_move rfl) rfl rfl fun a_508 HE509 => ?_
    refine pl_no HE509 (wtF HE509 rfl rfl rfl rfl) rfl rfl fun a_510 HE511 => ?_
    refine pl_no HE511 (wtF HE511 rfl rfl rfl rfl) rfl rfl fun a_512 HE513 => ?_
    refine pl_no HE513 (wtF HE513 rfl rfl rfl rfl) rfl rfl fun a_514 HE515 => ?_
    refine pl_no HE515 (wtF HE515 rfl rfl rfl rfl) rfl rfl fun a_516 HE517 => ?_
    refine pl_no HE517 (wtF HE517 rfl rfl rfl rfl) rfl rfl fun a_518 HE519 => ?_
    refine pl_no HE519 (wtF HE519 rfl rfl rfl rfl) rfl rfl fun a_520 HE521 => ?_
    refine pl_x HE521 HH1 (wt0 rfl) (x_pickT rfl rfl rfl) rfl rfl fun a_522 HE523 => ?_
    refine pl_x HE523 HH1 (wt0 rfl) (x_move rfl) rfl rfl fun a_524 HE525 => ?_
    refine pl_no HE525 (wtF HE525 rfl rfl rfl rfl) rfl rfl fun a_526 HE527 => ?_
    refine pl_no HE527 (wtF HE527 rfl rfl rfl rfl) rfl rfl fun a_528 HE529 => ?_
    refine pl_no HE529 (wtF HE529 rfl rfl rfl rfl) rfl rfl fun a_530 HE531 => ?_
    refine pl_no HE531 (wtF HE531 rfl rfl rfl rfl) rfl rfl fun a_532 HE533 => ?_
    refine pl_no HE533 (wtF HE533 rfl rfl rfl rfl) rfl rfl fun a_534 HE535 => ?_
    refine pl_no HE535 (wtF HE535 rfl rfl rfl rfl) rfl rfl fun a_536 HE537 => ?_
    refine pl_x HE537 HH1 (wt0 rfl) (x_pickT rfl rfl rfl) rfl rfl fun a_538 HE539 => ?_
    refine wpList_nil ?_
    clear a_4 HE5 a_6 HE7 a_8 HE9 a_10 HE11 a_12 HE13 a_16 HE17 a_18 HE19 a_20 HE21 a_494 HE495 a_496 HE497 a_498 HE499 a_500 HE501 a_502 HE503 a_504 HE505 a_506 HE507 a_508 HE509 a_510 HE511 a_512 HE513 a_514 HE515 a_516 HE517 a_518 HE519 a_520 HE521 a_522 HE523 a_524 HE525 a_526 HE527 a_528 HE529 a_530 HE531 a_532 HE533 a_534 HE535 a_536 HE537 hK15 K_14
    refine nrm ?_
    refine cndT HE539 rfl rfl ?_
    refine wp_seq ?_
    refine rg ?_
    refine pl_x HE539 HH1 (wt0 rfl) (x_assign rfl) rfl rfl fun a_540 HE541 => ?_
    refine wpList_nil ?_
    clear a_538 HE539
    refine nrm ?_
    refine wp_ret ?_
    refine (thn_ret ?_)
    refine ret1 HE541 rfl (rv_tmp rfl) ?_
    have hF : (validMulti a0) = false := by
      first | (simp [validMulti, hc22]; done) | (unfold validMulti; rw [decide_eq_false (by omega)]; simp) | (unfold validMulti; rw [rg_hit (by omega : k < a0.2.2.2.length) (by unfold badMR; grind [beforeMR, validMR, rowB])]; simp) | (have hq := p0_1; rw [show k = a0.2.2.2.length from by omega] at hq; unfold validMulti; rw [hq, decide_eq_true (by omega)]; simp [hc22])
    exact ⟨by first | (rw [hF] <;> rfl) | rfl | (rw [hF]; simp only [Ending.returned.injEq, Value.slice.injEq, true_and, and_true]; first | omega | (simp; done)) | (rw [hF]; simp; omega), HH1.below⟩

theorem validMulti_facts {m : tMulti} (h : validMulti m = true) : (2 ≤ m.1 ∧ m.1 ≤ 3) ∧ (2 ≤ m.2.1 ∧ m.2.1 ≤ 3) ∧ (1 ≤ m.2.2.1 ∧ m.2.2.1 ≤ 16) ∧ m.2.2.2.length ≤ 60 := by
  unfold validMulti at h
  simp only [Bool.and_eq_true, decide_eq_true_eq] at h
  have h1 := withinB_true.1 h.1.1.1.1
  have h2 := withinB_true.1 h.1.1.1.2
  have h3 := withinB_true.1 h.1.1.2
  exact ⟨h1, h2, h3, by omega⟩

def eBldT : TypeId := 5

abbrev rBld (w : World) (b : Nat) (S : Nat → Prop) (l : List UInt8) : Res := rBldT 161 5 w.heap.size b S l

/-- The library's table that the decimal forms are made with. -/
def Glob (w : World) : Prop := Lib.TabIs Tryd.prog w "internal/strconv.uint64pow10" .u64 Lib.pow10Tab

theorem globNum : Tryd.prog.globalNamed "internal/strconv.uint64pow10" = some 0 := by kernel_rfl

theorem Held.glob {w0 w : World} {rs : List Res} (h : Held Nob w0 rs w) (hG : Glob w0) : Glob w := tab_below globNum hG h.below

theorem grow_below (w : World) (k : Nat) (os : Array Obj) : Below w.heap.size w (Go.Sort.grow (w.drewN k) os) :=
  ⟨rfl, rfl, rfl, by show w.heap.size ≤ (w.heap ++ os).size; rw [Array.size_append]; omega, fun b hb => Go.Sort.heap_grow_old (w.drewN k) os hb⟩

def shelf_M173_ren : Go.Shelf.Ren := ⟨fun | 173 => 108 | 246 => 149 | 283 => 168 | 284 => 169 | 285 => 170 | 286 => 171 | 129 => 180 | 317 => 179 | 318 => 181 | 319 => 182 | 320 => 183 | 337 => 186 | 338 => 187 | n => n, fun | 2 => 2 | 3 => 3 | 9 => 9 | 4 => 4 | 171 => 211 | 0 => 0 | 53 => 212 | 37 => 159 | 5 => 5 | 173 => 215 | 212 => 226 | 51 => 222 | 20 => 20 | 213 => 227 | 46 => 229 | 232 => 232 | 233 => 233 | n => n, fun | 17 => 0 | 18 => 2 | 19 => 3 | n => n⟩

theorem shelf_M173 : Go.Proofs.LaysM.n173 Tryd.prog shelf_M173_ren := {
  mixed := by kernel_rfl
  f129 := Tryd.func180.trans (congrArg some (by kernel_rfl))
  f173 := Tryd.func108.trans (congrArg some (by kernel_rfl))
  f246 := Tryd.func149.trans (congrArg some (by kernel_rfl))
  f283 := Tryd.func168.trans (congrArg some (by kernel_rfl))
  f284 := Tryd.func169.trans (congrArg some (by kernel_rfl))
  f285 := Tryd.func170.trans (congrArg some (by kernel_rfl))
  f286 := Tryd.func171.trans (congrArg some (by kernel_rfl))
  f317 := Tryd.func179.trans (congrArg some (by kernel_rfl))
  f318 := Tryd.func181.trans (congrArg some (by kernel_rfl))
  f319 := Tryd.func182.trans (congrArg some (by kernel_rfl))
  f320 := Tryd.func183.trans (congrArg some (by kernel_rfl))
  f337 := Tryd.func186.trans (congrArg some (by kernel_rfl))
  f338 := Tryd.func187.trans (congrArg some (by kernel_rfl))
  t0 := Tryd.underlying0
  a0 := Tryd.isAgg0
  z0 := Tryd.sizeOf0
  v0 := Tryd.zeroValue0
  t2 := Tryd.underlying2
  a2 := Tryd.isAgg2
  z2 := Tryd.sizeOf2
  v2 := Tryd.zeroValue2
  t3 := Tryd.underlying3
  a3 := Tryd.isAgg3
  z3 := Tryd.sizeOf3
  v3 := Tryd.zeroValue3
  t4 := Tryd.underlying4
  a4 := Tryd.isAgg4
  z4 := Tryd.sizeOf4
  v4 := Tryd.zeroValue4
  t5 := Tryd.underlying5
  a5 := Tryd.isAgg5
  z5 := Tryd.sizeOf5
  v5 := Tryd.zeroValue5
  t9 := Tryd.underlying9
  a9 := Tryd.isAgg9
  z9 := Tryd.sizeOf9
  v9 := Tryd.zeroValue9
  t20 := Tryd.underlying20
  a20 := Tryd.isAgg20
  z20 := Tryd.sizeOf20
  v20 := Tryd.zeroValue20
  t37 := Tryd.underlying159
  a37 := Tryd.isAgg159
  z37 := Tryd.sizeOf159
  v37 := Tryd.zeroValue159
  t46 := Tryd.underlying229
  a46 := Tryd.isAgg229
  z46 := Tryd.sizeOf229
  v46 := Tryd.zeroValue229
  t51 := Tryd.underlying222
  a51 := Tryd.isAgg222
  z51 := Tryd.sizeOf222
  v51 := Tryd.zeroValue222
  t53 := Tryd.underlying212
  a53 := Tryd.isAgg212
  z53 := Tryd.sizeOf212
  v53 := Tryd.zeroValue212
  t171 := Tryd.underlying211
  a171 := Tryd.isAgg211
  z171 := Tryd.sizeOf211
  v171 := Tryd.zeroValue211
  t173 := Tryd.underlying215
  a173 := Tryd.isAgg215
  z173 := Tryd.sizeOf215
  v173 := Tryd.zeroValue215
  t212 := Tryd.underlying226
  a212 := Tryd.isAgg226
  z212 := Tryd.sizeOf226
  v212 := Tryd.zeroValue226
  t213 := Tryd.underlying227
  a213 := Tryd.isAgg227
  z213 := Tryd.sizeOf227
  t232 := Tryd.underlying232
  a232 := Tryd.isAgg232
  z232 := Tryd.sizeOf232
  v232 := Tryd.zeroValue232
  t233 := Tryd.underlying233
  a233 := Tryd.isAgg233
  z233 := Tryd.sizeOf233
  v233 := Tryd.zeroValue233
  g17 := by kernel_rfl
  g18 := by kernel_rfl
  g19 := by kernel_rfl
  i0 := by kernel_rfl
  i2 := by kernel_rfl
  i3 := by kernel_rfl
  i4 := by kernel_rfl
  i5 := by kernel_rfl
  i9 := by kernel_rfl
  i20 := by kernel_rfl
  i37 := by kernel_rfl
  i46 := by kernel_rfl
  i51 := by kernel_rfl
  i53 := by kernel_rfl
  i171 := by kernel_rfl
  i173 := by kernel_rfl
  i212 := by kernel_rfl
  i232 := by kernel_rfl
  i233 := by kernel_rfl
  m17 := by kernel_rfl
  m18 := by kernel_rfl
  m19 := by kernel_rfl }

def shelf_156_ren : Go.Shelf.Ren := ⟨fun | 156 => 61 | 165 => 109 | 166 => 110 | 169 => 111 | 240 => 150 | 241 => 151 | 276 => 172 | 277 => 173 | n => n, fun | 31 => 106 | 9 => 9 | 3 => 3 | 4 => 4 | 0 => 0 | 20 => 20 | 72 => 161 | 76 => 165 | 70 => 158 | 37 => 159 | 75 => 164 | 127 => 198 | 164 => 217 | 5 => 5 | 80 => 167 | n => n, fun | n => n⟩

theorem shelf_156 : Go.Proofs.Lays.n156 Tryd.prog shelf_156_ren := {
  mixed := by kernel_rfl
  f156 := Tryd.func61.trans (congrArg some (by kernel_rfl))
  f165 := Tryd.func109.trans (congrArg some (by kernel_rfl))
  f166 := Tryd.func110.trans (congrArg some (by kernel_rfl))
  f169 := Tryd.func111.trans (congrArg some (by kernel_rfl))
  f240 := Tryd.func150.trans (congrArg some (by kernel_rfl))
  f241 := Tryd.func151.trans (congrArg some (by kernel_rfl))
  f276 := Tryd.func172.trans (congrArg some (by kernel_rfl))
  f277 := Tryd.func173.trans (congrArg some (by kernel_rfl))
  t0 := Tryd.underlying0
  a0 := Tryd.isAgg0
  z0 := Tryd.sizeOf0
  v0 := Tryd.zeroValue0
  t3 := Tryd.underlying3
  a3 := Tryd.isAgg3
  z3 := Tryd.sizeOf3
  v3 := Tryd.zeroValue3
  t4 := Tryd.underlying4
  a4 := Tryd.isAgg4
  z4 := Tryd.sizeOf4
  v4 := Tryd.zeroValue4
  t9 := Tryd.underlying9
  a9 := Tryd.isAgg9
  z9 := Tryd.sizeOf9
  v9 := Tryd.zeroValue9
  t20 := Tryd.underlying20
  a20 := Tryd.isAgg20
  z20 := Tryd.sizeOf20
  v20 := Tryd.zeroValue20
  t31 := Tryd.underlying106
  a31 := Tryd.isAgg106
  z31 := Tryd.sizeOf106
  v31 := Tryd.zeroValue106
  t37 := Tryd.underlying159
  a37 := Tryd.isAgg159
  z37 := Tryd.sizeOf159
  v37 := Tryd.zeroValue159
  t70 := Tryd.underlying158
  a70 := Tryd.isAgg158
  z70 := Tryd.sizeOf158
  v70 := Tryd.zeroValue158
  t72 := Tryd.underlying161
  a72 := Tryd.isAgg161
  z72 := Tryd.sizeOf161
  v72 := Tryd.zeroValue161
  t75 := Tryd.underlying164
  a75 := Tryd.isAgg164
  z75 := Tryd.sizeOf164
  v75 := Tryd.zeroValue164
  t76 := Tryd.underlying165
  a76 := Tryd.isAgg165
  z76 := Tryd.sizeOf165
  v76 := Tryd.zeroValue165
  t127 := Tryd.underlying198
  a127 := Tryd.isAgg198
  z127 := Tryd.sizeOf198
  v127 := Tryd.zeroValue198
  t164 := Tryd.underlying217
  a164 := Tryd.isAgg217
  z164 := Tryd.sizeOf217
  v164 := Tryd.zeroValue217 }

theorem shelf_X_Builder_Extra_156 : Builder.Extra Tryd.prog shelf_156_ren where
  sizeBuilder := by kernel_rfl
  liesBuilder := by kernel_rfl
  t5 := Tryd.underlying5
  a5 := Tryd.isAgg5
  z5 := Tryd.sizeOf5
  v5 := Tryd.zeroValue5
  infoByte := by kernel_rfl
  cellsByte := by kernel_rfl
  sizeByte := by kernel_rfl
  neB5 := by decide

def shelf_168_ren : Go.Shelf.Ren := ⟨fun | 0 => 0 | 1 => 1 | 2 => 2 | 129 => 180 | 156 => 61 | 165 => 109 | 166 => 110 | 167 => 146 | 168 => 134 | 169 => 111 | 173 => 108 | 240 => 150 | 241 => 151 | 242 => 164 | 246 => 149 | 276 => 172 | 277 => 173 | 278 => 177 | 283 => 168 | 284 => 169 | 285 => 170 | 286 => 171 | 317 => 179 | 318 => 181 | 319 => 182 | 320 => 183 | 337 => 186 | 338 => 187 | 347 => 188 | 348 => 189 | 349 => 190 | 350 => 191 | 351 => 192 | 352 => 193 | 353 => 194 | 354 => 195 | 355 => 196 | 356 => 197 | 357 => 198 | 358 => 199 | 359 => 200 | 360 => 201 | 361 => 202 | 362 => 204 | 366 => 205 | 367 => 211 | n => n, fun | 0 => 0 | 1 => 1 | 2 => 2 | 3 => 3 | 4 => 4 | 5 => 5 | 6 => 6 | 7 => 7 | 8 => 8 | 9 => 9 | 10 => 10 | 11 => 11 | 12 => 12 | 13 => 13 | 14 => 14 | 15 => 15 | 16 => 16 | 17 => 17 | 18 => 18 | 19 => 19 | 20 => 20 | 21 => 21 | 31 => 106 | 37 => 159 | 46 => 229 | 47 => 230 | 51 => 222 | 52 => 231 | 53 => 212 | 54 => 213 | 67 => 108 | 70 => 158 | 71 => 160 | 72 => 161 | 73 => 162 | 74 => 163 | 75 => 164 | 76 => 165 | 77 => 166 | 78 => 195 | 79 => 184 | 80 => 167 | 81 => 239 | 83 => 210 | 84 => 157 | 111 => 228 | 114 => 224 | 126 => 206 | 127 => 198 | 164 => 217 | 165 => 218 | 166 => 219 | 171 => 211 | 172 => 214 | 173 => 215 | 174 => 216 | 211 => 225 | 212 => 226 | 213 => 227 | 232 => 232 | 233 => 233 | 238 => 234 | 239 => 235 | 240 => 236 | 241 => 237 | 242 => 238 | 243 => 240 | 244 => 241 | 245 => 242 | 246 => 243 | 247 => 244 | 248 => 245 | 249 => 246 | n => n, fun | 1 => 1 | 17 => 0 | 18 => 2 | 19 => 3 | n => n⟩

theorem shelf_168 : Go.Proofs.Lays.n168 Tryd.prog shelf_168_ren := {
  mixed := by kernel_rfl
  f168 := Tryd.func134.trans (congrArg some (by kernel_rfl))
  f240 := Tryd.func150.trans (congrArg some (by kernel_rfl))
  f242 := Tryd.func164.trans (congrArg some (by kernel_rfl))
  f276 := Tryd.func172.trans (congrArg some (by kernel_rfl))
  f278 := Tryd.func177.trans (congrArg some (by kernel_rfl))
  t0 := Tryd.underlying0
  a0 := Tryd.isAgg0
  z0 := Tryd.sizeOf0
  v0 := Tryd.zeroValue0
  t3 := Tryd.underlying3
  a3 := Tryd.isAgg3
  z3 := Tryd.sizeOf3
  v3 := Tryd.zeroValue3
  t4 := Tryd.underlying4
  a4 := Tryd.isAgg4
  z4 := Tryd.sizeOf4
  v4 := Tryd.zeroValue4
  t5 := Tryd.underlying5
  a5 := Tryd.isAgg5
  z5 := Tryd.sizeOf5
  v5 := Tryd.zeroValue5
  t9 := Tryd.underlying9
  a9 := Tryd.isAgg9
  z9 := Tryd.sizeOf9
  v9 := Tryd.zeroValue9
  t20 := Tryd.underlying20
  a20 := Tryd.isAgg20
  z20 := Tryd.sizeOf20
  v20 := Tryd.zeroValue20
  t21 := Tryd.underlying21
  a21 := Tryd.isAgg21
  z21 := Tryd.sizeOf21
  v21 := Tryd.zeroValue21
  t37 := Tryd.underlying159
  a37 := Tryd.isAgg159
  z37 := Tryd.sizeOf159
  v37 := Tryd.zeroValue159
  t46 := Tryd.underlying229
  a46 := Tryd.isAgg229
  z46 := Tryd.sizeOf229
  v46 := Tryd.zeroValue229
  t51 := Tryd.underlying222
  a51 := Tryd.isAgg222
  z51 := Tryd.sizeOf222
  v51 := Tryd.zeroValue222
  t70 := Tryd.underlying158
  a70 := Tryd.isAgg158
  z70 := Tryd.sizeOf158
  v70 := Tryd.zeroValue158
  t72 := Tryd.underlying161
  a72 := Tryd.isAgg161
  z72 := Tryd.sizeOf161
  v72 := Tryd.zeroValue161
  t75 := Tryd.underlying164
  a75 := Tryd.isAgg164
  z75 := Tryd.sizeOf164
  v75 := Tryd.zeroValue164
  t164 := Tryd.underlying217
  a164 := Tryd.isAgg217
  z164 := Tryd.sizeOf217
  v164 := Tryd.zeroValue217 }

theorem shelf_X_Builder_Extra_168 : Builder.Extra Tryd.prog shelf_168_ren where
  sizeBuilder := by kernel_rfl
  liesBuilder := by kernel_rfl
  t5 := Tryd.underlying5
  a5 := Tryd.isAgg5
  z5 := Tryd.sizeOf5
  v5 := Tryd.zeroValue5
  infoByte := by kernel_rfl
  cellsByte := by kernel_rfl
  sizeByte := by kernel_rfl
  neB5 := by decide

def shelf_167_ren : Go.Shelf.Ren := ⟨fun | 0 => 0 | 1 => 1 | 2 => 2 | 129 => 180 | 156 => 61 | 165 => 109 | 166 => 110 | 167 => 146 | 168 => 134 | 169 => 111 | 173 => 108 | 240 => 150 | 241 => 151 | 242 => 164 | 246 => 149 | 276 => 172 | 277 => 173 | 278 => 177 | 283 => 168 | 284 => 169 | 285 => 170 | 286 => 171 | 317 => 179 | 318 => 181 | 319 => 182 | 320 => 183 | 337 => 186 | 338 => 187 | 347 => 188 | 348 => 189 | 349 => 190 | 350 => 191 | 351 => 192 | 352 => 193 | 353 => 194 | 354 => 195 | 355 => 196 | 356 => 197 | 357 => 198 | 358 => 199 | 359 => 200 | 360 => 201 | 361 => 202 | 362 => 204 | 366 => 205 | 367 => 211 | n => n, fun | 0 => 0 | 1 => 1 | 2 => 2 | 3 => 3 | 4 => 4 | 5 => 5 | 6 => 6 | 7 => 7 | 8 => 8 | 9 => 9 | 10 => 10 | 11 => 11 | 12 => 12 | 13 => 13 | 14 => 14 | 15 => 15 | 16 => 16 | 17 => 17 | 18 => 18 | 19 => 19 | 20 => 20 | 21 => 21 | 31 => 106 | 37 => 159 | 46 => 229 | 47 => 230 | 51 => 222 | 52 => 231 | 53 => 212 | 54 => 213 | 67 => 108 | 70 => 158 | 71 => 160 | 72 => 161 | 73 => 162 | 74 => 163 | 75 => 164 | 76 => 165 | 77 => 166 | 78 => 195 | 79 => 184 | 80 => 167 | 81 => 239 | 83 => 210 | 84 => 157 | 111 => 228 | 114 => 224 | 126 => 206 | 127 => 198 | 164 => 217 | 165 => 218 | 166 => 219 | 171 => 211 | 172 => 214 | 173 => 215 | 174 => 216 | 211 => 225 | 212 => 226 | 213 => 227 | 232 => 232 | 233 => 233 | 238 => 234 | 239 => 235 | 240 => 236 | 241 => 237 | 242 => 238 | 243 => 240 | 244 => 241 | 245 => 242 | 246 => 243 | 247 => 244 | 248 => 245 | 249 => 246 | n => n, fun | 1 => 1 | 17 => 0 | 18 => 2 | 19 => 3 | n => n⟩

theorem shelf_167 : Go.Proofs.Lays.n167 Tryd.prog shelf_167_ren := {
  mixed := by kernel_rfl
  f167 := Tryd.func146.trans (congrArg some (by kernel_rfl))
  f240 := Tryd.func150.trans (congrArg some (by kernel_rfl))
  f276 := Tryd.func172.trans (congrArg some (by kernel_rfl))
  t0 := Tryd.underlying0
  a0 := Tryd.isAgg0
  z0 := Tryd.sizeOf0
  v0 := Tryd.zeroValue0
  t4 := Tryd.underlying4
  a4 := Tryd.isAgg4
  z4 := Tryd.sizeOf4
  v4 := Tryd.zeroValue4
  t5 := Tryd.underlying5
  a5 := Tryd.isAgg5
  z5 := Tryd.sizeOf5
  v5 := Tryd.zeroValue5
  t9 := Tryd.underlying9
  a9 := Tryd.isAgg9
  z9 := Tryd.sizeOf9
  v9 := Tryd.zeroValue9
  t20 := Tryd.underlying20
  a20 := Tryd.isAgg20
  z20 := Tryd.sizeOf20
  v20 := Tryd.zeroValue20
  t37 := Tryd.underlying159
  a37 := Tryd.isAgg159
  z37 := Tryd.sizeOf159
  v37 := Tryd.zeroValue159
  t70 := Tryd.underlying158
  a70 := Tryd.isAgg158
  z70 := Tryd.sizeOf158
  v70 := Tryd.zeroValue158
  t72 := Tryd.underlying161
  a72 := Tryd.isAgg161
  z72 := Tryd.sizeOf161
  v72 := Tryd.zeroValue161
  t75 := Tryd.underlying164
  a75 := Tryd.isAgg164
  z75 := Tryd.sizeOf164
  v75 := Tryd.zeroValue164
  t164 := Tryd.underlying217
  a164 := Tryd.isAgg217
  z164 := Tryd.sizeOf217
  v164 := Tryd.zeroValue217 }

theorem shelf_X_Builder_Extra_167 : Builder.Extra Tryd.prog shelf_167_ren where
  sizeBuilder := by kernel_rfl
  liesBuilder := by kernel_rfl
  t5 := Tryd.underlying5
  a5 := Tryd.isAgg5
  z5 := Tryd.sizeOf5
  v5 := Tryd.zeroValue5
  infoByte := by kernel_rfl
  cellsByte := by kernel_rfl
  sizeByte := by kernel_rfl
  neB5 := by decide

def shelf_169_ren : Go.Shelf.Ren := ⟨fun | 169 => 111 | n => n, fun | 70 => 158 | 9 => 9 | 0 => 0 | 72 => 161 | 37 => 159 | 127 => 198 | 3 => 3 | 5 => 5 | n => n, fun | n => n⟩

theorem shelf_169 : Go.Proofs.Lays.n169 Tryd.prog shelf_169_ren := {
  mixed := by kernel_rfl
  f169 := Tryd.func111.trans (congrArg some (by kernel_rfl))
  t0 := Tryd.underlying0
  a0 := Tryd.isAgg0
  z0 := Tryd.sizeOf0
  v0 := Tryd.zeroValue0
  t3 := Tryd.underlying3
  a3 := Tryd.isAgg3
  z3 := Tryd.sizeOf3
  v3 := Tryd.zeroValue3
  t9 := Tryd.underlying9
  a9 := Tryd.isAgg9
  z9 := Tryd.sizeOf9
  v9 := Tryd.zeroValue9
  t37 := Tryd.underlying159
  a37 := Tryd.isAgg159
  z37 := Tryd.sizeOf159
  v37 := Tryd.zeroValue159
  t70 := Tryd.underlying158
  a70 := Tryd.isAgg158
  z70 := Tryd.sizeOf158
  v70 := Tryd.zeroValue158
  t72 := Tryd.underlying161
  a72 := Tryd.isAgg161
  z72 := Tryd.sizeOf161
  v72 := Tryd.zeroValue161
  t127 := Tryd.underlying198
  a127 := Tryd.isAgg198
  z127 := Tryd.sizeOf198
  v127 := Tryd.zeroValue198 }

theorem shelf_X_Builder_Extra_169 : Builder.Extra Tryd.prog shelf_169_ren where
  sizeBuilder := by kernel_rfl
  liesBuilder := by kernel_rfl
  t5 := Tryd.underlying5
  a5 := Tryd.isAgg5
  z5 := Tryd.sizeOf5
  v5 := Tryd.zeroValue5
  infoByte := by kernel_rfl
  cellsByte := by kernel_rfl
  sizeByte := by kernel_rfl
  neB5 := by decide

theorem FormatInt_10 (a0 a1 : Int) (w : World) (hG : Glob w) (s0 : -9223372036854775808 ≤ a0 ∧ a0 ≤ 9223372036854775807) (s1 : a1 = 10) :
    Calls Tryd.prog 108 #[.int .i64 a0, .int .i64 a1] w fun e w' => e = .returned (.string (bs (Go.Lib.itoa a0))) ∧ Below w.heap.size w w' := by
  subst s1
  refine (show Calls Tryd.prog 108 #[.int .i64 a0, .int .i64 10] w _ from Any.strconv_FormatInt_10 shelf_M173 a0 s0.1 s0.2 w hG).mono ?_
  rintro e w' ⟨rfl, k, os, rfl⟩
  exact ⟨rfl, grow_below _ _ _⟩

theorem map_bs (xs : List (List UInt8)) : (xs.map bs).map (fun x : ByteArray => x.data.toList) = xs := by
  rw [List.map_map]
  exact (List.map_congr_left fun x _ => by simp [bs]).trans (List.map_id xs)

theorem Join_Str (A : Option Addr) (c : Nat) (a0 : List (List UInt8)) (a1 : List UInt8) (w : World) (h0 : Sl eTxt w (Old w) A c a0) (s0 : a0.length ≤ 1000000000) (s1 : (Go.Lib.join a0 a1).length ≤ 1000000000) :
    Calls Tryd.prog 61 #[.slice A a0.length c, .string (bs a1)] w fun e w' => e = .returned (.string (bs (Go.Lib.join a0 a1))) ∧ Below w.heap.size w w' := by
  by_cases hx : a0 = []
  · subst hx
    refine (show Calls Tryd.prog 61 #[.slice A 0 c, .string (bs a1)] w _ from Any.strings_Join_none shelf_156 shelf_X_Builder_Extra_156 A c (bs a1) w).mono ?_
    rintro e w' ⟨rfl, rfl⟩
    exact ⟨rfl, Below.refl _ _⟩
  · obtain ⟨b, off, rfl, hb, hc⟩ := h0.2.2 hx
    have hl : a0.length = (a0.map bs).length := (List.length_map _).symm
    have hj : Go.Lib.join ((a0.map bs).map (·.data.toList)) (bs a1).data.toList = Go.Lib.join a0 a1 := by rw [map_bs]
    rw [hl]
    refine (show Calls Tryd.prog 61 #[.slice (some ⟨b, off, none⟩) (a0.map bs).length c, .string (bs a1)] w _ from Any.strings_Join shelf_156 shelf_X_Builder_Extra_156 b off c (a0.map bs) (bs a1) w ?_ hb (by rw [← hl]; omega) (by rw [← hl]; exact h0.1) (by rw [hj]; omega)).mono ?_
    · intro j x hjx
      rw [List.getElem?_map, Option.map_eq_some_iff] at hjx
      obtain ⟨y, hy, rfl⟩ := hjx
      obtain ⟨es, ⟨rfl, _⟩, h2⟩ := hc j y hy
      have := h2 0 _ rfl
      rwa [show off + j * eTxt.size + 0 = off + j from by simp [eTxt]] at this
    · rintro e w' ⟨rfl, h2⟩
      rw [hj]
      exact ⟨rfl, h2⟩

theorem Builder_WriteRune {w0 w : World} {b : Nat} {S : Nat → Prop} {l : List UInt8} (a1 : Int) (h : Held Nob w0 [rBld w0 b S l] w) (hr : 0 ≤ a1 ∧ a1 < 128) (hl : l.length ≤ 1000000000) :
    Calls Tryd.prog 134 #[.pointer (some ⟨b, 0, none⟩), .int .i32 a1] w fun e w' => (∃ v, e = .returned v) ∧ ∃ S', Held Nob w0 [rBld w0 b S' (l ++ [UInt8.ofNat a1.toNat])] w' := by
  refine (show Calls Tryd.prog 134 #[.pointer (some ⟨b, 0, none⟩), .int .i32 a1] w _ from Any.Builder_WriteRune_k shelf_168 shelf_X_Builder_Extra_168 w0.heap.size b (Lib.byteCells l) a1 (by omega) (by omega) w h.isBld (by rw [byteCells_len]; omega) h.size).mono ?_
  rintro e w' ⟨rfl, h1, h2, _⟩
  refine ⟨⟨_, rfl⟩, h.bldCall h2 ?_⟩
  rw [byteCells_app, ← runeCells_ascii hr.1 hr.2]
  exact .inr h1

theorem Builder_WriteByte {w0 w : World} {b : Nat} {S : Nat → Prop} {l : List UInt8} (a1 : Int) (h : Held Nob w0 [rBld w0 b S l] w) (hr : 0 ≤ a1 ∧ a1 < 256) (hl : l.length ≤ 1000000000) :
    Calls Tryd.prog 146 #[.pointer (some ⟨b, 0, none⟩), .int .u8 a1] w fun e w' => (∃ v, e = .returned v) ∧ ∃ S', Held Nob w0 [rBld w0 b S' (l ++ [UInt8.ofNat a1.toNat])] w' := by
  refine (show Calls Tryd.prog 146 #[.pointer (some ⟨b, 0, none⟩), .int .u8 a1] w _ from Any.Builder_WriteByte_k shelf_167 shelf_X_Builder_Extra_167 w0.heap.size b (Lib.byteCells l) a1 w h.isBld (by rw [byteCells_len]; omega) h.size).mono ?_
  rintro e w' ⟨rfl, h1, h2, _⟩
  refine ⟨⟨_, rfl⟩, h.bldCall h2 ?_⟩
  rw [byteCells_app, show Lib.byteCells [UInt8.ofNat a1.toNat] = [.int .u8 a1] from by simp [Lib.byteCells]; omega]
  exact .inr h1

theorem Builder_String {w0 w : World} {b : Nat} {S : Nat → Prop} {l : List UInt8} (h : Held Nob w0 [rBld w0 b S l] w) (hl : l.length ≤ 1000000000) :
    Calls Tryd.prog 111 #[.pointer (some ⟨b, 0, none⟩)] w fun e w' => e = .returned (.string (bs l)) ∧ ∃ S', Held Nob w0 [rBld w0 b S' l] w' := by
  refine (show Calls Tryd.prog 111 #[.pointer (some ⟨b, 0, none⟩)] w _ from Any.Builder_String_any_k shelf_169 shelf_X_Builder_Extra_169 w0.heap.size b l w h.isBld h.size).mono ?_
  rintro e w' ⟨rfl, h1, h2, _⟩
  exact ⟨rfl, h.bldCall h2 h1⟩

/-- The decimal digits of a number, the last one first, as bytes; none for 0. -/
def lowD (n : Nat) : List Int := if h : n = 0 then [] else (48 + (n % 10 : Nat) : Int) :: lowD (n / 10)
termination_by n
decreasing_by omega

theorem lowD_zero : lowD 0 = [] := by rw [lowD, dif_pos rfl]

theorem lowD_pos {n : Nat} (h : 0 < n) : lowD n = (48 + (n % 10 : Nat) : Int) :: lowD (n / 10) := by rw [lowD, dif_neg (by omega)]

theorem bytesOf_app (a b : List Int) : Go.Lib.bytesOf (a ++ b) = Go.Lib.bytesOf a ++ Go.Lib.bytesOf b := by simp [Go.Lib.bytesOf]

theorem bytesOf_one (a : Nat) : Go.Lib.bytesOf [(48 + (a : Nat) : Int)] = [UInt8.ofNat (48 + a)] := by
  simp only [Go.Lib.bytesOf, List.map_cons, List.map_nil]
  rw [show (48 + (a : Int)).toNat = 48 + a from by omega]

theorem lowD_dec (n : Nat) (h : 0 < n) : Go.Lib.bytesOf (lowD n).reverse = Go.Lib.decDigits n := by
  induction n using Nat.strongRecOn with
  | _ n ih =>
    rw [lowD_pos h, List.reverse_cons, bytesOf_app, bytesOf_one, Go.Lib.decDigits]
    by_cases h1 : n < 10
    · rw [dif_pos h1, show n / 10 = 0 from by omega, lowD_zero, Nat.mod_eq_of_lt h1]; rfl
    · rw [dif_neg h1, ih (n / 10) (by omega) (by omega)]

theorem nDigits_le (k : Nat) : ∀ n : Nat, n < 10 ^ (k + 1) → Go.Lib.nDigits n ≤ k + 1 := by
  induction k with
  | zero => intro n h; rw [Go.Lib.nDigits_small (by simpa using h)]; omega
  | succ k ih =>
    intro n h
    by_cases h1 : n < 10
    · rw [Go.Lib.nDigits_small h1]; omega
    · rw [Go.Lib.nDigits_big h1]; have := ih (n / 10) (by rw [Nat.pow_succ] at h; omega); omega

theorem itoa_len {n : Int} (h : -9223372036854775808 ≤ n ∧ n ≤ 9223372036854775807) : 1 ≤ (Go.Lib.itoa n).length ∧ (Go.Lib.itoa n).length ≤ 20 := by
  unfold Go.Lib.itoa
  split
  · have h1 := nDigits_le 18 n.natAbs (by omega)
    have h2 := Go.Lib.nDigits_pos n.natAbs
    rw [List.length_cons, Go.Lib.decDigits_length]; omega
  · have h1 := nDigits_le 18 n.toNat (by omega)
    have h2 := Go.Lib.nDigits_pos n.toNat
    rw [Go.Lib.decDigits_length]; omega

theorem itoa_low {n : Int} (h : 0 < n) : Go.Lib.itoa n = Go.Lib.bytesOf (lowD n.toNat).reverse := by
  rw [lowD_dec _ (by omega)]; unfold Go.Lib.itoa; rw [if_neg (by omega)]

theorem join_len (B : Nat) (sep : List UInt8) : ∀ xs : List (List UInt8), (∀ x ∈ xs, x.length ≤ B) → (Go.Lib.join xs sep).length ≤ xs.length * (B + sep.length)
  | [], _ => by simp [Go.Lib.join_nil]
  | x :: r, h => by
    have h1 := h x (by simp)
    have h2 : Go.Lib.lens r ≤ r.length * B := by
      have h3 : ∀ y ∈ r, y.length ≤ B := fun y hy => h y (by simp [hy])
      clear h
      induction r with
      | nil => simp [Go.Lib.lens]
      | cons y r ih =>
        have h4 := ih fun z hz => h3 z (by simp [hz])
        have h5 := h3 y (by simp)
        simp only [Go.Lib.lens, List.map_cons, List.sum_cons, List.length_cons, Nat.succ_mul] at h4 ⊢
        omega
    rw [Go.Lib.join_length, List.length_cons, Nat.succ_mul]
    simp only [Go.Lib.lens, List.map_cons, List.sum_cons] at h2 ⊢
    have h6 : sep.length * r.length = r.length * sep.length := Nat.mul_comm _ _
    have h7 : r.length * (B + sep.length) = r.length * B + r.length * sep.length := Nat.mul_add _ _ _
    omega

theorem drop_revI {α : Type} {l : List α} {k : Nat} (h0 : 0 < k) (h1 : k ≤ l.length) : (l.drop (k - 1)).reverse = (l.drop k).reverse ++ [l[k - 1]] := by
  rw [List.drop_eq_getElem_cons (by omega : k - 1 < l.length), List.reverse_cons, show k - 1 + 1 = k from by omega]

/-- Numbers in decimal, with something between them. -/
def decs (l : List Int) (b : List UInt8) : List UInt8 := Go.Lib.join (l.map Go.Lib.itoa) b

theorem Sl.i64 {w : World} {S : Nat → Prop} {A : Option Addr} {c : Nat} {xs : List Int} (h : Sl eInt w S A c xs) : ∀ x ∈ xs, -9223372036854775808 ≤ x ∧ x ≤ 9223372036854775807 := by
  intro x hx
  obtain ⟨i, hi⟩ := List.mem_iff_getElem?.1 hx
  obtain ⟨b, off, _, _, hc⟩ := h.2.2 (fun e => by rw [e] at hx; cases hx)
  obtain ⟨es, ⟨_, h1⟩, _⟩ := hc i x hi
  exact h1

theorem map_itoa_len {l : List Int} (h : ∀ x ∈ l, -9223372036854775808 ≤ x ∧ x ≤ 9223372036854775807) : ∀ y ∈ l.map Go.Lib.itoa, y.length ≤ 20 := by
  intro y hy
  obtain ⟨x, hx, rfl⟩ := List.mem_map.1 hy
  exact (itoa_len (h x hx)).2

theorem decs_len {l : List Int} {b : List UInt8} (h : ∀ x ∈ l, -9223372036854775808 ≤ x ∧ x ≤ 9223372036854775807) (hb : b.length ≤ 10) : (decs l b).length ≤ 30 * l.length := by
  have h1 := join_len 20 b (l.map Go.Lib.itoa) (map_itoa_len h)
  rw [List.length_map] at h1
  have h2 : l.length * (20 + b.length) ≤ l.length * 30 := Nat.mul_le_mul_left _ (by omega)
  unfold decs
  omega

/-- Letters as digits. -/
def digT (l : List Int) : List UInt8 := l.map fun x => UInt8.ofNat (48 + x).toNat

theorem digT_len (l : List Int) : (digT l).length = l.length := by simp [digT]

theorem join_take_len {α : Type} {f : α → List UInt8} {l : List α} {sep : List UInt8} {B : Nat} (h : ∀ x ∈ l, (f x).length + sep.length ≤ B) (k : Nat) : (Go.Lib.join ((l.take k).map f) sep).length ≤ B * l.length := by
  by_cases hn : l = []
  · subst hn; simp [Go.Lib.join_nil]
  · obtain ⟨x0, hx0⟩ := List.exists_mem_of_ne_nil l hn
    have hs := h x0 hx0
    have h1 := join_len (B - sep.length) sep ((l.take k).map f) (by
      intro y hy
      obtain ⟨x, hx, rfl⟩ := List.mem_map.1 hy
      have := h x (List.mem_of_mem_take hx)
      omega)
    rw [List.length_map, List.length_take, show B - sep.length + sep.length = B from by omega] at h1
    have h2 : min k l.length * B ≤ l.length * B := Nat.mul_le_mul_right _ (by omega)
    rw [Nat.mul_comm B]
    omega

theorem decs_take_len {l : List Int} {b : List UInt8} (h : ∀ x ∈ l, -9223372036854775808 ≤ x ∧ x ≤ 9223372036854775807) (hb : b.length ≤ 10) (k : Nat) : (Go.Lib.join ((l.take k).map Go.Lib.itoa) b).length ≤ 30 * l.length :=
  join_take_len (fun x hx => by have := itoa_len (h x hx); omega) k

set_option maxRecDepth 100000 in
set_option maxHeartbeats 4000000 in
theorem impl_Decimal (a0 : Int) (w : World) (hG : Glob w) (s0 : -9223372036854775808 ≤ a0 ∧ a0 ≤ 9223372036854775807) :
    Calls Tryd.prog 60 #[.int .i64 a0] w fun e w' => e = .returned (.string (bs (Go.Lib.itoa a0))) ∧ Below w.heap.size w w' := by
  have HH1 := Held.start Nob w
  refine enter (n := 5) Tryd.func60 rfl rfl rfl fun a_2 HE3 => ?_
  refine wp_seq ?_
  refine rg ?_
  refine pl_x HE3 HH1 (wt0 rfl) (x_assign rfl) rfl rfl fun a_4 HE5 => ?_
  refine wpList_nil ?_
  clear a_2 HE3
  refine nrm ?_
  refine wp_seq ?_
  refine rg ?_
  refine pl_x HE5 HH1 (wt0 rfl) (x_move rfl) rfl rfl fun a_6 HE7 => ?_
  refine pl fun K_8 hK9 => ?_
  refine st_call HE7 (wt0 rfl) rfl rfl rfl en_108 rfl rfl (FormatInt_10 a0 10 _ (HH1.glob hG) (by omega) (by rfl)) fun e w' hr => ?_
  have hAr21_0 := itoa_len (n := a0) (by omega)
  obtain ⟨rfl, hbr21⟩ := hr
  have HH10 := HH1.on hbr21
  refine ⟨_, rfl, fun a_11 HE12 => hK9 _ _ ?_⟩
  refine pl_x HE12 HH10 (wt0 rfl) (x_assign rfl) rfl rfl fun a_13 HE14 => ?_
  refine wpList_nil ?_
  clear a_4 HE5 HH1 a_6 HE7 a_11 HE12 hK9 K_8
  refine nrm ?_
  refine wp_ret ?_
  refine ret1 HE14 rfl (rv_tmp rfl) ?_
  have hF : (Go.Lib.itoa a0) = (Go.Lib.itoa a0) := by
    first | rfl | (simp [Go.Lib.itoa]; done) | (simp [Go.Lib.itoa]; omega) | grind [Go.Lib.itoa]
  exact ⟨by first | (rw [hF] <;> rfl) | rfl | (rw [hF]; simp only [Ending.returned.injEq, Value.slice.injEq, true_and, and_true]; first | omega | (simp; done)) | (rw [hF]; simp; omega), HH10.below⟩

set_option maxRecDepth 100000 in
set_option maxHeartbeats 4000000 in
theorem spec_l01Dec (a0 : Int) (w : World) (s0 : 0 ≤ a0 ∧ a0 ≤ 100000000000000) :
    Calls Tryd.prog 103 #[.int .i64 a0] w fun e w' => e = .returned (.string (bs (Go.Lib.itoa a0))) ∧ Below w.heap.size w w' := by
  have HH1 := Held.start Nob w
  refine enter (n := 50) Tryd.func103 rfl rfl rfl fun a_2 HE3 => ?_
  refine wp_seq ?_
  refine rg ?_
  refine pl_x HE3 HH1 (wt0 rfl) (x_assign rfl) rfl rfl fun a_4 HE5 => ?_
  refine wpList_nil ?_
  clear a_2 HE3
  refine nrm ?_
  refine wp_seq ?_
  refine wp_seq ?_
  refine rg ?_
  refine pl_x HE5 HH1 (wt0 rfl) (x_move rfl) rfl rfl fun a_6 HE7 => ?_
  refine pl_x HE7 HH1 (wt0 rfl) (x_eql rfl rfl) rfl rfl fun a_8 HE9 => ?_
  refine wpList_nil ?_
  clear a_4 HE5 a_6 HE7
  refine nrm ?_
  refine cnd_e HE9 rfl (fun hc21 => ?_) (fun hc21 => ?_)
  · refine wp_seq ?_
    refine rg ?_
    refine pl_x HE9 HH1 (wt0 rfl) (x_assign rfl) rfl rfl fun a_10 HE11 => ?_
    refine wpList_nil ?_
    clear a_8 HE9
    refine nrm ?_
    refine wp_ret ?_
    refine (thn_ret ?_)
    refine ret1 HE11 rfl (rv_tmp rfl) ?_
    have hF : (Go.Lib.itoa a0) = [48] := by
      first | (rw [show a0 = 0 from by omega]; simp [Go.Lib.itoa, Go.Lib.decDigits]; done) | (rw [itoa_low (by omega), ‹lowD a0.toNat = _›, show u = 0 from by omega, lowD_zero, List.append_nil, show k = 0 from by omega, List.drop_zero])
    exact ⟨by first | (rw [hF] <;> rfl) | rfl | (rw [hF]; simp only [Ending.returned.injEq, Value.slice.injEq, true_and, and_true]; first | omega | (simp; done)) | (rw [hF]; simp; omega), HH1.below⟩
  · refine wp_skip ?_
    refine nrm ?_
    refine wp_seq ?_
    refine rg ?_
    refine pl fun K_12 hK13 => ?_
    refine st_lit (m := 0) (cs := []) (e := 5) HE9 HH1 (run_lit ts_159 HE9 (vs := []) rfl rfl (by simp [Value.cells]) rfl (by decide)) (wt0 rfl) rfl rfl fun q22 a_14 w' HE15 HH16 => hK13 _ _ ?_
    refine pl_x HE15 HH16 (wt0 rfl) (x_assign rfl) rfl rfl fun a_17 HE18 => ?_
    refine wpList_nil ?_
    clear a_8 HE9 HH1 a_14 HE15 hK13 K_12
    refine nrm ?_
    refine wp_seq ?_
    refine wp_seq ?_
    refine rg ?_
    refine pl_x HE18 HH16 (wt0 rfl) (x_move rfl) rfl rfl fun a_19 HE20 => ?_
    refine pl_x HE20 HH16 (wt0 rfl) (x_assign rfl) rfl rfl fun a_21 HE22 => ?_
    refine wpList_nil ?_
    clear a_17 HE18 a_19 HE20
    refine nrm ?_
    refine wp_block ?_
    have HH23 := Held.vecFlat (E := eByte) (xs := []) (css := []) HH16 rfl (Nat.zero_le _) (fun i x hx => by simp at hx)
    refine lp (fun m a w' => ∃ (u : Nat) (l : List Int) (A_3 : Option Addr) (c_3 : Nat) (S_3 : Nat → Prop), m = 0 + u ∧ Env 50 [(3, .slice A_3 (List.length l) c_3), (4, .int .i64 (u : Int)), (0, .int .i64 (a0))] a ∧ Held Nob w [rVec eByte 5 S_3 A_3 c_3 l] w' ∧ (lowD a0.toNat = l ++ lowD u) ∧ (l.length + u ≤ a0.toNat)) (0 + (a0.toNat)) ?_ ?_
    · have E23 : ([]) = ([] : List Int) := by
        first | rfl | simp
      exact ⟨a0.toNat, [], (some ⟨q22, 0, none⟩), (List.length (α := Int) []), (fun b => b = q22), rfl, HE22.sub ⟨(by rw [E23]; rfl), (lkI rfl (by omega)), rfl, trivial⟩, ((HH23.sel [0] (by decide) rfl).to (by first | rfl | (rw [E23]; done) | (rw [E23]; rfl) | (simp only [E23]; done) | (simp only [E23]; rfl))), (by rfl), (by first | omega | assumption | (simp; done) | simp_all)⟩
    · rintro m a_24 w' ⟨u, l, A_3, c_3, S_3, rfl, HE25, HH26, p24_0, p24_1⟩
      refine wp_seq ?_
      refine wp_seq ?_
      refine rg ?_
      refine pl_x HE25 HH26 (wt0 rfl) (x_move rfl) rfl rfl fun a_27 HE28 => ?_
      refine pl_x HE28 HH26 (wt0 rfl) (x_neq rfl rfl) rfl rfl fun a_29 HE30 => ?_
      refine wpList_nil ?_
      clear HH16 a_21 HE22 HH23 a_24 HE25 a_27 HE28
      refine nrm ?_
      refine cnd_ne HE30 rfl (fun hc25 => ?_) (fun hc25 => ?_)
      · refine wp_skip ?_
        refine nrm ?_
        refine wp_seq ?_
        refine wp_block ?_
        refine wp_seq ?_
        refine rg ?_
        refine pl_x HE30 HH26 (wt0 rfl) (x_move rfl) rfl rfl fun a_31 HE32 => ?_
        refine pl_x HE32 HH26 (wt0 rfl) (x_rem rfl rfl (by omega) (by omega)) rfl rfl fun a_33 HE34 => ?_
        refine pl_x HE34 HH26 (wt0 rfl) (x_assign rfl) rfl rfl fun a_35 HE36 => ?_
        refine wpList_nil ?_
        clear a_29 HE30 a_31 HE32 a_33 HE34
        refine nrm ?_
        refine wp_seq ?_
        refine wp_seq ?_
        refine rg ?_
        refine pl_x HE36 HH26 (wt0 rfl) (x_move rfl) rfl rfl fun a_37 HE38 => ?_
        refine pl_x HE38 HH26 (wt0 rfl) (x_lss rfl rfl) rfl rfl fun a_39 HE40 => ?_
        refine wpList_nil ?_
        clear a_35 HE36 a_37 HE38
        refine nrm ?_
        refine cnd_d HE40 rfl (fun hc26 => ?_) (fun hc26 => ?_)
        · exfalso; omega
        · refine wp_skip ?_
          refine nrm ?_
          refine rg ?_
          refine pl_x HE40 HH26 (wt0 rfl) (x_move rfl) rfl rfl fun a_41 HE42 => ?_
          refine pl_x HE42 HH26 (wt0 rfl) (x_move rfl) rfl rfl fun a_43 HE44 => ?_
          refine pl_x HE44 HH26 (wt0 rfl) (x_add rfl rfl (by exact ⟨by omega, by omega⟩)) rfl rfl fun a_45 HE46 => ?_
          refine pl_x HE46 HH26 (wt0 rfl) (x_conv8 Tryd.underlying2 Tryd.underlying5 rfl (by constructor <;> omega)) rfl rfl fun a_47 HE48 => ?_
          refine pl fun K_49 hK50 => ?_
          refine st_lit (m := 1) (cs := [.int .u8 ((48 + ((u : Int) % 10)))]) (e := 5) HE48 HH26 (run_lit ts_159 HE48 (vs := [.int .u8 ((48 + ((u : Int) % 10)))]) rfl rfl (by simp [Value.cells]) rfl (by decide)) (wt0 rfl) rfl rfl fun q27 a_51 w' HE52 HH53 => hK50 _ _ ?_
          refine pl fun K_54 hK55 => ?_
          refine st_app1F (48 + ((u : Int) % 10)) HE52 HH53 ts_159 [1, 0] (by decide) rfl (fun _ => (oY (by constructor <;> omega))) rfl rfl (by simp [Value.oneCell']) (by unfold maxLen; first | omega | (simp; done) | (simp; omega)) (by first | omega | (simp; done) | (simp; omega)) (wt0 rfl) rfl fun A28 c29 S30 a_56 w' HE57 HH58 => hK55 _ _ ?_
          refine pl_x HE57 HH58 (wt0 rfl) (x_assign rfl) rfl rfl fun a_59 HE60 => ?_
          refine wpList_nil ?_
          clear a_39 HE40 a_41 HE42 a_43 HE44 a_45 HE46 a_47 HE48 HH26 K_49 hK50 a_51 HE52 HH53 a_56 HE57 hK55 K_54
          refine blk_n ?_
          refine nrm ?_
          refine rg ?_
          refine pl_x HE60 HH58 (wt0 rfl) (x_move rfl) rfl rfl fun a_61 HE62 => ?_
          refine pl_x HE62 HH58 (wt0 rfl) (x_quo rfl rfl (by omega) (by omega) (by omega)) rfl rfl fun a_63 HE64 => ?_
          refine pl_x HE64 HH58 (wt0 rfl) (x_assign rfl) rfl rfl fun a_65 HE66 => ?_
          refine wpList_nil ?_
          clear a_59 HE60 a_61 HE62 a_63 HE64
          have E31 : ((l ++ [(48 + ((u : Int) % 10))])) = (l ++ [(48 + ((u : Int) % 10))]) := by
            first | rfl | simp
          exact nrm ⟨0 + (u / 10), (by omega), u / 10, (l ++ [(48 + ((u : Int) % 10))]), A28, c29, S30, rfl, HE66.sub ⟨(by rw [E31]; rfl), (lkI rfl (by omega)), rfl, trivial⟩, ((HH58.sel [0] (by decide) rfl).to (by first | rfl | (rw [E31]; done) | (rw [E31]; rfl) | (simp only [E31]; done) | (simp only [E31]; rfl))), (by rw [p24_0, lowD_pos (by omega)]; simp), (by simp; omega)⟩
      · refine wp_exit ?_
        refine (thn_exit (thn_exit (blk_hit ?_)))
        refine nrm ?_
        refine wp_seq ?_
        refine wp_seq ?_
        refine rg ?_
        refine pl_x HE30 HH26 (wt0 rfl) (x_move rfl) rfl rfl fun a_67 HE68 => ?_
        refine pl_x HE68 HH26 (wt0 rfl) (x_lss rfl rfl) rfl rfl fun a_69 HE70 => ?_
        refine wpList_nil ?_
        clear a_29 HE30 a_67 HE68
        refine nrm ?_
        refine cnd_d HE70 rfl (fun hc32 => ?_) (fun hc32 => ?_)
        · exfalso; omega
        · refine wp_skip ?_
          refine nrm ?_
          refine wp_seq ?_
          refine rg ?_
          refine pl fun K_71 hK72 => ?_
          refine st_lit (m := 0) (cs := []) (e := 5) HE70 HH26 (run_lit ts_159 HE70 (vs := []) rfl rfl (by simp [Value.cells]) rfl (by decide)) (wt0 rfl) rfl rfl fun q33 a_73 w' HE74 HH75 => hK72 _ _ ?_
          refine pl_x HE74 HH75 (wt0 rfl) (x_assign rfl) rfl rfl fun a_76 HE77 => ?_
          refine wpList_nil ?_
          clear a_69 HE70 HH26 a_73 HE74 hK72 K_71
          refine nrm ?_
          refine wp_seq ?_
          refine wp_seq ?_
          refine rg ?_
          refine pl_x HE77 HH75 (wt0 rfl) (x_move rfl) rfl rfl fun a_78 HE79 => ?_
          refine pl_x HE79 HH75 (wt0 rfl) (x_len Tryd.underlying159 rfl) rfl rfl fun a_80 HE81 => ?_
          refine pl_x HE81 HH75 (wt0 rfl) (x_sub rfl rfl (by exact ⟨by omega, by omega⟩)) rfl rfl fun a_82 HE83 => ?_
          refine pl_x HE83 HH75 (wt0 rfl) (x_assign rfl) rfl rfl fun a_84 HE85 => ?_
          refine wpList_nil ?_
          clear a_76 HE77 a_78 HE79 a_80 HE81 a_82 HE83
          refine nrm ?_
          refine wp_block ?_
          have HH86 := Held.vecFlat (E := eByte) (xs := []) (css := []) HH75 rfl (Nat.zero_le _) (fun i x hx => by simp at hx)
          have HH87 := HH86.sel [1, 0] (by decide) rfl
          have HH88 := HH87.vecSo
          refine lp (fun m a w' => ∃ (k : Nat) (A_6 : Option Addr) (c_6 : Nat) (S_6 : Nat → Prop), m = 0 + k ∧ Env 50 [(6, .slice A_6 (List.length ((l.drop k).reverse)) c_6), (7, .int .i64 ((k : Int) - 1)), (3, .slice A_3 ((List.length l)) c_3)] a ∧ Held Nob w [rVec eByte 5 S_6 A_6 c_6 ((l.drop k).reverse), rSo eByte S_3 A_3 c_3 l] w' ∧ (k ≤ l.length)) (0 + (l.length)) ?_ ?_
          · have E34 : (l.drop (l.length)).reverse = ([] : List Int) := by
              simp
            exact ⟨l.length, (some ⟨q33, 0, none⟩), (List.length (α := Int) []), (fun b => b = q33), rfl, HE85.sub ⟨(by rw [E34]; rfl), (lkI rfl (by first | rfl | omega | (simp [hc21, p24_0, p24_1, hc25, hc32]; done))), rfl, trivial⟩, ((HH88.sel [1, 0] (by decide) rfl).to (by first | rfl | (rw [E34]; done) | (rw [E34]; rfl) | (simp only [E34]; done) | (simp only [E34]; rfl))), (by first | omega | assumption | (simp; done) | simp_all)⟩
          · rintro m a_89 w' ⟨k, A_6, c_6, S_6, rfl, HE90, HH91, p35_0⟩
            have ol : (l.drop k).reverse.length ≤ l.length := by simp
            refine wp_seq ?_
            refine wp_seq ?_
            refine rg ?_
            refine pl_x HE90 HH91 (wt0 rfl) (x_move rfl) rfl rfl fun a_92 HE93 => ?_
            refine pl_x HE93 HH91 (wt0 rfl) (x_geq rfl rfl) rfl rfl fun a_94 HE95 => ?_
            refine wpList_nil ?_
            clear HH75 HH86 HH87 a_84 HE85 HH88 a_89 HE90 a_92 HE93
            refine nrm ?_
            refine cnd_d HE95 rfl (fun hc36 => ?_) (fun hc36 => ?_)
            · refine wp_skip ?_
              refine nrm ?_
              refine wp_seq ?_
              refine wp_block ?_
              refine rg ?_
              refine pl_x HE95 HH91 (wt0 rfl) (x_move rfl) rfl rfl fun a_96 HE97 => ?_
              refine pl_x HE97 HH91 (wt0 rfl) (x_move rfl) rfl rfl fun a_98 HE99 => ?_
              refine pl_x HE99 HH91 (wt0 rfl) (x_move rfl) rfl rfl fun a_100 HE101 => ?_
              have ke37 : (k - 1) < (List.length l) := by omega
              obtain ⟨be37, fe37, rfl⟩ := el_own HH91 (i := 1) rfl ke37
              refine pl_x HE101 HH91 (wt0 rfl) (x_indexAddr ts_159 rfl rfl rfl (by omega) ke37) rfl rfl fun a_102 HE103 => ?_
              obtain ⟨y38, xy38⟩ : ∃ y_, y_ = l[(k - 1)]'(by first | exact ke37 | (simp only [List.length_set]; exact ke37) | omega | (simp only [List.length_set]; omega) | (simp; omega)) := ⟨_, rfl⟩
              have jy38 : 0 ≤ y38 ∧ y38 ≤ 255 := by rw [xy38]; exact i_ownY HH91 1 rfl _
              refine pl_x HE103 HH91 (wt0 rfl) (x_load1 tv_5 rfl (c_ownY 1 rfl (by first | exact ke37 | (simp only [List.length_set]; exact ke37) | omega | (simp only [List.length_set]; omega) | (simp; omega)) xy38.symm)) rfl rfl fun a_104 HE105 => ?_
              refine pl fun K_106 hK107 => ?_
              refine st_lit (m := 1) (cs := [.int .u8 (y38)]) (e := 5) HE105 HH91 (run_lit ts_159 HE105 (vs := [.int .u8 (y38)]) rfl rfl (by simp [Value.cells]) rfl (by decide)) (wt0 rfl) rfl rfl fun q39 a_108 w' HE109 HH110 => hK107 _ _ ?_
              refine pl fun K_111 hK112 => ?_
              refine st_app1F y38 HE109 HH110 ts_159 [1, 0, 2] (by decide) rfl (fun _ => (oY (by constructor <;> omega))) rfl rfl (by simp [Value.oneCell']) (by unfold maxLen; first | omega | (simp; done) | (simp; omega)) (by first | omega | (simp; done) | (simp; omega)) (wt0 rfl) rfl fun A40 c41 S42 a_113 w' HE114 HH115 => hK112 _ _ ?_
              refine pl_x HE114 HH115 (wt0 rfl) (x_assign rfl) rfl rfl fun a_116 HE117 => ?_
              refine wpList_nil ?_
              clear a_94 HE95 a_96 HE97 a_98 HE99 a_100 HE101 a_102 HE103 a_104 HE105 HH91 K_106 hK107 a_108 HE109 HH110 a_113 HE114 hK112 K_111
              refine blk_n ?_
              refine nrm ?_
              refine rg ?_
              refine pl_x HE117 HH115 (wt0 rfl) (x_move rfl) rfl rfl fun a_118 HE119 => ?_
              refine pl_x HE119 HH115 (wt0 rfl) (x_sub rfl rfl (by exact ⟨by omega, by omega⟩)) rfl rfl fun a_120 HE121 => ?_
              refine pl_x HE121 HH115 (wt0 rfl) (x_assign rfl) rfl rfl fun a_122 HE123 => ?_
              refine wpList_nil ?_
              clear a_116 HE117 a_118 HE119 a_120 HE121
              have E43 : (l.drop ((k - 1))).reverse = ((l.drop k).reverse ++ [y38]) := by
                rw [drop_revI (by omega) (by omega), ← xy38]
              exact nrm ⟨0 + ((k - 1)), (by omega), (k - 1), A40, c41, S42, rfl, HE123.sub ⟨(by rw [E43]; rfl), (lkI rfl (by omega)), rfl, trivial⟩, ((HH115.sel [0, 1] (by decide) rfl).to (by first | rfl | (rw [E43]; done) | (rw [E43]; rfl) | (simp only [E43]; done) | (simp only [E43]; rfl))), (by first | omega | assumption | (simp; done) | simp_all)⟩
            · refine wp_exit ?_
              refine (thn_exit (thn_exit (blk_hit ?_)))
              refine nrm ?_
              refine wp_seq ?_
              refine rg ?_
              refine pl_x HE95 HH91 (wt0 rfl) (x_move rfl) rfl rfl fun a_124 HE125 => ?_
              refine pl_x HE125 HH91 (wt0 rfl) (x_bytes (xs := (l.drop k).reverse) Tryd.underlying159 Tryd.underlying5 Tryd.underlying9 rfl (fun _ h_ => (h_.vecSl (i := 0) rfl))) rfl rfl fun a_126 HE127 => ?_
              refine pl_x HE127 HH91 (wt0 rfl) (x_assign rfl) rfl rfl fun a_128 HE129 => ?_
              refine wpList_nil ?_
              clear a_94 HE95 a_124 HE125 a_126 HE127
              refine nrm ?_
              refine wp_ret ?_
              refine ret1 HE129 rfl (rv_tmp rfl) ?_
              have hF : (Go.Lib.itoa a0) = (Go.Lib.bytesOf ((l.drop k).reverse)) := by
                first | (rw [show a0 = 0 from by omega]; simp [Go.Lib.itoa, Go.Lib.decDigits]; done) | (rw [itoa_low (by omega), ‹lowD a0.toNat = _›, show u = 0 from by omega, lowD_zero, List.append_nil, show k = 0 from by omega, List.drop_zero])
              exact ⟨by first | (rw [hF] <;> rfl) | rfl | (rw [hF]; simp only [Ending.returned.injEq, Value.slice.injEq, true_and, and_true]; first | omega | (simp; done)) | (rw [hF]; simp; omega), HH91.below⟩

end Go.Proofs.YtjnnkmflpbildaaDoor
