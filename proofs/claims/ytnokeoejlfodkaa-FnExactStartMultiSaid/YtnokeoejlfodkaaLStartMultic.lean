/- What the proof of FnExactStartMulti needs: contracts of the functions that it reaches, each once. -/
import Derived.Test.YtnokeoejlfodkaaProg
import Derived.Test.YtnokeoejlfodkaaQMem
import Derived.Test.YtnokeoejlfodkaaQOpen
import Derived.Test.YtnokeoejlfodkaaLStartMultia
import Derived.Test.YtnokeoejlfodkaaLStartMultib
import Derived.WalkKit
import Derived.WalkSpells
import Derived.Below
import Derived.LoopTactic
import Derived.Outline
import Derived.Deep.QuietTactic
import Derived.BigQuiet
import Derived.Deep.LoopGhost
import Derived.Handy
import Derived.Lib.Hide
import Derived.Shelf.Abstract
import Derived.StillTailTactics
import Derived.OwnWalk
import Derived.Maps.AppendAt
import Derived.RegionTactic
import Derived.Deep.RegionHeld3
import Derived.IntWalk
import Derived.Deep.Upon
import Derived.Laws.OwnMore
import Derived.Maps.AppendAt
import Derived.Lib.SliceRun
import Derived.Lib.AppendZeros
namespace Go.Proofs.Ytnokeoejlfodkaa
open Go.RowKit

set_option maxRecDepth 100000 in
set_option maxHeartbeats 4000000 in
theorem spec_l06Is (p0 o0 : Nat) (es0 : List Value) (a0 : tMulti) (w : World) (h0 : eMulti.R w (Old w) es0 a0) (hq0 : ∀ j v, es0[j]? = some v → w.cell? ⟨p0, o0 + j, none⟩ = some v) :
    Calls Try.prog 133 #[.pointer (some ⟨p0, o0, none⟩)] w fun e w' => e = .returned (.bool (validMulti a0)) ∧ Below w.heap.size w w' := by
  have H0 := h0
  obtain ⟨Az0_3, cz0_3, rfl, gz0_0, gz0_1, gz0_2, gz0_3⟩ := shape_Multi h0
  have jz0_0 := gz0_0; unfold I64 at jz0_0
  have jz0_1 := gz0_1; unfold I64 at jz0_1
  have jz0_2 := gz0_2; unfold I64 at jz0_2
  have lz0_3 := gz0_3.len
  have HH1 := Held.start Nob w
  refine enter (n := 132) Try.func133 rfl rfl rfl fun a_2 HE3 => ?_
  refine wp_seq ?_
  refine rg ?_
  refine pl_x HE3 HH1 (wt0 rfl) (x_assign rfl) rfl rfl fun a_4 HE5 => ?_
  refine wpList_nil ?_
  clear a_2 HE3
  refine nrm ?_
  refine wp_seq ?_
  refine wp_seq ?_
  refine rg ?_
  refine pl_x HE5 HH1 (wt0 rfl) (x_move rfl) rfl rfl fun a_6 HE7 => ?_
  refine pl_x HE7 HH1 (wt0 rfl) (x_nilCheck rfl) rfl rfl fun a_8 HE9 => ?_
  refine pl_x HE9 HH1 (wt0 rfl) (x_fieldAddr fa_83_0 rfl) rfl rfl fun a_10 HE11 => ?_
  refine pl_x HE11 HH1 (wt0 rfl) (x_load1 tv_2 rfl (c_old (hq0 0 _ rfl))) rfl rfl fun a_12 HE13 => ?_
  refine pl fun K_14 hK15 => ?_
  refine st_call HE13 (wt0 rfl) rfl rfl rfl en_108 rfl rfl (spec_l00In a0.1 2 3 _ ) fun e w' hr => ?_
  obtain ⟨rfl, rfl⟩ := hr
  refine ⟨_, rfl, fun a_16 HE17 => hK15 _ _ ?_⟩
  refine pl_x HE17 HH1 (wt0 rfl) (x_not rfl) rfl rfl fun a_18 HE19 => ?_
  refine pl_x HE19 HH1 (wt0 rfl) (x_move rfl) rfl rfl fun a_20 HE21 => ?_
  rcases Bool.eq_false_or_eq_true ((withinB a0.1 2 3)) with hc22 | hc22
  · refine pl_x HE21 HH1 (wtT HE21 rfl rfl rfl (not_f hc22)) (x_move rfl) rfl rfl fun a_22 HE23 => ?_
    refine pl_x HE23 HH1 (wtT HE23 rfl rfl rfl (not_f hc22)) (x_nilCheck rfl) rfl rfl fun a_24 HE25 => ?_
    refine pl_x HE25 HH1 (wtT HE25 rfl rfl rfl (not_f hc22)) (x_fieldAddr fa_83_1 rfl) rfl rfl fun a_26 HE27 => ?_
    refine pl_x HE27 HH1 (wtT HE27 rfl rfl rfl (not_f hc22)) (x_load1 tv_2 rfl (c_old (hq0 1 _ rfl))) rfl rfl fun a_28 HE29 => ?_
    refine pl fun K_30 hK31 => ?_
    refine st_call HE29 (wtT HE29 rfl rfl rfl (not_f hc22)) rfl rfl rfl en_108 rfl rfl (spec_l00In a0.2.1 2 3 _ ) fun e w' hr => ?_
    obtain ⟨rfl, rfl⟩ := hr
    refine ⟨_, rfl, fun a_32 HE33 => hK31 _ _ ?_⟩
    refine pl_x HE33 HH1 (wtT HE33 rfl rfl rfl (not_f hc22)) (x_not rfl) rfl rfl fun a_34 HE35 => ?_
    refine pl_x HE35 HH1 (wt0 rfl) (x_pickF rfl (not_f hc22) rfl) rfl rfl fun a_36 HE37 => ?_
    refine pl_x HE37 HH1 (wt0 rfl) (x_move rfl) rfl rfl fun a_38 HE39 => ?_
    rcases Bool.eq_false_or_eq_true ((withinB a0.2.1 2 3)) with hc24 | hc24
    · have v1 := withinB_true.1 hc24
      refine pl_x HE39 HH1 (wtT HE39 rfl rfl rfl (not_f hc24)) (x_move rfl) rfl rfl fun a_40 HE41 => ?_
      refine pl_x HE41 HH1 (wtT HE41 rfl rfl rfl (not_f hc24)) (x_nilCheck rfl) rfl rfl fun a_42 HE43 => ?_
      refine pl_x HE43 HH1 (wtT HE43 rfl rfl rfl (not_f hc24)) (x_fieldAddr fa_83_2 rfl) rfl rfl fun a_44 HE45 => ?_
      refine pl_x HE45 HH1 (wtT HE45 rfl rfl rfl (not_f hc24)) (x_load1 tv_2 rfl (c_old (hq0 2 _ rfl))) rfl rfl fun a_46 HE47 => ?_
      refine pl fun K_48 hK49 => ?_
      refine st_call HE47 (wtT HE47 rfl rfl rfl (not_f hc24)) rfl rfl rfl en_108 rfl rfl (spec_l00In a0.2.2.1 1 16 _ ) fun e w' hr => ?_
      obtain ⟨rfl, rfl⟩ := hr
      refine ⟨_, rfl, fun a_50 HE51 => hK49 _ _ ?_⟩
      refine pl_x HE51 HH1 (wtT HE51 rfl rfl rfl (not_f hc24)) (x_not rfl) rfl rfl fun a_52 HE53 => ?_
      refine pl_x HE53 HH1 (wt0 rfl) (x_pickF rfl (not_f hc24) rfl) rfl rfl fun a_54 HE55 => ?_
      refine pl_x HE55 HH1 (wt0 rfl) (x_move rfl) rfl rfl fun a_56 HE57 => ?_
      rcases Bool.eq_false_or_eq_true ((withinB a0.2.2.1 1 16)) with hc26 | hc26
      · have v2 := withinB_true.1 hc26
        refine pl_x HE57 HH1 (wtT HE57 rfl rfl rfl (not_f hc26)) (x_move rfl) rfl rfl fun a_58 HE59 => ?_
        refine pl_x HE59 HH1 (wtT HE59 rfl rfl rfl (not_f hc26)) (x_nilCheck rfl) rfl rfl fun a_60 HE61 => ?_
        refine pl_x HE61 HH1 (wtT HE61 rfl rfl rfl (not_f hc26)) (x_fieldAddr fa_83_3 rfl) rfl rfl fun a_62 HE63 => ?_
        refine pl_x HE63 HH1 (wtT HE63 rfl rfl rfl (not_f hc26)) (x_load1 tv_81 rfl (c_old (hq0 3 _ rfl))) rfl rfl fun a_64 HE65 => ?_
        refine pl_x HE65 HH1 (wtT HE65 rfl rfl rfl (not_f hc26)) (x_len Try.underlying81 rfl) rfl rfl fun a_66 HE67 => ?_
        refine pl_x HE67 HH1 (wtT HE67 rfl rfl rfl (not_f hc26)) (x_gtr rfl rfl) rfl rfl fun a_68 HE69 => ?_
        refine pl_x HE69 HH1 (wt0 rfl) (x_pickF rfl (not_f hc26) rfl) rfl rfl fun a_70 HE71 => ?_
        refine wpList_nil ?_
        clear a_4 HE5 a_6 HE7 a_8 HE9 a_10 HE11 a_12 HE13 a_16 HE17 a_18 HE19 a_20 HE21 a_22 HE23 a_24 HE25 a_26 HE27 K_14 hK15 a_28 HE29 a_32 HE33 a_34 HE35 a_36 HE37 a_38 HE39 a_40 HE41 a_42 HE43 a_44 HE45 K_30 hK31 a_46 HE47 a_50 HE51 a_52 HE53 a_54 HE55 a_56 HE57 a_58 HE59 a_60 HE61 a_62 HE63 a_64 HE65 a_66 HE67 a_68 HE69 hK49 K_48
        refine nrm ?_
        refine cnd_d HE71 rfl (fun hc27 => ?_) (fun hc27 => ?_)
        · refine wp_seq ?_
          refine rg ?_
          refine pl_x HE71 HH1 (wt0 rfl) (x_assign rfl) rfl rfl fun a_72 HE73 => ?_
          refine wpList_nil ?_
          clear a_70 HE71
          refine nrm ?_
          refine wp_ret ?_
          refine (thn_ret ?_)
          refine ret1 HE73 rfl (rv_tmp rfl) ?_
          have hF : (validMulti a0) = false := by
            first | (simp [validMulti, hc22, hc24, hc26, hc27]; done) | (unfold validMulti; rw [decide_eq_false (by omega)]; simp) | (unfold validMulti; rw [rg_hit (by omega : k < a0.2.2.2.length) (by unfold badMR; grind [beforeMR, validMR, rowB])]; simp) | (have hq := p0_1; rw [show k = a0.2.2.2.length from by omega] at hq; unfold validMulti; rw [hq, decide_eq_true (by omega)]; simp [hc22, hc24, hc26, hc27])
          exact ⟨by rw [hF] <;> rfl, HH1.below⟩
        · refine wp_skip ?_
          refine nrm ?_
          refine wp_seq ?_
          refine wp_seq ?_
          refine rg ?_
          refine pl_x HE71 HH1 (wt0 rfl) (x_assign rfl) rfl rfl fun a_74 HE75 => ?_
          refine wpList_nil ?_
          clear a_70 HE71
          refine nrm ?_
          refine wp_block ?_
          refine lp (fun m a w' => ∃ (k : Nat), m = a0.2.2.2.length - k ∧ Env 132 [(3, .int .i64 (k : Int)), (0, .pointer (some ⟨p0, o0, none⟩))] a ∧ Held Nob w [] w' ∧ (k ≤ a0.2.2.2.length) ∧ ((List.range k).any (badMR a0) = false)) (a0.2.2.2.length - (0)) ?_ ?_
          · exact ⟨0, rfl, HE75.sub ⟨(lkI rfl (by first | rfl | omega | (simp [hc22, hc24, hc26, hc27]; done))), rfl, trivial⟩, (HH1.sel [] (by decide) rfl), (by first | omega | assumption | (simp; done) | simp_all), (by rfl)⟩
          · rintro m a_76 w' ⟨k, rfl, HE77, HH78, p28_0, p28_1⟩
            refine wp_seq ?_
            refine wp_seq ?_
            refine rg ?_
            refine pl_x HE77 HH78 (wt0 rfl) (x_move rfl) rfl rfl fun a_79 HE80 => ?_
            refine pl_x HE80 HH78 (wt0 rfl) (x_move rfl) rfl rfl fun a_81 HE82 => ?_
            refine pl_x HE82 HH78 (wt0 rfl) (x_nilCheck rfl) rfl rfl fun a_83 HE84 => ?_
            refine pl_x HE84 HH78 (wt0 rfl) (x_fieldAddr fa_83_3 rfl) rfl rfl fun a_85 HE86 => ?_
            refine pl_x HE86 HH78 (wt0 rfl) (x_load1 tv_81 rfl (c_old (hq0 3 _ rfl))) rfl rfl fun a_87 HE88 => ?_
            refine pl_x HE88 HH78 (wt0 rfl) (x_len Try.underlying81 rfl) rfl rfl fun a_89 HE90 => ?_
            refine pl_x HE90 HH78 (wt0 rfl) (x_lss rfl rfl) rfl rfl fun a_91 HE92 => ?_
            refine wpList_nil ?_
            clear a_74 HE75 HH1 a_76 HE77 a_79 HE80 a_81 HE82 a_83 HE84 a_85 HE86 a_87 HE88 a_89 HE90
            refine nrm ?_
            refine cnd_d HE92 rfl (fun hc29 => ?_) (fun hc29 => ?_)
            · refine wp_skip ?_
              refine nrm ?_
              refine wp_seq ?_
              refine wp_block ?_
              refine wp_seq ?_
              refine rg ?_
              refine pl_x HE92 HH78 (wt0 rfl) (x_move rfl) rfl rfl fun a_93 HE94 => ?_
              refine pl_x HE94 HH78 (wt0 rfl) (x_nilCheck rfl) rfl rfl fun a_95 HE96 => ?_
              refine pl_x HE96 HH78 (wt0 rfl) (x_fieldAddr fa_83_3 rfl) rfl rfl fun a_97 HE98 => ?_
              refine pl_x HE98 HH78 (wt0 rfl) (x_load1 tv_81 rfl (c_old (hq0 3 _ rfl))) rfl rfl fun a_99 HE100 => ?_
              refine pl_x HE100 HH78 (wt0 rfl) (x_move rfl) rfl rfl fun a_101 HE102 => ?_
              have ke30 : k < a0.2.2.2.length := by omega
              obtain ⟨be30, fe30, ese30, Ae30, Re30, De30⟩ := el_old gz0_3 ke30
              obtain ⟨e30, xe30⟩ : ∃ x, x = a0.2.2.2[k] := ⟨_, rfl⟩
              rw [← xe30] at Re30
              have Qe30 := Re30
              obtain ⟨Ae30_1, ce30_1, Ae30_2, ce30_2, Ae30_3, ce30_3, rfl, ge30_0, ge30_1, ge30_2, ge30_3, ge30_4⟩ := shape_MultiRule Re30
              have je30_0 := ge30_0; unfold I64 at je30_0
              have le30_1 := ge30_1.len
              have le30_2 := ge30_2.len
              have le30_3 := ge30_3.len
              have je30_4 := ge30_4; unfold I64 at je30_4
              have ge30 : a0.2.2.2[k]?.getD default = e30 := by rw [List.getElem?_eq_getElem ke30, xe30]; rfl
              refine pl_x HE102 HH78 (wt0 rfl) (x_indexAddr ts_81 rfl rfl Ae30 rfl ke30) rfl rfl fun a_103 HE104 => ?_
              refine pl_x HE104 HH78 (wt0 rfl) (x_assign rfl) rfl rfl fun a_105 HE106 => ?_
              refine wpList_nil ?_
              clear a_91 HE92 a_93 HE94 a_95 HE96 a_97 HE98 a_99 HE100 a_101 HE102 a_103 HE104
              refine nrm ?_
              refine wp_seq ?_
              refine wp_seq ?_
              refine dr_start (Held Nob w []) 24 #[false, false, false, false, false, false, false, false, false, false, false, false, false, false, false, false, false, false, false, false, false, false, false, false] hmix rfl rfl HH78 (fun _ h => h.sel [] (by decide) rfl) fun w' HH107 => ?_
              have HS108 := HH107
              refine dr_take (i := 0) (ls' := #[true, false, false, false, false, false, false, false, false, false, false, false, false, false, false, false, false, false, false, false, false, false, false, false]) HE106 HS108 rfl (by kernel_rfl) (by kernel_rfl) (by kernel_rfl) (fun _ _ _ h => h) rfl (wt0 rfl) (x_move rfl) rfl rfl fun a_109 HE110 => ?_
              refine dr_take (i := 1) (ls' := #[true, true, false, false, false, false, false, false, false, false, false, false, false, false, false, false, false, false, false, false, false, false, false, false]) HE110 HS108 rfl (by kernel_rfl) (by kernel_rfl) (by kernel_rfl) (fun _ _ _ h => h) rfl (wt0 rfl) (x_nilCheck rfl) rfl rfl fun a_111 HE112 => ?_
              refine dr_take (i := 2) (ls' := #[true, true, true, false, false, false, false, false, false, false, false, false, false, false, false, false, false, false, false, false, false, false, false, false]) HE112 HS108 rfl (by kernel_rfl) (by kernel_rfl) (by kernel_rfl) (fun _ _ _ h => h) rfl (wt0 rfl) (x_fieldAddr fa_195_0 rfl) rfl rfl fun a_113 HE114 => ?_
              refine dr_take (i := 3) (ls' := #[true, true, true, true, false, false, false, false, false, false, false, false, false, false, false, false, false, false, false, false, false, false, false, false]) HE114 HS108 rfl (by kernel_rfl) (by kernel_rfl) (by kernel_rfl) (fun _ _ _ h => h) rfl (wt0 rfl) (x_load1 tv_2 rfl (c_old (De30 0 _ rfl))) rfl rfl fun a_115 HE116 => ?_
              refine dr_take (i := 4) (ls' := #[true, true, true, true, true, false, false, false, false, false, false, false, false, false, false, false, false, false, false, false, false, false, false, false]) HE116 HS108 rfl (by kernel_rfl) (by kernel_rfl) (by kernel_rfl) (fun _ _ _ h => h) rfl (wt0 rfl) (x_move rfl) rfl rfl fun a_117 HE118 => ?_
              refine dr_take (i := 5) (ls' := #[true, true, true, true, true, true, false, false, false, false, false, false, false, false, false, false, false, false, false, false, false, false, false, false]) HE118 HS108 rfl (by kernel_rfl) (by kernel_rfl) (by kernel_rfl) (fun _ _ _ h => h) rfl (wt0 rfl) (x_nilCheck rfl) rfl rfl fun a_119 HE120 => ?_
              refine dr_take (i := 6) (ls' := #[true, true, true, true, true, true, true, false, false, false, false, false, false, false, false, false, false, false, false, false, false, false, false, false]) HE120 HS108 rfl (by kernel_rfl) (by kernel_rfl) (by kernel_rfl) (fun _ _ _ h => h) rfl (wt0 rfl) (x_fieldAddr fa_83_2 rfl) rfl rfl fun a_121 HE122 => ?_
              refine dr_take (i := 7) (ls' := #[true, true, true, true, true, true, true, true, false, false, false, false, false, false, false, false, false, false, false, false, false, false, false, false]) HE122 HS108 rfl (by kernel_rfl) (by kernel_rfl) (by kernel_rfl) (fun _ _ _ h => h) rfl (wt0 rfl) (x_load1 tv_2 rfl (c_old (hq0 2 _ rfl))) rfl rfl fun a_123 HE124 => ?_
              refine dr_take (i := 8) (ls' := #[true, true, true, true, true, true, true, true, true, false, false, false, false, false, false, false, false, false, false, false, false, false, false, false]) HE124 HS108 rfl (by kernel_rfl) (by kernel_rfl) (by kernel_rfl) (fun _ _ _ h => h) rfl (wt0 rfl) (x_sub rfl rfl (by exact ⟨by omega, by omega⟩)) rfl rfl fun a_125 HE126 => ?_
              refine dr_one (i := 9) (ls' := #[true, true, true, true, true, true, true, true, true, true, false, false, false, false, false, false, false, false, false, false, false, false, false, false]) rfl (by kernel_rfl) rfl fun K_127 hK128 => ?_
              refine st_call HE126 (wt0 rfl) rfl rfl rfl en_108 rfl rfl (spec_l00In e30.1 0 (a0.2.2.1 - 1) _ ) fun e w' hr => ?_
              obtain ⟨rfl, rfl⟩ := hr
              refine ⟨_, rfl, fun a_129 HE130 => hK128 _ _ (by exact HH107.sel [] (by decide) rfl) ?_⟩
              have HS131 := HH107.sel [] (by decide) rfl
              refine dr_take (i := 10) (ls' := #[true, true, true, true, true, true, true, true, true, true, true, false, false, false, false, false, false, false, false, false, false, false, false, false]) HE130 HS131 rfl (by kernel_rfl) (by kernel_rfl) (by kernel_rfl) (fun _ _ _ h => h) rfl (wt0 rfl) (x_not rfl) rfl rfl fun a_132 HE133 => ?_
              refine dr_take (i := 11) (ls' := #[true, true, true, true, true, true, true, true, true, true, true, true, false, false, false, false, false, false, false, false, false, false, false, false]) HE133 HS131 rfl (by kernel_rfl) (by kernel_rfl) (by kernel_rfl) (fun _ _ _ h => h) rfl (wt0 rfl) (x_move rfl) rfl rfl fun a_134 HE135 => ?_
              rcases Bool.eq_false_or_eq_true ((withinB e30.1 0 (a0.2.2.1 - 1))) with hc32 | hc32
              · refine dr_take (i := 12) (ls' := #[true, true, true, true, true, true, true, true, true, true, true, true, true, false, false, false, false, false, false, false, false, false, false, false]) HE135 HS131 rfl (by kernel_rfl) (by kernel_rfl) (by kernel_rfl) (fun _ _ _ h => h) rfl (wtT HE135 rfl rfl rfl (not_f hc32)) (x_move rfl) rfl rfl fun a_136 HE137 => ?_
                refine dr_take (i := 13) (ls' := #[true, true, true, true, true, true, true, true, true, true, true, true, true, true, false, false, false, false, false, false, false, false, false, false]) HE137 HS131 rfl (by kernel_rfl) (by kernel_rfl) (by kernel_rfl) (fun _ _ _ h => h) rfl (wtT HE137 rfl rfl rfl (not_f hc32)) (x_nilCheck rfl) rfl rfl fun a_138 HE139 => ?_
                refine dr_take (i := 14) (ls' := #[true, true, true, true, true, true, true, true, true, true, true, true, true, true, true, false, false, false, false, false, false, false, false, false]) HE139 HS131 rfl (by kernel_rfl) (by kernel_rfl) (by kernel_rfl) (fun _ _ _ h => h) rfl (wtT HE139 rfl rfl rfl (not_f hc32)) (x_fieldAddr fa_195_4 rfl) rfl rfl fun a_140 HE141 => ?_
                refine dr_take (i := 15) (ls' := #[true, true, true, true, true, true, true, true, true, true, true, true, true, true, true, true, false, false, false, false, false, false, false, false]) HE141 HS131 rfl (by kernel_rfl) (by kernel_rfl) (by kernel_rfl) (fun _ _ _ h => h) rfl (wtT HE141 rfl rfl rfl (not_f hc32)) (x_load1 tv_2 rfl (c_old (De30 4 _ rfl))) rfl rfl fun a_142 HE143 => ?_
                refine dr_take (i := 16) (ls' := #[true, true, true, true, true, true, true, true, true, true, true, true, true, true, true, true, true, false, false, false, false, false, false, false]) HE143 HS131 rfl (by kernel_rfl) (by kernel_rfl) (by kernel_rfl) (fun _ _ _ h => h) rfl (wtT HE143 rfl rfl rfl (not_f hc32)) (x_move rfl) rfl rfl fun a_144 HE145 => ?_
                refine dr_take (i := 17) (ls' := #[true, true, true, true, true, true, true, true, true, true, true, true, true, true, true, true, true, true, false, false, false, false, false, false]) HE145 HS131 rfl (by kernel_rfl) (by kernel_rfl) (by kernel_rfl) (fun _ _ _ h => h) rfl (wtT HE145 rfl rfl rfl (not_f hc32)) (x_nilCheck rfl) rfl rfl fun a_146 HE147 => ?_
                refine dr_take (i := 18) (ls' := #[true, true, true, true, true, true, true, true, true, true, true, true, true, true, true, true, true, true, true, false, false, false, false, false]) HE147 HS131 rfl (by kernel_rfl) (by kernel_rfl) (by kernel_rfl) (fun _ _ _ h => h) rfl (wtT HE147 rfl rfl rfl (not_f hc32)) (x_fieldAddr fa_83_2 rfl) rfl rfl fun a_148 HE149 => ?_
                refine dr_take (i := 19) (ls' := #[true, true, true, true, true, true, true, true, true, true, true, true, true, true, true, true, true, true, true, true, false, false, false, false]) HE149 HS131 rfl (by kernel_rfl) (by kernel_rfl) (by kernel_rfl) (fun _ _ _ h => h) rfl (wtT HE149 rfl rfl rfl (not_f hc32)) (x_load1 tv_2 rfl (c_old (hq0 2 _ rfl))) rfl rfl fun a_150 HE151 => ?_
                refine dr_take (i := 20) (ls' := #[true, true, true, true, true, true, true, true, true, true, true, true, true, true, true, true, true, true, true, true, true, false, false, false]) HE151 HS131 rfl (by kernel_rfl) (by kernel_rfl) (by kernel_rfl) (fun _ _ _ h => h) rfl (wtT HE151 rfl rfl rfl (not_f hc32)) (x_sub rfl rfl (by exact ⟨by omega, by omega⟩)) rfl rfl fun a_152 HE153 => ?_
                refine dr_one (i := 21) (ls' := #[true, true, true, true, true, true, true, true, true, true, true, true, true, true, true, true, true, true, true, true, true, true, false, false]) rfl (by kernel_rfl) rfl fun K_154 hK155 => ?_
                refine st_call HE153 (wtT HE153 rfl rfl rfl (not_f hc32)) rfl rfl rfl en_108 rfl rfl (spec_l00In e30.2.2.2.2 0 (a0.2.2.1 - 1) _ ) fun e w' hr => ?_
                obtain ⟨rfl, rfl⟩ := hr
                refine ⟨_, rfl, fun a_156 HE157 => hK155 _ _ (by exact HH107.sel [] (by decide) rfl) ?_⟩
                have HS158 := HH107.sel [] (by decide) rfl
                refine dr_take (i := 22) (ls' := #[true, true, true, true, true, true, true, true, true, true, true, true, true, true, true, true, true, true, true, true, true, true, true, false]) HE157 HS158 rfl (by kernel_rfl) (by kernel_rfl) (by kernel_rfl) (fun _ _ _ h => h) rfl (wtT HE157 rfl rfl rfl (not_f hc32)) (x_not rfl) rfl rfl fun a_159 HE160 => ?_
                refine dr_take (i := 23) (ls' := #[true, true, true, true, true, true, true, true, true, true, true, true, true, true, true, true, true, true, true, true, true, true, true, true]) HE160 HS158 rfl (by kernel_rfl) (by kernel_rfl) (by kernel_rfl) (fun _ _ _ h => h) rfl (wt0 rfl) (x_pickF rfl (not_f hc32) rfl) rfl rfl fun a_161 HE162 => ?_
                refine dr_done (by kernel_rfl) ?_
                clear HH78 a_105 HE106 a_109 HE110 a_111 HE112 a_113 HE114 a_115 HE116 a_117 HE118 a_119 HE120 a_121 HE122 a_123 HE124 a_125 HE126 HS108 a_129 HE130 a_132 HE133 a_134 HE135 a_136 HE137 a_138 HE139 a_140 HE141 a_142 HE143 a_144 HE145 a_146 HE147 a_148 HE149 a_150 HE151 K_127 hK128 a_152 HE153 HS131 a_156 HE157 a_159 HE160 hK155 K_154
                refine nrm ?_
                refine cnd_nb HE162 rfl (fun hc34 => ?_) (fun hc34 => ?_)
                · refine wp_seq ?_
                  refine rg ?_
                  refine pl_x HE162 HH107 (wt0 rfl) (x_assign rfl) rfl rfl fun a_163 HE164 => ?_
                  refine wpList_nil ?_
                  clear a_161 HE162
                  refine nrm ?_
                  refine wp_ret ?_
                  refine (thn_ret (blk_ret (thn_ret (thn_ret (blk_ret (thn_ret ?_))))))
                  refine ret1 HE164 rfl (rv_tmp rfl) ?_
                  have hF : (validMulti a0) = false := by
                    first | (simp [validMulti, hc22, hc24, hc26, hc27, p28_0, p28_1, hc29, xe30, hc32, hc34]; done) | (unfold validMulti; rw [decide_eq_false (by omega)]; simp) | (unfold validMulti; rw [rg_hit (by omega : k < a0.2.2.2.length) (by unfold badMR; grind [beforeMR, validMR, rowB])]; simp) | (have hq := p28_1; rw [show k = a0.2.2.2.length from by omega] at hq; unfold validMulti; rw [hq, decide_eq_true (by omega)]; simp [hc22, hc24, hc26, hc27, p28_0, p28_1, hc29, xe30, hc32, hc34])
                  exact ⟨by rw [hF] <;> rfl, HH107.below⟩
                · refine wp_skip ?_
                  refine nrm ?_
                  refine wp_seq ?_
                  refine wp_seq ?_
                  refine dr_start (Held Nob w []) 44 #[false, false, false, false, false, false, false, false, false, false, false, false, false, false, false, false, false, false, false, false, false, false, false, false, false, false, false, false, false, false, false, false, false, false, false, false, false, false, false, false, false, false, false, false] hmix rfl rfl HH107 (fun _ h => h.sel [] (by decide) rfl) fun w' HH165 => ?_
                  have HS166 := HH165
                  refine dr_take (i := 0) (ls' := #[true, false, false, false, false, false, false, false, false, false, false, false, false, false, false, false, false, false, false, false, false, false, false, false, false, false, false, false, false, false, false, false, false, false, false, false, false, false, false, false, false, false, false, false]) HE162 HS166 rfl (by kernel_rfl) (by kernel_rfl) (by kernel_rfl) (fun _ _ _ h => h) rfl (wt0 rfl) (x_move rfl) rfl rfl fun a_167 HE168 => ?_
                  refine dr_take (i := 1) (ls' := #[true, true, false, false, false, false, false, false, false, false, false, false, false, false, false, false, false, false, false, false, false, false, false, false, false, false, false, false, false, false, false, false, false, false, false, false, false, false, false, false, false, false, false, false]) HE168 HS166 rfl (by kernel_rfl) (by kernel_rfl) (by kernel_rfl) (fun _ _ _ h => h) rfl (wt0 rfl) (x_nilCheck rfl) rfl rfl fun a_169 HE170 => ?_
                  refine dr_take (i := 2) (ls' := #[true, true, true, false, false, false, false, false, false, false, false, false, false, false, false, false, false, false, false, false, false, false, false, false, false, false, false, false, false, false, false, false, false, false, false, false, false, false, false, false, false, false, false, false]) HE170 HS166 rfl (by kernel_rfl) (by kernel_rfl) (by kernel_rfl) (fun _ _ _ h => h) rfl (wt0 rfl) (x_fieldAddr fa_195_1 rfl) rfl rfl fun a_171 HE172 => ?_
                  refine dr_take (i := 3) (ls' := #[true, true, true, true, false, false, false, false, false, false, false, false, false, false, false, false, false, false, false, false, false, false, false, false, false, false, false, false, false, false, false, false, false, false, false, false, false, false, false, false, false, false, false, false]) HE172 HS166 rfl (by kernel_rfl) (by kernel_rfl) (by kernel_rfl) (fun _ _ _ h => h) rfl (wt0 rfl) (x_load1 tv_31 rfl (c_old (De30 1 _ rfl))) rfl rfl fun a_173 HE174 => ?_
                  refine dr_take (i := 4) (ls' := #[true, true, true, true, true, false, false, false, false, false, false, false, false, false, false, false, false, false, false, false, false, false, false, false, false, false, false, false, false, false, false, false, false, false, false, false, false, false, false, false, false, false, false, false]) HE174 HS166 rfl (by kernel_rfl) (by kernel_rfl) (by kernel_rfl) (fun _ _ _ h => h) rfl (wt0 rfl) (x_move rfl) rfl rfl fun a_175 HE176 => ?_
                  refine dr_take (i := 5) (ls' := #[true, true, true, true, true, true, false, false, false, false, false, false, false, false, false, false, false, false, false, false, false, false, false, false, false, false, false, false, false, false, false, false, false, false, false, false, false, false, false, false, false, false, false, false]) HE176 HS166 rfl (by kernel_rfl) (by kernel_rfl) (by kernel_rfl) (fun _ _ _ h => h) rfl (wt0 rfl) (x_nilCheck rfl) rfl rfl fun a_177 HE178 => ?_
                  refine dr_take (i := 6) (ls' := #[true, true, true, true, true, true, true, false, false, false, false, false, false, false, false, false, false, false, false, false, false, false, false, false, false, false, false, false, false, false, false, false, false, false, false, false, false, false, false, false, false, false, false, false]) HE178 HS166 rfl (by kernel_rfl) (by kernel_rfl) (by kernel_rfl) (fun _ _ _ h => h) rfl (wt0 rfl) (x_fieldAddr fa_83_0 rfl) rfl rfl fun a_179 HE180 => ?_
                  refine dr_take (i := 7) (ls' := #[true, true, true, true, true, true, true, true, false, false, false, false, false, false, false, false, false, false, false, false, false, false, false, false, false, false, false, false, false, false, false, false, false, false, false, false, false, false, false, false, false, false, false, false]) HE180 HS166 rfl (by kernel_rfl) (by kernel_rfl) (by kernel_rfl) (fun _ _ _ h => h) rfl (wt0 rfl) (x_load1 tv_2 rfl (c_old (hq0 0 _ rfl))) rfl rfl fun a_181 HE182 => ?_
                  refine dr_take (i := 8) (ls' := #[true, true, true, true, true, true, true, true, true, false, false, false, false, false, false, false, false, false, false, false, false, false, false, false, false, false, false, false, false, false, false, false, false, false, false, false, false, false, false, false, false, false, false, false]) HE182 HS166 rfl (by kernel_rfl) (by kernel_rfl) (by kernel_rfl) (fun _ _ _ h => h) rfl (wt0 rfl) (x_move rfl) rfl rfl fun a_183 HE184 => ?_
                  refine dr_take (i := 9) (ls' := #[true, true, true, true, true, true, true, true, true, true, false, false, false, false, false, false, false, false, false, false, false, false, false, false, false, false, false, false, false, false, false, false, false, false, false, false, false, false, false, false, false, false, false, false]) HE184 HS166 rfl (by kernel_rfl) (by kernel_rfl) (by kernel_rfl) (fun _ _ _ h => h) rfl (wt0 rfl) (x_nilCheck rfl) rfl rfl fun a_185 HE186 => ?_
                  refine dr_take (i := 10) (ls' := #[true, true, true, true, true, true, true, true, true, true, true, false, false, false, false, false, false, false, false, false, false, false, false, false, false, false, false, false, false, false, false, false, false, false, false, false, false, false, false, false, false, false, false, false]) HE186 HS166 rfl (by kernel_rfl) (by kernel_rfl) (by kernel_rfl) (fun _ _ _ h => h) rfl (wt0 rfl) (x_fieldAddr fa_83_1 rfl) rfl rfl fun a_187 HE188 => ?_
                  refine dr_take (i := 11) (ls' := #[true, true, true, true, true, true, true, true, true, true, true, true, false, false, false, false, false, false, false, false, false, false, false, false, false, false, false, false, false, false, false, false, false, false, false, false, false, false, false, false, false, false, false, false]) HE188 HS166 rfl (by kernel_rfl) (by kernel_rfl) (by kernel_rfl) (fun _ _ _ h => h) rfl (wt0 rfl) (x_load1 tv_2 rfl (c_old (hq0 1 _ rfl))) rfl rfl fun a_189 HE190 => ?_
                  refine dr_take (i := 12) (ls' := #[true, true, true, true, true, true, true, true, true, true, true, true, true, false, false, false, false, false, false, false, false, false, false, false, false, false, false, false, false, false, false, false, false, false, false, false, false, false, false, false, false, false, false, false]) HE190 HS166 rfl (by kernel_rfl) (by kernel_rfl) (by kernel_rfl) (fun _ _ _ h => h) rfl (wt0 rfl) (x_sub rfl rfl (by exact ⟨by omega, by omega⟩)) rfl rfl fun a_191 HE192 => ?_
                  refine dr_one (i := 13) (ls' := #[true, true, true, true, true, true, true, true, true, true, true, true, true, true, false, false, false, false, false, false, false, false, false, false, false, false, false, false, false, false, false, false, false, false, false, false, false, false, false, false, false, false, false, false]) rfl (by kernel_rfl) rfl fun K_193 hK194 => ?_
                  refine st_call HE192 (wt0 rfl) rfl rfl rfl en_205 rfl rfl (spec_l06RowE _ _ e30.2.1 a0.1 0 (a0.2.1 - 1) _ (HH165.old ge30_1)) fun e w' hr => ?_
                  obtain ⟨rfl, hbr35⟩ := hr
                  have HH195 := HH165.on hbr35
                  refine ⟨_, rfl, fun a_196 HE197 => hK194 _ _ (by exact HH195.sel [] (by decide) rfl) ?_⟩
                  have HS198 := HH195.sel [] (by decide) rfl
                  refine dr_take (i := 14) (ls' := #[true, true, true, true, true, true, true, true, true, true, true, true, true, true, true, false, false, false, false, false, false, false, false, false, false, false, false, false, false, false, false, false, false, false, false, false, false, false, false, false, false, false, false, false]) HE197 HS198 rfl (by kernel_rfl) (by kernel_rfl) (by kernel_rfl) (fun _ _ _ h => h) rfl (wt0 rfl) (x_not rfl) rfl rfl fun a_199 HE200 => ?_
                  refine dr_take (i := 15) (ls' := #[true, true, true, true, true, true, true, true, true, true, true, true, true, true, true, true, false, false, false, false, false, false, false, false, false, false, false, false, false, false, false, false, false, false, false, false, false, false, false, false, false, false, false, false]) HE200 HS198 rfl (by kernel_rfl) (by kernel_rfl) (by kernel_rfl) (fun _ _ _ h => h) rfl (wt0 rfl) (x_move rfl) rfl rfl fun a_201 HE202 => ?_
                  rcases Bool.eq_false_or_eq_true ((rowB e30.2.1 a0.1 0 (a0.2.1 - 1))) with hc36 | hc36
                  · refine dr_take (i := 16) (ls' := #[true, true, true, true, true, true, true, true, true, true, true, true, true, true, true, true, true, false, false, false, false, false, false, false, false, false, false, false, false, false, false, false, false, false, false, false, false, false, false, false, false, false, false, false]) HE202 HS198 rfl (by kernel_rfl) (by kernel_rfl) (by kernel_rfl) (fun _ _ _ h => h) rfl (wtT HE202 rfl rfl rfl (not_f hc36)) (x_move rfl) rfl rfl fun a_203 HE204 => ?_
                    refine dr_take (i := 17) (ls' := #[true, true, true, true, true, true, true, true, true, true, true, true, true, true, true, true, true, true, false, false, false, false, false, false, false, false, false, false, false, false, false, false, false, false, false, false, false, false, false, false, false, false, false, false]) HE204 HS198 rfl (by kernel_rfl) (by kernel_rfl) (by kernel_rfl) (fun _ _ _ h => h) rfl (wtT HE204 rfl rfl rfl (not_f hc36)) (x_nilCheck rfl) rfl rfl fun a_205 HE206 => ?_
                    refine dr_take (i := 18) (ls' := #[true, true, true, true, true, true, true, true, true, true, true, true, true, true, true, true, true, true, true, false, false, false, false, false, false, false, false, false, false, false, false, false, false, false, false, false, false, false, false, false, false, false, false, false]) HE206 HS198 rfl (by kernel_rfl) (by kernel_rfl) (by kernel_rfl) (fun _ _ _ h => h) rfl (wtT HE206 rfl rfl rfl (not_f hc36)) (x_fieldAddr fa_195_2 rfl) rfl rfl fun a_207 HE208 => ?_
                    refine dr_take (i := 19) (ls' := #[true, true, true, true, true, true, true, true, true, true, true, true, true, true, true, true, true, true, true, true, false, false, false, false, false, false, false, false, false, false, false, false, false, false, false, false, false, false, false, false, false, false, false, false]) HE208 HS198 rfl (by kernel_rfl) (by kernel_rfl) (by kernel_rfl) (fun _ _ _ h => h) rfl (wtT HE208 rfl rfl rfl (not_f hc36)) (x_load1 tv_31 rfl (c_old (De30 2 _ rfl))) rfl rfl fun a_209 HE210 => ?_
                    refine dr_take (i := 20) (ls' := #[true, true, true, true, true, true, true, true, true, true, true, true, true, true, true, true, true, true, true, true, true, false, false, false, false, false, false, false, false, false, false, false, false, false, false, false, false, false, false, false, false, false, false, false]) HE210 HS198 rfl (by kernel_rfl) (by kernel_rfl) (by kernel_rfl) (fun _ _ _ h => h) rfl (wtT HE210 rfl rfl rfl (not_f hc36)) (x_move rfl) rfl rfl fun a_211 HE212 => ?_
                    refine dr_take (i := 21) (ls' := #[true, true, true, true, true, true, true, true, true, true, true, true, true, true, true, true, true, true, true, true, true, true, false, false, false, false, false, false, false, false, false, false, false, false, false, false, false, false, false, false, false, false, false, false]) HE212 HS198 rfl (by kernel_rfl) (by kernel_rfl) (by kernel_rfl) (fun _ _ _ h => h) rfl (wtT HE212 rfl rfl rfl (not_f hc36)) (x_nilCheck rfl) rfl rfl fun a_213 HE214 => ?_
                    refine dr_take (i := 22) (ls' := #[true, true, true, true, true, true, true, true, true, true, true, true, true, true, true, true, true, true, true, true, true, true, true, false, false, false, false, false, false, false, false, false, false, false, false, false, false, false, false, false, false, false, false, false]) HE214 HS198 rfl (by kernel_rfl) (by kernel_rfl) (by kernel_rfl) (fun _ _ _ h => h) rfl (wtT HE214 rfl rfl rfl (not_f hc36)) (x_fieldAddr fa_83_0 rfl) rfl rfl fun a_215 HE216 => ?_
                    refine dr_take (i := 23) (ls' := #[true, true, true, true, true, true, true, true, true, true, true, true, true, true, true, true, true, true, true, true, true, true, true, true, false, false, false, false, false, false, false, false, false, false, false, false, false, false, false, false, false, false, false, false]) HE216 HS198 rfl (by kernel_rfl) (by kernel_rfl) (by kernel_rfl) (fun _ _ _ h => h) rfl (wtT HE216 rfl rfl rfl (not_f hc36)) (x_load1 tv_2 rfl (c_old (hq0 0 _ rfl))) rfl rfl fun a_217 HE218 => ?_
                    refine dr_take (i := 24) (ls' := #[true, true, true, true, true, true, true, true, true, true, true, true, true, true, true, true, true, true, true, true, true, true, true, true, true, false, false, false, false, false, false, false, false, false, false, false, false, false, false, false, false, false, false, false]) HE218 HS198 rfl (by kernel_rfl) (by kernel_rfl) (by kernel_rfl) (fun _ _ _ h => h) rfl (wtT HE218 rfl rfl rfl (not_f hc36)) (x_move rfl) rfl rfl fun a_219 HE220 => ?_
                    refine dr_take (i := 25) (ls' := #[true, true, true, true, true, true, true, true, true, true, true, true, true, true, true, true, true, true, true, true, true, true, true, true, true, true, false, false, false, false, false, false, false, false, false, false, false, false, false, false, false, false, false, false]) HE220 HS198 rfl (by kernel_rfl) (by kernel_rfl) (by kernel_rfl) (fun _ _ _ h => h) rfl (wtT HE220 rfl rfl rfl (not_f hc36)) (x_nilCheck rfl) rfl rfl fun a_221 HE222 => ?_
                    refine dr_take (i := 26) (ls' := #[true, true, true, true, true, true, true, true, true, true, true, true, true, true, true, true, true, true, true, true, true, true, true, true, true, true, true, false, false, false, false, false, false, false, false, false, false, false, false, false, false, false, false, false]) HE222 HS198 rfl (by kernel_rfl) (by kernel_rfl) (by kernel_rfl) (fun _ _ _ h => h) rfl (wtT HE222 rfl rfl rfl (not_f hc36)) (x_fieldAddr fa_83_1 rfl) rfl rfl fun a_223 HE224 => ?_
                    refine dr_take (i := 27) (ls' := #[true, true, true, true, true, true, true, true, true, true, true, true, true, true, true, true, true, true, true, true, true, true, true, true, true, true, true, true, false, false, false, false, false, false, false, false, false, false, false, false, false, false, false, false]) HE224 HS198 rfl (by kernel_rfl) (by kernel_rfl) (by kernel_rfl) (fun _ _ _ h => h) rfl (wtT HE224 rfl rfl rfl (not_f hc36)) (x_load1 tv_2 rfl (c_old (hq0 1 _ rfl))) rfl rfl fun a_225 HE226 => ?_
                    refine dr_take (i := 28) (ls' := #[true, true, true, true, true, true, true, true, true, true, true, true, true, true, true, true, true, true, true, true, true, true, true, true, true, true, true, true, true, false, false, false, false, false, false, false, false, false, false, false, false, false, false, false]) HE226 HS198 rfl (by kernel_rfl) (by kernel_rfl) (by kernel_rfl) (fun _ _ _ h => h) rfl (wtT HE226 rfl rfl rfl (not_f hc36)) (x_sub rfl rfl (by exact ⟨by omega, by omega⟩)) rfl rfl fun a_227 HE228 => ?_
                    refine dr_one (i := 29) (ls' := #[true, true, true, true, true, true, true, true, true, true, true, true, true, true, true, true, true, true, true, true, true, true, true, true, true, true, true, true, true, true, false, false, false, false, false, false, false, false, false, false, false, false, false, false]) rfl (by kernel_rfl) rfl fun K_229 hK230 => ?_
                    refine st_call HE228 (wtT HE228 rfl rfl rfl (not_f hc36)) rfl rfl rfl en_205 rfl rfl (spec_l06RowE _ _ e30.2.2.1 a0.1 0 (a0.2.1 - 1) _ (HH195.old ge30_2)) fun e w' hr => ?_
                    obtain ⟨rfl, hbr37⟩ := hr
                    have HH231 := HH195.on hbr37
                    refine ⟨_, rfl, fun a_232 HE233 => hK230 _ _ (by exact HH231.sel [] (by decide) rfl) ?_⟩
                    have HS234 := HH231.sel [] (by decide) rfl
                    refine dr_take (i := 30) (ls' := #[true, true, true, true, true, true, true, true, true, true, true, true, true, true, true, true, true, true, true, true, true, true, true, true, true, true, true, true, true, true, true, false, false, false, false, false, false, false, false, false, false, false, false, false]) HE233 HS234 rfl (by kernel_rfl) (by kernel_rfl) (by kernel_rfl) (fun _ _ _ h => h) rfl (wtT HE233 rfl rfl rfl (not_f hc36)) (x_not rfl) rfl rfl fun a_235 HE236 => ?_
                    refine dr_take (i := 31) (ls' := #[true, true, true, true, true, true, true, true, true, true, true, true, true, true, true, true, true, true, true, true, true, true, true, true, true, true, true, true, true, true, true, true, false, false, false, false, false, false, false, false, false, false, false, false]) HE236 HS234 rfl (by kernel_rfl) (by kernel_rfl) (by kernel_rfl) (fun _ _ _ h => h) rfl (wt0 rfl) (x_pickF rfl (not_f hc36) rfl) rfl rfl fun a_237 HE238 => ?_
                    refine dr_take (i := 32) (ls' := #[true, true, true, true, true, true, true, true, true, true, true, true, true, true, true, true, true, true, true, true, true, true, true, true, true, true, true, true, true, true, true, true, true, false, false, false, false, false, false, false, false, false, false, false]) HE238 HS234 rfl (by kernel_rfl) (by kernel_rfl) (by kernel_rfl) (fun _ _ _ h => h) rfl (wt0 rfl) (x_move rfl) rfl rfl fun a_239 HE240 => ?_
                    rcases Bool.eq_false_or_eq_true ((rowB e30.2.2.1 a0.1 0 (a0.2.1 - 1))) with hc38 | hc38
                    · refine dr_take (i := 33) (ls' := #[true, true, true, true, true, true, true, true, true, true, true, true, true, true, true, true, true, true, true, true, true, true, true, true, true, true, true, true, true, true, true, true, true, true, false, false, false, false, false, false, false, false, false, false]) HE240 HS234 rfl (by kernel_rfl) (by kernel_rfl) (by kernel_rfl) (fun _ _ _ h => h) rfl (wtT HE240 rfl rfl rfl (not_f hc38)) (x_move rfl) rfl rfl fun a_241 HE242 => ?_
                      refine dr_take (i := 34) (ls' := #[true, true, true, true, true, true, true, true, true, true, true, true, true, true, true, true, true, true, true, true, true, true, true, true, true, true, true, true, true, true, true, true, true, true, true, false, false, false, false, false, false, false, false, false]) HE242 HS234 rfl (by kernel_rfl) (by kernel_rfl) (by kernel_rfl) (fun _ _ _ h => h) rfl (wtT HE242 rfl rfl rfl (not_f hc38)) (x_nilCheck rfl) rfl rfl fun a_243 HE244 => ?_
                      refine dr_take (i := 35) (ls' := #[true, true, true, true, true, true, true, true, true, true, true, true, true, true, true, true, true, true, true, true, true, true, true, true, true, true, true, true, true, true, true, true, true, true, true, true, false, false, false, false, false, false, false, false]) HE244 HS234 rfl (by kernel_rfl) (by kernel_rfl) (by kernel_rfl) (fun _ _ _ h => h) rfl (wtT HE244 rfl rfl rfl (not_f hc38)) (x_fieldAddr fa_195_3 rfl) rfl rfl fun a_245 HE246 => ?_
                      refine dr_take (i := 36) (ls' := #[true, true, true, true, true, true, true, true, true, true, true, true, true, true, true, true, true, true, true, true, true, true, true, true, true, true, true, true, true, true, true, true, true, true, true, true, true, false, false, false, false, false, false, false]) HE246 HS234 rfl (by kernel_rfl) (by kernel_rfl) (by kernel_rfl) (fun _ _ _ h => h) rfl (wtT HE246 rfl rfl rfl (not_f hc38)) (x_load1 tv_31 rfl (c_old (De30 3 _ rfl))) rfl rfl fun a_247 HE248 => ?_
                      refine dr_take (i := 37) (ls' := #[true, true, true, true, true, true, true, true, true, true, true, true, true, true, true, true, true, true, true, true, true, true, true, true, true, true, true, true, true, true, true, true, true, true, true, true, true, true, false, false, false, false, false, false]) HE248 HS234 rfl (by kernel_rfl) (by kernel_rfl) (by kernel_rfl) (fun _ _ _ h => h) rfl (wtT HE248 rfl rfl rfl (not_f hc38)) (x_move rfl) rfl rfl fun a_249 HE250 => ?_
                      refine dr_take (i := 38) (ls' := #[true, true, true, true, true, true, true, true, true, true, true, true, true, true, true, true, true, true, true, true, true, true, true, true, true, true, true, true, true, true, true, true, true, true, true, true, true, true, true, false, false, false, false, false]) HE250 HS234 rfl (by kernel_rfl) (by kernel_rfl) (by kernel_rfl) (fun _ _ _ h => h) rfl (wtT HE250 rfl rfl rfl (not_f hc38)) (x_nilCheck rfl) rfl rfl fun a_251 HE252 => ?_
                      refine dr_take (i := 39) (ls' := #[true, true, true, true, true, true, true, true, true, true, true, true, true, true, true, true, true, true, true, true, true, true, true, true, true, true, true, true, true, true, true, true, true, true, true, true, true, true, true, true, false, false, false, false]) HE252 HS234 rfl (by kernel_rfl) (by kernel_rfl) (by kernel_rfl) (fun _ _ _ h => h) rfl (wtT HE252 rfl rfl rfl (not_f hc38)) (x_fieldAddr fa_83_0 rfl) rfl rfl fun a_253 HE254 => ?_
                      refine dr_take (i := 40) (ls' := #[true, true, true, true, true, true, true, true, true, true, true, true, true, true, true, true, true, true, true, true, true, true, true, true, true, true, true, true, true, true, true, true, true, true, true, true, true, true, true, true, true, false, false, false]) HE254 HS234 rfl (by kernel_rfl) (by kernel_rfl) (by kernel_rfl) (fun _ _ _ h => h) rfl (wtT HE254 rfl rfl rfl (not_f hc38)) (x_load1 tv_2 rfl (c_old (hq0 0 _ rfl))) rfl rfl fun a_255 HE256 => ?_
                      refine dr_one (i := 41) (ls' := #[true, true, true, true, true, true, true, true, true, true, true, true, true, true, true, true, true, true, true, true, true, true, true, true, true, true, true, true, true, true, true, true, true, true, true, true, true, true, true, true, true, true, false, false]) rfl (by kernel_rfl) rfl fun K_257 hK258 => ?_
                      refine st_call HE256 (wtT HE256 rfl rfl rfl (not_f hc38)) rfl rfl rfl en_205 rfl rfl (spec_l06RowE _ _ e30.2.2.2.1 a0.1 (-1) 1 _ (HH231.old ge30_3)) fun e w' hr => ?_
                      obtain ⟨rfl, hbr39⟩ := hr
                      have HH259 := HH231.on hbr39
                      refine ⟨_, rfl, fun a_260 HE261 => hK258 _ _ (by exact HH259.sel [] (by decide) rfl) ?_⟩
                      have HS262 := HH259.sel [] (by decide) rfl
                      refine dr_take (i := 42) (ls' := #[true, true, true, true, true, true, true, true, true, true, true, true, true, true, true, true, true, true, true, true, true, true, true, true, true, true, true, true, true, true, true, true, true, true, true, true, true, true, true, true, true, true, true, false]) HE261 HS262 rfl (by kernel_rfl) (by kernel_rfl) (by kernel_rfl) (fun _ _ _ h => h) rfl (wtT HE261 rfl rfl rfl (not_f hc38)) (x_not rfl) rfl rfl fun a_263 HE264 => ?_
                      refine dr_take (i := 43) (ls' := #[true, true, true, true, true, true, true, true, true, true, true, true, true, true, true, true, true, true, true, true, true, true, true, true, true, true, true, true, true, true, true, true, true, true, true, true, true, true, true, true, true, true, true, true]) HE264 HS262 rfl (by kernel_rfl) (by kernel_rfl) (by kernel_rfl) (fun _ _ _ h => h) rfl (wt0 rfl) (x_pickF rfl (not_f hc38) rfl) rfl rfl fun a_265 HE266 => ?_
                      refine dr_done (by kernel_rfl) ?_
                      clear HH107 HS158 a_161 HE162 a_167 HE168 a_169 HE170 a_171 HE172 a_173 HE174 a_175 HE176 a_177 HE178 a_179 HE180 a_181 HE182 a_183 HE184 a_185 HE186 a_187 HE188 a_189 HE190 HH165 a_191 HE192 HS166 a_196 HE197 a_199 HE200 a_201 HE202 a_203 HE204 a_205 HE206 a_207 HE208 a_209 HE210 a_211 HE212 a_213 HE214 a_215 HE216 a_217 HE218 a_219 HE220 a_221 HE222 a_223 HE224 a_225 HE226 K_193 hK194 HH195 a_227 HE228 HS198 a_232 HE233 a_235 HE236 a_237 HE238 a_239 HE240 a_241 HE242 a_243 HE244 a_245 HE246 a_247 HE248 a_249 HE250 a_251 HE252 a_253 HE254 K_229 hK230 HH231 a_255 HE256 HS234 a_260 HE261 a_263 HE264 hK258 K_257
                      refine nrm ?_
                      refine cnd_nb HE266 rfl (fun hc40 => ?_) (fun hc40 => ?_)
                      · refine wp_seq ?_
                        refine rg ?_
                        refine pl_x HE266 HH259 (wt0 rfl) (x_assign rfl) rfl rfl fun a_267 HE268 => ?_
                        refine wpList_nil ?_
                        clear a_265 HE266
                        refine nrm ?_
                        refine wp_ret ?_
                        refine (thn_ret (blk_ret (thn_ret (thn_ret (blk_ret (thn_ret ?_))))))
                        refine ret1 HE268 rfl (rv_tmp rfl) ?_
                        have hF : (validMulti a0) = false := by
                          first | (simp [validMulti, hc22, hc24, hc26, hc27, p28_0, p28_1, hc29, xe30, hc32, hc34, hc36, hc38, hc40]; done) | (unfold validMulti; rw [decide_eq_false (by omega)]; simp) | (unfold validMulti; rw [rg_hit (by omega : k < a0.2.2.2.length) (by unfold badMR; grind [beforeMR, validMR, rowB])]; simp) | (have hq := p28_1; rw [show k = a0.2.2.2.length from by omega] at hq; unfold validMulti; rw [hq, decide_eq_true (by omega)]; simp [hc22, hc24, hc26, hc27, p28_0, p28_1, hc29, xe30, hc32, hc34, hc36, hc38, hc40])
                        exact ⟨by rw [hF] <;> rfl, HH259.below⟩
                      · refine wp_skip ?_
                        refine nrm ?_
                        refine wp_seq ?_
                        refine rg ?_
                        refine pl_x HE266 HH259 (wt0 rfl) (x_move rfl) rfl rfl fun a_269 HE270 => ?_
                        refine pl_x HE270 HH259 (wt0 rfl) (x_gtr rfl rfl) rfl rfl fun a_271 HE272 => ?_
                        refine pl_x HE272 HH259 (wt0 rfl) (x_move rfl) rfl rfl fun a_273 HE274 => ?_
                        by_cases hc41 : 0 < (k : Int)
                        · refine pl_x HE274 HH259 (wtT HE274 rfl rfl rfl (decide_eq_true hc41)) (x_move rfl) rfl rfl fun a_275 HE276 => ?_
                          refine pl_x HE276 HH259 (wtT HE276 rfl rfl rfl (decide_eq_true hc41)) (x_nilCheck rfl) rfl rfl fun a_277 HE278 => ?_
                          refine pl_x HE278 HH259 (wtT HE278 rfl rfl rfl (decide_eq_true hc41)) (x_fieldAddr fa_83_3 rfl) rfl rfl fun a_279 HE280 => ?_
                          refine pl_x HE280 HH259 (wtT HE280 rfl rfl rfl (decide_eq_true hc41)) (x_load1 tv_81 rfl (c_old (hq0 3 _ rfl))) rfl rfl fun a_281 HE282 => ?_
                          refine pl_x HE282 HH259 (wtT HE282 rfl rfl rfl (decide_eq_true hc41)) (x_move rfl) rfl rfl fun a_283 HE284 => ?_
                          refine pl_x HE284 HH259 (wtT HE284 rfl rfl rfl (decide_eq_true hc41)) (x_sub rfl rfl (by exact ⟨by omega, by omega⟩)) rfl rfl fun a_285 HE286 => ?_
                          have ke42 : (k - 1) < a0.2.2.2.length := by omega
                          obtain ⟨be42, fe42, ese42, Ae42, Re42, De42⟩ := el_old gz0_3 ke42
                          obtain ⟨e42, xe42⟩ : ∃ x, x = a0.2.2.2[(k - 1)] := ⟨_, rfl⟩
                          rw [← xe42] at Re42
                          have Qe42 := Re42
                          obtain ⟨Ae42_1, ce42_1, Ae42_2, ce42_2, Ae42_3, ce42_3, rfl, ge42_0, ge42_1, ge42_2, ge42_3, ge42_4⟩ := shape_MultiRule Re42
                          have je42_0 := ge42_0; unfold I64 at je42_0
                          have le42_1 := ge42_1.len
                          have le42_2 := ge42_2.len
                          have le42_3 := ge42_3.len
                          have je42_4 := ge42_4; unfold I64 at je42_4
                          have ge42 : a0.2.2.2[(k - 1)]?.getD default = e42 := by rw [List.getElem?_eq_getElem ke42, xe42]; rfl
                          refine pl_x HE286 HH259 (wtT HE286 rfl rfl rfl (decide_eq_true hc41)) (x_indexAddr ts_81 rfl rfl Ae42 (by omega) ke42) rfl rfl fun a_287 HE288 => ?_
                          refine pl_x HE288 HH259 (wtT HE288 rfl rfl rfl (decide_eq_true hc41)) (x_move rfl) rfl rfl fun a_289 HE290 => ?_
                          refine pl fun K_291 hK292 => ?_
                          refine st_call HE290 (wtT HE290 rfl rfl rfl (decide_eq_true hc41)) rfl rfl rfl en_206 rfl rfl (spec_l06Before _ _ _ e42 _ _ _ e30 _ (HH259.oldR Qe42) (c_oldN De42 _ HH259) (HH259.oldR Qe30) (c_oldN De30 _ HH259)) fun e w' hr => ?_
                          obtain ⟨rfl, hbr43⟩ := hr
                          have HH293 := HH259.on hbr43
                          refine ⟨_, rfl, fun a_294 HE295 => hK292 _ _ ?_⟩
                          refine pl_x HE295 HH293 (wtT HE295 rfl rfl rfl (decide_eq_true hc41)) (x_not rfl) rfl rfl fun a_296 HE297 => ?_
                          refine pl_x HE297 HH293 (wt0 rfl) (x_pickT rfl (decide_eq_true hc41) rfl) rfl rfl fun a_298 HE299 => ?_
                          refine wpList_nil ?_
                          clear a_265 HE266 a_269 HE270 a_271 HE272 a_273 HE274 a_275 HE276 a_277 HE278 a_279 HE280 a_281 HE282 a_283 HE284 a_285 HE286 a_287 HE288 HH259 a_289 HE290 a_294 HE295 a_296 HE297 hK292 K_291
                          refine nrm ?_
                          refine cnd_nb HE299 rfl (fun hc44 => ?_) (fun hc44 => ?_)
                          · refine wp_seq ?_
                            refine rg ?_
                            refine pl_x HE299 HH293 (wt0 rfl) (x_assign rfl) rfl rfl fun a_300 HE301 => ?_
                            refine wpList_nil ?_
                            clear a_298 HE299
                            refine nrm ?_
                            refine wp_ret ?_
                            refine (blk_ret (thn_ret (thn_ret (blk_ret (thn_ret ?_)))))
                            refine ret1 HE301 rfl (rv_tmp rfl) ?_
                            have hF : (validMulti a0) = false := by
                              first | (simp [validMulti, hc22, hc24, hc26, hc27, p28_0, p28_1, hc29, xe30, hc32, hc34, hc36, hc38, hc40, hc41, xe42, hc44]; done) | (unfold validMulti; rw [decide_eq_false (by omega)]; simp) | (unfold validMulti; rw [rg_hit (by omega : k < a0.2.2.2.length) (by unfold badMR; grind [beforeMR, validMR, rowB])]; simp) | (have hq := p28_1; rw [show k = a0.2.2.2.length from by omega] at hq; unfold validMulti; rw [hq, decide_eq_true (by omega)]; simp [hc22, hc24, hc26, hc27, p28_0, p28_1, hc29, xe30, hc32, hc34, hc36, hc38, hc40, hc41, xe42, hc44])
                            exact ⟨by rw [hF] <;> rfl, HH293.below⟩
                          · refine wp_skip ?_
                            refine blk_n ?_
                            refine nrm ?_
                            refine rg ?_
                            refine pl_x HE299 HH293 (wt0 rfl) (x_move rfl) rfl rfl fun a_302 HE303 => ?_
                            refine pl_x HE303 HH293 (wt0 rfl) (x_add rfl rfl (by exact ⟨by omega, by omega⟩)) rfl rfl fun a_304 HE305 => ?_
                            refine pl_x HE305 HH293 (wt0 rfl) (x_assign rfl) rfl rfl fun a_306 HE307 => ?_
                            refine wpList_nil ?_
                            clear a_298 HE299 a_302 HE303 a_304 HE305
                            exact nrm ⟨a0.2.2.2.length - (k + 1), (by omega), k + 1, rfl, HE307.sub ⟨(lkI rfl (by first | rfl | omega | (simp [hc22, hc24, hc26, hc27, p28_0, p28_1, hc29, xe30, hc32, hc34, hc36, hc38, hc40, hc41, xe42, hc44]; done))), rfl, trivial⟩, (HH293.sel [] (by decide) rfl), (by first | omega | assumption | (simp; done) | simp_all), (by exact rg_step p28_1 (by unfold badMR; grind [beforeMR, validMR, rowB]))⟩
                        · refine pl_no HE274 (wtF HE274 rfl rfl rfl (decide_eq_false hc41)) rfl rfl fun a_308 HE309 => ?_
                          refine pl_no HE309 (wtF HE309 rfl rfl rfl (decide_eq_false hc41)) rfl rfl fun a_310 HE311 => ?_
                          refine pl_no HE311 (wtF HE311 rfl rfl rfl (decide_eq_false hc41)) rfl rfl fun a_312 HE313 => ?_
                          refine pl_no HE313 (wtF HE313 rfl rfl rfl (decide_eq_false hc41)) rfl rfl fun a_314 HE315 => ?_
                          refine pl_no HE315 (wtF HE315 rfl rfl rfl (decide_eq_false hc41)) rfl rfl fun a_316 HE317 => ?_
                          refine pl_no HE317 (wtF HE317 rfl rfl rfl (decide_eq_false hc41)) rfl rfl fun a_318 HE319 => ?_
                          refine pl_no HE319 (wtF HE319 rfl rfl rfl (decide_eq_false hc41)) rfl rfl fun a_320 HE321 => ?_
                          refine pl_no HE321 (wtF HE321 rfl rfl rfl (decide_eq_false hc41)) rfl rfl fun a_322 HE323 => ?_
                          refine pl_no HE323 (wtF HE323 rfl rfl rfl (decide_eq_false hc41)) rfl rfl fun a_324 HE325 => ?_
                          refine pl_no HE325 (wtF HE325 rfl rfl rfl (decide_eq_false hc41)) rfl rfl fun a_326 HE327 => ?_
                          refine pl_x HE327 HH259 (wt0 rfl) (x_pickF rfl (decide_eq_false hc41) rfl) rfl rfl fun a_328 HE329 => ?_
                          refine wpList_nil ?_
                          clear a_265 HE266 a_269 HE270 a_271 HE272 a_273 HE274 a_308 HE309 a_310 HE311 a_312 HE313 a_314 HE315 a_316 HE317 a_318 HE319 a_320 HE321 a_322 HE323 a_324 HE325 a_326 HE327
                          refine nrm ?_
                          refine cndF HE329 rfl rfl ?_
                          refine wp_skip ?_
                          refine blk_n ?_
                          refine nrm ?_
                          refine rg ?_
                          refine pl_x HE329 HH259 (wt0 rfl) (x_move rfl) rfl rfl fun a_330 HE331 => ?_
                          refine pl_x HE331 HH259 (wt0 rfl) (x_add rfl rfl (by exact ⟨by omega, by omega⟩)) rfl rfl fun a_332 HE333 => ?_
                          refine pl_x HE333 HH259 (wt0 rfl) (x_assign rfl) rfl rfl fun a_334 HE335 => ?_
                          refine wpList_nil ?_
                          clear a_328 HE329 a_330 HE331 a_332 HE333
                          exact nrm ⟨a0.2.2.2.length - (k + 1), (by omega), k + 1, rfl, HE335.sub ⟨(lkI rfl (by first | rfl | omega | (simp [hc22, hc24, hc26, hc27, p28_0, p28_1, hc29, xe30, hc32, hc34, hc36, hc38, hc40, hc41]; done))), rfl, trivial⟩, (HH259.sel [] (by decide) rfl), (by first | omega | assumption | (simp; done) | simp_all), (by exact rg_step p28_1 (by unfold badMR; grind [beforeMR, validMR, rowB]))⟩
                    · refine dr_takeNo (i := 33) (ls' := #[true, true, true, true, true, true, true, true, true, true, true, true, true, true, true, true, true, true, true, true, true, true, true, true, true, true, true, true, true, true, true, true, true, true, false, false, false, false, false, false, false, false, false, false]) HE240 HS234 rfl (by kernel_rfl) (by kernel_rfl) (by kernel_rfl) (fun _ _ _ h => h) rfl (wtF HE240 rfl rfl rfl (not_t hc38)) rfl rfl fun a_336 HE337 => ?_
                      refine dr_takeNo (i := 34) (ls' := #[true, true, true, true, true, true, true, true, true, true, true, true, true, true, true, true, true, true, true, true, true, true, true, true, true, true, true, true, true, true, true, true, true, true, true, false, false, false, false, false, false, false, false, false]) HE337 HS234 rfl (by kernel_rfl) (by kernel_rfl) (by kernel_rfl) (fun _ _ _ h => h) rfl (wtF HE337 rfl rfl rfl (not_t hc38)) rfl rfl fun a_338 HE339 => ?_
                      refine dr_takeNo (i := 35) (ls' := #[true, true, true, true, true, true, true, true, true, true, true, true, true, true, true, true, true, true, true, true, true, true, true, true, true, true, true, true, true, true, true, true, true, true, true, true, false, false, false, false, false, false, false, false]) HE339 HS234 rfl (by kernel_rfl) (by kernel_rfl) (by kernel_rfl) (fun _ _ _ h => h) rfl (wtF HE339 rfl rfl rfl (not_t hc38)) rfl rfl fun a_340 HE341 => ?_
                      refine dr_takeNo (i := 36) (ls' := #[true, true, true, true, true, true, true, true, true, true, true, true, true, true, true, true, true, true, true, true, true, true, true, true, true, true, true, true, true, true, true, true, true, true, true, true, true, false, false, false, false, false, false, false]) HE341 HS234 rfl (by kernel_rfl) (by kernel_rfl) (by kernel_rfl) (fun _ _ _ h => h) rfl (wtF HE341 rfl rfl rfl (not_t hc38)) rfl rfl fun a_342 HE343 => ?_
                      refine dr_takeNo (i := 37) (ls' := #[true, true, true, true, true, true, true, true, true, true, true, true, true, true, true, true, true, true, true, true, true, true, true, true, true, true, true, true, true, true, true, true, true, true, true, true, true, true, false, false, false, false, false, false]) HE343 HS234 rfl (by kernel_rfl) (by kernel_rfl) (by kernel_rfl) (fun _ _ _ h => h) rfl (wtF HE343 rfl rfl rfl (not_t hc38)) rfl rfl fun a_344 HE345 => ?_
                      refine dr_takeNo (i := 38) (ls' := #[true, true, true, true, true, true, true, true, true, true, true, true, true, true, true, true, true, true, true, true, true, true, true, true, true, true, true, true, true, true, true, true, true, true, true, true, true, true, true, false, false, false, false, false]) HE345 HS234 rfl (by kernel_rfl) (by kernel_rfl) (by kernel_rfl) (fun _ _ _ h => h) rfl (wtF HE345 rfl rfl rfl (not_t hc38)) rfl rfl fun a_346 HE347 => ?_
                      refine dr_takeNo (i := 39) (ls' := #[true, true, true, true, true, true, true, true, true, true, true, true, true, true, true, true, true, true, true, true, true, true, true, true, true, true, true, true, true, true, true, true, true, true, true, true, true, true, true, true, false, false, false, false]) HE347 HS234 rfl (by kernel_rfl) (by kernel_rfl) (by kernel_rfl) (fun _ _ _ h => h) rfl (wtF HE347 rfl rfl rfl (not_t hc38)) rfl rfl fun a_348 HE349 => ?_
                      refine dr_takeNo (i := 40) (ls' := #[true, true, true, true, true, true, true, true, true, true, true, true, true, true, true, true, true, true, true, true, true, true, true, true, true, true, true, true, true, true, true, true, true, true, true, true, true, true, true, true, true, false, false, false]) HE349 HS234 rfl (by kernel_rfl) (by kernel_rfl) (by kernel_rfl) (fun _ _ _ h => h) rfl (wtF HE349 rfl rfl rfl (not_t hc38)) rfl rfl fun a_350 HE351 => ?_
                      refine dr_takeNo (i := 41) (ls' := #[true, true, true, true, true, true, true, true, true, true, true, true, true, true, true, true, true, true, true, true, true, true, true, true, true, true, true, true, true, true, true, true, true, true, true, true, true, true, true, true, true, true, false, false]) HE351 HS234 rfl (by kernel_rfl) (by kernel_rfl) (by kernel_rfl) (fun _ _ _ h => h) rfl (wtF HE351 rfl rfl rfl (not_t hc38)) rfl rfl fun a_352 HE353 => ?_
                      refine dr_takeNo (i := 42) (ls' := #[true, true, true, true, true, true, true, true, true, true, true, true, true, true, true, true, true, true, true, true, true, true, true, true, true, true, true, true, true, true, true, true, true, true, true, true, true, true, true, true, true, true, true, false]) HE353 HS234 rfl (by kernel_rfl) (by kernel_rfl) (by kernel_rfl) (fun _ _ _ h => h) rfl (wtF HE353 rfl rfl rfl (not_t hc38)) rfl rfl fun a_354 HE355 => ?_
                      refine dr_take (i := 43) (ls' := #[true, true, true, true, true, true, true, true, true, true, true, true, true, true, true, true, true, true, true, true, true, true, true, true, true, true, true, true, true, true, true, true, true, true, true, true, true, true, true, true, true, true, true, true]) HE355 HS234 rfl (by kernel_rfl) (by kernel_rfl) (by kernel_rfl) (fun _ _ _ h => h) rfl (wt0 rfl) (x_pickT rfl (not_t hc38) rfl) rfl rfl fun a_356 HE357 => ?_
                      refine dr_done (by kernel_rfl) ?_
                      clear HH107 HS158 a_161 HE162 a_167 HE168 a_169 HE170 a_171 HE172 a_173 HE174 a_175 HE176 a_177 HE178 a_179 HE180 a_181 HE182 a_183 HE184 a_185 HE186 a_187 HE188 a_189 HE190 HH165 a_191 HE192 HS166 a_196 HE197 a_199 HE200 a_201 HE202 a_203 HE204 a_205 HE206 a_207 HE208 a_209 HE210 a_211 HE212 a_213 HE214 a_215 HE216 a_217 HE218 a_219 HE220 a_221 HE222 a_223 HE224 a_225 HE226 K_193 hK194 HH195 a_227 HE228 HS198 a_232 HE233 a_235 HE236 a_237 HE238 a_239 HE240 a_336 HE337 a_338 HE339 a_340 HE341 a_342 HE343 a_344 HE345 a_346 HE347 a_348 HE349 a_350 HE351 a_352 HE353 a_354 HE355 hK230 K_229
                      refine nrm ?_
                      refine cndT HE357 rfl rfl ?_
                      refine wp_seq ?_
                      refine rg ?_
                      refine pl_x HE357 HH231 (wt0 rfl) (x_assign rfl) rfl rfl fun a_358 HE359 => ?_
                      refine wpList_nil ?_
                      clear a_356 HE357
                      refine nrm ?_
                      refine wp_ret ?_
                      refine (thn_ret (blk_ret (thn_ret (thn_ret (blk_ret (thn_ret ?_))))))
                      refine ret1 HE359 rfl (rv_tmp rfl) ?_
                      have hF : (validMulti a0) = false := by
                        first | (simp [validMulti, hc22, hc24, hc26, hc27, p28_0, p28_1, hc29, xe30, hc32, hc34, hc36, hc38]; done) | (unfold validMulti; rw [decide_eq_false (by omega)]; simp) | (unfold validMulti; rw [rg_hit (by omega : k < a0.2.2.2.length) (by unfold badMR; grind [beforeMR, validMR, rowB])]; simp) | (have hq := p28_1; rw [show k = a0.2.2.2.length from by omega] at hq; unfold validMulti; rw [hq, decide_eq_true (by omega)]; simp [hc22, hc24, hc26, hc27, p28_0, p28_1, hc29, xe30, hc32, hc34, hc36, hc38])
                      exact ⟨by rw [hF] <;> rfl, HH231.below⟩
                  · refine dr_takeNo (i := 16) (ls' := #[true, true, true, true, true, true, true, true, true, true, true, true, true, true, true, true, true, false, false, false, false, false, false, false, false, false, false, false, false, false, false, false, false, false, false, false, false, false, false, false, false, false, false, false]) HE202 HS198 rfl (by kernel_rfl) (by kernel_rfl) (by kernel_rfl) (fun _ _ _ h => h) rfl (wtF HE202 rfl rfl rfl (not_t hc36)) rfl rfl fun a_360 HE361 => ?_
                    refine dr_takeNo (i := 17) (ls' := #[true, true, true, true, true, true, true, true, true, true, true, true, true, true, true, true, true, true, false, false, false, false, false, false, false, false, false, false, false, false, false, false, false, false, false, false, false, false, false, false, false, false, false, false]) HE361 HS198 rfl (by kernel_rfl) (by kernel_rfl) (by kernel_rfl) (fun _ _ _ h => h) rfl (wtF HE361 rfl rfl rfl (not_t hc36)) rfl rfl fun a_362 HE363 => ?_
                    refine dr_takeNo (i := 18) (ls' := #[true, true, true, true, true, true, true, true, true, true, true, true, true, true, true, true, true, true, true, false, false, false, false, false, false, false, false, false, false, false, false, false, false, false, false, false, false, false, false, false, false, false, false, false]) HE363 HS198 rfl (by kernel_rfl) (by kernel_rfl) (by kernel_rfl) (fun _ _ _ h => h) rfl (wtF HE363 rfl rfl rfl (not_t hc36)) rfl rfl fun a_364 HE365 => ?_
                    refine dr_takeNo (i := 19) (ls' := #[true, true, true, true, true, true, true, true, true, true, true, true, true, true, true, true, true, true, true, true, false, false, false, false, false, false, false, false, false, false, false, false, false, false, false, false, false, false, false, false, false, false, false, false]) HE365 HS198 rfl (by kernel_rfl) (by kernel_rfl) (by kernel_rfl) (fun _ _ _ h => h) rfl (wtF HE365 rfl rfl rfl (not_t hc36)) rfl rfl fun a_366 HE367 => ?_
                    refine dr_takeNo (i := 20) (ls' := #[true, true, true, true, true, true, true, true, true, true, true, true, true, true, true, true, true, true, true, true, true, false, false, false, false, false, false, false, false, false, false, false, false, false, false, false, false, false, false, false, false, false, false, false]) HE367 HS198 rfl (by kernel_rfl) (by kernel_rfl) (by kernel_rfl) (fun _ _ _ h => h) rfl (wtF HE367 rfl rfl rfl (not_t hc36)) rfl rfl fun a_368 HE369 => ?_
                    refine dr_takeNo (i := 21) (ls' := #[true, true, true, true, true, true, true, true, true, true, true, true, true, true, true, true, true, true, true, true, true, true, false, false, false, false, false, false, false, false, false, false, false, false, false, false, false, false, false, false, false, false, false, false]) HE369 HS198 rfl (by kernel_rfl) (by kernel_rfl) (by kernel_rfl) (fun _ _ _ h => h) rfl (wtF HE369 rfl rfl rfl (not_t hc36)) rfl rfl fun a_370 HE371 => ?_
                    refine dr_takeNo (i := 22) (ls' := #[true, true, true, true, true, true, true, true, true, true, true, true, true, true, true, true, true, true, true, true, true, true, true, false, false, false, false, false, false, false, false, false, false, false, false, false, false, false, false, false, false, false, false, false]) HE371 HS198 rfl (by kernel_rfl) (by kernel_rfl) (by kernel_rfl) (fun _ _ _ h => h) rfl (wtF HE371 rfl rfl rfl (not_t hc36)) rfl rfl fun a_372 HE373 => ?_
                    refine dr_takeNo (i := 23) (ls' := #[true, true, true, true, true, true, true, true, true, true, true, true, true, true, true, true, true, true, true, true, true, true, true, true, false, false, false, false, false, false, false, false, false, false, false, false, false, false, false, false, false, false, false, false]) HE373 HS198 rfl (by kernel_rfl) (by kernel_rfl) (by kernel_rfl) (fun _ _ _ h => h) rfl (wtF HE373 rfl rfl rfl (not_t hc36)) rfl rfl fun a_374 HE375 => ?_
                    refine dr_takeNo (i := 24) (ls' := #[true, true, true, true, true, true, true, true, true, true, true, true, true, true, true, true, true, true, true, true, true, true, true, true, true, false, false, false, false, false, false, false, false, false, false, false, false, false, false, false, false, false, false, false]) HE375 HS198 rfl (by kernel_rfl) (by kernel_rfl) (by kernel_rfl) (fun _ _ _ h => h) rfl (wtF HE375 rfl rfl rfl (not_t hc36)) rfl rfl fun a_376 HE377 => ?_
                    refine dr_takeNo (i := 25) (ls' := #[true, true, true, true, true, true, true, true, true, true, true, true, true, true, true, true, true, true, true, true, true, true, true, true, true, true, false, false, false, false, false, false, false, false, false, false, false, false, false, false, false, false, false, false]) HE377 HS198 rfl (by kernel_rfl) (by kernel_rfl) (by kernel_rfl) (fun _ _ _ h => h) rfl (wtF HE377 rfl rfl rfl (not_t hc36)) rfl rfl fun a_378 HE379 => ?_
                    refine dr_takeNo (i := 26) (ls' := #[true, true, true, true, true, true, true, true, true, true, true, true, true, true, true, true, true, true, true, true, true, true, true, true, true, true, true, false, false, false, false, false, false, false, false, false, false, false, false, false, false, false, false, false]) HE379 HS198 rfl (by kernel_rfl) (by kernel_rfl) (by kernel_rfl) (fun _ _ _ h => h) rfl (wtF HE379 rfl rfl rfl (not_t hc36)) rfl rfl fun a_380 HE381 => ?_
                    refine dr_takeNo (i := 27) (ls' := #[true, true, true, true, true, true, true, true, true, true, true, true, true, true, true, true, true, true, true, true, true, true, true, true, true, true, true, true, false, false, false, false, false, false, false, false, false, false, false, false, false, false, false, false]) HE381 HS198 rfl (by kernel_rfl) (by kernel_rfl) (by kernel_rfl) (fun _ _ _ h => h) rfl (wtF HE381 rfl rfl rfl (not_t hc36)) rfl rfl fun a_382 HE383 => ?_
                    refine dr_takeNo (i := 28) (ls' := #[true, true, true, true, true, true, true, true, true, true, true, true, true, true, true, true, true, true, true, true, true, true, true, true, true, true, true, true, true, false, false, false, false, false, false, false, false, false, false, false, false, false, false, false]) HE383 HS198 rfl (by kernel_rfl) (by kernel_rfl) (by kernel_rfl) (fun _ _ _ h => h) rfl (wtF HE383 rfl rfl rfl (not_t hc36)) rfl rfl fun a_384 HE385 => ?_
                    refine dr_takeNo (i := 29) (ls' := #[true, true, true, true, true, true, true, true, true, true, true, true, true, true, true, true, true, true, true, true, true, true, true, true, true, true, true, true, true, true, false, false, false, false, false, false, false, false, false, false, false, false, false, false]) HE385 HS198 rfl (by kernel_rfl) (by kernel_rfl) (by kernel_rfl) (fun _ _ _ h => h) rfl (wtF HE385 rfl rfl rfl (not_t hc36)) rfl rfl fun a_386 HE387 => ?_
                    refine dr_takeNo (i := 30) (ls' := #[true, true, true, true, true, true, true, true, true, true, true, true, true, true, true, true, true, true, true, true, true, true, true, true, true, true, true, true, true, true, true, false, false, false, false, false, false, false, false, false, false, false, false, false]) HE387 HS198 rfl (by kernel_rfl) (by kernel_rfl) (by kernel_rfl) (fun _ _ _ h => h) rfl (wtF HE387 rfl rfl rfl (not_t hc36)) rfl rfl fun a_388 HE389 => ?_
                    refine dr_take (i := 31) (ls' := #[true, true, true, true, true, true, true, true, true, true, true, true, true, true, true, true, true, true, true, true, true, true, true, true, true, true, true, true, true, true, true, true, false, false, false, false, false, false, false, false, false, false, false, false]) HE389 HS198 rfl (by kernel_rfl) (by kernel_rfl) (by kernel_rfl) (fun _ _ _ h => h) rfl (wt0 rfl) (x_pickT rfl (not_t hc36) rfl) rfl rfl fun a_390 HE391 => ?_
                    refine dr_take (i := 32) (ls' := #[true, true, true, true, true, true, true, true, true, true, true, true, true, true, true, true, true, true, true, true, true, true, true, true, true, true, true, true, true, true, true, true, true, false, false, false, false, false, false, false, false, false, false, false]) HE391 HS198 rfl (by kernel_rfl) (by kernel_rfl) (by kernel_rfl) (fun _ _ _ h => h) rfl (wt0 rfl) (x_move rfl) rfl rfl fun a_392 HE393 => ?_
                    refine dr_takeNo (i := 33) (ls' := #[true, true, true, true, true, true, true, true, true, true, true, true, true, true, true, true, true, true, true, true, true, true, true, true, true, true, true, true, true, true, true, true, true, true, false, false, false, false, false, false, false, false, false, false]) HE393 HS198 rfl (by kernel_rfl) (by kernel_rfl) (by kernel_rfl) (fun _ _ _ h => h) rfl (wtF HE393 rfl rfl rfl rfl) rfl rfl fun a_394 HE395 => ?_
                    refine dr_takeNo (i := 34) (ls' := #[true, true, true, true, true, true, true, true, true, true, true, true, true, true, true, true, true, true, true, true, true, true, true, true, true, true, true, true, true, true, true, true, true, true, true, false, false, false, false, false, false, false, false, false]) HE395 HS198 rfl (by kernel_rfl) (by kernel_rfl) (by kernel_rfl) (fun _ _ _ h => h) rfl (wtF HE395 rfl rfl rfl rfl) rfl rfl fun a_396 HE397 => ?_
                    refine dr_takeNo (i := 35) (ls' := #[true, true, true, true, true, true, true, true, true, true, true, true, true, true, true, true, true, true, true, true, true, true, true, true, true, true, true, true, true, true, true, true, true, true, true, true, false, false, false, false, false, false, false, false]) HE397 HS198 rfl (by kernel_rfl) (by kernel_rfl) (by kernel_rfl) (fun _ _ _ h => h) rfl (wtF HE397 rfl rfl rfl rfl) rfl rfl fun a_398 HE399 => ?_
                    refine dr_takeNo (i := 36) (ls' := #[true, true, true, true, true, true, true, true, true, true, true, true, true, true, true, true, true, true, true, true, true, true, true, true, true, true, true, true, true, true, true, true, true, true, true, true, true, false, false, false, false, false, false, false]) HE399 HS198 rfl (by kernel_rfl) (by kernel_rfl) (by kernel_rfl) (fun _ _ _ h => h) rfl (wtF HE399 rfl rfl rfl rfl) rfl rfl fun a_400 HE401 => ?_
                    refine dr_takeNo (i := 37) (ls' := #[true, true, true, true, true, true, true, true, true, true, true, true, true, true, true, true, true, true, true, true, true, true, true, true, true, true, true, true, true, true, true, true, true, true, true, true, true, true, false, false, false, false, false, false]) HE401 HS198 rfl (by kernel_rfl) (by kernel_rfl) (by kernel_rfl) (fun _ _ _ h => h) rfl (wtF HE401 rfl rfl rfl rfl) rfl rfl fun a_402 HE403 => ?_
                    refine dr_takeNo (i := 38) (ls' := #[true, true, true, true, true, true, true, true, true, true, true, true, true, true, true, true, true, true, true, true, true, true, true, true, true, true, true, true, true, true, true, true, true, true, true, true, true, true, true, false, false, false, false, false]) HE403 HS198 rfl (by kernel_rfl) (by kernel_rfl) (by kernel_rfl) (fun _ _ _ h => h) rfl (wtF HE403 rfl rfl rfl rfl) rfl rfl fun a_404 HE405 => ?_
                    refine dr_takeNo (i := 39) (ls' := #[true, true, true, true, true, true, true, true, true, true, true, true, true, true, true, true, true, true, true, true, true, true, true, true, true, true, true, true, true, true, true, true, true, true, true, true, true, true, true, true, false, false, false, false]) HE405 HS198 rfl (by kernel_rfl) (by kernel_rfl) (by kernel_rfl) (fun _ _ _ h => h) rfl (wtF HE405 rfl rfl rfl rfl) rfl rfl fun a_406 HE407 => ?_
                    refine dr_takeNo (i := 40) (ls' := #[true, true, true, true, true, true, true, true, true, true, true, true, true, true, true, true, true, true, true, true, true, true, true, true, true, true, true, true, true, true, true, true, true, true, true, true, true, true, true, true, true, false, false, false]) HE407 HS198 rfl (by kernel_rfl) (by kernel_rfl) (by kernel_rfl) (fun _ _ _ h => h) rfl (wtF HE407 rfl rfl rfl rfl) rfl rfl fun a_408 HE409 => ?_
                    refine dr_takeNo (i := 41) (ls' := #[true, true, true, true, true, true, true, true, true, true, true, true, true, true, true, true, true, true, true, true, true, true, true, true, true, true, true, true, true, true, true, true, true, true, true, true, true, true, true, true, true, true, false, false]) HE409 HS198 rfl (by kernel_rfl) (by kernel_rfl) (by kernel_rfl) (fun _ _ _ h => h) rfl (wtF HE409 rfl rfl rfl rfl) rfl rfl fun a_410 HE411 => ?_
                    refine dr_takeNo (i := 42) (ls' := #[true, true, true, true, true, true, true, true, true, true, true, true, true, true, true, true, true, true, true, true, true, true, true, true, true, true, true, true, true, true, true, true, true, true, true, true, true, true, true, true, true, true, true, false]) HE411 HS198 rfl (by kernel_rfl) (by kernel_rfl) (by kernel_rfl) (fun _ _ _ h => h) rfl (wtF HE411 rfl rfl rfl rfl) rfl rfl fun a_412 HE413 => ?_
                    refine dr_take (i := 43) (ls' := #[true, true, true, true, true, true, true, true, true, true, true, true, true, true, true, true, true, true, true, true, true, true, true, true, true, true, true, true, true, true, true, true, true, true, true, true, true, true, true, true, true, true, true, true]) HE413 HS198 rfl (by kernel_rfl) (by kernel_rfl) (by kernel_rfl) (fun _ _ _ h => h) rfl (wt0 rfl) (x_pickT rfl rfl rfl) rfl rfl fun a_414 HE415 => ?_
                    refine dr_done (by kernel_rfl) ?_
                    clear HH107 HS158 a_161 HE162 a_167 HE168 a_169 HE170 a_171 HE172 a_173 HE174 a_175 HE176 a_177 HE178 a_179 HE180 a_181 HE182 a_183 HE184 a_185 HE186 a_187 HE188 a_189 HE190 HH165 a_191 HE192 HS166 a_196 HE197 a_199 HE200 a_201 HE202 a_360 HE361 a_362 HE363 a_364 HE365 a_366 HE367 a_368 HE369 a_370 HE371 a_372 HE373 a_374 HE375 a_376 HE377 a_378 HE379 a_380 HE381 a_382 HE383 a_384 HE385 a_386 HE387 a_388 HE389 a_390 HE391 a_392 HE393 a_394 HE395 a_396 HE397 a_398 HE399 a_400 HE401 a_402 HE403 a_404 HE405 a_406 HE407 a_408 HE409 a_410 HE411 a_412 HE413 hK194 K_193
                    refine nrm ?_
                    refine cndT HE415 rfl rfl ?_
                    refine wp_seq ?_
                    refine rg ?_
                    refine pl_x HE415 HH195 (wt0 rfl) (x_assign rfl) rfl rfl fun a_416 HE417 => ?_
                    refine wpList_nil ?_
                    clear a_414 HE415
                    refine nrm ?_
                    refine wp_ret ?_
                    refine (thn_ret (blk_ret (thn_ret (thn_ret (blk_ret (thn_ret ?_))))))
                    refine ret1 HE417 rfl (rv_tmp rfl) ?_
                    have hF : (validMulti a0) = false := by
                      first | (simp [validMulti, hc22, hc24, hc26, hc27, p28_0, p28_1, hc29, xe30, hc32, hc34, hc36]; done) | (unfold validMulti; rw [decide_eq_false (by omega)]; simp) | (unfold validMulti; rw [rg_hit (by omega : k < a0.2.2.2.length) (by unfold badMR; grind [beforeMR, validMR, rowB])]; simp) | (have hq := p28_1; rw [show k = a0.2.2.2.length from by omega] at hq; unfold validMulti; rw [hq, decide_eq_true (by omega)]; simp [hc22, hc24, hc26, hc27, p28_0, p28_1, hc29, xe30, hc32, hc34, hc36])
                    exact ⟨by rw [hF] <;> rfl, HH195.below⟩
              · refine dr_takeNo (i := 12) (ls' := #[true, true, true, true, true, true, true, true, true, true, true, true, true, false, false, false, false, false, false, false, false, false, false, false]) HE135 HS131 rfl (by kernel_rfl) (by kernel_rfl) (by kernel_rfl) (fun _ _ _ h => h) rfl (wtF HE135 rfl rfl rfl (not_t hc32)) rfl rfl fun a_418 HE419 => ?_
                refine dr_takeNo (i := 13) (ls' := #[true, true, true, true, true, true, true, true, true, true, true, true, true, true, false, false, false, false, false, false, false, false, false, false]) HE419 HS131 rfl (by kernel_rfl) (by kernel_rfl) (by kernel_rfl) (fun _ _ _ h => h) rfl (wtF HE419 rfl rfl rfl (not_t hc32)) rfl rfl fun a_420 HE421 => ?_
                refine dr_takeNo (i := 14) (ls' := #[true, true, true, true, true, true, true, true, true, true, true, true, true, true, true, false, false, false, false, false, false, false, false, false]) HE421 HS131 rfl (by kernel_rfl) (by kernel_rfl) (by kernel_rfl) (fun _ _ _ h => h) rfl (wtF HE421 rfl rfl rfl (not_t hc32)) rfl rfl fun a_422 HE423 => ?_
                refine dr_takeNo (i := 15) (ls' := #[true, true, true, true, true, true, true, true, true, true, true, true, true, true, true, true, false, false, false, false, false, false, false, false]) HE423 HS131 rfl (by kernel_rfl) (by kernel_rfl) (by kernel_rfl) (fun _ _ _ h => h) rfl (wtF HE423 rfl rfl rfl (not_t hc32)) rfl rfl fun a_424 HE425 => ?_
                refine dr_takeNo (i := 16) (ls' := #[true, true, true, true, true, true, true, true, true, true, true, true, true, true, true, true, true, false, false, false, false, false, false, false]) HE425 HS131 rfl (by kernel_rfl) (by kernel_rfl) (by kernel_rfl) (fun _ _ _ h => h) rfl (wtF HE425 rfl rfl rfl (not_t hc32)) rfl rfl fun a_426 HE427 => ?_
                refine dr_takeNo (i := 17) (ls' := #[true, true, true, true, true, true, true, true, true, true, true, true, true, true, true, true, true, true, false, false, false, false, false, false]) HE427 HS131 rfl (by kernel_rfl) (by kernel_rfl) (by kernel_rfl) (fun _ _ _ h => h) rfl (wtF HE427 rfl rfl rfl (not_t hc32)) rfl rfl fun a_428 HE429 => ?_
                refine dr_takeNo (i := 18) (ls' := #[true, true, true, true, true, true, true, true, true, true, true, true, true, true, true, true, true, true, true, false, false, false, false, false]) HE429 HS131 rfl (by kernel_rfl) (by kernel_rfl) (by kernel_rfl) (fun _ _ _ h => h) rfl (wtF HE429 rfl rfl rfl (not_t hc32)) rfl rfl fun a_430 HE431 => ?_
                refine dr_takeNo (i := 19) (ls' := #[true, true, true, true, true, true, true, true, true, true, true, true, true, true, true, true, true, true, true, true, false, false, false, false]) HE431 HS131 rfl (by kernel_rfl) (by kernel_rfl) (by kernel_rfl) (fun _ _ _ h => h) rfl (wtF HE431 rfl rfl rfl (not_t hc32)) rfl rfl fun a_432 HE433 => ?_
                refine dr_takeNo (i := 20) (ls' := #[true, true, true, true, true, true, true, true, true, true, true, true, true, true, true, true, true, true, true, true, true, false, false, false]) HE433 HS131 rfl (by kernel_rfl) (by kernel_rfl) (by kernel_rfl) (fun _ _ _ h => h) rfl (wtF HE433 rfl rfl rfl (not_t hc32)) rfl rfl fun a_434 HE435 => ?_
                refine dr_takeNo (i := 21) (ls' := #[true, true, true, true, true, true, true, true, true, true, true, true, true, true, true, true, true, true, true, true, true, true, false, false]) HE435 HS131 rfl (by kernel_rfl) (by kernel_rfl) (by kernel_rfl) (fun _ _ _ h => h) rfl (wtF HE435 rfl rfl rfl (not_t hc32)) rfl rfl fun a_436 HE437 => ?_
                refine dr_takeNo (i := 22) (ls' := #[true, true, true, true, true, true, true, true, true, true, true, true, true, true, true, true, true, true, true, true, true, true, true, false]) HE437 HS131 rfl (by kernel_rfl) (by kernel_rfl) (by kernel_rfl) (fun _ _ _ h => h) rfl (wtF HE437 rfl rfl rfl (not_t hc32)) rfl rfl fun a_438 HE439 => ?_
                refine dr_take (i := 23) (ls' := #[true, true, true, true, true, true, true, true, true, true, true, true, true, true, true, true, true, true, true, true, true, true, true, true]) HE439 HS131 rfl (by kernel_rfl) (by kernel_rfl) (by kernel_rfl) (fun _ _ _ h => h) rfl (wt0 rfl) (x_pickT rfl (not_t hc32) rfl) rfl rfl fun a_440 HE441 => ?_
                refine dr_done (by kernel_rfl) ?_
                clear HH78 a_105 HE106 a_109 HE110 a_111 HE112 a_113 HE114 a_115 HE116 a_117 HE118 a_119 HE120 a_121 HE122 a_123 HE124 a_125 HE126 HS108 a_129 HE130 a_132 HE133 a_134 HE135 a_418 HE419 a_420 HE421 a_422 HE423 a_424 HE425 a_426 HE427 a_428 HE429 a_430 HE431 a_432 HE433 a_434 HE435 a_436 HE437 a_438 HE439 hK128 K_127
                refine nrm ?_
                refine cndT HE441 rfl rfl ?_
                refine wp_seq ?_
                refine rg ?_
                refine pl_x HE441 HH107 (wt0 rfl) (x_assign rfl) rfl rfl fun a_442 HE443 => ?_
                refine wpList_nil ?_
                clear a_440 HE441
                refine nrm ?_
                refine wp_ret ?_
                refine (thn_ret (blk_ret (thn_ret (thn_ret (blk_ret (thn_ret ?_))))))
                refine ret1 HE443 rfl (rv_tmp rfl) ?_
                have hF : (validMulti a0) = false := by
                  first | (simp [validMulti, hc22, hc24, hc26, hc27, p28_0, p28_1, hc29, xe30, hc32]; done) | (unfold validMulti; rw [decide_eq_false (by omega)]; simp) | (unfold validMulti; rw [rg_hit (by omega : k < a0.2.2.2.length) (by unfold badMR; grind [beforeMR, validMR, rowB])]; simp) | (have hq := p28_1; rw [show k = a0.2.2.2.length from by omega] at hq; unfold validMulti; rw [hq, decide_eq_true (by omega)]; simp [hc22, hc24, hc26, hc27, p28_0, p28_1, hc29, xe30, hc32])
                exact ⟨by rw [hF] <;> rfl, HH107.below⟩
            · refine wp_exit ?_
              refine (thn_exit (thn_exit (blk_hit ?_)))
              refine nrm ?_
              refine wp_seq ?_
              refine rg ?_
              refine pl_x HE92 HH78 (wt0 rfl) (x_assign rfl) rfl rfl fun a_444 HE445 => ?_
              refine wpList_nil ?_
              clear a_91 HE92
              refine nrm ?_
              refine wp_ret ?_
              refine ret1 HE445 rfl (rv_tmp rfl) ?_
              have hF : (validMulti a0) = true := by
                first | (simp [validMulti, hc22, hc24, hc26, hc27, p28_0, p28_1, hc29]; done) | (unfold validMulti; rw [decide_eq_false (by omega)]; simp) | (unfold validMulti; rw [rg_hit (by omega : k < a0.2.2.2.length) (by unfold badMR; grind [beforeMR, validMR, rowB])]; simp) | (have hq := p28_1; rw [show k = a0.2.2.2.length from by omega] at hq; unfold validMulti; rw [hq, decide_eq_true (by omega)]; simp [hc22, hc24, hc26, hc27, p28_0, p28_1, hc29])
              exact ⟨by rw [hF] <;> rfl, HH78.below⟩
      · refine pl_no HE57 (wtF HE57 rfl rfl rfl (not_t hc26)) rfl rfl fun a_446 HE447 => ?_
        refine pl_no HE447 (wtF HE447 rfl rfl rfl (not_t hc26)) rfl rfl fun a_448 HE449 => ?_
        refine pl_no HE449 (wtF HE449 rfl rfl rfl (not_t hc26)) rfl rfl fun a_450 HE451 => ?_
        refine pl_no HE451 (wtF HE451 rfl rfl rfl (not_t hc26)) rfl rfl fun a_452 HE453 => ?_
        refine pl_no HE453 (wtF HE453 rfl rfl rfl (not_t hc26)) rfl rfl fun a_454 HE455 => ?_
        refine pl_no HE455 (wtF HE455 rfl rfl rfl (not_t hc26)) rfl rfl fun a_456 HE457 => ?_
        refine pl_x HE457 HH1 (wt0 rfl) (x_pickT rfl (not_t hc26) rfl) rfl rfl fun a_458 HE459 => ?_
        refine wpList_nil ?_
        clear a_4 HE5 a_6 HE7 a_8 HE9 a_10 HE11 a_12 HE13 a_16 HE17 a_18 HE19 a_20 HE21 a_22 HE23 a_24 HE25 a_26 HE27 K_14 hK15 a_28 HE29 a_32 HE33 a_34 HE35 a_36 HE37 a_38 HE39 a_40 HE41 a_42 HE43 a_44 HE45 K_30 hK31 a_46 HE47 a_50 HE51 a_52 HE53 a_54 HE55 a_56 HE57 a_446 HE447 a_448 HE449 a_450 HE451 a_452 HE453 a_454 HE455 a_456 HE457 hK49 K_48
        refine nrm ?_
        refine cndT HE459 rfl rfl ?_
        refine wp_seq ?_
        refine rg ?_
        refine pl_x HE459 HH1 (wt0 rfl) (x_assign rfl) rfl rfl fun a_460 HE461 => ?_
        refine wpList_nil ?_
        clear a_458 HE459
        refine nrm ?_
        refine wp_ret ?_
        refine (thn_ret ?_)
        refine ret1 HE461 rfl (rv_tmp rfl) ?_
        have hF : (validMulti a0) = false := by
          first | (simp [validMulti, hc22, hc24, hc26]; done) | (unfold validMulti; rw [decide_eq_false (by omega)]; simp) | (unfold validMulti; rw [rg_hit (by omega : k < a0.2.2.2.length) (by unfold badMR; grind [beforeMR, validMR, rowB])]; simp) | (have hq := p0_1; rw [show k = a0.2.2.2.length from by omega] at hq; unfold validMulti; rw [hq, decide_eq_true (by omega)]; simp [hc22, hc24, hc26])
        exact ⟨by rw [hF] <;> rfl, HH1.below⟩
    · refine pl_no HE39 (wtF HE39 rfl rfl rfl (not_t hc24)) rfl rfl fun a_462 HE463 => ?_
      refine pl_no HE463 (wtF HE463 rfl rfl rfl (not_t hc24)) rfl rfl fun a_464 HE465 => ?_
      refine pl_no HE465 (wtF HE465 rfl rfl rfl (not_t hc24)) rfl rfl fun a_466 HE467 => ?_
      refine pl_no HE467 (wtF HE467 rfl rfl rfl (not_t hc24)) rfl rfl fun a_468 HE469 => ?_
      refine pl_no HE469 (wtF HE469 rfl rfl rfl (not_t hc24)) rfl rfl fun a_470 HE471 => ?_
      refine pl_no HE471 (wtF HE471 rfl rfl rfl (not_t hc24)) rfl rfl fun a_472 HE473 => ?_
      refine pl_x HE473 HH1 (wt0 rfl) (x_pickT rfl (not_t hc24) rfl) rfl rfl fun a_474 HE475 => ?_
      refine pl_x HE475 HH1 (wt0 rfl) (x_move rfl) rfl rfl fun a_476 HE477 => ?_
      refine pl_no HE477 (wtF HE477 rfl rfl rfl rfl) rfl rfl fun a_478 HE479 => ?_
      refine pl_no HE479 (wtF HE479 rfl rfl rfl rfl) rfl rfl fun a_480 HE481 => ?_
      refine pl_no HE481 (wtF HE481 rfl rfl rfl rfl) rfl rfl fun a_482 HE483 => ?_
      refine pl_no HE483 (wtF HE483 rfl rfl rfl rfl) rfl rfl fun a_484 HE485 => ?_
      refine pl_no HE485 (wtF HE485 rfl rfl rfl rfl) rfl rfl fun a_486 HE487 => ?_
      refine pl_no HE487 (wtF HE487 rfl rfl rfl rfl) rfl rfl fun a_488 HE489 => ?_
      refine pl_x HE489 HH1 (wt0 rfl) (x_pickT rfl rfl rfl) rfl rfl fun a_490 HE491 => ?_
      refine wpList_nil ?_
      clear a_4 HE5 a_6 HE7 a_8 HE9 a_10 HE11 a_12 HE13 a_16 HE17 a_18 HE19 a_20 HE21 a_22 HE23 a_24 HE25 a_26 HE27 K_14 hK15 a_28 HE29 a_32 HE33 a_34 HE35 a_36 HE37 a_38 HE39 a_462 HE463 a_464 HE465 a_466 HE467 a_468 HE469 a_470 HE471 a_472 HE473 a_474 HE475 a_476 HE477 a_478 HE479 a_480 HE481 a_482 HE483 a_484 HE485 a_486 HE487 a_488 HE489 hK31 K_30
      refine nrm ?_
      refine cndT HE491 rfl rfl ?_
      refine wp_seq ?_
      refine rg ?_
      refine pl_x HE491 HH1 (wt0 rfl) (x_assign rfl) rfl rfl fun a_492 HE493 => ?_
      refine wpList_nil ?_
      clear a_490 HE491
      refine nrm ?_
      refine wp_ret ?_
      refine (thn_ret ?_)
      refine ret1 HE493 rfl (rv_tmp rfl) ?_
      have hF : (validMulti a0) = false := by
        first | (simp [validMulti, hc22, hc24]; done) | (unfold validMulti; rw [decide_eq_false (by omega)]; simp) | (unfold validMulti; rw [rg_hit (by omega : k < a0.2.2.2.length) (by unfold badMR; grind [beforeMR, validMR, rowB])]; simp) | (have hq := p0_1; rw [show k = a0.2.2.2.length from by omega] at hq; unfold validMulti; rw [hq, decide_eq_true (by omega)]; simp [hc22, hc24])
      exact ⟨by rw [hF] <;> rfl, HH1.below⟩
  · refine pl_no HE21 (wtF HE21 rfl rfl rfl (not_t hc22)) rfl rfl fun a_494 HE495 => ?_
    refine pl_no HE495 (wtF HE495 rfl rfl rfl (not_t hc22)) rfl rfl fun a_496 HE497 => ?_
    refine pl_no HE497 (wtF HE497 rfl rfl rfl (not_t hc22)) rfl rfl fun a_498 HE499 => ?_
    refine pl_no HE499 (wtF HE499 rfl rfl rfl (not_t hc22)) rfl rfl fun a_500 HE501 => ?_
    refine pl_no HE501 (wtF HE501 rfl rfl rfl (not_t hc22)) rfl rfl fun a_502 HE503 => ?_
    refine pl_no HE503 (wtF HE503 rfl rfl rfl (not_t hc22)) rfl rfl fun a_504 HE505 => ?_
    refine pl_x HE505 HH1 (wt0 rfl) (x_pickT rfl (not_t hc22) rfl) rfl rfl fun a_506 HE507 => ?_
    refine pl_x HE507 HH1 (wt0 rfl) (x_move rfl) rfl rfl fun a_508 HE509 => ?_
    refine pl_no HE509 (wtF HE509 rfl rfl rfl rfl) rfl rfl fun a_510 HE511 => ?_
    refine pl_no HE511 (wtF HE511 rfl rfl rfl rfl) rfl rfl fun a_512 HE513 => ?_
    refine pl_no HE513 (wtF HE513 rfl rfl rfl rfl) rfl rfl fun a_514 HE515 => ?_
    refine pl_no HE515 (wtF HE515 rfl rfl rfl rfl) rfl rfl fun a_516 HE517 => ?_
    refine pl_no HE517 (wtF HE517 rfl rfl rfl rfl) rfl rfl fun a_518 HE519 => ?_
    refine pl_no HE519 (wtF HE519 rfl rfl rfl rfl) rfl rfl fun a_520 HE521 => ?_
    refine pl_x HE521 HH1 (wt0 rfl) (x_pickT rfl rfl rfl) rfl rfl fun a_522 HE523 => ?_
    refine pl_x HE523 HH1 (wt0 rfl) (x_move rfl) rfl rfl fun a_524 HE525 => ?_
    refine pl_no HE525 (wtF HE525 rfl rfl rfl rfl) rfl rfl fun a_526 HE527 => ?_
    refine pl_no HE527 (wtF HE527 rfl rfl rfl rfl) rfl rfl fun a_528 HE529 => ?_
    refine pl_no HE529 (wtF HE529 rfl rfl rfl rfl) rfl rfl fun a_530 HE531 => ?_
    refine pl_no HE531 (wtF HE531 rfl rfl rfl rfl) rfl rfl fun a_532 HE533 => ?_
    refine pl_no HE533 (wtF HE533 rfl rfl rfl rfl) rfl rfl fun a_534 HE535 => ?_
    refine pl_no HE535 (wtF HE535 rfl rfl rfl rfl) rfl rfl fun a_536 HE537 => ?_
    refine pl_x HE537 HH1 (wt0 rfl) (x_pickT rfl rfl rfl) rfl rfl fun a_538 HE539 => ?_
    refine wpList_nil ?_
    clear a_4 HE5 a_6 HE7 a_8 HE9 a_10 HE11 a_12 HE13 a_16 HE17 a_18 HE19 a_20 HE21 a_494 HE495 a_496 HE497 a_498 HE499 a_500 HE501 a_502 HE503 a_504 HE505 a_506 HE507 a_508 HE509 a_510 HE511 a_512 HE513 a_514 HE515 a_516 HE517 a_518 HE519 a_520 HE521 a_522 HE523 a_524 HE525 a_526 HE527 a_528 HE529 a_530 HE531 a_532 HE533 a_534 HE535 a_536 HE537 hK15 K_14
    refine nrm ?_
    refine cndT HE539 rfl rfl ?_
    refine wp_seq ?_
    refine rg ?_
    refine pl_x HE539 HH1 (wt0 rfl) (x_assign rfl) rfl rfl fun a_540 HE541 => ?_
    refine wpList_nil ?_
    clear a_538 HE539
    refine nrm ?_
    refine wp_ret ?_
    refine (thn_ret ?_)
    refine ret1 HE541 rfl (rv_tmp rfl) ?_
    have hF : (validMulti a0) = false := by
      first | (simp [validMulti, hc22]; done) | (unfold validMulti; rw [decide_eq_false (by omega)]; simp) | (unfold validMulti; rw [rg_hit (by omega : k < a0.2.2.2.length) (by unfold badMR; grind [beforeMR, validMR, rowB])]; simp) | (have hq := p0_1; rw [show k = a0.2.2.2.length from by omega] at hq; unfold validMulti; rw [hq, decide_eq_true (by omega)]; simp [hc22])
    exact ⟨by rw [hF] <;> rfl, HH1.below⟩

def sideB (xs : List Int) (s most : Int) : Bool := decide ((xs.length : Int) ≤ most) && allW xs 0 (s - 1) && (((xs.length : Int) == 0) || (xs[xs.length - 1]?.getD 0 != 0))

def side200 (xs : List Int) (s : Int) : Bool := sideB xs s 200

theorem validMulti_facts {m : tMulti} (h : validMulti m = true) : (2 ≤ m.1 ∧ m.1 ≤ 3) ∧ (2 ≤ m.2.1 ∧ m.2.1 ≤ 3) ∧ (1 ≤ m.2.2.1 ∧ m.2.2.1 ≤ 16) ∧ m.2.2.2.length ≤ 60 := by
  unfold validMulti at h
  simp only [Bool.and_eq_true, decide_eq_true_eq] at h
  have h1 := withinB_true.1 h.1.1.1.1
  have h2 := withinB_true.1 h.1.1.1.2
  have h3 := withinB_true.1 h.1.1.2
  exact ⟨h1, h2, h3, by omega⟩

set_option maxRecDepth 100000 in
set_option maxHeartbeats 4000000 in
theorem spec_l06Side (A0 : Option Addr) (c0 : Nat) (a0 : (List Int)) (a1 : Int) (w : World) (h0 : Sl eInt w (Old w) A0 c0 a0) (s0 : -1000 ≤ a1 ∧ a1 ≤ 1000) :
    Calls Try.prog 148 #[.slice A0 a0.length c0, .int .i64 a1] w fun e w' => e = .returned (.bool (side200 a0 a1)) ∧ Below w.heap.size w w' := by
  have l0 := h0.len
  have HH1 := Held.start Nob w
  refine enter (n := 35) Try.func148 rfl rfl rfl fun a_2 HE3 => ?_
  refine wp_seq ?_
  refine rg ?_
  refine pl_x HE3 HH1 (wt0 rfl) (x_assign rfl) rfl rfl fun a_4 HE5 => ?_
  refine wpList_nil ?_
  clear a_2 HE3
  refine nrm ?_
  refine wp_seq ?_
  refine wp_seq ?_
  refine rg ?_
  refine pl_x HE5 HH1 (wt0 rfl) (x_move rfl) rfl rfl fun a_6 HE7 => ?_
  refine pl_x HE7 HH1 (wt0 rfl) (x_len Try.underlying31 rfl) rfl rfl fun a_8 HE9 => ?_
  refine pl_x HE9 HH1 (wt0 rfl) (x_gtr rfl rfl) rfl rfl fun a_10 HE11 => ?_
  refine wpList_nil ?_
  clear a_4 HE5 a_6 HE7 a_8 HE9
  refine nrm ?_
  refine cnd_d HE11 rfl (fun hc21 => ?_) (fun hc21 => ?_)
  · refine wp_seq ?_
    refine rg ?_
    refine pl_x HE11 HH1 (wt0 rfl) (x_assign rfl) rfl rfl fun a_12 HE13 => ?_
    refine wpList_nil ?_
    clear a_10 HE11
    refine nrm ?_
    refine wp_ret ?_
    refine (thn_ret ?_)
    refine ret1 HE13 rfl (rv_tmp rfl) ?_
    have hF : (side200 a0 a1) = false := by
      unfold side200; first | (unfold sideB; rw [decide_eq_false (by omega)]; rfl) | (unfold sideB allW; rw [any_hit (by omega : k < a0.length) (by rw [← xe0, outB_eq, hc21]; rfl)]; simp) | (have hq := p0_1; rw [List.take_of_length_le (by omega)] at hq; unfold sideB allW; rw [hq]; grind)
    exact ⟨by rw [hF] <;> rfl, HH1.below⟩
  · refine wp_skip ?_
    refine nrm ?_
    refine wp_seq ?_
    refine wp_seq ?_
    refine rg ?_
    refine pl_x HE11 HH1 (wt0 rfl) (x_assign rfl) rfl rfl fun a_14 HE15 => ?_
    refine wpList_nil ?_
    clear a_10 HE11
    refine nrm ?_
    refine wp_block ?_
    refine lp (fun m a w' => ∃ (k : Nat), m = a0.length - k ∧ Env 35 [(5, .int .i64 (k : Int)), (0, .slice A0 (a0.length) c0), (1, .int .i64 (a1))] a ∧ Held Nob w [] w' ∧ (k ≤ a0.length) ∧ ((a0.take k).any (outB 0 (a1 - 1)) = false)) (a0.length - (0)) ?_ ?_
    · exact ⟨0, rfl, HE15.sub ⟨(lkI rfl (by first | rfl | omega | (simp [hc21]; done))), rfl, rfl, trivial⟩, (HH1.sel [] (by decide) rfl), (by first | omega | assumption | (simp; done) | simp_all), (by rfl)⟩
    · rintro m a_16 w' ⟨k, rfl, HE17, HH18, p22_0, p22_1⟩
      refine wp_seq ?_
      refine wp_seq ?_
      refine rg ?_
      refine pl_x HE17 HH18 (wt0 rfl) (x_move rfl) rfl rfl fun a_19 HE20 => ?_
      refine pl_x HE20 HH18 (wt0 rfl) (x_move rfl) rfl rfl fun a_21 HE22 => ?_
      refine pl_x HE22 HH18 (wt0 rfl) (x_len Try.underlying31 rfl) rfl rfl fun a_23 HE24 => ?_
      refine pl_x HE24 HH18 (wt0 rfl) (x_lss rfl rfl) rfl rfl fun a_25 HE26 => ?_
      refine wpList_nil ?_
      clear a_14 HE15 HH1 a_16 HE17 a_19 HE20 a_21 HE22 a_23 HE24
      refine nrm ?_
      refine cnd_d HE26 rfl (fun hc23 => ?_) (fun hc23 => ?_)
      · refine wp_skip ?_
        refine nrm ?_
        refine wp_seq ?_
        refine wp_block ?_
        refine wp_seq ?_
        refine rg ?_
        refine pl_x HE26 HH18 (wt0 rfl) (x_move rfl) rfl rfl fun a_27 HE28 => ?_
        refine pl_x HE28 HH18 (wt0 rfl) (x_move rfl) rfl rfl fun a_29 HE30 => ?_
        have ke24 : k < a0.length := by omega
        obtain ⟨be24, fe24, ese24, Ae24, Re24, De24⟩ := el_old h0 ke24
        obtain ⟨e24, xe24⟩ : ∃ x, x = a0[k] := ⟨_, rfl⟩
        rw [← xe24] at Re24
        have Qe24 := Re24
        obtain ⟨rfl, ie24⟩ := Re24
        have je24 := ie24; unfold I64 at je24
        refine pl_x HE30 HH18 (wt0 rfl) (x_indexAddr ts_31 rfl rfl Ae24 rfl ke24) rfl rfl fun a_31 HE32 => ?_
        refine pl_x HE32 HH18 (wt0 rfl) (x_load1 tv_2 rfl (c_old (De24 0 _ rfl))) rfl rfl fun a_33 HE34 => ?_
        refine pl_x HE34 HH18 (wt0 rfl) (x_move rfl) rfl rfl fun a_35 HE36 => ?_
        refine pl_x HE36 HH18 (wt0 rfl) (x_sub rfl rfl (by exact ⟨by omega, by omega⟩)) rfl rfl fun a_37 HE38 => ?_
        refine pl fun K_39 hK40 => ?_
        refine st_call HE38 (wt0 rfl) rfl rfl rfl en_108 rfl rfl (spec_l00In e24 0 (a1 - 1) _ ) fun e w' hr => ?_
        obtain ⟨rfl, rfl⟩ := hr
        refine ⟨_, rfl, fun a_41 HE42 => hK40 _ _ ?_⟩
        refine pl_x HE42 HH18 (wt0 rfl) (x_not rfl) rfl rfl fun a_43 HE44 => ?_
        refine wpList_nil ?_
        clear a_25 HE26 a_27 HE28 a_29 HE30 a_31 HE32 a_33 HE34 a_35 HE36 a_37 HE38 a_41 HE42 hK40 K_39
        refine nrm ?_
        refine cnd_nb HE44 rfl (fun hc26 => ?_) (fun hc26 => ?_)
        · refine wp_seq ?_
          refine rg ?_
          refine pl_x HE44 HH18 (wt0 rfl) (x_assign rfl) rfl rfl fun a_45 HE46 => ?_
          refine wpList_nil ?_
          clear a_43 HE44
          refine nrm ?_
          refine wp_ret ?_
          refine (blk_ret (thn_ret (thn_ret (blk_ret (thn_ret ?_)))))
          refine ret1 HE46 rfl (rv_tmp rfl) ?_
          have hF : (side200 a0 a1) = false := by
            unfold side200; first | (unfold sideB; rw [decide_eq_false (by omega)]; rfl) | (unfold sideB allW; rw [any_hit (by omega : k < a0.length) (by rw [← xe24, outB_eq, hc26]; rfl)]; simp) | (have hq := p22_1; rw [List.take_of_length_le (by omega)] at hq; unfold sideB allW; rw [hq]; grind)
          exact ⟨by rw [hF] <;> rfl, HH18.below⟩
        · refine wp_skip ?_
          refine blk_n ?_
          refine nrm ?_
          refine rg ?_
          refine pl_x HE44 HH18 (wt0 rfl) (x_move rfl) rfl rfl fun a_47 HE48 => ?_
          refine pl_x HE48 HH18 (wt0 rfl) (x_add rfl rfl (by exact ⟨by omega, by omega⟩)) rfl rfl fun a_49 HE50 => ?_
          refine pl_x HE50 HH18 (wt0 rfl) (x_assign rfl) rfl rfl fun a_51 HE52 => ?_
          refine wpList_nil ?_
          clear a_43 HE44 a_47 HE48 a_49 HE50
          exact nrm ⟨a0.length - (k + 1), (by omega), k + 1, rfl, HE52.sub ⟨(lkI rfl (by first | rfl | omega | (simp [hc21, p22_0, p22_1, hc23, xe24, hc26]; done))), rfl, rfl, trivial⟩, (HH18.sel [] (by decide) rfl), (by first | omega | assumption | (simp; done) | simp_all), (by exact any_step (by omega) p22_1 (by rw [← xe24, outB_eq, hc26]; rfl))⟩
      · refine wp_exit ?_
        refine (thn_exit (thn_exit (blk_hit ?_)))
        refine nrm ?_
        refine wp_seq ?_
        refine rg ?_
        refine pl_x HE26 HH18 (wt0 rfl) (x_move rfl) rfl rfl fun a_53 HE54 => ?_
        refine pl_x HE54 HH18 (wt0 rfl) (x_len Try.underlying31 rfl) rfl rfl fun a_55 HE56 => ?_
        refine pl_x HE56 HH18 (wt0 rfl) (x_eql rfl rfl) rfl rfl fun a_57 HE58 => ?_
        refine pl_x HE58 HH18 (wt0 rfl) (x_move rfl) rfl rfl fun a_59 HE60 => ?_
        by_cases hc27 : (a0.length : Int) = 0
        · refine pl_no HE60 (wtF HE60 rfl rfl rfl (beq_t hc27)) rfl rfl fun a_61 HE62 => ?_
          refine pl_no HE62 (wtF HE62 rfl rfl rfl (beq_t hc27)) rfl rfl fun a_63 HE64 => ?_
          refine pl_no HE64 (wtF HE64 rfl rfl rfl (beq_t hc27)) rfl rfl fun a_65 HE66 => ?_
          refine pl_no HE66 (wtF HE66 rfl rfl rfl (beq_t hc27)) rfl rfl fun a_67 HE68 => ?_
          refine pl_no HE68 (wtF HE68 rfl rfl rfl (beq_t hc27)) rfl rfl fun a_69 HE70 => ?_
          refine pl_no HE70 (wtF HE70 rfl rfl rfl (beq_t hc27)) rfl rfl fun a_71 HE72 => ?_
          refine pl_no HE72 (wtF HE72 rfl rfl rfl (beq_t hc27)) rfl rfl fun a_73 HE74 => ?_
          refine pl_x HE74 HH18 (wt0 rfl) (x_pickT rfl (beq_t hc27) rfl) rfl rfl fun a_75 HE76 => ?_
          refine pl_x HE76 HH18 (wt0 rfl) (x_assign rfl) rfl rfl fun a_77 HE78 => ?_
          refine wpList_nil ?_
          clear a_25 HE26 a_53 HE54 a_55 HE56 a_57 HE58 a_59 HE60 a_61 HE62 a_63 HE64 a_65 HE66 a_67 HE68 a_69 HE70 a_71 HE72 a_73 HE74 a_75 HE76
          refine nrm ?_
          refine wp_ret ?_
          refine ret1 HE78 rfl (rv_tmp rfl) ?_
          have hF : (side200 a0 a1) = true := by
            unfold side200; first | (unfold sideB; rw [decide_eq_false (by omega)]; rfl) | (unfold sideB allW; rw [any_hit (by omega : k < a0.length) (by rw [← xe0, outB_eq, hc27]; rfl)]; simp) | (have hq := p22_1; rw [List.take_of_length_le (by omega)] at hq; unfold sideB allW; rw [hq]; grind)
          exact ⟨by rw [hF] <;> rfl, HH18.below⟩
        · refine pl_x HE60 HH18 (wtT HE60 rfl rfl rfl (beq_f hc27)) (x_move rfl) rfl rfl fun a_79 HE80 => ?_
          refine pl_x HE80 HH18 (wtT HE80 rfl rfl rfl (beq_f hc27)) (x_move rfl) rfl rfl fun a_81 HE82 => ?_
          refine pl_x HE82 HH18 (wtT HE82 rfl rfl rfl (beq_f hc27)) (x_len Try.underlying31 rfl) rfl rfl fun a_83 HE84 => ?_
          refine pl_x HE84 HH18 (wtT HE84 rfl rfl rfl (beq_f hc27)) (x_sub rfl rfl (by exact ⟨by omega, by omega⟩)) rfl rfl fun a_85 HE86 => ?_
          have ke28 : (a0.length - 1) < a0.length := by omega
          obtain ⟨be28, fe28, ese28, Ae28, Re28, De28⟩ := el_old h0 ke28
          obtain ⟨e28, xe28⟩ : ∃ x, x = a0[(a0.length - 1)] := ⟨_, rfl⟩
          rw [← xe28] at Re28
          have Qe28 := Re28
          obtain ⟨rfl, ie28⟩ := Re28
          have je28 := ie28; unfold I64 at je28
          refine pl_x HE86 HH18 (wtT HE86 rfl rfl rfl (beq_f hc27)) (x_indexAddr ts_31 rfl rfl Ae28 (by omega) ke28) rfl rfl fun a_87 HE88 => ?_
          refine pl_x HE88 HH18 (wtT HE88 rfl rfl rfl (beq_f hc27)) (x_load1 tv_2 rfl (c_old (De28 0 _ rfl))) rfl rfl fun a_89 HE90 => ?_
          refine pl_x HE90 HH18 (wtT HE90 rfl rfl rfl (beq_f hc27)) (x_neq rfl rfl) rfl rfl fun a_91 HE92 => ?_
          refine pl_x HE92 HH18 (wt0 rfl) (x_pickF rfl (beq_f hc27) rfl) rfl rfl fun a_93 HE94 => ?_
          refine pl_x HE94 HH18 (wt0 rfl) (x_assign rfl) rfl rfl fun a_95 HE96 => ?_
          refine wpList_nil ?_
          clear a_25 HE26 a_53 HE54 a_55 HE56 a_57 HE58 a_59 HE60 a_79 HE80 a_81 HE82 a_83 HE84 a_85 HE86 a_87 HE88 a_89 HE90 a_91 HE92 a_93 HE94
          refine nrm ?_
          refine wp_ret ?_
          refine ret1 HE96 rfl (rv_tmp rfl) ?_
          have hF : (side200 a0 a1) = (e28 != 0) := by
            unfold side200; first | (unfold sideB; rw [decide_eq_false (by omega)]; rfl) | (unfold sideB allW; rw [any_hit (by omega : k < a0.length) (by rw [← xe28, outB_eq, hc27]; rfl)]; simp) | (have hq := p22_1; rw [List.take_of_length_le (by omega)] at hq; unfold sideB allW; rw [hq]; grind)
          exact ⟨by rw [hF] <;> rfl, HH18.below⟩

def badWd (m : tMulti) (w : List Int) : Bool := !(decide ((w.length : Int) ≤ 200) && allW w 0 (m.2.1 - 1))

def startT (w : List Int) : tTape := ([], trimZ w)

def startMC (m : tMulti) (ws : List (List Int)) : tMultiConfig × Int :=
  if validMulti m = true then (if (ws.length : Int) = m.1 then (if ws.any (badWd m) = true then ((0, []), 2) else ((0, ws.map startT), 0)) else ((0, []), 2)) else ((0, []), 1)

theorem trimZ_allW {s : Int} (hs : 1 ≤ s) : ∀ xs : List Int, allW (trimZ xs) 0 (s - 1) = allW xs 0 (s - 1)
  | [] => rfl
  | x :: xs => by
    have ih := trimZ_allW hs xs
    rw [trimZ_cons]
    split
    · rename_i h
      rw [h.2] at ih
      unfold allW at ih ⊢
      rw [List.any_cons, h.1, outB_eq, withinB_true.2 ⟨by omega, by omega⟩]
      simpa using ih
    · unfold allW at ih ⊢
      rw [List.any_cons, List.any_cons, Bool.not_or, Bool.not_or, ih]

theorem trimZ_last : ∀ xs : List Int, trimZ xs = [] ∨ (trimZ xs)[(trimZ xs).length - 1]?.getD 0 ≠ 0
  | [] => .inl rfl
  | x :: xs => by
    rw [trimZ_cons]
    split
    · exact .inl rfl
    · rename_i h
      right
      rcases trimZ_last xs with h1 | h1
      · rw [h1]
        simp
        intro h2
        exact h ⟨h2, h1⟩
      · cases hq : trimZ xs with
        | nil => rw [hq] at h1; simp at h1
        | cons y ys => rw [hq] at h1; simpa using h1

theorem side_trim {s : Int} (hs : 1 ≤ s) (w : List Int) : (w.length : Int) ≤ 200 → side200 (trimZ w) s = allW w 0 (s - 1) := fun hl => by
  have h1 := trimZ_len w
  unfold side200 sideB
  rw [trimZ_allW hs, decide_eq_true (by omega)]
  rcases trimZ_last w with h | h
  · rw [h]; simp
  · rw [show ((trimZ w)[(trimZ w).length - 1]?.getD 0 != 0) = true from by simpa using h]; simp

theorem cost_mem_LL : ∀ {xs : List (List Int)} {x : List Int}, x ∈ xs → x.length ≤ cost_LL xs
  | y :: ys, x, h => by
    have e : cost_LL (y :: ys) = cost_LL ys + 1 + y.length := by
      unfold cost_LL costL cost_L
      simp; omega
    rcases List.mem_cons.1 h with rfl | h
    · omega
    · have := cost_mem_LL h
      omega

theorem startMC_ct (m : tMulti) (ws : List (List Int)) : (cv_MultiConfig (startMC m ws).1 : Int) ≤ 1000000000 := by
  unfold startMC
  split
  · rename_i hv
    obtain ⟨v0, v1, v2, v3⟩ := validMulti_facts hv
    split
    · split
      · exact (by decide : (cv_MultiConfig (0, []) : Int) ≤ 1000000000)
      · rename_i hl hb
        show (ct_STape (ws.map startT) : Int) ≤ _
        have h1 : ct_STape (ws.map startT) ≤ 200 * (ws.map startT).length := cntL_bound fun x hx => by
          obtain ⟨w, hw, rfl⟩ := List.mem_map.1 hx
          have hq : badWd m w = false := by
            refine Classical.byContradiction fun hn => hb (List.any_eq_true.2 ⟨w, hw, by simpa using hn⟩)
          unfold badWd at hq
          simp only [Bool.not_eq_false', Bool.and_eq_true, decide_eq_true_eq] at hq
          have a1 := ct_L_len ([] : List Int)
          have a2 := ct_L_len (trimZ w)
          have a3 := trimZ_len w
          show ct_L [] + ct_L (trimZ w) ≤ 200
          rw [List.length_nil] at a1
          omega
        rw [List.length_map] at h1
        omega
    · exact (by decide : (cv_MultiConfig (0, []) : Int) ≤ 1000000000)
  · exact (by decide : (cv_MultiConfig (0, []) : Int) ≤ 1000000000)

theorem ct_cost_LL (xs : List (List Int)) : ct_LL xs ≤ 4 * cost_LL xs := cntL_cost (fun x => by
  have h1 := ct_L_len x
  unfold cost_L; omega) xs

set_option maxRecDepth 100000 in
set_option maxHeartbeats 4000000 in
theorem impl_StartMulti (es0 : List Value) (a0 : tMulti) (A1 : Option Addr) (c1 : Nat) (a1 : (List (List Int))) (w : World) (h0 : eMulti.R w (Old w) es0 a0) (h1 : Sl (eSl eInt) w (Old w) A1 c1 a1) :
    Calls Try.prog 69 #[.agg es0.toArray, .slice A1 a1.length c1] w fun e w' => ∃ (es0' : List Value), e = .returned (.tuple #[.agg es0'.toArray, .int .i64 (startMC a0 a1).2]) ∧ eMultiConfig.O w' (Fr w w') es0' (startMC a0 a1).1 ∧ Below w.heap.size w w' := by
  have H0 := h0
  obtain ⟨Az0_3, cz0_3, rfl, gz0_0, gz0_1, gz0_2, gz0_3⟩ := shape_Multi h0
  have jz0_0 := gz0_0; unfold I64 at jz0_0
  have jz0_1 := gz0_1; unfold I64 at jz0_1
  have jz0_2 := gz0_2; unfold I64 at jz0_2
  have lz0_3 := gz0_3.len
  have l1 := h1.len
  have HH1 := Held.start Nob w
  refine enter (n := 49) Try.func69 rfl rfl rfl fun a_2 HE3 => ?_
  refine wp_seq ?_
  refine rg ?_
  refine pl fun K_4 hK5 => ?_
  refine st_box (cs := [.int .i64 (a0.1), .int .i64 (a0.2.1), .int .i64 (a0.2.2.1), .slice Az0_3 (a0.2.2.2.length) cz0_3]) HE3 HH1 rfl rfl (wt0 rfl) rfl fun q21 a_6 w' HE7 HH8 => hK5 _ _ ?_
  refine pl fun K_9 hK10 => ?_
  refine st_alloc HE7 HH8 tv_87 (wt0 rfl) rfl fun q22 a_11 w' HE12 HH13 => hK10 _ _ ?_
  refine pl_x HE12 HH13 (wt0 rfl) (x_assign rfl) rfl rfl fun a_14 HE15 => ?_
  refine wpList_nil ?_
  clear a_2 HE3 HH1 K_4 hK5 a_6 HE7 HH8 a_11 HE12 hK10 K_9
  refine nrm ?_
  refine wp_seq ?_
  refine wp_seq ?_
  refine rg ?_
  refine pl_x HE15 HH13 (wt0 rfl) (x_loadN (cs := [.int .i64 (a0.1), .int .i64 (a0.2.1), .int .i64 (a0.2.2.1), .slice Az0_3 (a0.2.2.2.length) cz0_3]) tv_83 rfl rfl (c_blkN 1 rfl)) rfl rfl fun a_16 HE17 => ?_
  refine pl fun K_18 hK19 => ?_
  refine st_call HE17 (wt0 rfl) rfl rfl rfl en_137 rfl rfl (impl_ValidMulti [.int .i64 (a0.1), .int .i64 (a0.2.1), .int .i64 (a0.2.2.1), .slice Az0_3 (a0.2.2.2.length) cz0_3] a0 _ (HH13.oldR H0)) fun e w' hr => ?_
  obtain ⟨rfl, hbr23⟩ := hr
  have HH20 := HH13.on hbr23
  refine ⟨_, rfl, fun a_21 HE22 => hK19 _ _ ?_⟩
  refine pl_x HE22 HH20 (wt0 rfl) (x_not rfl) rfl rfl fun a_23 HE24 => ?_
  refine wpList_nil ?_
  clear a_14 HE15 HH13 a_16 HE17 a_21 HE22 hK19 K_18
  refine nrm ?_
  refine cnd_nb HE24 rfl (fun hc24 => ?_) (fun hc24 => ?_)
  · refine wp_seq ?_
    refine rg ?_
    refine pl_x HE24 HH20 (wt0 rfl) (show XS _ _ _ _ (.agg #[.int .i64 (0), .slice none (0) 0]) from x_build (vs := []) tb_87 rfl (by simp [Value.oneCell'])) rfl rfl fun a_25 HE26 => ?_
    refine pl fun K_27 hK28 => ?_
    refine st_store (vs := [.int .i64 (0), .slice none (0) 0]) 0 HE26 HH20 tv_87 rfl rfl rfl rfl rfl rfl (by simp [Value.oneCell']) (wt0 rfl) fun w' HH29 => hK28 _ _ ?_
    refine pl_x HE26 HH29 (wt0 rfl) (x_assign rfl) rfl rfl fun a_30 HE31 => ?_
    refine wpList_nil ?_
    clear a_23 HE24 HH20 a_25 HE26 hK28 K_27
    refine nrm ?_
    refine wp_ret ?_
    refine (thn_ret ?_)
    refine ret2 HE31 rfl (rv_cell rfl (tv_87.loadN (cs := [.int .i64 (0), .slice none (0) 0]) rfl (c_blkN 0 rfl _ HH29))) (rv_tmp rfl) ?_
    have HH32 := HH29.flatO (E := eMultiConfig) (cs := [.int .i64 (0), .slice none (0) 0]) (x := (0, [])) (fun _ => (oPrN (oI (by exact ⟨by omega, by omega⟩)) (oSl (So.nil (Nat.zero_le _)))))
    have hF : (startMC a0 a1) = ((0, []), 1) := by
      first | (simp [startMC, hc24]; done) | (unfold startMC; rw [if_pos ‹_›, if_neg (by omega)]; done) | (unfold startMC; rw [if_pos ‹_›, if_pos (by omega), if_pos (any_hit (by omega : k < a1.length) (by rw [← xe0]; unfold badWd; grind))]; done) | (have hq := p0_1; rw [List.take_of_length_le (by omega)] at hq; unfold startMC; rw [if_pos ‹_›, if_pos (by omega), hq, List.take_of_length_le (by omega)]; rfl)
    exact ⟨_, by rw [hF] <;> rfl, by rw [hF]; exact (HH32.o (i := 0) rfl), HH32.below⟩
  · obtain ⟨v0, v1, v2, v3⟩ := validMulti_facts hc24
    refine wp_skip ?_
    refine nrm ?_
    refine wp_seq ?_
    refine wp_seq ?_
    refine dr_start (Held Nob w [rBlk q22 87 [.int .i64 (0), .slice none (0) 0], rBlk q21 83 [.int .i64 (a0.1), .int .i64 (a0.2.1), .int .i64 (a0.2.2.1), .slice Az0_3 (a0.2.2.2.length) cz0_3]]) 5 #[false, false, false, false, false] hmix rfl rfl HH20 (fun _ h => h.sel [0, 1] (by decide) rfl) fun w' HH33 => ?_
    have HS34 := HH33
    refine dr_take (i := 0) (ls' := #[true, false, false, false, false]) HE24 HS34 rfl (by kernel_rfl) (by kernel_rfl) (by kernel_rfl) (fun _ _ _ h => h) rfl (wt0 rfl) (x_move rfl) rfl rfl fun a_35 HE36 => ?_
    refine dr_take (i := 2) (ls' := #[true, false, true, false, false]) HE36 HS34 rfl (by kernel_rfl) (by kernel_rfl) (by kernel_rfl) (fun _ _ _ h => h) rfl (wt0 rfl) (x_fieldAddr fa_83_0 rfl) rfl rfl fun a_37 HE38 => ?_
    refine dr_take (i := 3) (ls' := #[true, false, true, true, false]) HE38 HS34 rfl (by kernel_rfl) (by kernel_rfl) (by kernel_rfl) (fun _ _ _ h => h) rfl (wt0 rfl) (x_load1 tv_2 rfl (c_blk 1 rfl rfl)) rfl rfl fun a_39 HE40 => ?_
    refine dr_one (i := 1) (ls' := #[true, true, true, true, false]) rfl (by kernel_rfl) rfl fun K_41 hK42 => ?_
    refine st_call HE40 (wt0 rfl) rfl rfl rfl en_149 rfl rfl (impl_size_Int64S _ _ _ _) fun e w' hr => ?_
    obtain ⟨rfl, rfl⟩ := hr
    refine ⟨_, rfl, fun a_43 HE44 => hK42 _ _ (by exact HH33.sel [0, 1] (by decide) rfl) ?_⟩
    have HS45 := HH33.sel [0, 1] (by decide) rfl
    refine dr_take (i := 4) (ls' := #[true, true, true, true, true]) HE44 HS45 rfl (by kernel_rfl) (by kernel_rfl) (by kernel_rfl) (fun _ _ _ h => h) rfl (wt0 rfl) (x_neq rfl rfl) rfl rfl fun a_46 HE47 => ?_
    refine dr_done (by kernel_rfl) ?_
    clear HH20 a_23 HE24 a_35 HE36 a_37 HE38 a_39 HE40 HS34 a_43 HE44 hK42 K_41
    refine nrm ?_
    refine cnd_ne HE47 rfl (fun hc26 => ?_) (fun hc26 => ?_)
    · refine wp_seq ?_
      refine rg ?_
      refine pl_x HE47 HH33 (wt0 rfl) (show XS _ _ _ _ (.agg #[.int .i64 (0), .slice none (0) 0]) from x_build (vs := []) tb_87 rfl (by simp [Value.oneCell'])) rfl rfl fun a_48 HE49 => ?_
      refine pl fun K_50 hK51 => ?_
      refine st_store (vs := [.int .i64 (0), .slice none (0) 0]) 0 HE49 HH33 tv_87 rfl rfl rfl rfl rfl rfl (by simp [Value.oneCell']) (wt0 rfl) fun w' HH52 => hK51 _ _ ?_
      refine pl_x HE49 HH52 (wt0 rfl) (x_assign rfl) rfl rfl fun a_53 HE54 => ?_
      refine wpList_nil ?_
      clear a_46 HE47 HH33 a_48 HE49 hK51 K_50
      refine nrm ?_
      refine wp_ret ?_
      refine (thn_ret ?_)
      refine ret2 HE54 rfl (rv_cell rfl (tv_87.loadN (cs := [.int .i64 (0), .slice none (0) 0]) rfl (c_blkN 0 rfl _ HH52))) (rv_tmp rfl) ?_
      have HH55 := HH52.flatO (E := eMultiConfig) (cs := [.int .i64 (0), .slice none (0) 0]) (x := (0, [])) (fun _ => (oPrN (oI (by exact ⟨by omega, by omega⟩)) (oSl (So.nil (Nat.zero_le _)))))
      have hF : (startMC a0 a1) = ((0, []), 2) := by
        first | (simp [startMC, hc24, hc26]; done) | (unfold startMC; rw [if_pos ‹_›, if_neg (by omega)]; done) | (unfold startMC; rw [if_pos ‹_›, if_pos (by omega), if_pos (any_hit (by omega : k < a1.length) (by rw [← xe0]; unfold badWd; grind))]; done) | (have hq := p0_1; rw [List.take_of_length_le (by omega)] at hq; unfold startMC; rw [if_pos ‹_›, if_pos (by omega), hq, List.take_of_length_le (by omega)]; rfl)
      exact ⟨_, by rw [hF] <;> rfl, by rw [hF]; exact (HH55.o (i := 0) rfl), HH55.below⟩
    · refine wp_skip ?_
      refine nrm ?_
      refine wp_seq ?_
      refine rg ?_
      refine pl_x HE47 HH33 (wt0 rfl) (show XS _ _ _ _ (.agg #[.int .i64 (0), .slice none (0) 0]) from x_build (vs := []) tb_87 rfl (by simp [Value.oneCell'])) rfl rfl fun a_56 HE57 => ?_
      refine pl fun K_58 hK59 => ?_
      refine st_alloc HE57 HH33 tv_87 (wt0 rfl) rfl fun q27 a_60 w' HE61 HH62 => hK59 _ _ ?_
      refine pl fun K_63 hK64 => ?_
      refine st_store (vs := [.int .i64 (0), .slice none (0) 0]) 0 HE61 HH62 tv_87 rfl rfl rfl rfl rfl rfl (by simp [Value.oneCell']) (wt0 rfl) fun w' HH65 => hK64 _ _ ?_
      refine wpList_nil ?_
      clear a_46 HE47 a_56 HE57 HH33 K_58 hK59 HH62 hK64 K_63
      refine nrm ?_
      refine wp_seq ?_
      refine wp_seq ?_
      refine rg ?_
      refine pl_x HE61 HH65 (wt0 rfl) (x_move rfl) rfl rfl fun a_66 HE67 => ?_
      refine pl_x HE67 HH65 (wt0 rfl) (x_len Try.underlying92 rfl) rfl rfl fun a_68 HE69 => ?_
      refine pl_x HE69 HH65 (wt0 rfl) (x_move rfl) rfl rfl fun a_70 HE71 => ?_
      refine wpList_nil ?_
      clear a_60 HE61 a_66 HE67 a_68 HE69
      refine nrm ?_
      refine wp_block ?_
      have HH72 := HH65.vecNil eTape 176
      refine lp (fun m a w' => ∃ (k : Nat) (A_6_1 : Option Addr) (c_6_1 : Nat) (S_6_1 : Nat → Prop), m = a1.length - k ∧ Env 49 [(22, .int .i64 (k : Int)), (2, .pointer (some ⟨q21, 0, none⟩)), (4, .pointer (some ⟨q22, 0, none⟩)), (6, .pointer (some ⟨q27, 0, none⟩)), (20, .slice A1 (a1.length) c1), (21, .int .i64 ((a1.length : Int)))] a ∧ Held Nob w [rVec eTape 176 S_6_1 A_6_1 c_6_1 ((a1.take k).map startT), rBlk q27 87 [.int .i64 0, .slice A_6_1 (List.length ((a1.take k).map startT)) c_6_1], rBlk q22 87 [.int .i64 (0), .slice none (0) 0], rBlk q21 83 [.int .i64 (a0.1), .int .i64 (a0.2.1), .int .i64 (a0.2.2.1), .slice Az0_3 (a0.2.2.2.length) cz0_3]] w' ∧ (k ≤ a1.length) ∧ ((a1.take k).any (badWd a0) = false)) (a1.length - (0)) ?_ ?_
      · have E28 : (a1.take 0).map startT = [] := by
          first | rfl | simp
        exact ⟨0, none, 0, Nob, rfl, HE71.sub ⟨(lkI rfl (by first | rfl | omega | (simp [hc24, hc26]; done))), rfl, rfl, rfl, rfl, rfl, trivial⟩, ((HH72.sel [0, 1, 2, 3] (by decide) rfl).to (by first | rfl | (rw [E28]; done) | (rw [E28]; rfl) | (simp only [E28]; done) | (simp only [E28]; rfl))), (by first | omega | assumption | (simp; done) | simp_all), (by rfl)⟩
      · rintro m a_73 w' ⟨k, A_6_1, c_6_1, S_6_1, rfl, HE74, HH75, p29_0, p29_1⟩
        have ol : ((a1.take k).map startT).length ≤ 60 := by rw [List.length_map, List.length_take]; omega
        refine wp_seq ?_
        refine rg ?_
        refine pl_x HE74 HH75 (wt0 rfl) (x_lss rfl rfl) rfl rfl fun a_76 HE77 => ?_
        refine wpList_nil ?_
        clear HH65 a_70 HE71 HH72 a_73 HE74
        refine nrm ?_
        refine wp_seq ?_
        refine cnd_d HE77 rfl (fun hc30 => ?_) (fun hc30 => ?_)
        · refine wp_skip ?_
          refine nrm ?_
          refine wp_seq ?_
          refine wp_block ?_
          refine wp_seq ?_
          refine rg ?_
          have ke31 : k < a1.length := by omega
          obtain ⟨be31, fe31, ese31, Ae31, Re31, De31⟩ := el_old h1 ke31
          obtain ⟨e31, xe31⟩ : ∃ x, x = a1[k] := ⟨_, rfl⟩
          rw [← xe31] at Re31
          have Qe31 := Re31
          obtain ⟨Ae31_0, ce31_0, rfl, ge31_0⟩ := Re31
          have le31_0 := ge31_0.len
          refine pl_x HE77 HH75 (wt0 rfl) (x_indexAddr ts_92 rfl rfl Ae31 rfl ke31) rfl rfl fun a_78 HE79 => ?_
          refine pl_x HE79 HH75 (wt0 rfl) (x_load1 tv_31 rfl (c_old (De31 0 _ rfl))) rfl rfl fun a_80 HE81 => ?_
          refine pl_x HE81 HH75 (wt0 rfl) (x_assign rfl) rfl rfl fun a_82 HE83 => ?_
          refine wpList_nil ?_
          clear a_76 HE77 a_78 HE79 a_80 HE81
          refine nrm ?_
          refine wp_seq ?_
          refine wp_seq ?_
          refine rg ?_
          refine pl_x HE83 HH75 (wt0 rfl) (x_move rfl) rfl rfl fun a_84 HE85 => ?_
          refine pl_x HE85 HH75 (wt0 rfl) (x_len Try.underlying31 rfl) rfl rfl fun a_86 HE87 => ?_
          refine pl_x HE87 HH75 (wt0 rfl) (x_gtr rfl rfl) rfl rfl fun a_88 HE89 => ?_
          refine pl_x HE89 HH75 (wt0 rfl) (x_move rfl) rfl rfl fun a_90 HE91 => ?_
          by_cases hc32 : 200 < (e31.length : Int)
          · refine pl_no HE91 (wtF HE91 rfl rfl rfl (decide_eq_true hc32)) rfl rfl fun a_92 HE93 => ?_
            refine pl_no HE93 (wtF HE93 rfl rfl rfl (decide_eq_true hc32)) rfl rfl fun a_94 HE95 => ?_
            refine pl_no HE95 (wtF HE95 rfl rfl rfl (decide_eq_true hc32)) rfl rfl fun a_96 HE97 => ?_
            refine pl_no HE97 (wtF HE97 rfl rfl rfl (decide_eq_true hc32)) rfl rfl fun a_98 HE99 => ?_
            refine pl_no HE99 (wtF HE99 rfl rfl rfl (decide_eq_true hc32)) rfl rfl fun a_100 HE101 => ?_
            refine pl_no HE101 (wtF HE101 rfl rfl rfl (decide_eq_true hc32)) rfl rfl fun a_102 HE103 => ?_
            refine pl_x HE103 HH75 (wt0 rfl) (x_pickT rfl (decide_eq_true hc32) rfl) rfl rfl fun a_104 HE105 => ?_
            refine wpList_nil ?_
            clear a_82 HE83 a_84 HE85 a_86 HE87 a_88 HE89 a_90 HE91 a_92 HE93 a_94 HE95 a_96 HE97 a_98 HE99 a_100 HE101 a_102 HE103
            refine nrm ?_
            refine cndT HE105 rfl rfl ?_
            refine wp_seq ?_
            refine rg ?_
            refine pl_x HE105 HH75 (wt0 rfl) (show XS _ _ _ _ (.agg #[.int .i64 (0), .slice none (0) 0]) from x_build (vs := []) tb_87 rfl (by simp [Value.oneCell'])) rfl rfl fun a_106 HE107 => ?_
            refine pl fun K_108 hK109 => ?_
            refine st_store (vs := [.int .i64 (0), .slice none (0) 0]) 2 HE107 HH75 tv_87 rfl rfl rfl rfl rfl rfl (by simp [Value.oneCell']) (wt0 rfl) fun w' HH110 => hK109 _ _ ?_
            refine pl_x HE107 HH110 (wt0 rfl) (x_assign rfl) rfl rfl fun a_111 HE112 => ?_
            refine wpList_nil ?_
            clear a_104 HE105 HH75 a_106 HE107 hK109 K_108
            refine nrm ?_
            refine wp_ret ?_
            refine (thn_ret (blk_ret (thn_ret (thn_ret (blk_ret (thn_ret ?_))))))
            refine ret2 HE112 rfl (rv_cell rfl (tv_87.loadN (cs := [.int .i64 (0), .slice none (0) 0]) rfl (c_blkN 2 rfl _ HH110))) (rv_tmp rfl) ?_
            have HH113 := HH110.flatO (E := eMultiConfig) (cs := [.int .i64 (0), .slice none (0) 0]) (x := (0, [])) (fun _ => (oPrN (oI (by exact ⟨by omega, by omega⟩)) (oSl (So.nil (Nat.zero_le _)))))
            have hF : (startMC a0 a1) = ((0, []), 2) := by
              first | (simp [startMC, hc24, hc26, p29_0, p29_1, hc30, xe31, hc32]; done) | (unfold startMC; rw [if_pos ‹_›, if_neg (by omega)]; done) | (unfold startMC; rw [if_pos ‹_›, if_pos (by omega), if_pos (any_hit (by omega : k < a1.length) (by rw [← xe31]; unfold badWd; grind))]; done) | (have hq := p29_1; rw [List.take_of_length_le (by omega)] at hq; unfold startMC; rw [if_pos ‹_›, if_pos (by omega), hq, List.take_of_length_le (by omega)]; rfl)
            exact ⟨_, by rw [hF] <;> rfl, by rw [hF]; exact (HH113.o (i := 0) rfl), HH113.below⟩
          · refine pl_x HE91 HH75 (wtT HE91 rfl rfl rfl (decide_eq_false hc32)) (x_move rfl) rfl rfl fun a_114 HE115 => ?_
            refine pl_x HE115 HH75 (wtT HE115 rfl rfl rfl (decide_eq_false hc32)) (x_fieldAddr fa_83_1 rfl) rfl rfl fun a_116 HE117 => ?_
            refine pl_x HE117 HH75 (wtT HE117 rfl rfl rfl (decide_eq_false hc32)) (x_load1 tv_2 rfl (c_blk 3 rfl rfl)) rfl rfl fun a_118 HE119 => ?_
            refine pl_x HE119 HH75 (wtT HE119 rfl rfl rfl (decide_eq_false hc32)) (x_sub rfl rfl (by exact ⟨by omega, by omega⟩)) rfl rfl fun a_120 HE121 => ?_
            refine pl fun K_122 hK123 => ?_
            refine st_call HE121 (wtT HE121 rfl rfl rfl (decide_eq_false hc32)) rfl rfl rfl en_150 rfl rfl (impl_allWithin _ _ e31 0 (a0.2.1 - 1) _ (HH75.old ge31_0)) fun e w' hr => ?_
            obtain ⟨rfl, rfl⟩ := hr
            refine ⟨_, rfl, fun a_124 HE125 => hK123 _ _ ?_⟩
            refine pl_x HE125 HH75 (wtT HE125 rfl rfl rfl (decide_eq_false hc32)) (x_not rfl) rfl rfl fun a_126 HE127 => ?_
            refine pl_x HE127 HH75 (wt0 rfl) (x_pickF rfl (decide_eq_false hc32) rfl) rfl rfl fun a_128 HE129 => ?_
            refine wpList_nil ?_
            clear a_82 HE83 a_84 HE85 a_86 HE87 a_88 HE89 a_90 HE91 a_114 HE115 a_116 HE117 a_118 HE119 a_120 HE121 a_124 HE125 a_126 HE127 hK123 K_122
            refine nrm ?_
            refine cnd_nb HE129 rfl (fun hc34 => ?_) (fun hc34 => ?_)
            · refine wp_seq ?_
              refine rg ?_
              refine pl_x HE129 HH75 (wt0 rfl) (show XS _ _ _ _ (.agg #[.int .i64 (0), .slice none (0) 0]) from x_build (vs := []) tb_87 rfl (by simp [Value.oneCell'])) rfl rfl fun a_130 HE131 => ?_
              refine pl fun K_132 hK133 => ?_
              refine st_store (vs := [.int .i64 (0), .slice none (0) 0]) 2 HE131 HH75 tv_87 rfl rfl rfl rfl rfl rfl (by simp [Value.oneCell']) (wt0 rfl) fun w' HH134 => hK133 _ _ ?_
              refine pl_x HE131 HH134 (wt0 rfl) (x_assign rfl) rfl rfl fun a_135 HE136 => ?_
              refine wpList_nil ?_
              clear a_128 HE129 HH75 a_130 HE131 hK133 K_132
              refine nrm ?_
              refine wp_ret ?_
              refine (thn_ret (blk_ret (thn_ret (thn_ret (blk_ret (thn_ret ?_))))))
              refine ret2 HE136 rfl (rv_cell rfl (tv_87.loadN (cs := [.int .i64 (0), .slice none (0) 0]) rfl (c_blkN 2 rfl _ HH134))) (rv_tmp rfl) ?_
              have HH137 := HH134.flatO (E := eMultiConfig) (cs := [.int .i64 (0), .slice none (0) 0]) (x := (0, [])) (fun _ => (oPrN (oI (by exact ⟨by omega, by omega⟩)) (oSl (So.nil (Nat.zero_le _)))))
              have hF : (startMC a0 a1) = ((0, []), 2) := by
                first | (simp [startMC, hc24, hc26, p29_0, p29_1, hc30, xe31, hc32, hc34]; done) | (unfold startMC; rw [if_pos ‹_›, if_neg (by omega)]; done) | (unfold startMC; rw [if_pos ‹_›, if_pos (by omega), if_pos (any_hit (by omega : k < a1.length) (by rw [← xe31]; unfold badWd; grind))]; done) | (have hq := p29_1; rw [List.take_of_length_le (by omega)] at hq; unfold startMC; rw [if_pos ‹_›, if_pos (by omega), hq, List.take_of_length_le (by omega)]; rfl)
              exact ⟨_, by rw [hF] <;> rfl, by rw [hF]; exact (HH137.o (i := 0) rfl), HH137.below⟩
            · refine wp_skip ?_
              refine nrm ?_
              refine dr_start (Held Nob w [rBlk q22 87 [.int .i64 (0), .slice none (0) 0], rBlk q21 83 [.int .i64 (a0.1), .int .i64 (a0.2.1), .int .i64 (a0.2.2.1), .slice Az0_3 (a0.2.2.2.length) cz0_3]]) 10 #[false, false, false, false, false, false, false, false, false, false] hmix rfl rfl HH75 (fun _ h => h.sel [2, 3] (by decide) rfl) fun w' HH138 => ?_
              have HS139 := HH138.sel [2, 3] (by decide) rfl
              refine dr_take (i := 0) (ls' := #[true, false, false, false, false, false, false, false, false, false]) HE129 HS139 rfl (by kernel_rfl) (by kernel_rfl) (by kernel_rfl) (fun _ _ _ h => h) rfl (wt0 rfl) (x_fieldAddr fa_87_1 rfl) rfl rfl fun a_140 HE141 => ?_
              refine dr_take (i := 2) (ls' := #[true, false, true, false, false, false, false, false, false, false]) HE141 HS139 rfl (by kernel_rfl) (by kernel_rfl) (by kernel_rfl) (fun _ _ _ h => h) rfl (wt0 rfl) (x_move rfl) rfl rfl fun a_142 HE143 => ?_
              refine dr_two (i := 1) (j := 3) (ls' := #[true, true, true, false, false, false, false, false, false, false]) (ls'' := #[true, false, true, true, false, false, false, false, false, false]) rfl rfl (by kernel_rfl) rfl rfl (fun K_144 hK145 => ?_) (fun K_144 hK145 => ?_)
              · refine st_x HE143 HH138 (wt0 rfl) (x_load1 tv_85 rfl (c_blk 1 rfl rfl)) rfl rfl fun a_146 HE147 => hK145 _ _ HS139 ?_
                refine dr_one (i := 3) (ls' := #[true, true, true, true, false, false, false, false, false, false]) rfl (by kernel_rfl) rfl fun K_148 hK149 => ?_
                refine st_call HE147 (wt0 rfl) rfl rfl rfl en_152 rfl rfl (Clone_Int64 _ _ e31 _ (HH138.old ge31_0) (by omega)) fun e w' hr => ?_
                obtain ⟨Ar35_0, cr35_0, rfl, hor35_0, hbr35⟩ := hr
                obtain ⟨Sr35, HH150⟩ := HH138.newS hbr35 hor35_0
                refine ⟨_, rfl, fun a_151 HE152 => hK149 _ _ (by exact HH150.sel [3, 4] (by decide) rfl) ?_⟩
                have HS153 := HH150.sel [3, 4] (by decide) rfl
                refine dr_one (i := 4) (ls' := #[true, true, true, true, true, false, false, false, false, false]) rfl (by kernel_rfl) rfl fun K_154 hK155 => ?_
                refine st_call HE152 (wt0 rfl) rfl rfl rfl en_151 rfl rfl (impl_trimmed _ _ e31 _ (HH150.sl (i := 0) rfl)) fun e w' hr => ?_
                obtain ⟨rfl, ⟨kt36, ht36⟩, rfl⟩ := hr
                have HH156 := HH150.turn (rSo eInt Sr35 Ar35_0 cr35_0 (trimZ e31)) (fun h => oSl (by rw [ht36]; exact (so_of_o h).take kt36)) (fun _ h => h)
                refine ⟨_, rfl, fun a_157 HE158 => hK155 _ _ (by exact HH156.sel [3, 4] (by decide) rfl) ?_⟩
                have HS159 := HH156.sel [3, 4] (by decide) rfl
                refine dr_take (i := 5) (ls' := #[true, true, true, true, true, true, false, false, false, false]) HE158 HS159 rfl (by kernel_rfl) (by kernel_rfl) (by kernel_rfl) (fun _ _ _ h => h) rfl (wt0 rfl) (show XS _ _ _ _ (.agg #[.slice none (0) 0, .slice Ar35_0 ((trimZ e31).length) cr35_0]) from x_build (vs := [(1, .slice Ar35_0 ((trimZ e31).length) cr35_0)]) tb_176 rfl (by simp [Value.oneCell'])) rfl rfl fun a_160 HE161 => ?_
                refine dr_one (i := 6) (ls' := #[true, true, true, true, true, true, true, false, false, false]) rfl (by kernel_rfl) rfl fun K_162 hK163 => ?_
                refine st_lit (m := 1) (cs := [.slice none (0) 0, .slice Ar35_0 ((trimZ e31).length) cr35_0]) (e := 176) HE161 HH156 (run_lit ts_85 HE161 (vs := [.agg #[.slice none (0) 0, .slice Ar35_0 ((trimZ e31).length) cr35_0]]) rfl rfl (by simp [Value.cells]) rfl (by decide)) (wt0 rfl) rfl rfl fun q37 a_164 w' HE165 HH166 => hK163 _ _ (by exact HH166.sel [4, 5] (by decide) rfl) ?_
                have HS167 := HH166.sel [4, 5] (by decide) rfl
                refine dr_one (i := 7) (ls' := #[true, true, true, true, true, true, true, true, false, false]) rfl (by kernel_rfl) rfl fun K_168 hK169 => ?_
                have HH170 := HH166.sel [1, 0, 2, 3, 4, 5] (by decide) rfl
                have HH171 := HH170.pairF (E := (eSl eInt)) (c1 := [.slice none (0) 0]) (x := []) (oSl (So.nil (Nat.zero_le _)))
                obtain ⟨S41, HH172⟩ : ∃ S, Held Nob w (rO eTape S [.slice none (0) 0, .slice Ar35_0 ((trimZ e31).length) cr35_0] ([], (trimZ e31)) :: _) _ := ⟨_, HH171⟩
                refine st_app1 HE165 HH172 ts_85 [2, 0, 1, 3, 4, 5] (by decide) rfl rfl rfl (by simp [Value.oneCell']) (by unfold maxLen; first | omega | (simp; done) | (simp; omega)) (by first | omega | (simp; done) | (simp; omega)) (wt0 rfl) rfl fun A38 c39 S40 a_173 w' HE174 HH175 => hK169 _ _ (by exact HH175.sel [3, 4] (by decide) rfl) ?_
                have HS176 := HH175.sel [3, 4] (by decide) rfl
                refine dr_take (i := 8) (ls' := #[true, true, true, true, true, true, true, true, true, false]) HE174 HS176 rfl (by kernel_rfl) (by kernel_rfl) (by kernel_rfl) (fun _ _ _ h => h) rfl (wt0 rfl) (x_fieldAddr fa_87_1 rfl) rfl rfl fun a_177 HE178 => ?_
                refine dr_one (i := 9) (ls' := #[true, true, true, true, true, true, true, true, true, true]) rfl (by kernel_rfl) rfl fun K_179 hK180 => ?_
                refine st_store (vs := [.slice A38 (((a1.take k).map startT ++ [([], (trimZ e31))]).length) c39]) 2 HE178 HH175 tv_85 rfl rfl rfl rfl rfl rfl (by simp [Value.oneCell']) (wt0 rfl) fun w' HH181 => hK180 _ _ (by exact HH181.sel [3, 4] (by decide) rfl) ?_
                have HS182 := HH181.sel [3, 4] (by decide) rfl
                refine dr_done (by kernel_rfl) ?_
                clear HH75 HS45 a_128 HE129 a_140 HE141 a_142 HE143 K_144 hK145 HH138 a_146 HE147 HS139 K_148 hK149 HH150 a_151 HE152 HS153 a_157 HE158 K_154 hK155 a_160 HE161 HH156 HS159 K_162 hK163 HH166 HH170 HH171 a_164 HE165 HH172 HS167 a_173 HE174 K_168 hK169 HH175 HS176 hK180 K_179
                refine blk_n ?_
                refine nrm ?_
                refine rg ?_
                refine pl_x HE178 HH181 (wt0 rfl) (x_add rfl rfl (by exact ⟨by omega, by omega⟩)) rfl rfl fun a_183 HE184 => ?_
                refine pl_x HE184 HH181 (wt0 rfl) (x_move rfl) rfl rfl fun a_185 HE186 => ?_
                refine wpList_nil ?_
                clear a_177 HE178 a_183 HE184
                have E42 : (a1.take (k + 1)).map startT = ((a1.take k).map startT ++ [([], (trimZ e31))]) := by
                  rw [List.take_succ_eq_append_getElem (by omega), List.map_append, ← xe31]; rfl
                exact nrm ⟨a1.length - (k + 1), (by omega), k + 1, A38, c39, S40, rfl, HE186.sub ⟨(lkI rfl (by first | rfl | omega | (simp [hc24, hc26, p29_0, p29_1, hc30, xe31, hc32, hc34]; done))), rfl, rfl, rfl, rfl, rfl, trivial⟩, ((HH181.sel [0, 2, 3, 4] (by decide) rfl).to (by first | rfl | (rw [E42]; done) | (rw [E42]; rfl) | (simp only [E42]; done) | (simp only [E42]; rfl))), (by first | omega | assumption | (simp; done) | simp_all), (by exact any_step (by omega) p29_1 (by rw [← xe31]; unfold badWd; grind))⟩
              · refine st_call HE143 (wt0 rfl) rfl rfl rfl en_152 rfl rfl (Clone_Int64 _ _ e31 _ (HH138.old ge31_0) (by omega)) fun e w' hr => ?_
                obtain ⟨Ar43_0, cr43_0, rfl, hor43_0, hbr43⟩ := hr
                obtain ⟨Sr43, HH187⟩ := HH138.newS hbr43 hor43_0
                refine ⟨_, rfl, fun a_188 HE189 => hK145 _ _ (by exact HH187.sel [3, 4] (by decide) rfl) ?_⟩
                have HS190 := HH187.sel [3, 4] (by decide) rfl
                refine dr_two (i := 1) (j := 4) (ls' := #[true, true, true, true, false, false, false, false, false, false]) (ls'' := #[true, false, true, true, true, false, false, false, false, false]) rfl rfl (by kernel_rfl) rfl rfl (fun K_191 hK192 => ?_) (fun K_191 hK192 => ?_)
                · refine st_x HE189 HH187 (wt0 rfl) (x_load1 tv_85 rfl (c_blk 2 rfl rfl)) rfl rfl fun a_193 HE194 => hK192 _ _ HS190 ?_
                  refine dr_one (i := 4) (ls' := #[true, true, true, true, true, false, false, false, false, false]) rfl (by kernel_rfl) rfl fun K_195 hK196 => ?_
                  refine st_call HE194 (wt0 rfl) rfl rfl rfl en_151 rfl rfl (impl_trimmed _ _ e31 _ (HH187.sl (i := 0) rfl)) fun e w' hr => ?_
                  obtain ⟨rfl, ⟨kt44, ht44⟩, rfl⟩ := hr
                  have HH197 := HH187.turn (rSo eInt Sr43 Ar43_0 cr43_0 (trimZ e31)) (fun h => oSl (by rw [ht44]; exact (so_of_o h).take kt44)) (fun _ h => h)
                  refine ⟨_, rfl, fun a_198 HE199 => hK196 _ _ (by exact HH197.sel [3, 4] (by decide) rfl) ?_⟩
                  have HS200 := HH197.sel [3, 4] (by decide) rfl
                  refine dr_take (i := 5) (ls' := #[true, true, true, true, true, true, false, false, false, false]) HE199 HS200 rfl (by kernel_rfl) (by kernel_rfl) (by kernel_rfl) (fun _ _ _ h => h) rfl (wt0 rfl) (show XS _ _ _ _ (.agg #[.slice none (0) 0, .slice Ar43_0 ((trimZ e31).length) cr43_0]) from x_build (vs := [(1, .slice Ar43_0 ((trimZ e31).length) cr43_0)]) tb_176 rfl (by simp [Value.oneCell'])) rfl rfl fun a_201 HE202 => ?_
                  refine dr_one (i := 6) (ls' := #[true, true, true, true, true, true, true, false, false, false]) rfl (by kernel_rfl) rfl fun K_203 hK204 => ?_
                  refine st_lit (m := 1) (cs := [.slice none (0) 0, .slice Ar43_0 ((trimZ e31).length) cr43_0]) (e := 176) HE202 HH197 (run_lit ts_85 HE202 (vs := [.agg #[.slice none (0) 0, .slice Ar43_0 ((trimZ e31).length) cr43_0]]) rfl rfl (by simp [Value.cells]) rfl (by decide)) (wt0 rfl) rfl rfl fun q45 a_205 w' HE206 HH207 => hK204 _ _ (by exact HH207.sel [4, 5] (by decide) rfl) ?_
                  have HS208 := HH207.sel [4, 5] (by decide) rfl
                  refine dr_one (i := 7) (ls' := #[true, true, true, true, true, true, true, true, false, false]) rfl (by kernel_rfl) rfl fun K_209 hK210 => ?_
                  have HH211 := HH207.sel [1, 0, 2, 3, 4, 5] (by decide) rfl
                  have HH212 := HH211.pairF (E := (eSl eInt)) (c1 := [.slice none (0) 0]) (x := []) (oSl (So.nil (Nat.zero_le _)))
                  obtain ⟨S49, HH213⟩ : ∃ S, Held Nob w (rO eTape S [.slice none (0) 0, .slice Ar43_0 ((trimZ e31).length) cr43_0] ([], (trimZ e31)) :: _) _ := ⟨_, HH212⟩
                  refine st_app1 HE206 HH213 ts_85 [2, 0, 1, 3, 4, 5] (by decide) rfl rfl rfl (by simp [Value.oneCell']) (by unfold maxLen; first | omega | (simp; done) | (simp; omega)) (by first | omega | (simp; done) | (simp; omega)) (wt0 rfl) rfl fun A46 c47 S48 a_214 w' HE215 HH216 => hK210 _ _ (by exact HH216.sel [3, 4] (by decide) rfl) ?_
                  have HS217 := HH216.sel [3, 4] (by decide) rfl
                  refine dr_take (i := 8) (ls' := #[true, true, true, true, true, true, true, true, true, false]) HE215 HS217 rfl (by kernel_rfl) (by kernel_rfl) (by kernel_rfl) (fun _ _ _ h => h) rfl (wt0 rfl) (x_fieldAddr fa_87_1 rfl) rfl rfl fun a_218 HE219 => ?_
                  refine dr_one (i := 9) (ls' := #[true, true, true, true, true, true, true, true, true, true]) rfl (by kernel_rfl) rfl fun K_220 hK221 => ?_
                  refine st_store (vs := [.slice A46 (((a1.take k).map startT ++ [([], (trimZ e31))]).length) c47]) 2 HE219 HH216 tv_85 rfl rfl rfl rfl rfl rfl (by simp [Value.oneCell']) (wt0 rfl) fun w' HH222 => hK221 _ _ (by exact HH222.sel [3, 4] (by decide) rfl) ?_
                  have HS223 := HH222.sel [3, 4] (by decide) rfl
                  refine dr_done (by kernel_rfl) ?_
                  clear HH75 HS45 a_128 HE129 a_140 HE141 HH138 a_142 HE143 HS139 K_144 hK145 a_188 HE189 K_191 hK192 HH187 a_193 HE194 HS190 a_198 HE199 K_195 hK196 a_201 HE202 HH197 HS200 K_203 hK204 HH207 HH211 HH212 a_205 HE206 HH213 HS208 a_214 HE215 K_209 hK210 HH216 HS217 hK221 K_220
                  refine blk_n ?_
                  refine nrm ?_
                  refine rg ?_
                  refine pl_x HE219 HH222 (wt0 rfl) (x_add rfl rfl (by exact ⟨by omega, by omega⟩)) rfl rfl fun a_224 HE225 => ?_
                  refine pl_x HE225 HH222 (wt0 rfl) (x_move rfl) rfl rfl fun a_226 HE227 => ?_
                  refine wpList_nil ?_
                  clear a_218 HE219 a_224 HE225
                  have E50 : (a1.take (k + 1)).map startT = ((a1.take k).map startT ++ [([], (trimZ e31))]) := by
                    rw [List.take_succ_eq_append_getElem (by omega), List.map_append, ← xe31]; rfl
                  exact nrm ⟨a1.length - (k + 1), (by omega), k + 1, A46, c47, S48, rfl, HE227.sub ⟨(lkI rfl (by first | rfl | omega | (simp [hc24, hc26, p29_0, p29_1, hc30, xe31, hc32, hc34]; done))), rfl, rfl, rfl, rfl, rfl, trivial⟩, ((HH222.sel [0, 2, 3, 4] (by decide) rfl).to (by first | rfl | (rw [E50]; done) | (rw [E50]; rfl) | (simp only [E50]; done) | (simp only [E50]; rfl))), (by first | omega | assumption | (simp; done) | simp_all), (by exact any_step (by omega) p29_1 (by rw [← xe31]; unfold badWd; grind))⟩
                · refine st_call HE189 (wt0 rfl) rfl rfl rfl en_151 rfl rfl (impl_trimmed _ _ e31 _ (HH187.sl (i := 0) rfl)) fun e w' hr => ?_
                  obtain ⟨rfl, ⟨kt51, ht51⟩, rfl⟩ := hr
                  have HH228 := HH187.turn (rSo eInt Sr43 Ar43_0 cr43_0 (trimZ e31)) (fun h => oSl (by rw [ht51]; exact (so_of_o h).take kt51)) (fun _ h => h)
                  refine ⟨_, rfl, fun a_229 HE230 => hK192 _ _ (by exact HH228.sel [3, 4] (by decide) rfl) ?_⟩
                  have HS231 := HH228.sel [3, 4] (by decide) rfl
                  refine dr_take (i := 5) (ls' := #[true, false, true, true, true, true, false, false, false, false]) HE230 HS231 rfl (by kernel_rfl) (by kernel_rfl) (by kernel_rfl) (fun _ _ _ h => h) rfl (wt0 rfl) (show XS _ _ _ _ (.agg #[.slice none (0) 0, .slice Ar43_0 ((trimZ e31).length) cr43_0]) from x_build (vs := [(1, .slice Ar43_0 ((trimZ e31).length) cr43_0)]) tb_176 rfl (by simp [Value.oneCell'])) rfl rfl fun a_232 HE233 => ?_
                  refine dr_two (i := 1) (j := 6) (ls' := #[true, true, true, true, true, true, false, false, false, false]) (ls'' := #[true, false, true, true, true, true, true, false, false, false]) rfl rfl (by kernel_rfl) rfl rfl (fun K_234 hK235 => ?_) (fun K_234 hK235 => ?_)
                  · refine st_x HE233 HH228 (wt0 rfl) (x_load1 tv_85 rfl (c_blk 2 rfl rfl)) rfl rfl fun a_236 HE237 => hK235 _ _ HS231 ?_
                    refine dr_one (i := 6) (ls' := #[true, true, true, true, true, true, true, false, false, false]) rfl (by kernel_rfl) rfl fun K_238 hK239 => ?_
                    refine st_lit (m := 1) (cs := [.slice none (0) 0, .slice Ar43_0 ((trimZ e31).length) cr43_0]) (e := 176) HE237 HH228 (run_lit ts_85 HE237 (vs := [.agg #[.slice none (0) 0, .slice Ar43_0 ((trimZ e31).length) cr43_0]]) rfl rfl (by simp [Value.cells]) rfl (by decide)) (wt0 rfl) rfl rfl fun q52 a_240 w' HE241 HH242 => hK239 _ _ (by exact HH242.sel [4, 5] (by decide) rfl) ?_
                    have HS243 := HH242.sel [4, 5] (by decide) rfl
                    refine dr_one (i := 7) (ls' := #[true, true, true, true, true, true, true, true, false, false]) rfl (by kernel_rfl) rfl fun K_244 hK245 => ?_
                    have HH246 := HH242.sel [1, 0, 2, 3, 4, 5] (by decide) rfl
                    have HH247 := HH246.pairF (E := (eSl eInt)) (c1 := [.slice none (0) 0]) (x := []) (oSl (So.nil (Nat.zero_le _)))
                    obtain ⟨S56, HH248⟩ : ∃ S, Held Nob w (rO eTape S [.slice none (0) 0, .slice Ar43_0 ((trimZ e31).length) cr43_0] ([], (trimZ e31)) :: _) _ := ⟨_, HH247⟩
                    refine st_app1 HE241 HH248 ts_85 [2, 0, 1, 3, 4, 5] (by decide) rfl rfl rfl (by simp [Value.oneCell']) (by unfold maxLen; first | omega | (simp; done) | (simp; omega)) (by first | omega | (simp; done) | (simp; omega)) (wt0 rfl) rfl fun A53 c54 S55 a_249 w' HE250 HH251 => hK245 _ _ (by exact HH251.sel [3, 4] (by decide) rfl) ?_
                    have HS252 := HH251.sel [3, 4] (by decide) rfl
                    refine dr_take (i := 8) (ls' := #[true, true, true, true, true, true, true, true, true, false]) HE250 HS252 rfl (by kernel_rfl) (by kernel_rfl) (by kernel_rfl) (fun _ _ _ h => h) rfl (wt0 rfl) (x_fieldAddr fa_87_1 rfl) rfl rfl fun a_253 HE254 => ?_
                    refine dr_one (i := 9) (ls' := #[true, true, true, true, true, true, true, true, true, true]) rfl (by kernel_rfl) rfl fun K_255 hK256 => ?_
                    refine st_store (vs := [.slice A53 (((a1.take k).map startT ++ [([], (trimZ e31))]).length) c54]) 2 HE254 HH251 tv_85 rfl rfl rfl rfl rfl rfl (by simp [Value.oneCell']) (wt0 rfl) fun w' HH257 => hK256 _ _ (by exact HH257.sel [3, 4] (by decide) rfl) ?_
                    have HS258 := HH257.sel [3, 4] (by decide) rfl
                    refine dr_done (by kernel_rfl) ?_
                    clear HH75 HS45 a_128 HE129 a_140 HE141 HH138 a_142 HE143 HS139 K_144 hK145 HH187 a_188 HE189 HS190 a_229 HE230 K_191 hK192 a_232 HE233 K_234 hK235 a_236 HE237 HH228 HS231 K_238 hK239 HH242 HH246 HH247 a_240 HE241 HH248 HS243 a_249 HE250 K_244 hK245 HH251 HS252 hK256 K_255
                    refine blk_n ?_
                    refine nrm ?_
                    refine rg ?_
                    refine pl_x HE254 HH257 (wt0 rfl) (x_add rfl rfl (by exact ⟨by omega, by omega⟩)) rfl rfl fun a_259 HE260 => ?_
                    refine pl_x HE260 HH257 (wt0 rfl) (x_move rfl) rfl rfl fun a_261 HE262 => ?_
                    refine wpList_nil ?_
                    clear a_253 HE254 a_259 HE260
                    have E57 : (a1.take (k + 1)).map startT = ((a1.take k).map startT ++ [([], (trimZ e31))]) := by
                      rw [List.take_succ_eq_append_getElem (by omega), List.map_append, ← xe31]; rfl
                    exact nrm ⟨a1.length - (k + 1), (by omega), k + 1, A53, c54, S55, rfl, HE262.sub ⟨(lkI rfl (by first | rfl | omega | (simp [hc24, hc26, p29_0, p29_1, hc30, xe31, hc32, hc34]; done))), rfl, rfl, rfl, rfl, rfl, trivial⟩, ((HH257.sel [0, 2, 3, 4] (by decide) rfl).to (by first | rfl | (rw [E57]; done) | (rw [E57]; rfl) | (simp only [E57]; done) | (simp only [E57]; rfl))), (by first | omega | assumption | (simp; done) | simp_all), (by exact any_step (by omega) p29_1 (by rw [← xe31]; unfold badWd; grind))⟩
                  · refine st_lit (m := 1) (cs := [.slice none (0) 0, .slice Ar43_0 ((trimZ e31).length) cr43_0]) (e := 176) HE233 HH228 (run_lit ts_85 HE233 (vs := [.agg #[.slice none (0) 0, .slice Ar43_0 ((trimZ e31).length) cr43_0]]) rfl rfl (by simp [Value.cells]) rfl (by decide)) (wt0 rfl) rfl rfl fun q58 a_263 w' HE264 HH265 => hK235 _ _ (by exact HH265.sel [4, 5] (by decide) rfl) ?_
                    have HS266 := HH265.sel [4, 5] (by decide) rfl
                    refine dr_one (i := 1) (ls' := #[true, true, true, true, true, true, true, false, false, false]) rfl (by kernel_rfl) rfl fun K_267 hK268 => ?_
                    refine st_x HE264 HH265 (wt0 rfl) (x_load1 tv_85 rfl (c_blk 3 rfl rfl)) rfl rfl fun a_269 HE270 => hK268 _ _ HS266 ?_
                    refine dr_one (i := 7) (ls' := #[true, true, true, true, true, true, true, true, false, false]) rfl (by kernel_rfl) rfl fun K_271 hK272 => ?_
                    have HH273 := HH265.sel [1, 0, 2, 3, 4, 5] (by decide) rfl
                    have HH274 := HH273.pairF (E := (eSl eInt)) (c1 := [.slice none (0) 0]) (x := []) (oSl (So.nil (Nat.zero_le _)))
                    obtain ⟨S62, HH275⟩ : ∃ S, Held Nob w (rO eTape S [.slice none (0) 0, .slice Ar43_0 ((trimZ e31).length) cr43_0] ([], (trimZ e31)) :: _) _ := ⟨_, HH274⟩
                    refine st_app1 HE270 HH275 ts_85 [2, 0, 1, 3, 4, 5] (by decide) rfl rfl rfl (by simp [Value.oneCell']) (by unfold maxLen; first | omega | (simp; done) | (simp; omega)) (by first | omega | (simp; done) | (simp; omega)) (wt0 rfl) rfl fun A59 c60 S61 a_276 w' HE277 HH278 => hK272 _ _ (by exact HH278.sel [3, 4] (by decide) rfl) ?_
                    have HS279 := HH278.sel [3, 4] (by decide) rfl
                    refine dr_take (i := 8) (ls' := #[true, true, true, true, true, true, true, true, true, false]) HE277 HS279 rfl (by kernel_rfl) (by kernel_rfl) (by kernel_rfl) (fun _ _ _ h => h) rfl (wt0 rfl) (x_fieldAddr fa_87_1 rfl) rfl rfl fun a_280 HE281 => ?_
                    refine dr_one (i := 9) (ls' := #[true, true, true, true, true, true, true, true, true, true]) rfl (by kernel_rfl) rfl fun K_282 hK283 => ?_
                    refine st_store (vs := [.slice A59 (((a1.take k).map startT ++ [([], (trimZ e31))]).length) c60]) 2 HE281 HH278 tv_85 rfl rfl rfl rfl rfl rfl (by simp [Value.oneCell']) (wt0 rfl) fun w' HH284 => hK283 _ _ (by exact HH284.sel [3, 4] (by decide) rfl) ?_
                    have HS285 := HH284.sel [3, 4] (by decide) rfl
                    refine dr_done (by kernel_rfl) ?_
                    clear HH75 HS45 a_128 HE129 a_140 HE141 HH138 a_142 HE143 HS139 K_144 hK145 HH187 a_188 HE189 HS190 a_229 HE230 K_191 hK192 a_232 HE233 HH228 HS231 K_234 hK235 a_263 HE264 K_267 hK268 HH265 HH273 HH274 a_269 HE270 HH275 HS266 a_276 HE277 K_271 hK272 HH278 HS279 hK283 K_282
                    refine blk_n ?_
                    refine nrm ?_
                    refine rg ?_
                    refine pl_x HE281 HH284 (wt0 rfl) (x_add rfl rfl (by exact ⟨by omega, by omega⟩)) rfl rfl fun a_286 HE287 => ?_
                    refine pl_x HE287 HH284 (wt0 rfl) (x_move rfl) rfl rfl fun a_288 HE289 => ?_
                    refine wpList_nil ?_
                    clear a_280 HE281 a_286 HE287
                    have E63 : (a1.take (k + 1)).map startT = ((a1.take k).map startT ++ [([], (trimZ e31))]) := by
                      rw [List.take_succ_eq_append_getElem (by omega), List.map_append, ← xe31]; rfl
                    exact nrm ⟨a1.length - (k + 1), (by omega), k + 1, A59, c60, S61, rfl, HE289.sub ⟨(lkI rfl (by first | rfl | omega | (simp [hc24, hc26, p29_0, p29_1, hc30, xe31, hc32, hc34]; done))), rfl, rfl, rfl, rfl, rfl, trivial⟩, ((HH284.sel [0, 2, 3, 4] (by decide) rfl).to (by first | rfl | (rw [E63]; done) | (rw [E63]; rfl) | (simp only [E63]; done) | (simp only [E63]; rfl))), (by first | omega | assumption | (simp; done) | simp_all), (by exact any_step (by omega) p29_1 (by rw [← xe31]; unfold badWd; grind))⟩
        · refine wp_exit ?_
          refine (thn_exit (thn_exit (blk_hit ?_)))
          refine nrm ?_
          refine wp_seq ?_
          refine rg ?_
          refine pl_x HE77 HH75 (wt0 rfl) (x_loadN (cs := [.int .i64 (0), .slice A_6_1 ((List.length ((a1.take k).map startT))) c_6_1]) tv_87 rfl rfl (c_blkN 1 rfl)) rfl rfl fun a_290 HE291 => ?_
          refine pl fun K_292 hK293 => ?_
          refine st_store (vs := [.int .i64 (0), .slice A_6_1 ((List.length ((a1.take k).map startT))) c_6_1]) 2 HE291 HH75 tv_87 rfl rfl rfl rfl rfl rfl (by simp [Value.oneCell']) (wt0 rfl) fun w' HH294 => hK293 _ _ ?_
          refine pl_x HE291 HH294 (wt0 rfl) (x_assign rfl) rfl rfl fun a_295 HE296 => ?_
          refine wpList_nil ?_
          clear a_76 HE77 HH75 a_290 HE291 hK293 K_292
          refine nrm ?_
          refine wp_ret ?_
          refine ret2 HE296 rfl (rv_cell rfl (tv_87.loadN (cs := [.int .i64 (0), .slice A_6_1 ((List.length ((a1.take k).map startT))) c_6_1]) rfl (c_blkN 2 rfl _ HH294))) (rv_tmp rfl) ?_
          have HH297 := HH294.vecSo
          have HH298 := HH297.pairF (E := eInt) (c1 := [.int .i64 (0)]) (x := 0) (oI (by exact ⟨by omega, by omega⟩))
          obtain ⟨S64, HH299⟩ : ∃ S, Held Nob w (rO eMultiConfig S [.int .i64 (0), .slice A_6_1 ((List.length ((a1.take k).map startT))) c_6_1] (0, (a1.take k).map startT) :: _) _ := ⟨_, HH298⟩
          have hF : (startMC a0 a1) = ((0, (a1.take k).map startT), 0) := by
            first | (simp [startMC, hc24, hc26, p29_0, p29_1, hc30]; done) | (unfold startMC; rw [if_pos ‹_›, if_neg (by omega)]; done) | (unfold startMC; rw [if_pos ‹_›, if_pos (by omega), if_pos (any_hit (by omega : k < a1.length) (by rw [← xe0]; unfold badWd; grind))]; done) | (have hq := p29_1; rw [List.take_of_length_le (by omega)] at hq; unfold startMC; rw [if_pos ‹_›, if_pos (by omega), hq, List.take_of_length_le (by omega)]; rfl)
          exact ⟨_, by rw [hF] <;> rfl, by rw [hF]; exact (HH299.o (i := 0) rfl), HH299.below⟩

set_option maxRecDepth 100000 in
set_option maxHeartbeats 4000000 in
theorem spec_StartMulti (es0 : List Value) (a0 : tMulti) (A1 : Option Addr) (c1 : Nat) (a1 : (List (List Int))) (w : World) (h0 : eMulti.R w (Old w) es0 a0) (h1 : Sl (eSl eInt) w (Old w) A1 c1 a1) (s0 : ∀ x ∈ a1, x.length ≤ 1000000000) :
    Calls Try.prog 67 #[.agg es0.toArray, .slice A1 a1.length c1] w fun e w' => ∃ (es0' : List Value), e = .returned (.tuple #[.agg es0'.toArray, .int .i64 (startMC a0 a1).2]) ∧ eMultiConfig.O w' (Fr w w') es0' (startMC a0 a1).1 ∧ Below w.heap.size w w' := by
  have H0 := h0
  obtain ⟨Az0_3, cz0_3, rfl, gz0_0, gz0_1, gz0_2, gz0_3⟩ := shape_Multi h0
  have jz0_0 := gz0_0; unfold I64 at jz0_0
  have jz0_1 := gz0_1; unfold I64 at jz0_1
  have jz0_2 := gz0_2; unfold I64 at jz0_2
  have lz0_3 := gz0_3.len
  have l1 := h1.len
  have HH1 := Held.start Nob w
  refine enter (n := 53) Try.func67 rfl rfl rfl fun a_2 HE3 => ?_
  refine wp_seq ?_
  refine rg ?_
  refine pl fun K_4 hK5 => ?_
  refine st_box (cs := [.int .i64 (a0.1), .int .i64 (a0.2.1), .int .i64 (a0.2.2.1), .slice Az0_3 (a0.2.2.2.length) cz0_3]) HE3 HH1 rfl rfl (wt0 rfl) rfl fun q21 a_6 w' HE7 HH8 => hK5 _ _ ?_
  refine pl fun K_9 hK10 => ?_
  refine st_alloc HE7 HH8 tv_87 (wt0 rfl) rfl fun q22 a_11 w' HE12 HH13 => hK10 _ _ ?_
  refine pl_x HE12 HH13 (wt0 rfl) (x_assign rfl) rfl rfl fun a_14 HE15 => ?_
  refine wpList_nil ?_
  clear a_2 HE3 HH1 K_4 hK5 a_6 HE7 HH8 a_11 HE12 hK10 K_9
  refine nrm ?_
  refine wp_seq ?_
  refine wp_seq ?_
  refine rg ?_
  refine pl fun K_16 hK17 => ?_
  refine st_call HE15 (wt0 rfl) rfl rfl rfl en_133 rfl rfl (spec_l06Is _ _ _ a0 _ (HH13.oldR H0) (c_blkN 1 rfl _ HH13)) fun e w' hr => ?_
  obtain ⟨rfl, hbr23⟩ := hr
  have HH18 := HH13.on hbr23
  refine ⟨_, rfl, fun a_19 HE20 => hK17 _ _ ?_⟩
  refine pl_x HE20 HH18 (wt0 rfl) (x_not rfl) rfl rfl fun a_21 HE22 => ?_
  refine wpList_nil ?_
  clear HH13 a_14 HE15 a_19 HE20 hK17 K_16
  refine nrm ?_
  refine cnd_nb HE22 rfl (fun hc24 => ?_) (fun hc24 => ?_)
  · refine wp_seq ?_
    refine rg ?_
    refine pl_x HE22 HH18 (wt0 rfl) (show XS _ _ _ _ (.agg #[.int .i64 (0), .slice none (0) 0]) from x_build (vs := []) tb_87 rfl (by simp [Value.oneCell'])) rfl rfl fun a_23 HE24 => ?_
    refine pl fun K_25 hK26 => ?_
    refine st_store (vs := [.int .i64 (0), .slice none (0) 0]) 0 HE24 HH18 tv_87 rfl rfl rfl rfl rfl rfl (by simp [Value.oneCell']) (wt0 rfl) fun w' HH27 => hK26 _ _ ?_
    refine pl_x HE24 HH27 (wt0 rfl) (x_assign rfl) rfl rfl fun a_28 HE29 => ?_
    refine wpList_nil ?_
    clear a_21 HE22 HH18 a_23 HE24 hK26 K_25
    refine nrm ?_
    refine wp_ret ?_
    refine (thn_ret ?_)
    refine ret2 HE29 rfl (rv_cell rfl (tv_87.loadN (cs := [.int .i64 (0), .slice none (0) 0]) rfl (c_blkN 0 rfl _ HH27))) (rv_tmp rfl) ?_
    have HH30 := HH27.flatO (E := eMultiConfig) (cs := [.int .i64 (0), .slice none (0) 0]) (x := (0, [])) (fun _ => (oPrN (oI (by exact ⟨by omega, by omega⟩)) (oSl (So.nil (Nat.zero_le _)))))
    have hF : (startMC a0 a1) = ((0, []), 1) := by
      first | (simp [startMC, hc24]; done) | (unfold startMC; rw [if_pos ‹_›, if_neg (by omega)]; done) | (unfold startMC; rw [if_pos ‹_›, if_pos (by omega), if_pos (any_hit (by omega : k < a1.length) (by rw [← xe0]; unfold badWd; grind))]; done) | (have hq := p0_1; rw [List.take_of_length_le (by omega)] at hq; unfold startMC; rw [if_pos ‹_›, if_pos (by omega), hq, List.take_of_length_le (by omega)]; rfl)
    exact ⟨_, by rw [hF] <;> rfl, by rw [hF]; exact (HH30.o (i := 0) rfl), HH30.below⟩
  · obtain ⟨v0, v1, v2, v3⟩ := validMulti_facts hc24
    refine wp_skip ?_
    refine nrm ?_
    refine wp_seq ?_
    refine wp_seq ?_
    refine rg ?_
    refine pl_x HE22 HH18 (wt0 rfl) (x_move rfl) rfl rfl fun a_31 HE32 => ?_
    refine pl_x HE32 HH18 (wt0 rfl) (x_len Try.underlying92 rfl) rfl rfl fun a_33 HE34 => ?_
    refine pl_x HE34 HH18 (wt0 rfl) (x_fieldAddr fa_83_0 rfl) rfl rfl fun a_35 HE36 => ?_
    refine pl_x HE36 HH18 (wt0 rfl) (x_load1 tv_2 rfl (c_blk 1 rfl rfl)) rfl rfl fun a_37 HE38 => ?_
    refine pl_x HE38 HH18 (wt0 rfl) (x_neq rfl rfl) rfl rfl fun a_39 HE40 => ?_
    refine wpList_nil ?_
    clear a_21 HE22 a_31 HE32 a_33 HE34 a_35 HE36 a_37 HE38
    refine nrm ?_
    refine cnd_ne HE40 rfl (fun hc25 => ?_) (fun hc25 => ?_)
    · refine wp_seq ?_
      refine rg ?_
      refine pl_x HE40 HH18 (wt0 rfl) (show XS _ _ _ _ (.agg #[.int .i64 (0), .slice none (0) 0]) from x_build (vs := []) tb_87 rfl (by simp [Value.oneCell'])) rfl rfl fun a_41 HE42 => ?_
      refine pl fun K_43 hK44 => ?_
      refine st_store (vs := [.int .i64 (0), .slice none (0) 0]) 0 HE42 HH18 tv_87 rfl rfl rfl rfl rfl rfl (by simp [Value.oneCell']) (wt0 rfl) fun w' HH45 => hK44 _ _ ?_
      refine pl_x HE42 HH45 (wt0 rfl) (x_assign rfl) rfl rfl fun a_46 HE47 => ?_
      refine wpList_nil ?_
      clear a_39 HE40 HH18 a_41 HE42 hK44 K_43
      refine nrm ?_
      refine wp_ret ?_
      refine (thn_ret ?_)
      refine ret2 HE47 rfl (rv_cell rfl (tv_87.loadN (cs := [.int .i64 (0), .slice none (0) 0]) rfl (c_blkN 0 rfl _ HH45))) (rv_tmp rfl) ?_
      have HH48 := HH45.flatO (E := eMultiConfig) (cs := [.int .i64 (0), .slice none (0) 0]) (x := (0, [])) (fun _ => (oPrN (oI (by exact ⟨by omega, by omega⟩)) (oSl (So.nil (Nat.zero_le _)))))
      have hF : (startMC a0 a1) = ((0, []), 2) := by
        first | (simp [startMC, hc24, hc25]; done) | (unfold startMC; rw [if_pos ‹_›, if_neg (by omega)]; done) | (unfold startMC; rw [if_pos ‹_›, if_pos (by omega), if_pos (any_hit (by omega : k < a1.length) (by rw [← xe0]; unfold badWd; grind))]; done) | (have hq := p0_1; rw [List.take_of_length_le (by omega)] at hq; unfold startMC; rw [if_pos ‹_›, if_pos (by omega), hq, List.take_of_length_le (by omega)]; rfl)
      exact ⟨_, by rw [hF] <;> rfl, by rw [hF]; exact (HH48.o (i := 0) rfl), HH48.below⟩
    · refine wp_skip ?_
      refine nrm ?_
      refine wp_seq ?_
      refine rg ?_
      refine pl_x HE40 HH18 (wt0 rfl) (show XS _ _ _ _ (.agg #[.int .i64 (0), .slice none (0) 0]) from x_build (vs := []) tb_87 rfl (by simp [Value.oneCell'])) rfl rfl fun a_49 HE50 => ?_
      refine pl fun K_51 hK52 => ?_
      refine st_alloc HE50 HH18 tv_87 (wt0 rfl) rfl fun q26 a_53 w' HE54 HH55 => hK52 _ _ ?_
      refine pl fun K_56 hK57 => ?_
      refine st_store (vs := [.int .i64 (0), .slice none (0) 0]) 0 HE54 HH55 tv_87 rfl rfl rfl rfl rfl rfl (by simp [Value.oneCell']) (wt0 rfl) fun w' HH58 => hK57 _ _ ?_
      refine wpList_nil ?_
      clear a_39 HE40 a_49 HE50 HH18 K_51 hK52 HH55 hK57 K_56
      refine nrm ?_
      refine wp_seq ?_
      refine wp_seq ?_
      refine rg ?_
      refine pl_x HE54 HH58 (wt0 rfl) (x_assign rfl) rfl rfl fun a_59 HE60 => ?_
      refine wpList_nil ?_
      clear a_53 HE54
      refine nrm ?_
      refine wp_block ?_
      have HH61 := HH58.vecNil eTape 176
      refine lp (fun m a w' => ∃ (k : Nat) (A_6_1 : Option Addr) (c_6_1 : Nat) (S_6_1 : Nat → Prop), m = a1.length - k ∧ Env 53 [(7, .int .i64 (k : Int)), (1, .slice A1 (a1.length) c1), (2, .pointer (some ⟨q21, 0, none⟩)), (4, .pointer (some ⟨q22, 0, none⟩)), (6, .pointer (some ⟨q26, 0, none⟩))] a ∧ Held Nob w [rVec eTape 176 S_6_1 A_6_1 c_6_1 ((a1.take k).map startT), rBlk q26 87 [.int .i64 0, .slice A_6_1 (List.length ((a1.take k).map startT)) c_6_1], rBlk q22 87 [.int .i64 (0), .slice none (0) 0], rBlk q21 83 [.int .i64 (a0.1), .int .i64 (a0.2.1), .int .i64 (a0.2.2.1), .slice Az0_3 (a0.2.2.2.length) cz0_3]] w' ∧ (k ≤ a1.length) ∧ ((a1.take k).any (badWd a0) = false)) (a1.length - (0)) ?_ ?_
      · have E27 : (a1.take 0).map startT = [] := by
          first | rfl | simp
        exact ⟨0, none, 0, Nob, rfl, HE60.sub ⟨(lkI rfl (by first | rfl | omega | (simp [hc24, hc25]; done))), rfl, rfl, rfl, rfl, trivial⟩, ((HH61.sel [0, 1, 2, 3] (by decide) rfl).to (by first | rfl | (rw [E27]; done) | (rw [E27]; rfl) | (simp only [E27]; done) | (simp only [E27]; rfl))), (by first | omega | assumption | (simp; done) | simp_all), (by rfl)⟩
      · rintro m a_62 w' ⟨k, A_6_1, c_6_1, S_6_1, rfl, HE63, HH64, p28_0, p28_1⟩
        have ol : ((a1.take k).map startT).length ≤ 60 := by rw [List.length_map, List.length_take]; omega
        refine wp_seq ?_
        refine wp_seq ?_
        refine rg ?_
        refine pl_x HE63 HH64 (wt0 rfl) (x_move rfl) rfl rfl fun a_65 HE66 => ?_
        refine pl_x HE66 HH64 (wt0 rfl) (x_move rfl) rfl rfl fun a_67 HE68 => ?_
        refine pl_x HE68 HH64 (wt0 rfl) (x_len Try.underlying92 rfl) rfl rfl fun a_69 HE70 => ?_
        refine pl_x HE70 HH64 (wt0 rfl) (x_lss rfl rfl) rfl rfl fun a_71 HE72 => ?_
        refine wpList_nil ?_
        clear HH58 a_59 HE60 HH61 a_62 HE63 a_65 HE66 a_67 HE68 a_69 HE70
        refine nrm ?_
        refine cnd_d HE72 rfl (fun hc29 => ?_) (fun hc29 => ?_)
        · refine wp_skip ?_
          refine nrm ?_
          refine wp_seq ?_
          refine wp_block ?_
          refine wp_seq ?_
          refine rg ?_
          refine pl_x HE72 HH64 (wt0 rfl) (x_move rfl) rfl rfl fun a_73 HE74 => ?_
          refine pl_x HE74 HH64 (wt0 rfl) (x_move rfl) rfl rfl fun a_75 HE76 => ?_
          have ke30 : k < a1.length := by omega
          obtain ⟨be30, fe30, ese30, Ae30, Re30, De30⟩ := el_old h1 ke30
          obtain ⟨e30, xe30⟩ : ∃ x, x = a1[k] := ⟨_, rfl⟩
          rw [← xe30] at Re30
          have Qe30 := Re30
          obtain ⟨Ae30_0, ce30_0, rfl, ge30_0⟩ := Re30
          have le30_0 := ge30_0.len
          have se30 := s0 e30 (by rw [xe30]; exact List.getElem_mem _)
          have sde30 := side_trim (s := a0.2.1) (by omega) e30
          refine pl_x HE76 HH64 (wt0 rfl) (x_indexAddr ts_92 rfl rfl Ae30 rfl ke30) rfl rfl fun a_77 HE78 => ?_
          refine pl_x HE78 HH64 (wt0 rfl) (x_load1 tv_31 rfl (c_old (De30 0 _ rfl))) rfl rfl fun a_79 HE80 => ?_
          refine pl fun K_81 hK82 => ?_
          refine st_call HE80 (wt0 rfl) rfl rfl rfl en_147 rfl rfl (spec_l06Trim _ _ e30 _ (HH64.old ge30_0) (by omega)) fun e w' hr => ?_
          obtain ⟨Ar31_0, cr31_0, rfl, hor31_0, hbr31⟩ := hr
          obtain ⟨Sr31, HH83⟩ := HH64.newS hbr31 hor31_0
          refine ⟨_, rfl, fun a_84 HE85 => hK82 _ _ ?_⟩
          refine pl_x HE85 HH83 (wt0 rfl) (x_assign rfl) rfl rfl fun a_86 HE87 => ?_
          refine wpList_nil ?_
          clear a_71 HE72 a_73 HE74 a_75 HE76 a_77 HE78 HH64 a_79 HE80 a_84 HE85 hK82 K_81
          refine nrm ?_
          refine wp_seq ?_
          refine wp_seq ?_
          refine rg ?_
          refine pl_x HE87 HH83 (wt0 rfl) (x_move rfl) rfl rfl fun a_88 HE89 => ?_
          refine pl_x HE89 HH83 (wt0 rfl) (x_move rfl) rfl rfl fun a_90 HE91 => ?_
          refine pl_x HE91 HH83 (wt0 rfl) (x_indexAddr ts_92 rfl rfl Ae30 rfl ke30) rfl rfl fun a_92 HE93 => ?_
          refine pl_x HE93 HH83 (wt0 rfl) (x_load1 tv_31 rfl (c_old (De30 0 _ rfl))) rfl rfl fun a_94 HE95 => ?_
          refine pl_x HE95 HH83 (wt0 rfl) (x_len Try.underlying31 rfl) rfl rfl fun a_96 HE97 => ?_
          refine pl_x HE97 HH83 (wt0 rfl) (x_gtr rfl rfl) rfl rfl fun a_98 HE99 => ?_
          refine pl_x HE99 HH83 (wt0 rfl) (x_move rfl) rfl rfl fun a_100 HE101 => ?_
          by_cases hc32 : 200 < (e30.length : Int)
          · refine pl_no HE101 (wtF HE101 rfl rfl rfl (decide_eq_true hc32)) rfl rfl fun a_102 HE103 => ?_
            refine pl_no HE103 (wtF HE103 rfl rfl rfl (decide_eq_true hc32)) rfl rfl fun a_104 HE105 => ?_
            refine pl_no HE105 (wtF HE105 rfl rfl rfl (decide_eq_true hc32)) rfl rfl fun a_106 HE107 => ?_
            refine pl_no HE107 (wtF HE107 rfl rfl rfl (decide_eq_true hc32)) rfl rfl fun a_108 HE109 => ?_
            refine pl_no HE109 (wtF HE109 rfl rfl rfl (decide_eq_true hc32)) rfl rfl fun a_110 HE111 => ?_
            refine pl_x HE111 HH83 (wt0 rfl) (x_pickT rfl (decide_eq_true hc32) rfl) rfl rfl fun a_112 HE113 => ?_
            refine wpList_nil ?_
            clear a_86 HE87 a_88 HE89 a_90 HE91 a_92 HE93 a_94 HE95 a_96 HE97 a_98 HE99 a_100 HE101 a_102 HE103 a_104 HE105 a_106 HE107 a_108 HE109 a_110 HE111
            refine nrm ?_
            refine cndT HE113 rfl rfl ?_
            refine wp_seq ?_
            refine rg ?_
            refine pl_x HE113 HH83 (wt0 rfl) (show XS _ _ _ _ (.agg #[.int .i64 (0), .slice none (0) 0]) from x_build (vs := []) tb_87 rfl (by simp [Value.oneCell'])) rfl rfl fun a_114 HE115 => ?_
            refine pl fun K_116 hK117 => ?_
            refine st_store (vs := [.int .i64 (0), .slice none (0) 0]) 3 HE115 HH83 tv_87 rfl rfl rfl rfl rfl rfl (by simp [Value.oneCell']) (wt0 rfl) fun w' HH118 => hK117 _ _ ?_
            refine pl_x HE115 HH118 (wt0 rfl) (x_assign rfl) rfl rfl fun a_119 HE120 => ?_
            refine wpList_nil ?_
            clear a_112 HE113 HH83 a_114 HE115 hK117 K_116
            refine nrm ?_
            refine wp_ret ?_
            refine (thn_ret (blk_ret (thn_ret (thn_ret (blk_ret (thn_ret ?_))))))
            refine ret2 HE120 rfl (rv_cell rfl (tv_87.loadN (cs := [.int .i64 (0), .slice none (0) 0]) rfl (c_blkN 3 rfl _ HH118))) (rv_tmp rfl) ?_
            have HH121 := HH118.flatO (E := eMultiConfig) (cs := [.int .i64 (0), .slice none (0) 0]) (x := (0, [])) (fun _ => (oPrN (oI (by exact ⟨by omega, by omega⟩)) (oSl (So.nil (Nat.zero_le _)))))
            have hF : (startMC a0 a1) = ((0, []), 2) := by
              first | (simp [startMC, hc24, hc25, p28_0, p28_1, hc29, xe30, hc32]; done) | (unfold startMC; rw [if_pos ‹_›, if_neg (by omega)]; done) | (unfold startMC; rw [if_pos ‹_›, if_pos (by omega), if_pos (any_hit (by omega : k < a1.length) (by rw [← xe30]; unfold badWd; grind))]; done) | (have hq := p28_1; rw [List.take_of_length_le (by omega)] at hq; unfold startMC; rw [if_pos ‹_›, if_pos (by omega), hq, List.take_of_length_le (by omega)]; rfl)
            exact ⟨_, by rw [hF] <;> rfl, by rw [hF]; exact (HH121.o (i := 0) rfl), HH121.below⟩
          · refine pl_x HE101 HH83 (wtT HE101 rfl rfl rfl (decide_eq_false hc32)) (x_move rfl) rfl rfl fun a_122 HE123 => ?_
            refine pl_x HE123 HH83 (wtT HE123 rfl rfl rfl (decide_eq_false hc32)) (x_fieldAddr fa_83_1 rfl) rfl rfl fun a_124 HE125 => ?_
            refine pl_x HE125 HH83 (wtT HE125 rfl rfl rfl (decide_eq_false hc32)) (x_load1 tv_2 rfl (c_blk 4 rfl rfl)) rfl rfl fun a_126 HE127 => ?_
            refine pl fun K_128 hK129 => ?_
            refine st_call HE127 (wtT HE127 rfl rfl rfl (decide_eq_false hc32)) rfl rfl rfl en_148 rfl rfl (spec_l06Side _ _ (trimZ e30) a0.2.1 _ (HH83.sl (i := 0) rfl) (by omega)) fun e w' hr => ?_
            obtain ⟨rfl, hbr33⟩ := hr
            have HH130 := HH83.on hbr33
            refine ⟨_, rfl, fun a_131 HE132 => hK129 _ _ ?_⟩
            refine pl_x HE132 HH130 (wtT HE132 rfl rfl rfl (decide_eq_false hc32)) (x_not rfl) rfl rfl fun a_133 HE134 => ?_
            refine pl_x HE134 HH130 (wt0 rfl) (x_pickF rfl (decide_eq_false hc32) rfl) rfl rfl fun a_135 HE136 => ?_
            refine wpList_nil ?_
            clear a_86 HE87 a_88 HE89 a_90 HE91 a_92 HE93 a_94 HE95 a_96 HE97 a_98 HE99 a_100 HE101 a_122 HE123 a_124 HE125 HH83 a_126 HE127 a_131 HE132 a_133 HE134 hK129 K_128
            refine nrm ?_
            refine cnd_nb HE136 rfl (fun hc34 => ?_) (fun hc34 => ?_)
            · refine wp_seq ?_
              refine rg ?_
              refine pl_x HE136 HH130 (wt0 rfl) (show XS _ _ _ _ (.agg #[.int .i64 (0), .slice none (0) 0]) from x_build (vs := []) tb_87 rfl (by simp [Value.oneCell'])) rfl rfl fun a_137 HE138 => ?_
              refine pl fun K_139 hK140 => ?_
              refine st_store (vs := [.int .i64 (0), .slice none (0) 0]) 3 HE138 HH130 tv_87 rfl rfl rfl rfl rfl rfl (by simp [Value.oneCell']) (wt0 rfl) fun w' HH141 => hK140 _ _ ?_
              refine pl_x HE138 HH141 (wt0 rfl) (x_assign rfl) rfl rfl fun a_142 HE143 => ?_
              refine wpList_nil ?_
              clear a_135 HE136 HH130 a_137 HE138 hK140 K_139
              refine nrm ?_
              refine wp_ret ?_
              refine (thn_ret (blk_ret (thn_ret (thn_ret (blk_ret (thn_ret ?_))))))
              refine ret2 HE143 rfl (rv_cell rfl (tv_87.loadN (cs := [.int .i64 (0), .slice none (0) 0]) rfl (c_blkN 3 rfl _ HH141))) (rv_tmp rfl) ?_
              have HH144 := HH141.flatO (E := eMultiConfig) (cs := [.int .i64 (0), .slice none (0) 0]) (x := (0, [])) (fun _ => (oPrN (oI (by exact ⟨by omega, by omega⟩)) (oSl (So.nil (Nat.zero_le _)))))
              have hF : (startMC a0 a1) = ((0, []), 2) := by
                first | (simp [startMC, hc24, hc25, p28_0, p28_1, hc29, xe30, hc32, hc34]; done) | (unfold startMC; rw [if_pos ‹_›, if_neg (by omega)]; done) | (unfold startMC; rw [if_pos ‹_›, if_pos (by omega), if_pos (any_hit (by omega : k < a1.length) (by rw [← xe30]; unfold badWd; grind))]; done) | (have hq := p28_1; rw [List.take_of_length_le (by omega)] at hq; unfold startMC; rw [if_pos ‹_›, if_pos (by omega), hq, List.take_of_length_le (by omega)]; rfl)
              exact ⟨_, by rw [hF] <;> rfl, by rw [hF]; exact (HH144.o (i := 0) rfl), HH144.below⟩
            · refine wp_skip ?_
              refine nrm ?_
              refine rg ?_
              refine pl_x HE136 HH130 (wt0 rfl) (x_fieldAddr fa_87_1 rfl) rfl rfl fun a_145 HE146 => ?_
              refine pl_x HE146 HH130 (wt0 rfl) (x_load1 tv_85 rfl (c_blk 2 rfl rfl)) rfl rfl fun a_147 HE148 => ?_
              refine pl fun K_149 hK150 => ?_
              refine st_lit (m := 0) (cs := []) (e := 2) HE148 HH130 (run_lit ts_31 HE148 (vs := []) rfl rfl (by simp [Value.cells]) rfl (by decide)) (wt0 rfl) rfl rfl fun q35 a_151 w' HE152 HH153 => hK150 _ _ ?_
              refine pl_x HE152 HH153 (wt0 rfl) (x_move rfl) rfl rfl fun a_154 HE155 => ?_
              refine pl_x HE155 HH153 (wt0 rfl) (show XS _ _ _ _ (.agg #[.slice (some ⟨q35, 0, none⟩) (0) 0, .slice Ar31_0 ((trimZ e30).length) cr31_0]) from x_build (vs := [(0, .slice (some ⟨q35, 0, none⟩) (0) 0), (1, .slice Ar31_0 ((trimZ e30).length) cr31_0)]) tb_176 rfl (by simp [Value.oneCell'])) rfl rfl fun a_156 HE157 => ?_
              refine pl fun K_158 hK159 => ?_
              refine st_lit (m := 1) (cs := [.slice (some ⟨q35, 0, none⟩) (0) 0, .slice Ar31_0 ((trimZ e30).length) cr31_0]) (e := 176) HE157 HH153 (run_lit ts_85 HE157 (vs := [.agg #[.slice (some ⟨q35, 0, none⟩) (0) 0, .slice Ar31_0 ((trimZ e30).length) cr31_0]]) rfl rfl (by simp [Value.cells]) rfl (by decide)) (wt0 rfl) rfl rfl fun q36 a_160 w' HE161 HH162 => hK159 _ _ ?_
              refine pl fun K_163 hK164 => ?_
              have HH165 := HH162.sel [1, 0, 2, 3, 4, 5, 6] (by decide) rfl
              have HH166 := Held.vecFlat (E := eInt) (xs := []) (css := []) HH165 rfl (Nat.zero_le _) (fun i x hx => by simp at hx)
              have HH167 := HH166.vecSo
              have HH168 := HH167.relen (n := 0) (by first | exact mkL_len _ _ _ _ | (simp; done) | (simp; omega))
              have HH169 := HH168.sel [0, 2, 1, 3, 4, 5, 6] (by decide) rfl
              have HH170 := HH169.sel [1, 0, 2, 3, 4, 5, 6] (by decide) rfl
              have HH171 := HH170.sel [1, 0, 2, 3, 4, 5, 6] (by decide) rfl
              have HH172 := HH171.pair
              obtain ⟨S40, HH173⟩ : ∃ S, Held Nob w (rO eTape S [.slice (some ⟨q35, 0, none⟩) (0) 0, .slice Ar31_0 ((trimZ e30).length) cr31_0] (([] : List Int), (trimZ e30)) :: _) _ := ⟨_, HH172⟩
              refine st_app1 HE161 HH173 ts_85 [2, 0, 1, 3, 4, 5] (by decide) rfl rfl rfl (by simp [Value.oneCell']) (by unfold maxLen; first | omega | (simp; done) | (simp; omega)) (by first | omega | (simp; done) | (simp; omega)) (wt0 rfl) rfl fun A37 c38 S39 a_174 w' HE175 HH176 => hK164 _ _ ?_
              refine pl_x HE175 HH176 (wt0 rfl) (x_fieldAddr fa_87_1 rfl) rfl rfl fun a_177 HE178 => ?_
              refine pl fun K_179 hK180 => ?_
              refine st_store (vs := [.slice A37 (((a1.take k).map startT ++ [(([] : List Int), (trimZ e30))]).length) c38]) 2 HE178 HH176 tv_85 rfl rfl rfl rfl rfl rfl (by simp [Value.oneCell']) (wt0 rfl) fun w' HH181 => hK180 _ _ ?_
              refine wpList_nil ?_
              clear a_135 HE136 a_145 HE146 a_147 HE148 HH130 a_151 HE152 a_154 HE155 K_149 hK150 a_156 HE157 HH153 K_158 hK159 HH162 HH165 HH166 HH167 HH168 HH169 HH170 HH171 HH172 a_160 HE161 HH173 a_174 HE175 K_163 hK164 HH176 hK180 K_179
              refine blk_n ?_
              refine nrm ?_
              refine rg ?_
              refine pl_x HE178 HH181 (wt0 rfl) (x_move rfl) rfl rfl fun a_182 HE183 => ?_
              refine pl_x HE183 HH181 (wt0 rfl) (x_add rfl rfl (by exact ⟨by omega, by omega⟩)) rfl rfl fun a_184 HE185 => ?_
              refine pl_x HE185 HH181 (wt0 rfl) (x_assign rfl) rfl rfl fun a_186 HE187 => ?_
              refine wpList_nil ?_
              clear a_177 HE178 a_182 HE183 a_184 HE185
              have E41 : (a1.take (k + 1)).map startT = ((a1.take k).map startT ++ [(([] : List Int), (trimZ e30))]) := by
                rw [List.take_succ_eq_append_getElem (by omega), List.map_append, ← xe30]; rfl
              exact nrm ⟨a1.length - (k + 1), (by omega), k + 1, A37, c38, S39, rfl, HE187.sub ⟨(lkI rfl (by first | rfl | omega | (simp [hc24, hc25, p28_0, p28_1, hc29, xe30, hc32, hc34]; done))), rfl, rfl, rfl, rfl, trivial⟩, ((HH181.sel [0, 2, 3, 4] (by decide) rfl).to (by first | rfl | (rw [E41]; done) | (rw [E41]; rfl) | (simp only [E41]; done) | (simp only [E41]; rfl))), (by first | omega | assumption | (simp; done) | simp_all), (by exact any_step (by omega) p28_1 (by rw [← xe30]; unfold badWd; grind))⟩
        · refine wp_exit ?_
          refine (thn_exit (thn_exit (blk_hit ?_)))
          refine nrm ?_
          refine wp_seq ?_
          refine rg ?_
          refine pl_x HE72 HH64 (wt0 rfl) (x_loadN (cs := [.int .i64 (0), .slice A_6_1 ((List.length ((a1.take k).map startT))) c_6_1]) tv_87 rfl rfl (c_blkN 1 rfl)) rfl rfl fun a_188 HE189 => ?_
          refine pl fun K_190 hK191 => ?_
          refine st_store (vs := [.int .i64 (0), .slice A_6_1 ((List.length ((a1.take k).map startT))) c_6_1]) 2 HE189 HH64 tv_87 rfl rfl rfl rfl rfl rfl (by simp [Value.oneCell']) (wt0 rfl) fun w' HH192 => hK191 _ _ ?_
          refine pl_x HE189 HH192 (wt0 rfl) (x_assign rfl) rfl rfl fun a_193 HE194 => ?_
          refine wpList_nil ?_
          clear a_71 HE72 HH64 a_188 HE189 hK191 K_190
          refine nrm ?_
          refine wp_ret ?_
          refine ret2 HE194 rfl (rv_cell rfl (tv_87.loadN (cs := [.int .i64 (0), .slice A_6_1 ((List.length ((a1.take k).map startT))) c_6_1]) rfl (c_blkN 2 rfl _ HH192))) (rv_tmp rfl) ?_
          have HH195 := HH192.vecSo
          have HH196 := HH195.pairF (E := eInt) (c1 := [.int .i64 (0)]) (x := 0) (oI (by exact ⟨by omega, by omega⟩))
          obtain ⟨S42, HH197⟩ : ∃ S, Held Nob w (rO eMultiConfig S [.int .i64 (0), .slice A_6_1 ((List.length ((a1.take k).map startT))) c_6_1] (0, (a1.take k).map startT) :: _) _ := ⟨_, HH196⟩
          have hF : (startMC a0 a1) = ((0, (a1.take k).map startT), 0) := by
            first | (simp [startMC, hc24, hc25, p28_0, p28_1, hc29]; done) | (unfold startMC; rw [if_pos ‹_›, if_neg (by omega)]; done) | (unfold startMC; rw [if_pos ‹_›, if_pos (by omega), if_pos (any_hit (by omega : k < a1.length) (by rw [← xe0]; unfold badWd; grind))]; done) | (have hq := p28_1; rw [List.take_of_length_le (by omega)] at hq; unfold startMC; rw [if_pos ‹_›, if_pos (by omega), hq, List.take_of_length_le (by omega)]; rfl)
          exact ⟨_, by rw [hF] <;> rfl, by rw [hF]; exact (HH197.o (i := 0) rfl), HH197.below⟩

set_option maxRecDepth 100000 in
set_option maxHeartbeats 4000000 in
theorem law_StartMulti (es0 : List Value) (a0 : tMulti) (A1 : Option Addr) (c1 : Nat) (a1 : (List (List Int))) (w : World) (h0 : eMulti.R w (Old w) es0 a0) (h1 : Sl (eSl eInt) w (Old w) A1 c1 a1) :
    Calls Try.prog 10 #[.agg es0.toArray, .slice A1 a1.length c1] w fun e w' => e = .returned (.bool true) ∧ Below w.heap.size w w' := by
  have H0 := h0
  obtain ⟨Az0_3, cz0_3, rfl, gz0_0, gz0_1, gz0_2, gz0_3⟩ := shape_Multi h0
  have jz0_0 := gz0_0; unfold I64 at jz0_0
  have jz0_1 := gz0_1; unfold I64 at jz0_1
  have jz0_2 := gz0_2; unfold I64 at jz0_2
  have lz0_3 := gz0_3.len
  have l1 := h1.len
  have m0 := cv_cost_Multi a0
  have m1 := ct_cost_LL a1
  have n0 : (cv_MultiConfig (startMC a0 a1).1 : Int) ≤ 1000000000 := startMC_ct a0 a1
  have HH1 := Held.start Nob w
  refine enter (n := 119) Try.func10 rfl rfl rfl fun a_2 HE3 => ?_
  refine wp_seq ?_
  refine rg ?_
  refine pl fun K_4 hK5 => ?_
  refine st_box (cs := [.int .i64 (a0.1), .int .i64 (a0.2.1), .int .i64 (a0.2.2.1), .slice Az0_3 (a0.2.2.2.length) cz0_3]) HE3 HH1 rfl rfl (wt0 rfl) rfl fun q21 a_6 w' HE7 HH8 => hK5 _ _ ?_
  refine pl_x HE7 HH8 (wt0 rfl) (x_assign rfl) rfl rfl fun a_9 HE10 => ?_
  refine wpList_nil ?_
  clear a_2 HE3 HH1 a_6 HE7 hK5 K_4
  refine nrm ?_
  refine wp_seq ?_
  refine rg ?_
  refine pl_x HE10 HH8 (wt0 rfl) (x_assign rfl) rfl rfl fun a_11 HE12 => ?_
  refine wpList_nil ?_
  clear a_9 HE10
  refine nrm ?_
  refine wp_seq ?_
  refine rg ?_
  refine pl_x HE12 HH8 (wt0 rfl) (x_loadN (cs := [.int .i64 (a0.1), .int .i64 (a0.2.1), .int .i64 (a0.2.2.1), .slice Az0_3 (a0.2.2.2.length) cz0_3]) tv_74 rfl rfl (c_blkN 0 rfl)) rfl rfl fun a_13 HE14 => ?_
  refine pl_x HE14 HH8 (wt0 rfl) (x_move rfl) rfl rfl fun a_15 HE16 => ?_
  refine pl fun K_17 hK18 => ?_
  refine st_call HE16 (wt0 rfl) rfl rfl rfl en_52 rfl rfl (sz_Multi [.int .i64 (a0.1), .int .i64 (a0.2.1), .int .i64 (a0.2.2.1), .slice Az0_3 (a0.2.2.2.length) cz0_3] a0 1048576 _ (HH8.oldR H0) (by omega) (by omega)) fun e w' hr => ?_
  obtain ⟨rfl, hbr22⟩ := hr
  have HH19 := HH8.on hbr22
  clear hbr22
  refine ⟨_, rfl, fun a_20 HE21 => hK18 _ _ ?_⟩
  refine pl_x HE21 HH19 (wt0 rfl) (x_assign rfl) rfl rfl fun a_22 HE23 => ?_
  refine wpList_nil ?_
  clear a_11 HE12 a_13 HE14 HH8 a_15 HE16 a_20 HE21 hK18 K_17
  refine nrm ?_
  refine wp_seq ?_
  refine wp_seq ?_
  refine rg ?_
  refine pl_x HE23 HH19 (wt0 rfl) (x_move rfl) rfl rfl fun a_24 HE25 => ?_
  refine pl_x HE25 HH19 (wt0 rfl) (x_lss rfl rfl) rfl rfl fun a_26 HE27 => ?_
  refine wpList_nil ?_
  clear a_22 HE23 a_24 HE25
  refine nrm ?_
  refine cnd_d HE27 rfl (fun hc23 => ?_) (fun hc23 => ?_)
  · refine wp_seq ?_
    refine rg ?_
    refine pl_x HE27 HH19 (wt0 rfl) (x_assign rfl) rfl rfl fun a_28 HE29 => ?_
    refine wpList_nil ?_
    clear a_26 HE27
    refine nrm ?_
    refine wp_ret ?_
    refine (thn_ret ?_)
    refine ret1 HE29 rfl (rv_tmp rfl) ?_
    have hF : true = true := by
      first | rfl | (exfalso; omega)
    exact ⟨by rw [hF] <;> rfl, HH19.below⟩
  · have zr22 := left_ok hc23
    refine wp_skip ?_
    refine nrm ?_
    refine wp_seq ?_
    refine rg ?_
    refine pl_x HE27 HH19 (wt0 rfl) (x_move rfl) rfl rfl fun a_30 HE31 => ?_
    refine pl_x HE31 HH19 (wt0 rfl) (x_move rfl) rfl rfl fun a_32 HE33 => ?_
    refine pl fun K_34 hK35 => ?_
    refine st_call HE33 (wt0 rfl) rfl rfl rfl en_66 rfl rfl (sz_Int64SS _ _ a1 (left 1048576 (cost_Multi a0)) _ (HH19.old h1) (by omega) (by omega)) fun e w' hr => ?_
    obtain ⟨rfl, hbr24⟩ := hr
    have HH36 := HH19.on hbr24
    clear hbr24
    refine ⟨_, rfl, fun a_37 HE38 => hK35 _ _ ?_⟩
    refine pl_x HE38 HH36 (wt0 rfl) (x_assign rfl) rfl rfl fun a_39 HE40 => ?_
    refine wpList_nil ?_
    clear a_26 HE27 a_30 HE31 HH19 a_32 HE33 a_37 HE38 hK35 K_34
    refine nrm ?_
    refine wp_seq ?_
    refine wp_seq ?_
    refine rg ?_
    refine pl_x HE40 HH36 (wt0 rfl) (x_move rfl) rfl rfl fun a_41 HE42 => ?_
    refine pl_x HE42 HH36 (wt0 rfl) (x_lss rfl rfl) rfl rfl fun a_43 HE44 => ?_
    refine wpList_nil ?_
    clear a_39 HE40 a_41 HE42
    refine nrm ?_
    refine cnd_d HE44 rfl (fun hc25 => ?_) (fun hc25 => ?_)
    · refine wp_seq ?_
      refine rg ?_
      refine pl_x HE44 HH36 (wt0 rfl) (x_assign rfl) rfl rfl fun a_45 HE46 => ?_
      refine wpList_nil ?_
      clear a_43 HE44
      refine nrm ?_
      refine wp_ret ?_
      refine (thn_ret ?_)
      refine ret1 HE46 rfl (rv_tmp rfl) ?_
      have hF : true = true := by
        first | rfl | (exfalso; omega)
      exact ⟨by rw [hF] <;> rfl, HH36.below⟩
    · have zr24 := left_ok hc25
      refine wp_skip ?_
      refine nrm ?_
      refine wp_seq ?_
      refine rg ?_
      refine pl_x HE44 HH36 (wt0 rfl) (x_loadN (cs := [.int .i64 (a0.1), .int .i64 (a0.2.1), .int .i64 (a0.2.2.1), .slice Az0_3 (a0.2.2.2.length) cz0_3]) tv_74 rfl rfl (c_blkN 0 rfl)) rfl rfl fun a_47 HE48 => ?_
      refine pl fun K_49 hK50 => ?_
      refine st_call HE48 (wt0 rfl) rfl rfl rfl en_55 rfl rfl (to_Multi [.int .i64 (a0.1), .int .i64 (a0.2.1), .int .i64 (a0.2.2.1), .slice Az0_3 (a0.2.2.2.length) cz0_3] a0 _ (HH36.oldR H0) (by omega)) fun e w' hr => ?_
      obtain ⟨esr26, rfl, hor26, hbr26⟩ := hr
      have hr := eMulti.read hor26
      obtain ⟨Sr26, HH51⟩ := HH36.newO hbr26 hor26
      obtain ⟨Ar26_3, cr26_3, rfl, gr26_0, gr26_1, gr26_2, gr26_3⟩ := shape_Multi hr
      clear hbr26 hor26 gr26_0 gr26_1 gr26_2 gr26_3
      refine ⟨_, rfl, fun a_52 HE53 => hK50 _ _ ?_⟩
      refine pl_x HE53 HH51 (wt0 rfl) (x_move rfl) rfl rfl fun a_54 HE55 => ?_
      refine pl fun K_56 hK57 => ?_
      refine st_call HE55 (wt0 rfl) rfl rfl rfl en_68 rfl rfl (to_Int64SS _ _ a1 _ (HH51.old h1) (by omega)) fun e w' hr => ?_
      obtain ⟨Ar27, cr27, rfl, hor27, hbr27⟩ := hr
      obtain ⟨Sr27, HH58⟩ := HH51.newS hbr27 hor27
      clear hbr27 hor27
      refine ⟨_, rfl, fun a_59 HE60 => hK57 _ _ ?_⟩
      refine pl fun K_61 hK62 => ?_
      refine st_call HE60 (wt0 rfl) rfl rfl rfl en_67 rfl rfl (spec_StartMulti [.int .i64 (a0.1), .int .i64 (a0.2.1), .int .i64 (a0.2.2.1), .slice Ar26_3 (a0.2.2.2.length) cr26_3] a0 _ _ a1 _ (HH58.rd (i := 1) rfl) (HH58.sl (i := 0) rfl) (by exact fun x hx => by have := cost_mem_LL hx; omega)) fun e w' hr => ?_
      obtain ⟨esr28_0, rfl, hor28_0, hbr28⟩ := hr
      have hr := eMultiConfig.read hor28_0
      obtain ⟨Sr28, HH63⟩ := HH58.newO hbr28 hor28_0
      obtain ⟨Ar28_0_1, cr28_0_1, rfl, gr28_0_0, gr28_0_1⟩ := shape_MultiConfig hr
      have jr28_0_0 := gr28_0_0; unfold I64 at jr28_0_0
      refine ⟨_, rfl, fun a_64 HE65 => hK62 _ _ ?_⟩
      refine pl_x HE65 HH63 (wt0 rfl) (x_move rfl) rfl rfl fun a_66 HE67 => ?_
      refine pl_x HE67 HH63 (wt0 rfl) (x_extract rfl rfl) rfl rfl fun a_68 HE69 => ?_
      refine pl_x HE69 HH63 (wt0 rfl) (x_extract rfl rfl) rfl rfl fun a_70 HE71 => ?_
      refine pl fun K_72 hK73 => ?_
      refine st_alloc HE71 HH63 tv_87 (wt0 rfl) rfl fun q29 a_74 w' HE75 HH76 => hK73 _ _ ?_
      refine pl fun K_77 hK78 => ?_
      refine st_store (vs := [.int .i64 ((startMC a0 a1).1.1), .slice Ar28_0_1 ((startMC a0 a1).1.2.length) cr28_0_1]) 0 HE75 HH76 tv_87 rfl rfl rfl rfl rfl rfl (by simp [Value.oneCell']) (wt0 rfl) fun w' HH79 => hK78 _ _ ?_
      refine pl_x HE75 HH79 (wt0 rfl) (x_assign rfl) rfl rfl fun a_80 HE81 => ?_
      refine wpList_nil ?_
      clear a_43 HE44 HH36 a_47 HE48 a_52 HE53 K_49 hK50 HH51 a_54 HE55 K_56 hK57 HH58 a_59 HE60 a_64 HE65 a_66 HE67 a_68 HE69 K_61 hK62 a_70 HE71 HH63 K_72 hK73 HH76 a_74 HE75 hK78 K_77
      refine nrm ?_
      refine wp_seq ?_
      refine rg ?_
      refine pl_x HE81 HH79 (wt0 rfl) (x_loadN (cs := [.int .i64 (a0.1), .int .i64 (a0.2.1), .int .i64 (a0.2.2.1), .slice Az0_3 (a0.2.2.2.length) cz0_3]) tv_74 rfl rfl (c_blkN 4 rfl)) rfl rfl fun a_82 HE83 => ?_
      refine pl fun K_84 hK85 => ?_
      refine st_call HE83 (wt0 rfl) rfl rfl rfl en_55 rfl rfl (to_Multi [.int .i64 (a0.1), .int .i64 (a0.2.1), .int .i64 (a0.2.2.1), .slice Az0_3 (a0.2.2.2.length) cz0_3] a0 _ (HH79.oldR H0) (by omega)) fun e w' hr => ?_
      obtain ⟨esr30, rfl, hor30, hbr30⟩ := hr
      have hr := eMulti.read hor30
      obtain ⟨Sr30, HH86⟩ := HH79.newO hbr30 hor30
      obtain ⟨Ar30_3, cr30_3, rfl, gr30_0, gr30_1, gr30_2, gr30_3⟩ := shape_Multi hr
      clear hbr30 hor30 gr30_0 gr30_1 gr30_2 gr30_3
      refine ⟨_, rfl, fun a_87 HE88 => hK85 _ _ ?_⟩
      refine pl fun K_89 hK90 => ?_
      refine st_alloc HE88 HH86 tv_83 (wt0 rfl) rfl fun q31 a_91 w' HE92 HH93 => hK90 _ _ ?_
      refine pl fun K_94 hK95 => ?_
      refine st_store (vs := [.int .i64 (a0.1), .int .i64 (a0.2.1), .int .i64 (a0.2.2.1), .slice Ar30_3 (a0.2.2.2.length) cr30_3]) 0 HE92 HH93 tv_83 rfl rfl rfl rfl rfl rfl (by simp [Value.oneCell']) (wt0 rfl) fun w' HH96 => hK95 _ _ ?_
      refine wpList_nil ?_
      clear a_80 HE81 HH79 a_82 HE83 K_84 hK85 a_87 HE88 HH86 K_89 hK90 HH93 hK95 K_94
      refine nrm ?_
      refine wp_seq ?_
      refine rg ?_
      refine pl_x HE92 HH96 (wt0 rfl) (x_move rfl) rfl rfl fun a_97 HE98 => ?_
      refine pl fun K_99 hK100 => ?_
      refine st_call HE98 (wt0 rfl) rfl rfl rfl en_68 rfl rfl (to_Int64SS _ _ a1 _ (HH96.old h1) (by omega)) fun e w' hr => ?_
      obtain ⟨Ar32, cr32, rfl, hor32, hbr32⟩ := hr
      obtain ⟨Sr32, HH101⟩ := HH96.newS hbr32 hor32
      clear hbr32 hor32
      refine ⟨_, rfl, fun a_102 HE103 => hK100 _ _ ?_⟩
      refine pl_x HE103 HH101 (wt0 rfl) (x_assign rfl) rfl rfl fun a_104 HE105 => ?_
      refine wpList_nil ?_
      clear a_91 HE92 HH96 a_97 HE98 a_102 HE103 hK100 K_99
      refine nrm ?_
      refine wp_seq ?_
      refine rg ?_
      refine pl_x HE105 HH101 (wt0 rfl) (x_loadN (cs := [.int .i64 (a0.1), .int .i64 (a0.2.1), .int .i64 (a0.2.2.1), .slice Ar30_3 (a0.2.2.2.length) cr30_3]) tv_83 rfl rfl (c_blkN 1 rfl)) rfl rfl fun a_106 HE107 => ?_
      refine pl_x HE107 HH101 (wt0 rfl) (x_move rfl) rfl rfl fun a_108 HE109 => ?_
      refine pl fun K_110 hK111 => ?_
      refine st_call HE109 (wt0 rfl) rfl rfl rfl en_69 rfl rfl (impl_StartMulti [.int .i64 (a0.1), .int .i64 (a0.2.1), .int .i64 (a0.2.2.1), .slice Ar30_3 (a0.2.2.2.length) cr30_3] a0 _ _ a1 _ (HH101.rd (i := 2) rfl) (HH101.sl (i := 0) rfl)) fun e w' hr => ?_
      obtain ⟨esr33_0, rfl, hor33_0, hbr33⟩ := hr
      have hr := eMultiConfig.read hor33_0
      obtain ⟨Sr33, HH112⟩ := HH101.newO hbr33 hor33_0
      obtain ⟨Ar33_0_1, cr33_0_1, rfl, gr33_0_0, gr33_0_1⟩ := shape_MultiConfig hr
      have jr33_0_0 := gr33_0_0; unfold I64 at jr33_0_0
      refine ⟨_, rfl, fun a_113 HE114 => hK111 _ _ ?_⟩
      refine pl_x HE114 HH112 (wt0 rfl) (x_move rfl) rfl rfl fun a_115 HE116 => ?_
      refine pl_x HE116 HH112 (wt0 rfl) (x_extract rfl rfl) rfl rfl fun a_117 HE118 => ?_
      refine pl_x HE118 HH112 (wt0 rfl) (x_extract rfl rfl) rfl rfl fun a_119 HE120 => ?_
      refine pl fun K_121 hK122 => ?_
      refine st_alloc HE120 HH112 tv_87 (wt0 rfl) rfl fun q34 a_123 w' HE124 HH125 => hK122 _ _ ?_
      refine pl fun K_126 hK127 => ?_
      refine st_store (vs := [.int .i64 ((startMC a0 a1).1.1), .slice Ar33_0_1 ((startMC a0 a1).1.2.length) cr33_0_1]) 0 HE124 HH125 tv_87 rfl rfl rfl rfl rfl rfl (by simp [Value.oneCell']) (wt0 rfl) fun w' HH128 => hK127 _ _ ?_
      refine pl_x HE124 HH128 (wt0 rfl) (x_assign rfl) rfl rfl fun a_129 HE130 => ?_
      refine wpList_nil ?_
      clear a_104 HE105 a_106 HE107 HH101 a_108 HE109 a_113 HE114 a_115 HE116 a_117 HE118 K_110 hK111 a_119 HE120 HH112 K_121 hK122 HH125 a_123 HE124 hK127 K_126
      refine nrm ?_
      refine wp_seq ?_
      refine wp_seq ?_
      refine rg ?_
      refine pl_x HE130 HH128 (wt0 rfl) (x_loadN (cs := [.int .i64 ((startMC a0 a1).1.1), .slice Ar33_0_1 ((startMC a0 a1).1.2.length) cr33_0_1]) tv_87 rfl rfl (c_blkN 0 rfl)) rfl rfl fun a_131 HE132 => ?_
      refine pl_x HE132 HH128 (wt0 rfl) (x_loadN (cs := [.int .i64 ((startMC a0 a1).1.1), .slice Ar28_0_1 ((startMC a0 a1).1.2.length) cr28_0_1]) tv_87 rfl rfl (c_blkN 5 rfl)) rfl rfl fun a_133 HE134 => ?_
      refine pl fun K_135 hK136 => ?_
      refine st_call HE134 (wt0 rfl) rfl rfl rfl en_59 rfl rfl (eq_MultiConfig_c [.int .i64 ((startMC a0 a1).1.1), .slice Ar33_0_1 ((startMC a0 a1).1.2.length) cr33_0_1] [.int .i64 ((startMC a0 a1).1.1), .slice Ar28_0_1 ((startMC a0 a1).1.2.length) cr28_0_1] ((startMC a0 a1).1) ((startMC a0 a1).1) _ (HH128.rd (i := 1) rfl) (HH128.rd (i := 6) rfl)) fun e w' hr => ?_
      obtain ⟨rfl, hbr35⟩ := hr
      have HH137 := HH128.on hbr35
      clear hbr35
      refine ⟨_, rfl, fun a_138 HE139 => hK136 _ _ ?_⟩
      refine pl_x HE139 HH137 (wt0 rfl) (x_not rfl) rfl rfl fun a_140 HE141 => ?_
      refine pl_x HE141 HH137 (wt0 rfl) (x_move rfl) rfl rfl fun a_142 HE143 => ?_
      refine pl_x HE143 HH137 (wtT HE143 rfl rfl rfl (not_f (eq_MultiConfig_refl _))) (x_move rfl) rfl rfl fun a_144 HE145 => ?_
      refine pl_x HE145 HH137 (wtT HE145 rfl rfl rfl (not_f (eq_MultiConfig_refl _))) (x_move rfl) rfl rfl fun a_146 HE147 => ?_
      refine pl_x HE147 HH137 (wtT HE147 rfl rfl rfl (not_f (eq_MultiConfig_refl _))) (x_neq rfl rfl) rfl rfl fun a_148 HE149 => ?_
      refine pl_x HE149 HH137 (wt0 rfl) (x_pickF rfl (not_f (eq_MultiConfig_refl _)) rfl) rfl rfl fun a_150 HE151 => ?_
      refine wpList_nil ?_
      clear a_129 HE130 a_131 HE132 HH128 a_133 HE134 a_138 HE139 a_140 HE141 a_142 HE143 a_144 HE145 a_146 HE147 a_148 HE149 hK136 K_135
      refine nrm ?_
      refine cndF HE151 rfl (bne_f rfl) ?_
      refine wp_skip ?_
      refine nrm ?_
      refine wp_seq ?_
      refine wp_seq ?_
      refine dr_start (Held Nob w [rBlk q34 87 [.int .i64 ((startMC a0 a1).1.1), .slice Ar33_0_1 ((startMC a0 a1).1.2.length) cr33_0_1], rO eMultiConfig Sr33 [.int .i64 ((startMC a0 a1).1.1), .slice Ar33_0_1 ((startMC a0 a1).1.2.length) cr33_0_1] ((startMC a0 a1).1), rSo (eSl eInt) Sr32 Ar32 cr32 a1, rBlk q31 83 [.int .i64 (a0.1), .int .i64 (a0.2.1), .int .i64 (a0.2.2.1), .slice Ar30_3 (a0.2.2.2.length) cr30_3], rO eMulti Sr30 [.int .i64 (a0.1), .int .i64 (a0.2.1), .int .i64 (a0.2.2.1), .slice Ar30_3 (a0.2.2.2.length) cr30_3] a0, rBlk q29 87 [.int .i64 ((startMC a0 a1).1.1), .slice Ar28_0_1 ((startMC a0 a1).1.2.length) cr28_0_1], rO eMultiConfig Sr28 [.int .i64 ((startMC a0 a1).1.1), .slice Ar28_0_1 ((startMC a0 a1).1.2.length) cr28_0_1] ((startMC a0 a1).1), rSo (eSl eInt) Sr27 Ar27 cr27 a1, rO eMulti Sr26 [.int .i64 (a0.1), .int .i64 (a0.2.1), .int .i64 (a0.2.2.1), .slice Ar26_3 (a0.2.2.2.length) cr26_3] a0, rBlk q21 74 [.int .i64 (a0.1), .int .i64 (a0.2.1), .int .i64 (a0.2.2.1), .slice Az0_3 (a0.2.2.2.length) cz0_3]]) 5 #[false, false, false, false, false] hmix rfl rfl HH137 (fun _ h => h.sel [0, 1, 2, 3, 4, 5, 6, 7, 8, 9] (by decide) rfl) fun w' HH152 => ?_
      have HS153 := HH152
      refine dr_take (i := 0) (ls' := #[true, false, false, false, false]) HE151 HS153 rfl (by kernel_rfl) (by kernel_rfl) (by kernel_rfl) (fun _ _ _ h => h) rfl (wt0 rfl) (x_loadN (cs := [.int .i64 (a0.1), .int .i64 (a0.2.1), .int .i64 (a0.2.2.1), .slice Ar30_3 (a0.2.2.2.length) cr30_3]) tv_83 rfl rfl (c_blkN 3 rfl)) rfl rfl fun a_154 HE155 => ?_
      refine dr_take (i := 1) (ls' := #[true, true, false, false, false]) HE155 HS153 rfl (by kernel_rfl) (by kernel_rfl) (by kernel_rfl) (fun _ _ _ h => h) rfl (wt0 rfl) (x_loadN (cs := [.int .i64 (a0.1), .int .i64 (a0.2.1), .int .i64 (a0.2.2.1), .slice Az0_3 (a0.2.2.2.length) cz0_3]) tv_74 rfl rfl (c_blkN 9 rfl)) rfl rfl fun a_156 HE157 => ?_
      refine dr_one (i := 2) (ls' := #[true, true, true, false, false]) rfl (by kernel_rfl) rfl fun K_158 hK159 => ?_
      refine st_call HE157 (wt0 rfl) rfl rfl rfl en_55 rfl rfl (to_Multi [.int .i64 (a0.1), .int .i64 (a0.2.1), .int .i64 (a0.2.2.1), .slice Az0_3 (a0.2.2.2.length) cz0_3] a0 _ (HH152.oldR H0) (by omega)) fun e w' hr => ?_
      obtain ⟨esr36, rfl, hor36, hbr36⟩ := hr
      have hr := eMulti.read hor36
      obtain ⟨Sr36, HH160⟩ := HH152.newO hbr36 hor36
      obtain ⟨Ar36_3, cr36_3, rfl, gr36_0, gr36_1, gr36_2, gr36_3⟩ := shape_Multi hr
      clear hbr36 hor36 gr36_0 gr36_1 gr36_2 gr36_3
      refine ⟨_, rfl, fun a_161 HE162 => hK159 _ _ (by exact HH160.sel [1, 2, 3, 4, 5, 6, 7, 8, 9, 10] (by decide) rfl) ?_⟩
      have HS163 := HH160.sel [1, 2, 3, 4, 5, 6, 7, 8, 9, 10] (by decide) rfl
      refine dr_one (i := 3) (ls' := #[true, true, true, true, false]) rfl (by kernel_rfl) rfl fun K_164 hK165 => ?_
      refine st_call HE162 (wt0 rfl) rfl rfl rfl en_58 rfl rfl (eq_Multi_c [.int .i64 (a0.1), .int .i64 (a0.2.1), .int .i64 (a0.2.2.1), .slice Ar30_3 (a0.2.2.2.length) cr30_3] [.int .i64 (a0.1), .int .i64 (a0.2.1), .int .i64 (a0.2.2.1), .slice Ar36_3 (a0.2.2.2.length) cr36_3] a0 a0 _ (HH160.rd (i := 5) rfl) (HH160.rd (i := 0) rfl)) fun e w' hr => ?_
      obtain ⟨rfl, hbr37⟩ := hr
      have HH166 := HH160.on hbr37
      clear hbr37
      refine ⟨_, rfl, fun a_167 HE168 => hK165 _ _ (by exact HH166.sel [1, 2, 3, 4, 5, 6, 7, 8, 9, 10] (by decide) rfl) ?_⟩
      have HS169 := HH166.sel [1, 2, 3, 4, 5, 6, 7, 8, 9, 10] (by decide) rfl
      refine dr_take (i := 4) (ls' := #[true, true, true, true, true]) HE168 HS169 rfl (by kernel_rfl) (by kernel_rfl) (by kernel_rfl) (fun _ _ _ h => h) rfl (wt0 rfl) (x_not rfl) rfl rfl fun a_170 HE171 => ?_
      refine dr_done (by kernel_rfl) ?_
      clear HH137 a_150 HE151 a_154 HE155 HH152 a_156 HE157 HS153 K_158 hK159 HH160 a_161 HE162 HS163 a_167 HE168 hK165 K_164
      refine nrm ?_
      refine cndF HE171 rfl (not_f (eq_Multi_refl _)) ?_
      refine wp_skip ?_
      refine nrm ?_
      refine wp_seq ?_
      refine wp_seq ?_
      refine rg ?_
      refine pl_x HE171 HH166 (wt0 rfl) (x_move rfl) rfl rfl fun a_172 HE173 => ?_
      refine pl_x HE173 HH166 (wt0 rfl) (x_move rfl) rfl rfl fun a_174 HE175 => ?_
      refine pl fun K_176 hK177 => ?_
      refine st_call HE175 (wt0 rfl) rfl rfl rfl en_68 rfl rfl (to_Int64SS _ _ a1 _ (HH166.old h1) (by omega)) fun e w' hr => ?_
      obtain ⟨Ar38, cr38, rfl, hor38, hbr38⟩ := hr
      obtain ⟨Sr38, HH178⟩ := HH166.newS hbr38 hor38
      clear hbr38 hor38
      refine ⟨_, rfl, fun a_179 HE180 => hK177 _ _ ?_⟩
      refine pl fun K_181 hK182 => ?_
      refine st_call HE180 (wt0 rfl) rfl rfl rfl en_62 rfl rfl (eq_LL_c _ _ _ _ a1 a1 _ (HH178.sl (i := 4) rfl) (HH178.sl (i := 0) rfl)) fun e w' hr => ?_
      obtain ⟨rfl, hbr39⟩ := hr
      have HH183 := HH178.on hbr39
      clear hbr39
      refine ⟨_, rfl, fun a_184 HE185 => hK182 _ _ ?_⟩
      refine pl_x HE185 HH183 (wt0 rfl) (x_not rfl) rfl rfl fun a_186 HE187 => ?_
      refine wpList_nil ?_
      clear a_170 HE171 a_172 HE173 HH166 a_174 HE175 K_176 hK177 HH178 a_179 HE180 a_184 HE185 hK182 K_181
      refine nrm ?_
      refine cndF HE187 rfl (not_f (eq_LL_refl _)) ?_
      refine wp_skip ?_
      refine nrm ?_
      refine wp_seq ?_
      refine rg ?_
      refine pl_x HE187 HH183 (wt0 rfl) (x_assign rfl) rfl rfl fun a_188 HE189 => ?_
      refine wpList_nil ?_
      clear a_186 HE187
      refine nrm ?_
      refine wp_seq ?_
      refine rg ?_
      refine pl_x HE189 HH183 (wt0 rfl) (x_loadN (cs := [.int .i64 (a0.1), .int .i64 (a0.2.1), .int .i64 (a0.2.2.1), .slice Ar30_3 (a0.2.2.2.length) cr30_3]) tv_83 rfl rfl (c_blkN 5 rfl)) rfl rfl fun a_190 HE191 => ?_
      refine pl_x HE191 HH183 (wt0 rfl) (x_move rfl) rfl rfl fun a_192 HE193 => ?_
      refine pl fun K_194 hK195 => ?_
      have HH196 := HH183.sel [6, 0, 1, 2, 3, 4, 5, 7, 8, 9, 10, 11] (by decide) rfl
      have HH197 : Held Nob w ([rO eMulti Sr30 [.int .i64 (a0.1), .int .i64 (a0.2.1), .int .i64 (a0.2.2.1), .slice Ar30_3 (a0.2.2.2.length) cr30_3] a0] ++ [rSo (eSl eInt) Sr38 Ar38 cr38 a1, rO eMulti Sr36 [.int .i64 (a0.1), .int .i64 (a0.2.1), .int .i64 (a0.2.2.1), .slice Ar36_3 (a0.2.2.2.length) cr36_3] a0, rBlk q34 87 [.int .i64 ((startMC a0 a1).1.1), .slice Ar33_0_1 ((startMC a0 a1).1.2.length) cr33_0_1], rO eMultiConfig Sr33 [.int .i64 ((startMC a0 a1).1.1), .slice Ar33_0_1 ((startMC a0 a1).1.2.length) cr33_0_1] ((startMC a0 a1).1), rSo (eSl eInt) Sr32 Ar32 cr32 a1, rBlk q31 83 [.int .i64 (a0.1), .int .i64 (a0.2.1), .int .i64 (a0.2.2.1), .slice Ar30_3 (a0.2.2.2.length) cr30_3], rBlk q29 87 [.int .i64 ((startMC a0 a1).1.1), .slice Ar28_0_1 ((startMC a0 a1).1.2.length) cr28_0_1], rO eMultiConfig Sr28 [.int .i64 ((startMC a0 a1).1.1), .slice Ar28_0_1 ((startMC a0 a1).1.2.length) cr28_0_1] ((startMC a0 a1).1), rSo (eSl eInt) Sr27 Ar27 cr27 a1, rO eMulti Sr26 [.int .i64 (a0.1), .int .i64 (a0.2.1), .int .i64 (a0.2.2.1), .slice Ar26_3 (a0.2.2.2.length) cr26_3] a0, rBlk q21 74 [.int .i64 (a0.1), .int .i64 (a0.2.1), .int .i64 (a0.2.2.1), .slice Az0_3 (a0.2.2.2.length) cz0_3]]) _ := HH196
      refine st_call HE193 (wt0 rfl) rfl rfl rfl en_63 rfl rfl (mark_Multi_h (Foot [rO eMulti Sr30 [.int .i64 (a0.1), .int .i64 (a0.2.1), .int .i64 (a0.2.2.1), .slice Ar30_3 (a0.2.2.2.length) cr30_3] a0]) [.int .i64 (a0.1), .int .i64 (a0.2.1), .int .i64 (a0.2.2.1), .slice Ar30_3 (a0.2.2.2.length) cr30_3] a0 _ 1 _ HH197.focus (by omega) (by omega)) fun e w' hr => ?_
      obtain ⟨Sr40, rfl, hbr40⟩ := hr
      have HH198 := HH197.back hbr40
      clear hbr40
      have HH199 : Held Nob w (rO eMulti Sr40 [.int .i64 (a0.1), .int .i64 (a0.2.1), .int .i64 (a0.2.2.1), .slice Ar30_3 (a0.2.2.2.length) cr30_3] (mv_Multi a0 1) :: [rSo (eSl eInt) Sr38 Ar38 cr38 a1, rO eMulti Sr36 [.int .i64 (a0.1), .int .i64 (a0.2.1), .int .i64 (a0.2.2.1), .slice Ar36_3 (a0.2.2.2.length) cr36_3] a0, rBlk q34 87 [.int .i64 ((startMC a0 a1).1.1), .slice Ar33_0_1 ((startMC a0 a1).1.2.length) cr33_0_1], rO eMultiConfig Sr33 [.int .i64 ((startMC a0 a1).1.1), .slice Ar33_0_1 ((startMC a0 a1).1.2.length) cr33_0_1] ((startMC a0 a1).1), rSo (eSl eInt) Sr32 Ar32 cr32 a1, rBlk q31 83 [.int .i64 (a0.1), .int .i64 (a0.2.1), .int .i64 (a0.2.2.1), .slice Ar30_3 (a0.2.2.2.length) cr30_3], rBlk q29 87 [.int .i64 ((startMC a0 a1).1.1), .slice Ar28_0_1 ((startMC a0 a1).1.2.length) cr28_0_1], rO eMultiConfig Sr28 [.int .i64 ((startMC a0 a1).1.1), .slice Ar28_0_1 ((startMC a0 a1).1.2.length) cr28_0_1] ((startMC a0 a1).1), rSo (eSl eInt) Sr27 Ar27 cr27 a1, rO eMulti Sr26 [.int .i64 (a0.1), .int .i64 (a0.2.1), .int .i64 (a0.2.2.1), .slice Ar26_3 (a0.2.2.2.length) cr26_3] a0, rBlk q21 74 [.int .i64 (a0.1), .int .i64 (a0.2.1), .int .i64 (a0.2.2.1), .slice Az0_3 (a0.2.2.2.length) cz0_3]]) _ := HH198
      refine ⟨_, rfl, fun a_200 HE201 => hK195 _ _ ?_⟩
      refine pl_x HE201 HH199 (wt0 rfl) (x_assign rfl) rfl rfl fun a_202 HE203 => ?_
      refine wpList_nil ?_
      clear a_188 HE189 a_190 HE191 HH183 HH196 HH197 HH198 a_192 HE193 a_200 HE201 hK195 K_194
      refine nrm ?_
      refine wp_seq ?_
      refine rg ?_
      refine pl_x HE203 HH199 (wt0 rfl) (x_move rfl) rfl rfl fun a_204 HE205 => ?_
      refine pl_x HE205 HH199 (wt0 rfl) (x_move rfl) rfl rfl fun a_206 HE207 => ?_
      refine pl fun K_208 hK209 => ?_
      refine st_call HE207 (wt0 rfl) rfl rfl rfl en_64 rfl rfl (mark_LL_c _ _ a1 (1 + (cv_Multi a0 : Int)) _ _ (so_of_o (HH199.get (i := 5) rfl)) (HH199.lt (i := 5) rfl) (by omega) (by omega)) fun e w' hr => ?_
      obtain ⟨rfl, hsr41, hcr41⟩ := hr
      have HH210 := HH199.mut (i := 5) rfl hcr41 (rSo (eSl eInt) Sr32 Ar32 cr32 (mk_LL a1 (1 + (cv_Multi a0 : Int)))) (oSl hsr41) (fun b hb => .inl hb)
      clear hsr41 hcr41
      refine ⟨_, rfl, fun a_211 HE212 => hK209 _ _ ?_⟩
      refine pl_x HE212 HH210 (wt0 rfl) (x_assign rfl) rfl rfl fun a_213 HE214 => ?_
      refine wpList_nil ?_
      clear a_202 HE203 a_204 HE205 HH199 a_206 HE207 a_211 HE212 hK209 K_208
      refine nrm ?_
      refine wp_seq ?_
      refine wp_seq ?_
      refine rg ?_
      refine pl_x HE214 HH210 (wt0 rfl) (x_move rfl) rfl rfl fun a_215 HE216 => ?_
      refine pl_x HE216 HH210 (wt0 rfl) (x_lss rfl rfl) rfl rfl fun a_217 HE218 => ?_
      refine pl_x HE218 HH210 (wt0 rfl) (x_move rfl) rfl rfl fun a_219 HE220 => ?_
      by_cases hc42 : ((1 + (cv_Multi a0 : Int)) + (ct_LL a1 : Int)) < 0
      · refine pl_no HE220 (wtF HE220 rfl rfl rfl (decide_eq_true hc42)) rfl rfl fun a_221 HE222 => ?_
        refine pl_no HE222 (wtF HE222 rfl rfl rfl (decide_eq_true hc42)) rfl rfl fun a_223 HE224 => ?_
        refine pl_no HE224 (wtF HE224 rfl rfl rfl (decide_eq_true hc42)) rfl rfl fun a_225 HE226 => ?_
        refine pl_no HE226 (wtF HE226 rfl rfl rfl (decide_eq_true hc42)) rfl rfl fun a_227 HE228 => ?_
        refine pl_x HE228 HH210 (wt0 rfl) (x_pickT rfl (decide_eq_true hc42) rfl) rfl rfl fun a_229 HE230 => ?_
        refine pl_x HE230 HH210 (wt0 rfl) (x_move rfl) rfl rfl fun a_231 HE232 => ?_
        refine pl_no HE232 (wtF HE232 rfl rfl rfl rfl) rfl rfl fun a_233 HE234 => ?_
        refine pl_no HE234 (wtF HE234 rfl rfl rfl rfl) rfl rfl fun a_235 HE236 => ?_
        refine pl_no HE236 (wtF HE236 rfl rfl rfl rfl) rfl rfl fun a_237 HE238 => ?_
        refine pl_x HE238 HH210 (wt0 rfl) (x_pickT rfl rfl rfl) rfl rfl fun a_239 HE240 => ?_
        refine wpList_nil ?_
        clear a_213 HE214 a_215 HE216 a_217 HE218 a_219 HE220 a_221 HE222 a_223 HE224 a_225 HE226 a_227 HE228 a_229 HE230 a_231 HE232 a_233 HE234 a_235 HE236 a_237 HE238
        refine nrm ?_
        refine cndT HE240 rfl rfl ?_
        refine wp_seq ?_
        refine rg ?_
        refine pl_x HE240 HH210 (wt0 rfl) (x_assign rfl) rfl rfl fun a_241 HE242 => ?_
        refine wpList_nil ?_
        clear a_239 HE240
        refine nrm ?_
        refine wp_ret ?_
        refine (thn_ret ?_)
        refine ret1 HE242 rfl (rv_tmp rfl) ?_
        have hF : true = false := by
          first | rfl | (exfalso; omega)
        exact ⟨by rw [hF] <;> rfl, HH210.below⟩
      · refine pl_x HE220 HH210 (wtT HE220 rfl rfl rfl (decide_eq_false hc42)) (x_loadN (cs := [.int .i64 ((startMC a0 a1).1.1), .slice Ar33_0_1 ((startMC a0 a1).1.2.length) cr33_0_1]) tv_87 rfl rfl (c_blkN 3 rfl)) rfl rfl fun a_243 HE244 => ?_
        refine pl_x HE244 HH210 (wtT HE244 rfl rfl rfl (decide_eq_false hc42)) (x_loadN (cs := [.int .i64 ((startMC a0 a1).1.1), .slice Ar28_0_1 ((startMC a0 a1).1.2.length) cr28_0_1]) tv_87 rfl rfl (c_blkN 7 rfl)) rfl rfl fun a_245 HE246 => ?_
        refine pl fun K_247 hK248 => ?_
        refine st_call HE246 (wtT HE246 rfl rfl rfl (decide_eq_false hc42)) rfl rfl rfl en_59 rfl rfl (eq_MultiConfig_c [.int .i64 ((startMC a0 a1).1.1), .slice Ar33_0_1 ((startMC a0 a1).1.2.length) cr33_0_1] [.int .i64 ((startMC a0 a1).1.1), .slice Ar28_0_1 ((startMC a0 a1).1.2.length) cr28_0_1] ((startMC a0 a1).1) ((startMC a0 a1).1) _ (HH210.rd (i := 4) rfl) (HH210.rd (i := 8) rfl)) fun e w' hr => ?_
        obtain ⟨rfl, hbr43⟩ := hr
        have HH249 := HH210.on hbr43
        clear hbr43
        refine ⟨_, rfl, fun a_250 HE251 => hK248 _ _ ?_⟩
        refine pl_x HE251 HH249 (wtT HE251 rfl rfl rfl (decide_eq_false hc42)) (x_not rfl) rfl rfl fun a_252 HE253 => ?_
        refine pl_x HE253 HH249 (wt0 rfl) (x_pickF rfl (decide_eq_false hc42) rfl) rfl rfl fun a_254 HE255 => ?_
        refine pl_x HE255 HH249 (wt0 rfl) (x_move rfl) rfl rfl fun a_256 HE257 => ?_
        refine pl_x HE257 HH249 (wtT HE257 rfl rfl rfl (not_f (eq_MultiConfig_refl _))) (x_move rfl) rfl rfl fun a_258 HE259 => ?_
        refine pl_x HE259 HH249 (wtT HE259 rfl rfl rfl (not_f (eq_MultiConfig_refl _))) (x_move rfl) rfl rfl fun a_260 HE261 => ?_
        refine pl_x HE261 HH249 (wtT HE261 rfl rfl rfl (not_f (eq_MultiConfig_refl _))) (x_neq rfl rfl) rfl rfl fun a_262 HE263 => ?_
        refine pl_x HE263 HH249 (wt0 rfl) (x_pickF rfl (not_f (eq_MultiConfig_refl _)) rfl) rfl rfl fun a_264 HE265 => ?_
        refine wpList_nil ?_
        clear a_213 HE214 a_215 HE216 a_217 HE218 a_219 HE220 a_243 HE244 HH210 a_245 HE246 a_250 HE251 a_252 HE253 a_254 HE255 a_256 HE257 a_258 HE259 a_260 HE261 a_262 HE263 hK248 K_247
        refine nrm ?_
        refine cndF HE265 rfl (bne_f rfl) ?_
        refine wp_skip ?_
        refine nrm ?_
        refine wp_seq ?_
        refine rg ?_
        refine pl_x HE265 HH249 (wt0 rfl) (x_assign rfl) rfl rfl fun a_266 HE267 => ?_
        refine wpList_nil ?_
        clear a_264 HE265
        refine nrm ?_
        refine wp_seq ?_
        refine rg ?_
        refine pl_x HE267 HH249 (wt0 rfl) (x_loadN (cs := [.int .i64 ((startMC a0 a1).1.1), .slice Ar33_0_1 ((startMC a0 a1).1.2.length) cr33_0_1]) tv_87 rfl rfl (c_blkN 3 rfl)) rfl rfl fun a_268 HE269 => ?_
        refine pl_x HE269 HH249 (wt0 rfl) (x_move rfl) rfl rfl fun a_270 HE271 => ?_
        refine pl fun K_272 hK273 => ?_
        have HH274 := HH249.sel [4, 0, 1, 2, 3, 5, 6, 7, 8, 9, 10, 11] (by decide) rfl
        have HH275 : Held Nob w ([rO eMultiConfig Sr33 [.int .i64 ((startMC a0 a1).1.1), .slice Ar33_0_1 ((startMC a0 a1).1.2.length) cr33_0_1] ((startMC a0 a1).1)] ++ [rO eMulti Sr40 [.int .i64 (a0.1), .int .i64 (a0.2.1), .int .i64 (a0.2.2.1), .slice Ar30_3 (a0.2.2.2.length) cr30_3] (mv_Multi a0 1), rSo (eSl eInt) Sr38 Ar38 cr38 a1, rO eMulti Sr36 [.int .i64 (a0.1), .int .i64 (a0.2.1), .int .i64 (a0.2.2.1), .slice Ar36_3 (a0.2.2.2.length) cr36_3] a0, rBlk q34 87 [.int .i64 ((startMC a0 a1).1.1), .slice Ar33_0_1 ((startMC a0 a1).1.2.length) cr33_0_1], rSo (eSl eInt) Sr32 Ar32 cr32 (mk_LL a1 (1 + (cv_Multi a0 : Int))), rBlk q31 83 [.int .i64 (a0.1), .int .i64 (a0.2.1), .int .i64 (a0.2.2.1), .slice Ar30_3 (a0.2.2.2.length) cr30_3], rBlk q29 87 [.int .i64 ((startMC a0 a1).1.1), .slice Ar28_0_1 ((startMC a0 a1).1.2.length) cr28_0_1], rO eMultiConfig Sr28 [.int .i64 ((startMC a0 a1).1.1), .slice Ar28_0_1 ((startMC a0 a1).1.2.length) cr28_0_1] ((startMC a0 a1).1), rSo (eSl eInt) Sr27 Ar27 cr27 a1, rO eMulti Sr26 [.int .i64 (a0.1), .int .i64 (a0.2.1), .int .i64 (a0.2.2.1), .slice Ar26_3 (a0.2.2.2.length) cr26_3] a0, rBlk q21 74 [.int .i64 (a0.1), .int .i64 (a0.2.1), .int .i64 (a0.2.2.1), .slice Az0_3 (a0.2.2.2.length) cz0_3]]) _ := HH274
        refine st_call HE271 (wt0 rfl) rfl rfl rfl en_70 rfl rfl (mark_MultiConfig_h (Foot [rO eMultiConfig Sr33 [.int .i64 ((startMC a0 a1).1.1), .slice Ar33_0_1 ((startMC a0 a1).1.2.length) cr33_0_1] ((startMC a0 a1).1)]) [.int .i64 ((startMC a0 a1).1.1), .slice Ar33_0_1 ((startMC a0 a1).1.2.length) cr33_0_1] ((startMC a0 a1).1) _ 1 _ HH275.focus (by omega) (by omega)) fun e w' hr => ?_
        obtain ⟨Sr44, rfl, hbr44⟩ := hr
        have HH276 := HH275.back hbr44
        clear hbr44
        have HH277 : Held Nob w (rO eMultiConfig Sr44 [.int .i64 ((startMC a0 a1).1.1), .slice Ar33_0_1 ((startMC a0 a1).1.2.length) cr33_0_1] (mv_MultiConfig ((startMC a0 a1).1) 1) :: [rO eMulti Sr40 [.int .i64 (a0.1), .int .i64 (a0.2.1), .int .i64 (a0.2.2.1), .slice Ar30_3 (a0.2.2.2.length) cr30_3] (mv_Multi a0 1), rSo (eSl eInt) Sr38 Ar38 cr38 a1, rO eMulti Sr36 [.int .i64 (a0.1), .int .i64 (a0.2.1), .int .i64 (a0.2.2.1), .slice Ar36_3 (a0.2.2.2.length) cr36_3] a0, rBlk q34 87 [.int .i64 ((startMC a0 a1).1.1), .slice Ar33_0_1 ((startMC a0 a1).1.2.length) cr33_0_1], rSo (eSl eInt) Sr32 Ar32 cr32 (mk_LL a1 (1 + (cv_Multi a0 : Int))), rBlk q31 83 [.int .i64 (a0.1), .int .i64 (a0.2.1), .int .i64 (a0.2.2.1), .slice Ar30_3 (a0.2.2.2.length) cr30_3], rBlk q29 87 [.int .i64 ((startMC a0 a1).1.1), .slice Ar28_0_1 ((startMC a0 a1).1.2.length) cr28_0_1], rO eMultiConfig Sr28 [.int .i64 ((startMC a0 a1).1.1), .slice Ar28_0_1 ((startMC a0 a1).1.2.length) cr28_0_1] ((startMC a0 a1).1), rSo (eSl eInt) Sr27 Ar27 cr27 a1, rO eMulti Sr26 [.int .i64 (a0.1), .int .i64 (a0.2.1), .int .i64 (a0.2.2.1), .slice Ar26_3 (a0.2.2.2.length) cr26_3] a0, rBlk q21 74 [.int .i64 (a0.1), .int .i64 (a0.2.1), .int .i64 (a0.2.2.1), .slice Az0_3 (a0.2.2.2.length) cz0_3]]) _ := HH276
        refine ⟨_, rfl, fun a_278 HE279 => hK273 _ _ ?_⟩
        refine pl_x HE279 HH277 (wt0 rfl) (x_assign rfl) rfl rfl fun a_280 HE281 => ?_
        refine wpList_nil ?_
        clear a_266 HE267 a_268 HE269 HH249 HH274 HH275 HH276 a_270 HE271 a_278 HE279 hK273 K_272
        refine nrm ?_
        refine wp_seq ?_
        refine rg ?_
        refine pl_x HE281 HH277 (wt0 rfl) (x_assign rfl) rfl rfl fun a_282 HE283 => ?_
        refine wpList_nil ?_
        clear a_280 HE281
        refine nrm ?_
        refine wp_seq ?_
        refine rg ?_
        refine pl_x HE283 HH277 (wt0 rfl) (x_loadN (cs := [.int .i64 ((startMC a0 a1).1.1), .slice Ar33_0_1 ((startMC a0 a1).1.2.length) cr33_0_1]) tv_87 rfl rfl (c_blkN 4 rfl)) rfl rfl fun a_284 HE285 => ?_
        refine pl_x HE285 HH277 (wt0 rfl) (x_move rfl) rfl rfl fun a_286 HE287 => ?_
        refine pl fun K_288 hK289 => ?_
        refine st_call HE287 (wt0 rfl) rfl rfl rfl en_71 rfl rfl (held_MultiConfig_e [.int .i64 ((startMC a0 a1).1.1), .slice Ar33_0_1 ((startMC a0 a1).1.2.length) cr33_0_1] (mv_MultiConfig ((startMC a0 a1).1) 1) 1 ((startMC a0 a1).1) _ (HH277.rd (i := 0) rfl) rfl (by omega) (by omega)) fun e w' hr => ?_
        obtain ⟨rfl, hbr45⟩ := hr
        have HH290 := HH277.on hbr45
        clear hbr45
        refine ⟨_, rfl, fun a_291 HE292 => hK289 _ _ ?_⟩
        refine pl_x HE292 HH290 (wt0 rfl) (x_assign rfl) rfl rfl fun a_293 HE294 => ?_
        refine wpList_nil ?_
        clear a_282 HE283 a_284 HE285 HH277 a_286 HE287 a_291 HE292 hK289 K_288
        refine nrm ?_
        refine wp_seq ?_
        refine wp_seq ?_
        refine rg ?_
        refine pl_x HE294 HH290 (wt0 rfl) (x_move rfl) rfl rfl fun a_295 HE296 => ?_
        refine pl_x HE296 HH290 (wt0 rfl) (x_lss rfl rfl) rfl rfl fun a_297 HE298 => ?_
        refine wpList_nil ?_
        clear a_293 HE294 a_295 HE296
        refine nrm ?_
        refine cnd_d HE298 rfl (fun hc46 => ?_) (fun hc46 => ?_)
        · refine wp_seq ?_
          refine rg ?_
          refine pl_x HE298 HH290 (wt0 rfl) (x_assign rfl) rfl rfl fun a_299 HE300 => ?_
          refine wpList_nil ?_
          clear a_297 HE298
          refine nrm ?_
          refine wp_ret ?_
          refine (thn_ret ?_)
          refine ret1 HE300 rfl (rv_tmp rfl) ?_
          have hF : true = false := by
            first | rfl | (exfalso; omega)
          exact ⟨by rw [hF] <;> rfl, HH290.below⟩
        · refine wp_skip ?_
          refine nrm ?_
          refine wp_seq ?_
          refine wp_seq ?_
          refine rg ?_
          refine pl_x HE298 HH290 (wt0 rfl) (x_move rfl) rfl rfl fun a_301 HE302 => ?_
          refine pl_x HE302 HH290 (wt0 rfl) (x_move rfl) rfl rfl fun a_303 HE304 => ?_
          refine pl_x HE304 HH290 (wt0 rfl) (x_neq rfl rfl) rfl rfl fun a_305 HE306 => ?_
          refine wpList_nil ?_
          clear a_297 HE298 a_301 HE302 a_303 HE304
          refine nrm ?_
          refine cndF HE306 rfl (bne_f rfl) ?_
          refine wp_skip ?_
          refine nrm ?_
          refine wp_seq ?_
          refine rg ?_
          refine pl_x HE306 HH290 (wt0 rfl) (x_loadN (cs := [.int .i64 (a0.1), .int .i64 (a0.2.1), .int .i64 (a0.2.2.1), .slice Az0_3 (a0.2.2.2.length) cz0_3]) tv_74 rfl rfl (c_blkN 11 rfl)) rfl rfl fun a_307 HE308 => ?_
          refine pl fun K_309 hK310 => ?_
          refine st_call HE308 (wt0 rfl) rfl rfl rfl en_55 rfl rfl (to_Multi [.int .i64 (a0.1), .int .i64 (a0.2.1), .int .i64 (a0.2.2.1), .slice Az0_3 (a0.2.2.2.length) cz0_3] a0 _ (HH290.oldR H0) (by omega)) fun e w' hr => ?_
          obtain ⟨esr47, rfl, hor47, hbr47⟩ := hr
          have hr := eMulti.read hor47
          obtain ⟨Sr47, HH311⟩ := HH290.newO hbr47 hor47
          obtain ⟨Ar47_3, cr47_3, rfl, gr47_0, gr47_1, gr47_2, gr47_3⟩ := shape_Multi hr
          clear hbr47 hor47 gr47_0 gr47_1 gr47_2 gr47_3
          refine ⟨_, rfl, fun a_312 HE313 => hK310 _ _ ?_⟩
          refine pl_x HE313 HH311 (wt0 rfl) (x_move rfl) rfl rfl fun a_314 HE315 => ?_
          refine pl fun K_316 hK317 => ?_
          refine st_call HE315 (wt0 rfl) rfl rfl rfl en_68 rfl rfl (to_Int64SS _ _ a1 _ (HH311.old h1) (by omega)) fun e w' hr => ?_
          obtain ⟨Ar48, cr48, rfl, hor48, hbr48⟩ := hr
          obtain ⟨Sr48, HH318⟩ := HH311.newS hbr48 hor48
          clear hbr48 hor48
          refine ⟨_, rfl, fun a_319 HE320 => hK317 _ _ ?_⟩
          refine pl fun K_321 hK322 => ?_
          refine st_call HE320 (wt0 rfl) rfl rfl rfl en_69 rfl rfl (impl_StartMulti [.int .i64 (a0.1), .int .i64 (a0.2.1), .int .i64 (a0.2.2.1), .slice Ar47_3 (a0.2.2.2.length) cr47_3] a0 _ _ a1 _ (HH318.rd (i := 1) rfl) (HH318.sl (i := 0) rfl)) fun e w' hr => ?_
          obtain ⟨esr49_0, rfl, hor49_0, hbr49⟩ := hr
          have hr := eMultiConfig.read hor49_0
          obtain ⟨Sr49, HH323⟩ := HH318.newO hbr49 hor49_0
          obtain ⟨Ar49_0_1, cr49_0_1, rfl, gr49_0_0, gr49_0_1⟩ := shape_MultiConfig hr
          have jr49_0_0 := gr49_0_0; unfold I64 at jr49_0_0
          refine ⟨_, rfl, fun a_324 HE325 => hK322 _ _ ?_⟩
          refine pl_x HE325 HH323 (wt0 rfl) (x_move rfl) rfl rfl fun a_326 HE327 => ?_
          refine pl_x HE327 HH323 (wt0 rfl) (x_extract rfl rfl) rfl rfl fun a_328 HE329 => ?_
          refine pl_x HE329 HH323 (wt0 rfl) (x_extract rfl rfl) rfl rfl fun a_330 HE331 => ?_
          refine pl fun K_332 hK333 => ?_
          refine st_alloc HE331 HH323 tv_87 (wt0 rfl) rfl fun q50 a_334 w' HE335 HH336 => hK333 _ _ ?_
          refine pl fun K_337 hK338 => ?_
          refine st_store (vs := [.int .i64 ((startMC a0 a1).1.1), .slice Ar49_0_1 ((startMC a0 a1).1.2.length) cr49_0_1]) 0 HE335 HH336 tv_87 rfl rfl rfl rfl rfl rfl (by simp [Value.oneCell']) (wt0 rfl) fun w' HH339 => hK338 _ _ ?_
          refine pl_x HE335 HH339 (wt0 rfl) (x_assign rfl) rfl rfl fun a_340 HE341 => ?_
          refine wpList_nil ?_
          clear a_305 HE306 HH290 a_307 HE308 a_312 HE313 K_309 hK310 HH311 a_314 HE315 K_316 hK317 HH318 a_319 HE320 a_324 HE325 a_326 HE327 a_328 HE329 K_321 hK322 a_330 HE331 HH323 K_332 hK333 HH336 a_334 HE335 hK338 K_337
          refine nrm ?_
          refine wp_seq ?_
          refine wp_seq ?_
          refine rg ?_
          refine pl_x HE341 HH339 (wt0 rfl) (x_loadN (cs := [.int .i64 ((startMC a0 a1).1.1), .slice Ar49_0_1 ((startMC a0 a1).1.2.length) cr49_0_1]) tv_87 rfl rfl (c_blkN 0 rfl)) rfl rfl fun a_342 HE343 => ?_
          refine pl_x HE343 HH339 (wt0 rfl) (x_loadN (cs := [.int .i64 ((startMC a0 a1).1.1), .slice Ar28_0_1 ((startMC a0 a1).1.2.length) cr28_0_1]) tv_87 rfl rfl (c_blkN 11 rfl)) rfl rfl fun a_344 HE345 => ?_
          refine pl fun K_346 hK347 => ?_
          refine st_call HE345 (wt0 rfl) rfl rfl rfl en_59 rfl rfl (eq_MultiConfig_c [.int .i64 ((startMC a0 a1).1.1), .slice Ar49_0_1 ((startMC a0 a1).1.2.length) cr49_0_1] [.int .i64 ((startMC a0 a1).1.1), .slice Ar28_0_1 ((startMC a0 a1).1.2.length) cr28_0_1] ((startMC a0 a1).1) ((startMC a0 a1).1) _ (HH339.rd (i := 1) rfl) (HH339.rd (i := 12) rfl)) fun e w' hr => ?_
          obtain ⟨rfl, hbr51⟩ := hr
          have HH348 := HH339.on hbr51
          clear hbr51
          refine ⟨_, rfl, fun a_349 HE350 => hK347 _ _ ?_⟩
          refine pl_x HE350 HH348 (wt0 rfl) (x_not rfl) rfl rfl fun a_351 HE352 => ?_
          refine pl_x HE352 HH348 (wt0 rfl) (x_move rfl) rfl rfl fun a_353 HE354 => ?_
          refine pl_x HE354 HH348 (wtT HE354 rfl rfl rfl (not_f (eq_MultiConfig_refl _))) (x_move rfl) rfl rfl fun a_355 HE356 => ?_
          refine pl_x HE356 HH348 (wtT HE356 rfl rfl rfl (not_f (eq_MultiConfig_refl _))) (x_move rfl) rfl rfl fun a_357 HE358 => ?_
          refine pl_x HE358 HH348 (wtT HE358 rfl rfl rfl (not_f (eq_MultiConfig_refl _))) (x_neq rfl rfl) rfl rfl fun a_359 HE360 => ?_
          refine pl_x HE360 HH348 (wt0 rfl) (x_pickF rfl (not_f (eq_MultiConfig_refl _)) rfl) rfl rfl fun a_361 HE362 => ?_
          refine wpList_nil ?_
          clear a_340 HE341 a_342 HE343 HH339 a_344 HE345 a_349 HE350 a_351 HE352 a_353 HE354 a_355 HE356 a_357 HE358 a_359 HE360 hK347 K_346
          refine nrm ?_
          refine cndF HE362 rfl (bne_f rfl) ?_
          refine wp_skip ?_
          refine nrm ?_
          refine wp_seq ?_
          refine rg ?_
          refine pl_x HE362 HH348 (wt0 rfl) (x_assign rfl) rfl rfl fun a_363 HE364 => ?_
          refine wpList_nil ?_
          clear a_361 HE362
          refine nrm ?_
          refine wp_seq ?_
          refine rg ?_
          refine pl_x HE364 HH348 (wt0 rfl) (x_loadN (cs := [.int .i64 ((startMC a0 a1).1.1), .slice Ar33_0_1 ((startMC a0 a1).1.2.length) cr33_0_1]) tv_87 rfl rfl (c_blkN 8 rfl)) rfl rfl fun a_365 HE366 => ?_
          refine pl_x HE366 HH348 (wt0 rfl) (x_move rfl) rfl rfl fun a_367 HE368 => ?_
          refine pl fun K_369 hK370 => ?_
          refine st_call HE368 (wt0 rfl) rfl rfl rfl en_71 rfl rfl (held_MultiConfig_e [.int .i64 ((startMC a0 a1).1.1), .slice Ar33_0_1 ((startMC a0 a1).1.2.length) cr33_0_1] (mv_MultiConfig ((startMC a0 a1).1) 1) 1 ((startMC a0 a1).1) _ (HH348.rd (i := 4) rfl) rfl (by omega) (by omega)) fun e w' hr => ?_
          obtain ⟨rfl, hbr52⟩ := hr
          have HH371 := HH348.on hbr52
          clear hbr52
          refine ⟨_, rfl, fun a_372 HE373 => hK370 _ _ ?_⟩
          refine pl_x HE373 HH371 (wt0 rfl) (x_assign rfl) rfl rfl fun a_374 HE375 => ?_
          refine wpList_nil ?_
          clear a_363 HE364 a_365 HE366 HH348 a_367 HE368 a_372 HE373 hK370 K_369
          refine nrm ?_
          refine wp_seq ?_
          refine wp_seq ?_
          refine rg ?_
          refine pl_x HE375 HH371 (wt0 rfl) (x_move rfl) rfl rfl fun a_376 HE377 => ?_
          refine pl_x HE377 HH371 (wt0 rfl) (x_lss rfl rfl) rfl rfl fun a_378 HE379 => ?_
          refine wpList_nil ?_
          clear a_374 HE375 a_376 HE377
          refine nrm ?_
          refine cndF HE379 rfl (decide_eq_false hc46) ?_
          refine wp_skip ?_
          refine nrm ?_
          refine wp_seq ?_
          refine wp_seq ?_
          refine rg ?_
          refine pl_x HE379 HH371 (wt0 rfl) (x_move rfl) rfl rfl fun a_380 HE381 => ?_
          refine pl_x HE381 HH371 (wt0 rfl) (x_move rfl) rfl rfl fun a_382 HE383 => ?_
          refine pl_x HE383 HH371 (wt0 rfl) (x_neq rfl rfl) rfl rfl fun a_384 HE385 => ?_
          refine wpList_nil ?_
          clear a_378 HE379 a_380 HE381 a_382 HE383
          refine nrm ?_
          refine cndF HE385 rfl (bne_f rfl) ?_
          refine wp_skip ?_
          refine nrm ?_
          refine wp_seq ?_
          refine rg ?_
          refine pl_x HE385 HH371 (wt0 rfl) (x_assign rfl) rfl rfl fun a_386 HE387 => ?_
          refine wpList_nil ?_
          clear a_384 HE385
          refine nrm ?_
          refine wp_ret ?_
          refine ret1 HE387 rfl (rv_tmp rfl) ?_
          have hF : true = true := by
            first | rfl | (exfalso; omega)
          exact ⟨by rw [hF] <;> rfl, HH371.below⟩

end Go.Proofs.Ytnokeoejlfodkaa
