/- What the proof of FnExactHaltingReads needs: contracts of the functions that it reaches, each once. -/
import Derived.Test.YthfihlfjphiihaaProg
import Derived.Test.YthfihlfjphiihaaQMem
import Derived.Test.YthfihlfjphiihaaQOpen
import Derived.Test.YthfihlfjphiihaaLHaltingReadsa
import Derived.Test.YthfihlfjphiihaaLHaltingReadsb
import Derived.Test.YthfihlfjphiihaaLHaltingReadsc
import Derived.Test.YthfihlfjphiihaaLHaltingReadsd
import Derived.WalkKit
import Derived.WalkSpells
import Derived.Below
import Derived.LoopTactic
import Derived.Outline
import Derived.Deep.QuietTactic
import Derived.BigQuiet
import Derived.Deep.LoopGhost
import Derived.Handy
import Derived.Lib.Hide
import Derived.Shelf.Abstract
import Derived.StillTailTactics
import Derived.OwnWalk
import Derived.Maps.AppendAt
import Derived.RegionTactic
import Derived.Deep.RegionHeld3
import Derived.IntWalk
import Derived.Deep.Upon
import Derived.Laws.OwnMore
import Derived.Maps.AppendAt
import Derived.Laws.Small
import Derived.Lib.FrozenHead
import Derived.Lib.RuneBytes
import Derived.Lib.LaidTab
import Derived.Laws.StructEq
import Derived.Maps.OwnSet
import Derived.DeepKeys4
import Derived.Lib.SliceRun
import Derived.Lib.AppendZeros
import Derived.Lib.ItoaLen
import Derived.Lib.Join
import Derived.Shelf.Strconv.Itoa4
import Derived.Shelf.Strings.OnBuilder
import Derived.Shelf.Strings.BuilderK
import Derived.Shelf.Strings.BuilderRune
import Derived.Shelf.LaysM
import Derived.Ground.NamesProg
namespace Go.Proofs.Ythfihlfjphiihaa
open Go.RowKit

set_option maxRecDepth 100000 in
set_option maxHeartbeats 4000000 in
theorem spec_l06Is (p0 o0 : Nat) (es0 : List Value) (a0 : tMulti) (w : World) (h0 : eMulti.R w (Old w) es0 a0) (hq0 : ∀ j v, es0[j]? = some v → w.cell? ⟨p0, o0 + j, none⟩ = some v) :
    Calls Try.prog 60 #[.pointer (some ⟨p0, o0, none⟩)] w fun e w' => e = .returned (.bool (validMulti a0)) ∧ Below w.heap.size w w' := by
  have H0 := h0
  obtain ⟨Az0_3, cz0_3, rfl, gz0_0, gz0_1, gz0_2, gz0_3⟩ := shape_Multi h0
  have jz0_0 := gz0_0; unfold I64 at jz0_0
  have jz0_1 := gz0_1; unfold I64 at jz0_1
  have jz0_2 := gz0_2; unfold I64 at jz0_2
  have lz0_3 := gz0_3.len
  have HH1 := Held.start Nob w
  refine enter (n := 132) Try.func60 rfl rfl rfl fun a_2 HE3 => ?_
  refine wp_seq ?_
  refine rg ?_
  refine pl_x HE3 HH1 (wt0 rfl) (x_assign rfl) rfl rfl fun a_4 HE5 => ?_
  refine wpList_nil ?_
  clear a_2 HE3
  refine nrm ?_
  refine wp_seq ?_
  refine wp_seq ?_
  refine rg ?_
  refine pl_x HE5 HH1 (wt0 rfl) (x_move rfl) rfl rfl fun a_6 HE7 => ?_
  refine pl_x HE7 HH1 (wt0 rfl) (x_nilCheck rfl) rfl rfl fun a_8 HE9 => ?_
  refine pl_x HE9 HH1 (wt0 rfl) (x_fieldAddr fa_55_0 rfl) rfl rfl fun a_10 HE11 => ?_
  refine pl_x HE11 HH1 (wt0 rfl) (x_load1 tv_2 rfl (c_old (hq0 0 _ rfl))) rfl rfl fun a_12 HE13 => ?_
  refine pl fun K_14 hK15 => ?_
  refine st_call HE13 (wt0 rfl) rfl rfl rfl en_61 rfl rfl (spec_l00In a0.1 2 3 _ ) fun e w' hr => ?_
  obtain ⟨rfl, rfl⟩ := hr
  refine ⟨_, rfl, fun a_16 HE17 => hK15 _ _ ?_⟩
  refine pl_x HE17 HH1 (wt0 rfl) (x_not rfl) rfl rfl fun a_18 HE19 => ?_
  refine pl_x HE19 HH1 (wt0 rfl) (x_move rfl) rfl rfl fun a_20 HE21 => ?_
  rcases Bool.eq_false_or_eq_true ((withinB a0.1 2 3)) with hc22 | hc22
  · refine pl_x HE21 HH1 (wtT HE21 rfl rfl rfl (not_f hc22)) (x_move rfl) rfl rfl fun a_22 HE23 => ?_
    refine pl_x HE23 HH1 (wtT HE23 rfl rfl rfl (not_f hc22)) (x_nilCheck rfl) rfl rfl fun a_24 HE25 => ?_
    refine pl_x HE25 HH1 (wtT HE25 rfl rfl rfl (not_f hc22)) (x_fieldAddr fa_55_1 rfl) rfl rfl fun a_26 HE27 => ?_
    refine pl_x HE27 HH1 (wtT HE27 rfl rfl rfl (not_f hc22)) (x_load1 tv_2 rfl (c_old (hq0 1 _ rfl))) rfl rfl fun a_28 HE29 => ?_
    refine pl fun K_30 hK31 => ?_
    refine st_call HE29 (wtT HE29 rfl rfl rfl (not_f hc22)) rfl rfl rfl en_61 rfl rfl (spec_l00In a0.2.1 2 3 _ ) fun e w' hr => ?_
    obtain ⟨rfl, rfl⟩ := hr
    refine ⟨_, rfl, fun a_32 HE33 => hK31 _ _ ?_⟩
    refine pl_x HE33 HH1 (wtT HE33 rfl rfl rfl (not_f hc22)) (x_not rfl) rfl rfl fun a_34 HE35 => ?_
    refine pl_x HE35 HH1 (wt0 rfl) (x_pickF rfl (not_f hc22) rfl) rfl rfl fun a_36 HE37 => ?_
    refine pl_x HE37 HH1 (wt0 rfl) (x_move rfl) rfl rfl fun a_38 HE39 => ?_
    rcases Bool.eq_false_or_eq_true ((withinB a0.2.1 2 3)) with hc24 | hc24
    · have v1 := withinB_true.1 hc24
      refine pl_x HE39 HH1 (wtT HE39 rfl rfl rfl (not_f hc24)) (x_move rfl) rfl rfl fun a_40 HE41 => ?_
      refine pl_x HE41 HH1 (wtT HE41 rfl rfl rfl (not_f hc24)) (x_nilCheck rfl) rfl rfl fun a_42 HE43 => ?_
      refine pl_x HE43 HH1 (wtT HE43 rfl rfl rfl (not_f hc24)) (x_fieldAddr fa_55_2 rfl) rfl rfl fun a_44 HE45 => ?_
      refine pl_x HE45 HH1 (wtT HE45 rfl rfl rfl (not_f hc24)) (x_load1 tv_2 rfl (c_old (hq0 2 _ rfl))) rfl rfl fun a_46 HE47 => ?_
      refine pl fun K_48 hK49 => ?_
      refine st_call HE47 (wtT HE47 rfl rfl rfl (not_f hc24)) rfl rfl rfl en_61 rfl rfl (spec_l00In a0.2.2.1 1 16 _ ) fun e w' hr => ?_
      obtain ⟨rfl, rfl⟩ := hr
      refine ⟨_, rfl, fun a_50 HE51 => hK49 _ _ ?_⟩
      refine pl_x HE51 HH1 (wtT HE51 rfl rfl rfl (not_f hc24)) (x_not rfl) rfl rfl fun a_52 HE53 => ?_
      refine pl_x HE53 HH1 (wt0 rfl) (x_pickF rfl (not_f hc24) rfl) rfl rfl fun a_54 HE55 => ?_
      refine pl_x HE55 HH1 (wt0 rfl) (x_move rfl) rfl rfl fun a_56 HE57 => ?_
      rcases Bool.eq_false_or_eq_true ((withinB a0.2.2.1 1 16)) with hc26 | hc26
      · have v2 := withinB_true.1 hc26
        refine pl_x HE57 HH1 (wtT HE57 rfl rfl rfl (not_f hc26)) (x_move rfl) rfl rfl fun a_58 HE59 => ?_
        refine pl_x HE59 HH1 (wtT HE59 rfl rfl rfl (not_f hc26)) (x_nilCheck rfl) rfl rfl fun a_60 HE61 => ?_
        refine pl_x HE61 HH1 (wtT HE61 rfl rfl rfl (not_f hc26)) (x_fieldAddr fa_55_3 rfl) rfl rfl fun a_62 HE63 => ?_
        refine pl_x HE63 HH1 (wtT HE63 rfl rfl rfl (not_f hc26)) (x_load1 tv_53 rfl (c_old (hq0 3 _ rfl))) rfl rfl fun a_64 HE65 => ?_
        refine pl_x HE65 HH1 (wtT HE65 rfl rfl rfl (not_f hc26)) (x_len Try.underlying53 rfl) rfl rfl fun a_66 HE67 => ?_
        refine pl_x HE67 HH1 (wtT HE67 rfl rfl rfl (not_f hc26)) (x_gtr rfl rfl) rfl rfl fun a_68 HE69 => ?_
        refine pl_x HE69 HH1 (wt0 rfl) (x_pickF rfl (not_f hc26) rfl) rfl rfl fun a_70 HE71 => ?_
        refine wpList_nil ?_
        clear a_4 HE5 a_6 HE7 a_8 HE9 a_10 HE11 a_12 HE13 a_16 HE17 a_18 HE19 a_20 HE21 a_22 HE23 a_24 HE25 a_26 HE27 K_14 hK15 a_28 HE29 a_32 HE33 a_34 HE35 a_36 HE37 a_38 HE39 a_40 HE41 a_42 HE43 a_44 HE45 K_30 hK31 a_46 HE47 a_50 HE51 a_52 HE53 a_54 HE55 a_56 HE57 a_58 HE59 a_60 HE61 a_62 HE63 a_64 HE65 a_66 HE67 a_68 HE69 hK49 K_48
        refine nrm ?_
        refine cnd_d HE71 rfl (fun hc27 => ?_) (fun hc27 => ?_)
        · refine wp_seq ?_
          refine rg ?_
          refine pl_x HE71 HH1 (wt0 rfl) (x_assign rfl) rfl rfl fun a_72 HE73 => ?_
          refine wpList_nil ?_
          clear a_70 HE71
          refine nrm ?_
          refine wp_ret ?_
          refine (thn_ret ?_)
          refine ret1 HE73 rfl (rv_tmp rfl) ?_
          have hF : (validMulti a0) = false := by
            first | (simp [validMulti, hc22, hc24, hc26, hc27]; done) | (unfold validMulti; rw [decide_eq_false (by omega)]; simp) | (unfold validMulti; rw [rg_hit (by omega : k < a0.2.2.2.length) (by unfold badMR; grind [beforeMR, validMR, rowB])]; simp) | (have hq := p0_1; rw [show k = a0.2.2.2.length from by omega] at hq; unfold validMulti; rw [hq, decide_eq_true (by omega)]; simp [hc22, hc24, hc26, hc27])
          exact ⟨by first | (rw [hF] <;> rfl) | rfl | (rw [hF]; simp only [Ending.returned.injEq, Value.slice.injEq, true_and, and_true]; first | omega | (simp; done)) | (rw [hF]; simp; omega), HH1.below⟩
        · refine wp_skip ?_
          refine nrm ?_
          refine wp_seq ?_
          refine wp_seq ?_
          refine rg ?_
          refine pl_x HE71 HH1 (wt0 rfl) (x_assign rfl) rfl rfl fun a_74 HE75 => ?_
          refine wpList_nil ?_
          clear a_70 HE71
          refine nrm ?_
          refine wp_block ?_
          refine lp (fun m a w' => ∃ (k : Nat), m = a0.2.2.2.length - k ∧ Env 132 [(3, .int .i64 (k : Int)), (0, .pointer (some ⟨p0, o0, none⟩))] a ∧ Held Nob w [] w' ∧ (k ≤ a0.2.2.2.length) ∧ ((List.range k).any (badMR a0) = false)) (a0.2.2.2.length - (0)) ?_ ?_
          · exact ⟨0, rfl, HE75.sub ⟨(lkI rfl (by first | rfl | omega | (simp [hc22, hc24, hc26, hc27]; done))), rfl, trivial⟩, (HH1.sel [] (by decide) rfl), (by first | omega | assumption | (simp; done) | simp_all), (by rfl)⟩
          · rintro m a_76 w' ⟨k, rfl, HE77, HH78, p28_0, p28_1⟩
            refine wp_seq ?_
            refine wp_seq ?_
            refine rg ?_
            refine pl_x HE77 HH78 (wt0 rfl) (x_move rfl) rfl rfl fun a_79 HE80 => ?_
            refine pl_x HE80 HH78 (wt0 rfl) (x_move rfl) rfl rfl fun a_81 HE82 => ?_
            refine pl_x HE82 HH78 (wt0 rfl) (x_nilCheck rfl) rfl rfl fun a_83 HE84 => ?_
            refine pl_x HE84 HH78 (wt0 rfl) (x_fieldAddr fa_55_3 rfl) rfl rfl fun a_85 HE86 => ?_
            refine pl_x HE86 HH78 (wt0 rfl) (x_load1 tv_53 rfl (c_old (hq0 3 _ rfl))) rfl rfl fun a_87 HE88 => ?_
            refine pl_x HE88 HH78 (wt0 rfl) (x_len Try.underlying53 rfl) rfl rfl fun a_89 HE90 => ?_
            refine pl_x HE90 HH78 (wt0 rfl) (x_lss rfl rfl) rfl rfl fun a_91 HE92 => ?_
            refine wpList_nil ?_
            clear a_74 HE75 HH1 a_76 HE77 a_79 HE80 a_81 HE82 a_83 HE84 a_85 HE86 a_87 HE88 a_89 HE90
            refine nrm ?_
            refine cnd_d HE92 rfl (fun hc29 => ?_) (fun hc29 => ?_)
            · refine wp_skip ?_
              refine nrm ?_
              refine wp_seq ?_
              refine wp_block ?_
              refine wp_seq ?_
              refine rg ?_
              refine pl_x HE92 HH78 (wt0 rfl) (x_move rfl) rfl rfl fun a_93 HE94 => ?_
              refine pl_x HE94 HH78 (wt0 rfl) (x_nilCheck rfl) rfl rfl fun a_95 HE96 => ?_
              refine pl_x HE96 HH78 (wt0 rfl) (x_fieldAddr fa_55_3 rfl) rfl rfl fun a_97 HE98 => ?_
              refine pl_x HE98 HH78 (wt0 rfl) (x_load1 tv_53 rfl (c_old (hq0 3 _ rfl))) rfl rfl fun a_99 HE100 => ?_
              refine pl_x HE100 HH78 (wt0 rfl) (x_move rfl) rfl rfl fun a_101 HE102 => ?_
              have ke30 : k < a0.2.2.2.length := by omega
              obtain ⟨be30, fe30, ese30, Ae30, Re30, De30⟩ := el_old gz0_3 ke30
              obtain ⟨e30, xe30⟩ : ∃ x_, x_ = a0.2.2.2[k] := ⟨_, rfl⟩
              rw [← xe30] at Re30
              have Qe30 := Re30
              obtain ⟨Ae30_1, ce30_1, Ae30_2, ce30_2, Ae30_3, ce30_3, rfl, ge30_0, ge30_1, ge30_2, ge30_3, ge30_4⟩ := shape_MultiRule Re30
              have je30_0 := ge30_0; unfold I64 at je30_0
              have le30_1 := ge30_1.len
              have le30_2 := ge30_2.len
              have le30_3 := ge30_3.len
              have je30_4 := ge30_4; unfold I64 at je30_4
              have ge30 : a0.2.2.2[k]?.getD default = e30 := by rw [List.getElem?_eq_getElem ke30, xe30]; rfl
              refine pl_x HE102 HH78 (wt0 rfl) (x_indexAddr ts_53 rfl rfl Ae30 rfl ke30) rfl rfl fun a_103 HE104 => ?_
              refine pl_x HE104 HH78 (wt0 rfl) (x_assign rfl) rfl rfl fun a_105 HE106 => ?_
              refine wpList_nil ?_
              clear a_91 HE92 a_93 HE94 a_95 HE96 a_97 HE98 a_99 HE100 a_101 HE102 a_103 HE104
              refine nrm ?_
              refine wp_seq ?_
              refine wp_seq ?_
              refine dr_start (Held Nob w []) 24 #[false, false, false, false, false, false, false, false, false, false, false, false, false, false, false, false, false, false, false, false, false, false, false, false] hmix rfl rfl HH78 (fun _ h => h.sel [] (by decide) rfl) fun w' HH107 => ?_
              have HS108 := HH107
              refine dr_take (i := 0) (ls' := #[true, false, false, false, false, false, false, false, false, false, false, false, false, false, false, false, false, false, false, false, false, false, false, false]) HE106 HS108 rfl (by kernel_rfl) (by kernel_rfl) (by kernel_rfl) (fun _ _ _ h => h) rfl (wt0 rfl) (x_move rfl) rfl rfl fun a_109 HE110 => ?_
              refine dr_take (i := 1) (ls' := #[true, true, false, false, false, false, false, false, false, false, false, false, false, false, false, false, false, false, false, false, false, false, false, false]) HE110 HS108 rfl (by kernel_rfl) (by kernel_rfl) (by kernel_rfl) (fun _ _ _ h => h) rfl (wt0 rfl) (x_nilCheck rfl) rfl rfl fun a_111 HE112 => ?_
              refine dr_take (i := 2) (ls' := #[true, true, true, false, false, false, false, false, false, false, false, false, false, false, false, false, false, false, false, false, false, false, false, false]) HE112 HS108 rfl (by kernel_rfl) (by kernel_rfl) (by kernel_rfl) (fun _ _ _ h => h) rfl (wt0 rfl) (x_fieldAddr fa_104_0 rfl) rfl rfl fun a_113 HE114 => ?_
              refine dr_take (i := 3) (ls' := #[true, true, true, true, false, false, false, false, false, false, false, false, false, false, false, false, false, false, false, false, false, false, false, false]) HE114 HS108 rfl (by kernel_rfl) (by kernel_rfl) (by kernel_rfl) (fun _ _ _ h => h) rfl (wt0 rfl) (x_load1 tv_2 rfl (c_old (De30 0 _ rfl))) rfl rfl fun a_115 HE116 => ?_
              refine dr_take (i := 4) (ls' := #[true, true, true, true, true, false, false, false, false, false, false, false, false, false, false, false, false, false, false, false, false, false, false, false]) HE116 HS108 rfl (by kernel_rfl) (by kernel_rfl) (by kernel_rfl) (fun _ _ _ h => h) rfl (wt0 rfl) (x_move rfl) rfl rfl fun a_117 HE118 => ?_
              refine dr_take (i := 5) (ls' := #[true, true, true, true, true, true, false, false, false, false, false, false, false, false, false, false, false, false, false, false, false, false, false, false]) HE118 HS108 rfl (by kernel_rfl) (by kernel_rfl) (by kernel_rfl) (fun _ _ _ h => h) rfl (wt0 rfl) (x_nilCheck rfl) rfl rfl fun a_119 HE120 => ?_
              refine dr_take (i := 6) (ls' := #[true, true, true, true, true, true, true, false, false, false, false, false, false, false, false, false, false, false, false, false, false, false, false, false]) HE120 HS108 rfl (by kernel_rfl) (by kernel_rfl) (by kernel_rfl) (fun _ _ _ h => h) rfl (wt0 rfl) (x_fieldAddr fa_55_2 rfl) rfl rfl fun a_121 HE122 => ?_
              refine dr_take (i := 7) (ls' := #[true, true, true, true, true, true, true, true, false, false, false, false, false, false, false, false, false, false, false, false, false, false, false, false]) HE122 HS108 rfl (by kernel_rfl) (by kernel_rfl) (by kernel_rfl) (fun _ _ _ h => h) rfl (wt0 rfl) (x_load1 tv_2 rfl (c_old (hq0 2 _ rfl))) rfl rfl fun a_123 HE124 => ?_
              refine dr_take (i := 8) (ls' := #[true, true, true, true, true, true, true, true, true, false, false, false, false, false, false, false, false, false, false, false, false, false, false, false]) HE124 HS108 rfl (by kernel_rfl) (by kernel_rfl) (by kernel_rfl) (fun _ _ _ h => h) rfl (wt0 rfl) (x_sub rfl rfl (by exact ⟨by omega, by omega⟩)) rfl rfl fun a_125 HE126 => ?_
              refine dr_one (i := 9) (ls' := #[true, true, true, true, true, true, true, true, true, true, false, false, false, false, false, false, false, false, false, false, false, false, false, false]) rfl (by kernel_rfl) rfl fun K_127 hK128 => ?_
              refine st_call HE126 (wt0 rfl) rfl rfl rfl en_61 rfl rfl (spec_l00In e30.1 0 (a0.2.2.1 - 1) _ ) fun e w' hr => ?_
              obtain ⟨rfl, rfl⟩ := hr
              refine ⟨_, rfl, fun a_129 HE130 => hK128 _ _ (by exact HH107.sel [] (by decide) rfl) ?_⟩
              have HS131 := HH107.sel [] (by decide) rfl
              refine dr_take (i := 10) (ls' := #[true, true, true, true, true, true, true, true, true, true, true, false, false, false, false, false, false, false, false, false, false, false, false, false]) HE130 HS131 rfl (by kernel_rfl) (by kernel_rfl) (by kernel_rfl) (fun _ _ _ h => h) rfl (wt0 rfl) (x_not rfl) rfl rfl fun a_132 HE133 => ?_
              refine dr_take (i := 11) (ls' := #[true, true, true, true, true, true, true, true, true, true, true, true, false, false, false, false, false, false, false, false, false, false, false, false]) HE133 HS131 rfl (by kernel_rfl) (by kernel_rfl) (by kernel_rfl) (fun _ _ _ h => h) rfl (wt0 rfl) (x_move rfl) rfl rfl fun a_134 HE135 => ?_
              rcases Bool.eq_false_or_eq_true ((withinB e30.1 0 (a0.2.2.1 - 1))) with hc32 | hc32
              · refine dr_take (i := 12) (ls' := #[true, true, true, true, true, true, true, true, true, true, true, true, true, false, false, false, false, false, false, false, false, false, false, false]) HE135 HS131 rfl (by kernel_rfl) (by kernel_rfl) (by kernel_rfl) (fun _ _ _ h => h) rfl (wtT HE135 rfl rfl rfl (not_f hc32)) (x_move rfl) rfl rfl fun a_136 HE137 => ?_
                refine dr_take (i := 13) (ls' := #[true, true, true, true, true, true, true, true, true, true, true, true, true, true, false, false, false, false, false, false, false, false, false, false]) HE137 HS131 rfl (by kernel_rfl) (by kernel_rfl) (by kernel_rfl) (fun _ _ _ h => h) rfl (wtT HE137 rfl rfl rfl (not_f hc32)) (x_nilCheck rfl) rfl rfl fun a_138 HE139 => ?_
                refine dr_take (i := 14) (ls' := #[true, true, true, true, true, true, true, true, true, true, true, true, true, true, true, false, false, false, false, false, false, false, false, false]) HE139 HS131 rfl (by kernel_rfl) (by kernel_rfl) (by kernel_rfl) (fun _ _ _ h => h) rfl (wtT HE139 rfl rfl rfl (not_f hc32)) (x_fieldAddr fa_104_4 rfl) rfl rfl fun a_140 HE141 => ?_
                refine dr_take (i := 15) (ls' := #[true, true, true, true, true, true, true, true, true, true, true, true, true, true, true, true, false, false, false, false, false, false, false, false]) HE141 HS131 rfl (by kernel_rfl) (by kernel_rfl) (by kernel_rfl) (fun _ _ _ h => h) rfl (wtT HE141 rfl rfl rfl (not_f hc32)) (x_load1 tv_2 rfl (c_old (De30 4 _ rfl))) rfl rfl fun a_142 HE143 => ?_
                refine dr_take (i := 16) (ls' := #[true, true, true, true, true, true, true, true, true, true, true, true, true, true, true, true, true, false, false, false, false, false, false, false]) HE143 HS131 rfl (by kernel_rfl) (by kernel_rfl) (by kernel_rfl) (fun _ _ _ h => h) rfl (wtT HE143 rfl rfl rfl (not_f hc32)) (x_move rfl) rfl rfl fun a_144 HE145 => ?_
                refine dr_take (i := 17) (ls' := #[true, true, true, true, true, true, true, true, true, true, true, true, true, true, true, true, true, true, false, false, false, false, false, false]) HE145 HS131 rfl (by kernel_rfl) (by kernel_rfl) (by kernel_rfl) (fun _ _ _ h => h) rfl (wtT HE145 rfl rfl rfl (not_f hc32)) (x_nilCheck rfl) rfl rfl fun a_146 HE147 => ?_
                refine dr_take (i := 18) (ls' := #[true, true, true, true, true, true, true, true, true, true, true, true, true, true, true, true, true, true, true, false, false, false, false, false]) HE147 HS131 rfl (by kernel_rfl) (by kernel_rfl) (by kernel_rfl) (fun _ _ _ h => h) rfl (wtT HE147 rfl rfl rfl (not_f hc32)) (x_fieldAddr fa_55_2 rfl) rfl rfl fun a_148 HE149 => ?_
                refine dr_take (i := 19) (ls' := #[true, true, true, true, true, true, true, true, true, true, true, true, true, true, true, true, true, true, true, true, false, false, false, false]) HE149 HS131 rfl (by kernel_rfl) (by kernel_rfl) (by kernel_rfl) (fun _ _ _ h => h) rfl (wtT HE149 rfl rfl rfl (not_f hc32)) (x_load1 tv_2 rfl (c_old (hq0 2 _ rfl))) rfl rfl fun a_150 HE151 => ?_
                refine dr_take (i := 20) (ls' := #[true, true, true, true, true, true, true, true, true, true, true, true, true, true, true, true, true, true, true, true, true, false, false, false]) HE151 HS131 rfl (by kernel_rfl) (by kernel_rfl) (by kernel_rfl) (fun _ _ _ h => h) rfl (wtT HE151 rfl rfl rfl (not_f hc32)) (x_sub rfl rfl (by exact ⟨by omega, by omega⟩)) rfl rfl fun a_152 HE153 => ?_
                refine dr_one (i := 21) (ls' := #[true, true, true, true, true, true, true, true, true, true, true, true, true, true, true, true, true, true, true, true, true, true, false, false]) rfl (by kernel_rfl) rfl fun K_154 hK155 => ?_
                refine st_call HE153 (wtT HE153 rfl rfl rfl (not_f hc32)) rfl rfl rfl en_61 rfl rfl (spec_l00In e30.2.2.2.2 0 (a0.2.2.1 - 1) _ ) fun e w' hr => ?_
                obtain ⟨rfl, rfl⟩ := hr
                refine ⟨_, rfl, fun a_156 HE157 => hK155 _ _ (by exact HH107.sel [] (by decide) rfl) ?_⟩
                have HS158 := HH107.sel [] (by decide) rfl
                refine dr_take (i := 22) (ls' := #[true, true, true, true, true, true, true, true, true, true, true, true, true, true, true, true, true, true, true, true, true, true, true, false]) HE157 HS158 rfl (by kernel_rfl) (by kernel_rfl) (by kernel_rfl) (fun _ _ _ h => h) rfl (wtT HE157 rfl rfl rfl (not_f hc32)) (x_not rfl) rfl rfl fun a_159 HE160 => ?_
                refine dr_take (i := 23) (ls' := #[true, true, true, true, true, true, true, true, true, true, true, true, true, true, true, true, true, true, true, true, true, true, true, true]) HE160 HS158 rfl (by kernel_rfl) (by kernel_rfl) (by kernel_rfl) (fun _ _ _ h => h) rfl (wt0 rfl) (x_pickF rfl (not_f hc32) rfl) rfl rfl fun a_161 HE162 => ?_
                refine dr_done (by kernel_rfl) ?_
                clear HH78 a_105 HE106 a_109 HE110 a_111 HE112 a_113 HE114 a_115 HE116 a_117 HE118 a_119 HE120 a_121 HE122 a_123 HE124 a_125 HE126 HS108 a_129 HE130 a_132 HE133 a_134 HE135 a_136 HE137 a_138 HE139 a_140 HE141 a_142 HE143 a_144 HE145 a_146 HE147 a_148 HE149 a_150 HE151 K_127 hK128 a_152 HE153 HS131 a_156 HE157 a_159 HE160 hK155 K_154
                refine nrm ?_
                refine cnd_nb HE162 rfl (fun hc34 => ?_) (fun hc34 => ?_)
                · refine wp_seq ?_
                  refine rg ?_
                  refine pl_x HE162 HH107 (wt0 rfl) (x_assign rfl) rfl rfl fun a_163 HE164 => ?_
                  refine wpList_nil ?_
                  clear a_161 HE162
                  refine nrm ?_
                  refine wp_ret ?_
                  refine (thn_ret (blk_ret (thn_ret (thn_ret (blk_ret (thn_ret ?_))))))
                  refine ret1 HE164 rfl (rv_tmp rfl) ?_
                  have hF : (validMulti a0) = false := by
                    first | (simp [validMulti, hc22, hc24, hc26, hc27, p28_0, p28_1, hc29, xe30, hc32, hc34]; done) | (unfold validMulti; rw [decide_eq_false (by omega)]; simp) | (unfold validMulti; rw [rg_hit (by omega : k < a0.2.2.2.length) (by unfold badMR; grind [beforeMR, validMR, rowB])]; simp) | (have hq := p28_1; rw [show k = a0.2.2.2.length from by omega] at hq; unfold validMulti; rw [hq, decide_eq_true (by omega)]; simp [hc22, hc24, hc26, hc27, p28_0, p28_1, hc29, xe30, hc32, hc34])
                  exact ⟨by first | (rw [hF] <;> rfl) | rfl | (rw [hF]; simp only [Ending.returned.injEq, Value.slice.injEq, true_and, and_true]; first | omega | (simp; done)) | (rw [hF]; simp; omega), HH107.below⟩
                · refine wp_skip ?_
                  refine nrm ?_
                  refine wp_seq ?_
                  refine wp_seq ?_
                  refine dr_start (Held Nob w []) 44 #[false, false, false, false, false, false, false, false, false, false, false, false, false, false, false, false, false, false, false, false, false, false, false, false, false, false, false, false, false, false, false, false, false, false, false, false, false, false, false, false, false, false, false, false] hmix rfl rfl HH107 (fun _ h => h.sel [] (by decide) rfl) fun w' HH165 => ?_
                  have HS166 := HH165
                  refine dr_take (i := 0) (ls' := #[true, false, false, false, false, false, false, false, false, false, false, false, false, false, false, false, false, false, false, false, false, false, false, false, false, false, false, false, false, false, false, false, false, false, false, false, false, false, false, false, false, false, false, false]) HE162 HS166 rfl (by kernel_rfl) (by kernel_rfl) (by kernel_rfl) (fun _ _ _ h => h) rfl (wt0 rfl) (x_move rfl) rfl rfl fun a_167 HE168 => ?_
                  refine dr_take (i := 1) (ls' := #[true, true, false, false, false, false, false, false, false, false, false, false, false, false, false, false, false, false, false, false, false, false, false, false, false, false, false, false, false, false, false, false, false, false, false, false, false, false, false, false, false, false, false, false]) HE168 HS166 rfl (by kernel_rfl) (by kernel_rfl) (by kernel_rfl) (fun _ _ _ h => h) rfl (wt0 rfl) (x_nilCheck rfl) rfl rfl fun a_169 HE170 => ?_
                  refine dr_take (i := 2) (ls' := #[true, true, true, false, false, false, false, false, false, false, false, false, false, false, false, false, false, false, false, false, false, false, false, false, false, false, false, false, false, false, false, false, false, false, false, false, false, false, false, false, false, false, false, false]) HE170 HS166 rfl (by kernel_rfl) (by kernel_rfl) (by kernel_rfl) (fun _ _ _ h => h) rfl (wt0 rfl) (x_fieldAddr fa_104_1 rfl) rfl rfl fun a_171 HE172 => ?_
                  refine dr_take (i := 3) (ls' := #[true, true, true, true, false, false, false, false, false, false, false, false, false, false, false, false, false, false, false, false, false, false, false, false, false, false, false, false, false, false, false, false, false, false, false, false, false, false, false, false, false, false, false, false]) HE172 HS166 rfl (by kernel_rfl) (by kernel_rfl) (by kernel_rfl) (fun _ _ _ h => h) rfl (wt0 rfl) (x_load1 tv_37 rfl (c_old (De30 1 _ rfl))) rfl rfl fun a_173 HE174 => ?_
                  refine dr_take (i := 4) (ls' := #[true, true, true, true, true, false, false, false, false, false, false, false, false, false, false, false, false, false, false, false, false, false, false, false, false, false, false, false, false, false, false, false, false, false, false, false, false, false, false, false, false, false, false, false]) HE174 HS166 rfl (by kernel_rfl) (by kernel_rfl) (by kernel_rfl) (fun _ _ _ h => h) rfl (wt0 rfl) (x_move rfl) rfl rfl fun a_175 HE176 => ?_
                  refine dr_take (i := 5) (ls' := #[true, true, true, true, true, true, false, false, false, false, false, false, false, false, false, false, false, false, false, false, false, false, false, false, false, false, false, false, false, false, false, false, false, false, false, false, false, false, false, false, false, false, false, false]) HE176 HS166 rfl (by kernel_rfl) (by kernel_rfl) (by kernel_rfl) (fun _ _ _ h => h) rfl (wt0 rfl) (x_nilCheck rfl) rfl rfl fun a_177 HE178 => ?_
                  refine dr_take (i := 6) (ls' := #[true, true, true, true, true, true, true, false, false, false, false, false, false, false, false, false, false, false, false, false, false, false, false, false, false, false, false, false, false, false, false, false, false, false, false, false, false, false, false, false, false, false, false, false]) HE178 HS166 rfl (by kernel_rfl) (by kernel_rfl) (by kernel_rfl) (fun _ _ _ h => h) rfl (wt0 rfl) (x_fieldAddr fa_55_0 rfl) rfl rfl fun a_179 HE180 => ?_
                  refine dr_take (i := 7) (ls' := #[true, true, true, true, true, true, true, true, false, false, false, false, false, false, false, false, false, false, false, false, false, false, false, false, false, false, false, false, false, false, false, false, false, false, false, false, false, false, false, false, false, false, false, false]) HE180 HS166 rfl (by kernel_rfl) (by kernel_rfl) (by kernel_rfl) (fun _ _ _ h => h) rfl (wt0 rfl) (x_load1 tv_2 rfl (c_old (hq0 0 _ rfl))) rfl rfl fun a_181 HE182 => ?_
                  refine dr_take (i := 8) (ls' := #[true, true, true, true, true, true, true, true, true, false, false, false, false, false, false, false, false, false, false, false, false, false, false, false, false, false, false, false, false, false, false, false, false, false, false, false, false, false, false, false, false, false, false, false]) HE182 HS166 rfl (by kernel_rfl) (by kernel_rfl) (by kernel_rfl) (fun _ _ _ h => h) rfl (wt0 rfl) (x_move rfl) rfl rfl fun a_183 HE184 => ?_
                  refine dr_take (i := 9) (ls' := #[true, true, true, true, true, true, true, true, true, true, false, false, false, false, false, false, false, false, false, false, false, false, false, false, false, false, false, false, false, false, false, false, false, false, false, false, false, false, false, false, false, false, false, false]) HE184 HS166 rfl (by kernel_rfl) (by kernel_rfl) (by kernel_rfl) (fun _ _ _ h => h) rfl (wt0 rfl) (x_nilCheck rfl) rfl rfl fun a_185 HE186 => ?_
                  refine dr_take (i := 10) (ls' := #[true, true, true, true, true, true, true, true, true, true, true, false, false, false, false, false, false, false, false, false, false, false, false, false, false, false, false, false, false, false, false, false, false, false, false, false, false, false, false, false, false, false, false, false]) HE186 HS166 rfl (by kernel_rfl) (by kernel_rfl) (by kernel_rfl) (fun _ _ _ h => h) rfl (wt0 rfl) (x_fieldAddr fa_55_1 rfl) rfl rfl fun a_187 HE188 => ?_
                  refine dr_take (i := 11) (ls' := #[true, true, true, true, true, true, true, true, true, true, true, true, false, false, false, false, false, false, false, false, false, false, false, false, false, false, false, false, false, false, false, false, false, false, false, false, false, false, false, false, false, false, false, false]) HE188 HS166 rfl (by kernel_rfl) (by kernel_rfl) (by kernel_rfl) (fun _ _ _ h => h) rfl (wt0 rfl) (x_load1 tv_2 rfl (c_old (hq0 1 _ rfl))) rfl rfl fun a_189 HE190 => ?_
                  refine dr_take (i := 12) (ls' := #[true, true, true, true, true, true, true, true, true, true, true, true, true, false, false, false, false, false, false, false, false, false, false, false, false, false, false, false, false, false, false, false, false, false, false, false, false, false, false, false, false, false, false, false]) HE190 HS166 rfl (by kernel_rfl) (by kernel_rfl) (by kernel_rfl) (fun _ _ _ h => h) rfl (wt0 rfl) (x_sub rfl rfl (by exact ⟨by omega, by omega⟩)) rfl rfl fun a_191 HE192 => ?_
                  refine dr_one (i := 13) (ls' := #[true, true, true, true, true, true, true, true, true, true, true, true, true, true, false, false, false, false, false, false, false, false, false, false, false, false, false, false, false, false, false, false, false, false, false, false, false, false, false, false, false, false, false, false]) rfl (by kernel_rfl) rfl fun K_193 hK194 => ?_
                  refine st_call HE192 (wt0 rfl) rfl rfl rfl en_97 rfl rfl (spec_l06RowE _ _ e30.2.1 a0.1 0 (a0.2.1 - 1) _ (HH165.old ge30_1)) fun e w' hr => ?_
                  obtain ⟨rfl, hbr35⟩ := hr
                  have HH195 := HH165.on hbr35
                  refine ⟨_, rfl, fun a_196 HE197 => hK194 _ _ (by exact HH195.sel [] (by decide) rfl) ?_⟩
                  have HS198 := HH195.sel [] (by decide) rfl
                  refine dr_take (i := 14) (ls' := #[true, true, true, true, true, true, true, true, true, true, true, true, true, true, true, false, false, false, false, false, false, false, false, false, false, false, false, false, false, false, false, false, false, false, false, false, false, false, false, false, false, false, false, false]) HE197 HS198 rfl (by kernel_rfl) (by kernel_rfl) (by kernel_rfl) (fun _ _ _ h => h) rfl (wt0 rfl) (x_not rfl) rfl rfl fun a_199 HE200 => ?_
                  refine dr_take (i := 15) (ls' := #[true, true, true, true, true, true, true, true, true, true, true, true, true, true, true, true, false, false, false, false, false, false, false, false, false, false, false, false, false, false, false, false, false, false, false, false, false, false, false, false, false, false, false, false]) HE200 HS198 rfl (by kernel_rfl) (by kernel_rfl) (by kernel_rfl) (fun _ _ _ h => h) rfl (wt0 rfl) (x_move rfl) rfl rfl fun a_201 HE202 => ?_
                  rcases Bool.eq_false_or_eq_true ((rowB e30.2.1 a0.1 0 (a0.2.1 - 1))) with hc36 | hc36
                  · refine dr_take (i := 16) (ls' := #[true, true, true, true, true, true, true, true, true, true, true, true, true, true, true, true, true, false, false, false, false, false, false, false, false, false, false, false, false, false, false, false, false, false, false, false, false, false, false, false, false, false, false, false]) HE202 HS198 rfl (by kernel_rfl) (by kernel_rfl) (by kernel_rfl) (fun _ _ _ h => h) rfl (wtT HE202 rfl rfl rfl (not_f hc36)) (x_move rfl) rfl rfl fun a_203 HE204 => ?_
                    refine dr_take (i := 17) (ls' := #[true, true, true, true, true, true, true, true, true, true, true, true, true, true, true, true, true, true, false, false, false, false, false, false, false, false, false, false, false, false, false, false, false, false, false, false, false, false, false, false, false, false, false, false]) HE204 HS198 rfl (by kernel_rfl) (by kernel_rfl) (by kernel_rfl) (fun _ _ _ h => h) rfl (wtT HE204 rfl rfl rfl (not_f hc36)) (x_nilCheck rfl) rfl rfl fun a_205 HE206 => ?_
                    refine dr_take (i := 18) (ls' := #[true, true, true, true, true, true, true, true, true, true, true, true, true, true, true, true, true, true, true, false, false, false, false, false, false, false, false, false, false, false, false, false, false, false, false, false, false, false, false, false, false, false, false, false]) HE206 HS198 rfl (by kernel_rfl) (by kernel_rfl) (by kernel_rfl) (fun _ _ _ h => h) rfl (wtT HE206 rfl rfl rfl (not_f hc36)) (x_fieldAddr fa_104_2 rfl) rfl rfl fun a_207 HE208 => ?_
                    refine dr_take (i := 19) (ls' := #[true, true, true, true, true, true, true, true, true, true, true, true, true, true, true, true, true, true, true, true, false, false, false, false, false, false, false, false, false, false, false, false, false, false, false, false, false, false, false, false, false, false, false, false]) HE208 HS198 rfl (by kernel_rfl) (by kernel_rfl) (by kernel_rfl) (fun _ _ _ h => h) rfl (wtT HE208 rfl rfl rfl (not_f hc36)) (x_load1 tv_37 rfl (c_old (De30 2 _ rfl))) rfl rfl fun a_209 HE210 => ?_
                    refine dr_take (i := 20) (ls' := #[true, true, true, true, true, true, true, true, true, true, true, true, true, true, true, true, true, true, true, true, true, false, false, false, false, false, false, false, false, false, false, false, false, false, false, false, false, false, false, false, false, false, false, false]) HE210 HS198 rfl (by kernel_rfl) (by kernel_rfl) (by kernel_rfl) (fun _ _ _ h => h) rfl (wtT HE210 rfl rfl rfl (not_f hc36)) (x_move rfl) rfl rfl fun a_211 HE212 => ?_
                    refine dr_take (i := 21) (ls' := #[true, true, true, true, true, true, true, true, true, true, true, true, true, true, true, true, true, true, true, true, true, true, false, false, false, false, false, false, false, false, false, false, false, false, false, false, false, false, false, false, false, false, false, false]) HE212 HS198 rfl (by kernel_rfl) (by kernel_rfl) (by kernel_rfl) (fun _ _ _ h => h) rfl (wtT HE212 rfl rfl rfl (not_f hc36)) (x_nilCheck rfl) rfl rfl fun a_213 HE214 => ?_
                    refine dr_take (i := 22) (ls' := #[true, true, true, true, true, true, true, true, true, true, true, true, true, true, true, true, true, true, true, true, true, true, true, false, false, false, false, false, false, false, false, false, false, false, false, false, false, false, false, false, false, false, false, false]) HE214 HS198 rfl (by kernel_rfl) (by kernel_rfl) (by kernel_rfl) (fun _ _ _ h => h) rfl (wtT HE214 rfl rfl rfl (not_f hc36)) (x_fieldAddr fa_55_0 rfl) rfl rfl fun a_215 HE216 => ?_
                    refine dr_take (i := 23) (ls' := #[true, true, true, true, true, true, true, true, true, true, true, true, true, true, true, true, true, true, true, true, true, true, true, true, false, false, false, false, false, false, false, false, false, false, false, false, false, false, false, false, false, false, false, false]) HE216 HS198 rfl (by kernel_rfl) (by kernel_rfl) (by kernel_rfl) (fun _ _ _ h => h) rfl (wtT HE216 rfl rfl rfl (not_f hc36)) (x_load1 tv_2 rfl (c_old (hq0 0 _ rfl))) rfl rfl fun a_217 HE218 => ?_
                    refine dr_take (i := 24) (ls' := #[true, true, true, true, true, true, true, true, true, true, true, true, true, true, true, true, true, true, true, true, true, true, true, true, true, false, false, false, false, false, false, false, false, false, false, false, false, false, false, false, false, false, false, false]) HE218 HS198 rfl (by kernel_rfl) (by kernel_rfl) (by kernel_rfl) (fun _ _ _ h => h) rfl (wtT HE218 rfl rfl rfl (not_f hc36)) (x_move rfl) rfl rfl fun a_219 HE220 => ?_
                    refine dr_take (i := 25) (ls' := #[true, true, true, true, true, true, true, true, true, true, true, true, true, true, true, true, true, true, true, true, true, true, true, true, true, true, false, false, false, false, false, false, false, false, false, false, false, false, false, false, false, false, false, false]) HE220 HS198 rfl (by kernel_rfl) (by kernel_rfl) (by kernel_rfl) (fun _ _ _ h => h) rfl (wtT HE220 rfl rfl rfl (not_f hc36)) (x_nilCheck rfl) rfl rfl fun a_221 HE222 => ?_
                    refine dr_take (i := 26) (ls' := #[true, true, true, true, true, true, true, true, true, true, true, true, true, true, true, true, true, true, true, true, true, true, true, true, true, true, true, false, false, false, false, false, false, false, false, false, false, false, false, false, false, false, false, false]) HE222 HS198 rfl (by kernel_rfl) (by kernel_rfl) (by kernel_rfl) (fun _ _ _ h => h) rfl (wtT HE222 rfl rfl rfl (not_f hc36)) (x_fieldAddr fa_55_1 rfl) rfl rfl fun a_223 HE224 => ?_
                    refine dr_take (i := 27) (ls' := #[true, true, true, true, true, true, true, true, true, true, true, true, true, true, true, true, true, true, true, true, true, true, true, true, true, true, true, true, false, false, false, false, false, false, false, false, false, false, false, false, false, false, false, false]) HE224 HS198 rfl (by kernel_rfl) (by kernel_rfl) (by kernel_rfl) (fun _ _ _ h => h) rfl (wtT HE224 rfl rfl rfl (not_f hc36)) (x_load1 tv_2 rfl (c_old (hq0 1 _ rfl))) rfl rfl fun a_225 HE226 => ?_
                    refine dr_take (i := 28) (ls' := #[true, true, true, true, true, true, true, true, true, true, true, true, true, true, true, true, true, true, true, true, true, true, true, true, true, true, true, true, true, false, false, false, false, false, false, false, false, false, false, false, false, false, false, false]) HE226 HS198 rfl (by kernel_rfl) (by kernel_rfl) (by kernel_rfl) (fun _ _ _ h => h) rfl (wtT HE226 rfl rfl rfl (not_f hc36)) (x_sub rfl rfl (by exact ⟨by omega, by omega⟩)) rfl rfl fun a_227 HE228 => ?_
                    refine dr_one (i := 29) (ls' := #[true, true, true, true, true, true, true, true, true, true, true, true, true, true, true, true, true, true, true, true, true, true, true, true, true, true, true, true, true, true, false, false, false, false, false, false, false, false, false, false, false, false, false, false]) rfl (by kernel_rfl) rfl fun K_229 hK230 => ?_
                    refine st_call HE228 (wtT HE228 rfl rfl rfl (not_f hc36)) rfl rfl rfl en_97 rfl rfl (spec_l06RowE _ _ e30.2.2.1 a0.1 0 (a0.2.1 - 1) _ (HH195.old ge30_2)) fun e w' hr => ?_
                    obtain ⟨rfl, hbr37⟩ := hr
                    have HH231 := HH195.on hbr37
                    refine ⟨_, rfl, fun a_232 HE233 => hK230 _ _ (by exact HH231.sel [] (by decide) rfl) ?_⟩
                    have HS234 := HH231.sel [] (by decide) rfl
                    refine dr_take (i := 30) (ls' := #[true, true, true, true, true, true, true, true, true, true, true, true, true, true, true, true, true, true, true, true, true, true, true, true, true, true, true, true, true, true, true, false, false, false, false, false, false, false, false, false, false, false, false, false]) HE233 HS234 rfl (by kernel_rfl) (by kernel_rfl) (by kernel_rfl) (fun _ _ _ h => h) rfl (wtT HE233 rfl rfl rfl (not_f hc36)) (x_not rfl) rfl rfl fun a_235 HE236 => ?_
                    refine dr_take (i := 31) (ls' := #[true, true, true, true, true, true, true, true, true, true, true, true, true, true, true, true, true, true, true, true, true, true, true, true, true, true, true, true, true, true, true, true, false, false, false, false, false, false, false, false, false, false, false, false]) HE236 HS234 rfl (by kernel_rfl) (by kernel_rfl) (by kernel_rfl) (fun _ _ _ h => h) rfl (wt0 rfl) (x_pickF rfl (not_f hc36) rfl) rfl rfl fun a_237 HE238 => ?_
                    refine dr_take (i := 32) (ls' := #[true, true, true, true, true, true, true, true, true, true, true, true, true, true, true, true, true, true, true, true, true, true, true, true, true, true, true, true, true, true, true, true, true, false, false, false, false, false, false, false, false, false, false, false]) HE238 HS234 rfl (by kernel_rfl) (by kernel_rfl) (by kernel_rfl) (fun _ _ _ h => h) rfl (wt0 rfl) (x_move rfl) rfl rfl fun a_239 HE240 => ?_
                    rcases Bool.eq_false_or_eq_true ((rowB e30.2.2.1 a0.1 0 (a0.2.1 - 1))) with hc38 | hc38
                    · refine dr_take (i := 33) (ls' := #[true, true, true, true, true, true, true, true, true, true, true, true, true, true, true, true, true, true, true, true, true, true, true, true, true, true, true, true, true, true, true, true, true, true, false, false, false, false, false, false, false, false, false, false]) HE240 HS234 rfl (by kernel_rfl) (by kernel_rfl) (by kernel_rfl) (fun _ _ _ h => h) rfl (wtT HE240 rfl rfl rfl (not_f hc38)) (x_move rfl) rfl rfl fun a_241 HE242 => ?_
                      refine dr_take (i := 34) (ls' := #[true, true, true, true, true, true, true, true, true, true, true, true, true, true, true, true, true, true, true, true, true, true, true, true, true, true, true, true, true, true, true, true, true, true, true, false, false, false, false, false, false, false, false, false]) HE242 HS234 rfl (by kernel_rfl) (by kernel_rfl) (by kernel_rfl) (fun _ _ _ h => h) rfl (wtT HE242 rfl rfl rfl (not_f hc38)) (x_nilCheck rfl) rfl rfl fun a_243 HE244 => ?_
                      refine dr_take (i := 35) (ls' := #[true, true, true, true, true, true, true, true, true, true, true, true, true, true, true, true, true, true, true, true, true, true, true, true, true, true, true, true, true, true, true, true, true, true, true, true, false, false, false, false, false, false, false, false]) HE244 HS234 rfl (by kernel_rfl) (by kernel_rfl) (by kernel_rfl) (fun _ _ _ h => h) rfl (wtT HE244 rfl rfl rfl (not_f hc38)) (x_fieldAddr fa_104_3 rfl) rfl rfl fun a_245 HE246 => ?_
                      refine dr_take (i := 36) (ls' := #[true, true, true, true, true, true, true, true, true, true, true, true, true, true, true, true, true, true, true, true, true, true, true, true, true, true, true, true, true, true, true, true, true, true, true, true, true, false, false, false, false, false, false, false]) HE246 HS234 rfl (by kernel_rfl) (by kernel_rfl) (by kernel_rfl) (fun _ _ _ h => h) rfl (wtT HE246 rfl rfl rfl (not_f hc38)) (x_load1 tv_37 rfl (c_old (De30 3 _ rfl))) rfl rfl fun a_247 HE248 => ?_
                      refine dr_take (i := 37) (ls' := #[true, true, true, true, true, true, true, true, true, true, true, true, true, true, true, true, true, true, true, true, true, true, true, true, true, true, true, true, true, true, true, true, true, true, true, true, true, true, false, false, false, false, false, false]) HE248 HS234 rfl (by kernel_rfl) (by kernel_rfl) (by kernel_rfl) (fun _ _ _ h => h) rfl (wtT HE248 rfl rfl rfl (not_f hc38)) (x_move rfl) rfl rfl fun a_249 HE250 => ?_
                      refine dr_take (i := 38) (ls' := #[true, true, true, true, true, true, true, true, true, true, true, true, true, true, true, true, true, true, true, true, true, true, true, true, true, true, true, true, true, true, true, true, true, true, true, true, true, true, true, false, false, false, false, false]) HE250 HS234 rfl (by kernel_rfl) (by kernel_rfl) (by kernel_rfl) (fun _ _ _ h => h) rfl (wtT HE250 rfl rfl rfl (not_f hc38)) (x_nilCheck rfl) rfl rfl fun a_251 HE252 => ?_
                      refine dr_take (i := 39) (ls' := #[true, true, true, true, true, true, true, true, true, true, true, true, true, true, true, true, true, true, true, true, true, true, true, true, true, true, true, true, true, true, true, true, true, true, true, true, true, true, true, true, false, false, false, false]) HE252 HS234 rfl (by kernel_rfl) (by kernel_rfl) (by kernel_rfl) (fun _ _ _ h => h) rfl (wtT HE252 rfl rfl rfl (not_f hc38)) (x_fieldAddr fa_55_0 rfl) rfl rfl fun a_253 HE254 => ?_
                      refine dr_take (i := 40) (ls' := #[true, true, true, true, true, true, true, true, true, true, true, true, true, true, true, true, true, true, true, true, true, true, true, true, true, true, true, true, true, true, true, true, true, true, true, true, true, true, true, true, true, false, false, false]) HE254 HS234 rfl (by kernel_rfl) (by kernel_rfl) (by kernel_rfl) (fun _ _ _ h => h) rfl (wtT HE254 rfl rfl rfl (not_f hc38)) (x_load1 tv_2 rfl (c_old (hq0 0 _ rfl))) rfl rfl fun a_255 HE256 => ?_
                      refine dr_one (i := 41) (ls' := #[true, true, true, true, true, true, true, true, true, true, true, true, true, true, true, true, true, true, true, true, true, true, true, true, true, true, true, true, true, true, true, true, true, true, true, true, true, true, true, true, true, true, false, false]) rfl (by kernel_rfl) rfl fun K_257 hK258 => ?_
                      refine st_call HE256 (wtT HE256 rfl rfl rfl (not_f hc38)) rfl rfl rfl en_97 rfl rfl (spec_l06RowE _ _ e30.2.2.2.1 a0.1 (-1) 1 _ (HH231.old ge30_3)) fun e w' hr => ?_
                      obtain ⟨rfl, hbr39⟩ := hr
                      have HH259 := HH231.on hbr39
                      refine ⟨_, rfl, fun a_260 HE261 => hK258 _ _ (by exact HH259.sel [] (by decide) rfl) ?_⟩
                      have HS262 := HH259.sel [] (by decide) rfl
                      refine dr_take (i := 42) (ls' := #[true, true, true, true, true, true, true, true, true, true, true, true, true, true, true, true, true, true, true, true, true, true, true, true, true, true, true, true, true, true, true, true, true, true, true, true, true, true, true, true, true, true, true, false]) HE261 HS262 rfl (by kernel_rfl) (by kernel_rfl) (by kernel_rfl) (fun _ _ _ h => h) rfl (wtT HE261 rfl rfl rfl (not_f hc38)) (x_not rfl) rfl rfl fun a_263 HE264 => ?_
                      refine dr_take (i := 43) (ls' := #[true, true, true, true, true, true, true, true, true, true, true, true, true, true, true, true, true, true, true, true, true, true, true, true, true, true, true, true, true, true, true, true, true, true, true, true, true, true, true, true, true, true, true, true]) HE264 HS262 rfl (by kernel_rfl) (by kernel_rfl) (by kernel_rfl) (fun _ _ _ h => h) rfl (wt0 rfl) (x_pickF rfl (not_f hc38) rfl) rfl rfl fun a_265 HE266 => ?_
                      refine dr_done (by kernel_rfl) ?_
                      clear HH107 HS158 a_161 HE162 a_167 HE168 a_169 HE170 a_171 HE172 a_173 HE174 a_175 HE176 a_177 HE178 a_179 HE180 a_181 HE182 a_183 HE184 a_185 HE186 a_187 HE188 a_189 HE190 HH165 a_191 HE192 HS166 a_196 HE197 a_199 HE200 a_201 HE202 a_203 HE204 a_205 HE206 a_207 HE208 a_209 HE210 a_211 HE212 a_213 HE214 a_215 HE216 a_217 HE218 a_219 HE220 a_221 HE222 a_223 HE224 a_225 HE226 K_193 hK194 HH195 a_227 HE228 HS198 a_232 HE233 a_235 HE236 a_237 HE238 a_239 HE240 a_241 HE242 a_243 HE244 a_245 HE246 a_247 HE248 a_249 HE250 a_251 HE252 a_253 HE254 K_229 hK230 HH231 a_255 HE256 HS234 a_260 HE261 a_263 HE264 hK258 K_257
                      refine nrm ?_
                      refine cnd_nb HE266 rfl (fun hc40 => ?_) (fun hc40 => ?_)
                      · refine wp_seq ?_
                        refine rg ?_
                        refine pl_x HE266 HH259 (wt0 rfl) (x_assign rfl) rfl rfl fun a_267 HE268 => ?_
                        refine wpList_nil ?_
                        clear a_265 HE266
                        refine nrm ?_
                        refine wp_ret ?_
                        refine (thn_ret (blk_ret (thn_ret (thn_ret (blk_ret (thn_ret ?_))))))
                        refine ret1 HE268 rfl (rv_tmp rfl) ?_
                        have hF : (validMulti a0) = false := by
                          first | (simp [validMulti, hc22, hc24, hc26, hc27, p28_0, p28_1, hc29, xe30, hc32, hc34, hc36, hc38, hc40]; done) | (unfold validMulti; rw [decide_eq_false (by omega)]; simp) | (unfold validMulti; rw [rg_hit (by omega : k < a0.2.2.2.length) (by unfold badMR; grind [beforeMR, validMR, rowB])]; simp) | (have hq := p28_1; rw [show k = a0.2.2.2.length from by omega] at hq; unfold validMulti; rw [hq, decide_eq_true (by omega)]; simp [hc22, hc24, hc26, hc27, p28_0, p28_1, hc29, xe30, hc32, hc34, hc36, hc38, hc40])
                        exact ⟨by first | (rw [hF] <;> rfl) | rfl | (rw [hF]; simp only [Ending.returned.injEq, Value.slice.injEq, true_and, and_true]; first | omega | (simp; done)) | (rw [hF]; simp; omega), HH259.below⟩
                      · refine wp_skip ?_
                        refine nrm ?_
                        refine wp_seq ?_
                        refine rg ?_
                        refine pl_x HE266 HH259 (wt0 rfl) (x_move rfl) rfl rfl fun a_269 HE270 => ?_
                        refine pl_x HE270 HH259 (wt0 rfl) (x_gtr rfl rfl) rfl rfl fun a_271 HE272 => ?_
                        refine pl_x HE272 HH259 (wt0 rfl) (x_move rfl) rfl rfl fun a_273 HE274 => ?_
                        by_cases hc41 : 0 < (k : Int)
                        · refine pl_x HE274 HH259 (wtT HE274 rfl rfl rfl (decide_eq_true hc41)) (x_move rfl) rfl rfl fun a_275 HE276 => ?_
                          refine pl_x HE276 HH259 (wtT HE276 rfl rfl rfl (decide_eq_true hc41)) (x_nilCheck rfl) rfl rfl fun a_277 HE278 => ?_
                          refine pl_x HE278 HH259 (wtT HE278 rfl rfl rfl (decide_eq_true hc41)) (x_fieldAddr fa_55_3 rfl) rfl rfl fun a_279 HE280 => ?_
                          refine pl_x HE280 HH259 (wtT HE280 rfl rfl rfl (decide_eq_true hc41)) (x_load1 tv_53 rfl (c_old (hq0 3 _ rfl))) rfl rfl fun a_281 HE282 => ?_
                          refine pl_x HE282 HH259 (wtT HE282 rfl rfl rfl (decide_eq_true hc41)) (x_move rfl) rfl rfl fun a_283 HE284 => ?_
                          refine pl_x HE284 HH259 (wtT HE284 rfl rfl rfl (decide_eq_true hc41)) (x_sub rfl rfl (by exact ⟨by omega, by omega⟩)) rfl rfl fun a_285 HE286 => ?_
                          have ke42 : (k - 1) < a0.2.2.2.length := by omega
                          obtain ⟨be42, fe42, ese42, Ae42, Re42, De42⟩ := el_old gz0_3 ke42
                          obtain ⟨e42, xe42⟩ : ∃ x_, x_ = a0.2.2.2[(k - 1)] := ⟨_, rfl⟩
                          rw [← xe42] at Re42
                          have Qe42 := Re42
                          obtain ⟨Ae42_1, ce42_1, Ae42_2, ce42_2, Ae42_3, ce42_3, rfl, ge42_0, ge42_1, ge42_2, ge42_3, ge42_4⟩ := shape_MultiRule Re42
                          have je42_0 := ge42_0; unfold I64 at je42_0
                          have le42_1 := ge42_1.len
                          have le42_2 := ge42_2.len
                          have le42_3 := ge42_3.len
                          have je42_4 := ge42_4; unfold I64 at je42_4
                          have ge42 : a0.2.2.2[(k - 1)]?.getD default = e42 := by rw [List.getElem?_eq_getElem ke42, xe42]; rfl
                          refine pl_x HE286 HH259 (wtT HE286 rfl rfl rfl (decide_eq_true hc41)) (x_indexAddr ts_53 rfl rfl Ae42 (by omega) ke42) rfl rfl fun a_287 HE288 => ?_
                          refine pl_x HE288 HH259 (wtT HE288 rfl rfl rfl (decide_eq_true hc41)) (x_move rfl) rfl rfl fun a_289 HE290 => ?_
                          refine pl fun K_291 hK292 => ?_
                          refine st_call HE290 (wtT HE290 rfl rfl rfl (decide_eq_true hc41)) rfl rfl rfl en_98 rfl rfl (spec_l06Before _ _ _ e42 _ _ _ e30 _ (HH259.oldR Qe42) (c_oldN De42 _ HH259) (HH259.oldR Qe30) (c_oldN De30 _ HH259)) fun e w' hr => ?_
                          obtain ⟨rfl, hbr43⟩ := hr
                          have HH293 := HH259.on hbr43
                          refine ⟨_, rfl, fun a_294 HE295 => hK292 _ _ ?_⟩
                          refine pl_x HE295 HH293 (wtT HE295 rfl rfl rfl (decide_eq_true hc41)) (x_not rfl) rfl rfl fun a_296 HE297 => ?_
                          refine pl_x HE297 HH293 (wt0 rfl) (x_pickT rfl (decide_eq_true hc41) rfl) rfl rfl fun a_298 HE299 => ?_
                          refine wpList_nil ?_
                          clear a_265 HE266 a_269 HE270 a_271 HE272 a_273 HE274 a_275 HE276 a_277 HE278 a_279 HE280 a_281 HE282 a_283 HE284 a_285 HE286 a_287 HE288 HH259 a_289 HE290 a_294 HE295 a_296 HE297 hK292 K_291
                          refine nrm ?_
                          refine cnd_nb HE299 rfl (fun hc44 => ?_) (fun hc44 => ?_)
                          · refine wp_seq ?_
                            refine rg ?_
                            refine pl_x HE299 HH293 (wt0 rfl) (x_assign rfl) rfl rfl fun a_300 HE301 => ?_
                            refine wpList_nil ?_
                            clear a_298 HE299
                            refine nrm ?_
                            refine wp_ret ?_
                            refine (blk_ret (thn_ret (thn_ret (blk_ret (thn_ret ?_)))))
                            refine ret1 HE301 rfl (rv_tmp rfl) ?_
                            have hF : (validMulti a0) = false := by
                              first | (simp [validMulti, hc22, hc24, hc26, hc27, p28_0, p28_1, hc29, xe30, hc32, hc34, hc36, hc38, hc40, hc41, xe42, hc44]; done) | (unfold validMulti; rw [decide_eq_false (by omega)]; simp) | (unfold validMulti; rw [rg_hit (by omega : k < a0.2.2.2.length) (by unfold badMR; grind [beforeMR, validMR, rowB])]; simp) | (have hq := p28_1; rw [show k = a0.2.2.2.length from by omega] at hq; unfold validMulti; rw [hq, decide_eq_true (by omega)]; simp [hc22, hc24, hc26, hc27, p28_0, p28_1, hc29, xe30, hc32, hc34, hc36, hc38, hc40, hc41, xe42, hc44])
                            exact ⟨by first | (rw [hF] <;> rfl) | rfl | (rw [hF]; simp only [Ending.returned.injEq, Value.slice.injEq, true_and, and_true]; first | omega | (simp; done)) | (rw [hF]; simp; omega), HH293.below⟩
                          · refine wp_skip ?_
                            refine blk_n ?_
                            refine nrm ?_
                            refine rg ?_
                            refine pl_x HE299 HH293 (wt0 rfl) (x_move rfl) rfl rfl fun a_302 HE303 => ?_
                            refine pl_x HE303 HH293 (wt0 rfl) (x_add rfl rfl (by exact ⟨by omega, by omega⟩)) rfl rfl fun a_304 HE305 => ?_
                            refine pl_x HE305 HH293 (wt0 rfl) (x_assign rfl) rfl rfl fun a_306 HE307 => ?_
                            refine wpList_nil ?_
                            clear a_298 HE299 a_302 HE303 a_304 HE305
                            exact nrm ⟨a0.2.2.2.length - (k + 1), (by omega), k + 1, rfl, HE307.sub ⟨(lkI rfl (by first | rfl | omega | (simp [hc22, hc24, hc26, hc27, p28_0, p28_1, hc29, xe30, hc32, hc34, hc36, hc38, hc40, hc41, xe42, hc44]; done))), rfl, trivial⟩, (HH293.sel [] (by decide) rfl), (by first | omega | assumption | (simp; done) | simp_all), (by exact rg_step p28_1 (by unfold badMR; grind [beforeMR, validMR, rowB]))⟩
                        · refine pl_no HE274 (wtF HE274 rfl rfl rfl (decide_eq_false hc41)) rfl rfl fun a_308 HE309 => ?_
                          refine pl_no HE309 (wtF HE309 rfl rfl rfl (decide_eq_false hc41)) rfl rfl fun a_310 HE311 => ?_
                          refine pl_no HE311 (wtF HE311 rfl rfl rfl (decide_eq_false hc41)) rfl rfl fun a_312 HE313 => ?_
                          refine pl_no HE313 (wtF HE313 rfl rfl rfl (decide_eq_false hc41)) rfl rfl fun a_314 HE315 => ?_
                          refine pl_no HE315 (wtF HE315 rfl rfl rfl (decide_eq_false hc41)) rfl rfl fun a_316 HE317 => ?_
                          refine pl_no HE317 (wtF HE317 rfl rfl rfl (decide_eq_false hc41)) rfl rfl fun a_318 HE319 => ?_
                          refine pl_no HE319 (wtF HE319 rfl rfl rfl (decide_eq_false hc41)) rfl rfl fun a_320 HE321 => ?_
                          refine pl_no HE321 (wtF HE321 rfl rfl rfl (decide_eq_false hc41)) rfl rfl fun a_322 HE323 => ?_
                          refine pl_no HE323 (wtF HE323 rfl rfl rfl (decide_eq_false hc41)) rfl rfl fun a_324 HE325 => ?_
                          refine pl_no HE325 (wtF HE325 rfl rfl rfl (decide_eq_false hc41)) rfl rfl fun a_326 HE327 => ?_
                          refine pl_x HE327 HH259 (wt0 rfl) (x_pickF rfl (decide_eq_false hc41) rfl) rfl rfl fun a_328 HE329 => ?_
                          refine wpList_nil ?_
                          clear a_265 HE266 a_269 HE270 a_271 HE272 a_273 HE274 a_308 HE309 a_310 HE311 a_312 HE313 a_314 HE315 a_316 HE317 a_318 HE319 a_320 HE321 a_322 HE323 a_324 HE325 a_326 HE327
                          refine nrm ?_
                          refine cndF HE329 rfl rfl ?_
                          refine wp_skip ?_
                          refine blk_n ?_
                          refine nrm ?_
                          refine rg ?_
                          refine pl_x HE329 HH259 (wt0 rfl) (x_move rfl) rfl rfl fun a_330 HE331 => ?_
                          refine pl_x HE331 HH259 (wt0 rfl) (x_add rfl rfl (by exact ⟨by omega, by omega⟩)) rfl rfl fun a_332 HE333 => ?_
                          refine pl_x HE333 HH259 (wt0 rfl) (x_assign rfl) rfl rfl fun a_334 HE335 => ?_
                          refine wpList_nil ?_
                          clear a_328 HE329 a_330 HE331 a_332 HE333
                          exact nrm ⟨a0.2.2.2.length - (k + 1), (by omega), k + 1, rfl, HE335.sub ⟨(lkI rfl (by first | rfl | omega | (simp [hc22, hc24, hc26, hc27, p28_0, p28_1, hc29, xe30, hc32, hc34, hc36, hc38, hc40, hc41]; done))), rfl, trivial⟩, (HH259.sel [] (by decide) rfl), (by first | omega | assumption | (simp; done) | simp_all), (by exact rg_step p28_1 (by unfold badMR; grind [beforeMR, validMR, rowB]))⟩
                    · refine dr_takeNo (i := 33) (ls' := #[true, true, true, true, true, true, true, true, true, true, true, true, true, true, true, true, true, true, true, true, true, true, true, true, true, true, true, true, true, true, true, true, true, true, false, false, false, false, false, false, false, false, false, false]) HE240 HS234 rfl (by kernel_rfl) (by kernel_rfl) (by kernel_rfl) (fun _ _ _ h => h) rfl (wtF HE240 rfl rfl rfl (not_t hc38)) rfl rfl fun a_336 HE337 => ?_
                      refine dr_takeNo (i := 34) (ls' := #[true, true, true, true, true, true, true, true, true, true, true, true, true, true, true, true, true, true, true, true, true, true, true, true, true, true, true, true, true, true, true, true, true, true, true, false, false, false, false, false, false, false, false, false]) HE337 HS234 rfl (by kernel_rfl) (by kernel_rfl) (by kernel_rfl) (fun _ _ _ h => h) rfl (wtF HE337 rfl rfl rfl (not_t hc38)) rfl rfl fun a_338 HE339 => ?_
                      refine dr_takeNo (i := 35) (ls' := #[true, true, true, true, true, true, true, true, true, true, true, true, true, true, true, true, true, true, true, true, true, true, true, true, true, true, true, true, true, true, true, true, true, true, true, true, false, false, false, false, false, false, false, false]) HE339 HS234 rfl (by kernel_rfl) (by kernel_rfl) (by kernel_rfl) (fun _ _ _ h => h) rfl (wtF HE339 rfl rfl rfl (not_t hc38)) rfl rfl fun a_340 HE341 => ?_
                      refine dr_takeNo (i := 36) (ls' := #[true, true, true, true, true, true, true, true, true, true, true, true, true, true, true, true, true, true, true, true, true, true, true, true, true, true, true, true, true, true, true, true, true, true, true, true, true, false, false, false, false, false, false, false]) HE341 HS234 rfl (by kernel_rfl) (by kernel_rfl) (by kernel_rfl) (fun _ _ _ h => h) rfl (wtF HE341 rfl rfl rfl (not_t hc38)) rfl rfl fun a_342 HE343 => ?_
                      refine dr_takeNo (i := 37) (ls' := #[true, true, true, true, true, true, true, true, true, true, true, true, true, true, true, true, true, true, true, true, true, true, true, true, true, true, true, true, true, true, true, true, true, true, true, true, true, true, false, false, false, false, false, false]) HE343 HS234 rfl (by kernel_rfl) (by kernel_rfl) (by kernel_rfl) (fun _ _ _ h => h) rfl (wtF HE343 rfl rfl rfl (not_t hc38)) rfl rfl fun a_344 HE345 => ?_
                      refine dr_takeNo (i := 38) (ls' := #[true, true, true, true, true, true, true, true, true, true, true, true, true, true, true, true, true, true, true, true, true, true, true, true, true, true, true, true, true, true, true, true, true, true, true, true, true, true, true, false, false, false, false, false]) HE345 HS234 rfl (by kernel_rfl) (by kernel_rfl) (by kernel_rfl) (fun _ _ _ h => h) rfl (wtF HE345 rfl rfl rfl (not_t hc38)) rfl rfl fun a_346 HE347 => ?_
                      refine dr_takeNo (i := 39) (ls' := #[true, true, true, true, true, true, true, true, true, true, true, true, true, true, true, true, true, true, true, true, true, true, true, true, true, true, true, true, true, true, true, true, true, true, true, true, true, true, true, true, false, false, false, false]) HE347 HS234 rfl (by kernel_rfl) (by kernel_rfl) (by kernel_rfl) (fun _ _ _ h => h) rfl (wtF HE347 rfl rfl rfl (not_t hc38)) rfl rfl fun a_348 HE349 => ?_
                      refine dr_takeNo (i := 40) (ls' := #[true, true, true, true, true, true, true, true, true, true, true, true, true, true, true, true, true, true, true, true, true, true, true, true, true, true, true, true, true, true, true, true, true, true, true, true, true, true, true, true, true, false, false, false]) HE349 HS234 rfl (by kernel_rfl) (by kernel_rfl) (by kernel_rfl) (fun _ _ _ h => h) rfl (wtF HE349 rfl rfl rfl (not_t hc38)) rfl rfl fun a_350 HE351 => ?_
                      refine dr_takeNo (i := 41) (ls' := #[true, true, true, true, true, true, true, true, true, true, true, true, true, true, true, true, true, true, true, true, true, true, true, true, true, true, true, true, true, true, true, true, true, true, true, true, true, true, true, true, true, true, false, false]) HE351 HS234 rfl (by kernel_rfl) (by kernel_rfl) (by kernel_rfl) (fun _ _ _ h => h) rfl (wtF HE351 rfl rfl rfl (not_t hc38)) rfl rfl fun a_352 HE353 => ?_
                      refine dr_takeNo (i := 42) (ls' := #[true, true, true, true, true, true, true, true, true, true, true, true, true, true, true, true, true, true, true, true, true, true, true, true, true, true, true, true, true, true, true, true, true, true, true, true, true, true, true, true, true, true, true, false]) HE353 HS234 rfl (by kernel_rfl) (by kernel_rfl) (by kernel_rfl) (fun _ _ _ h => h) rfl (wtF HE353 rfl rfl rfl (not_t hc38)) rfl rfl fun a_354 HE355 => ?_
                      refine dr_take (i := 43) (ls' := #[true, true, true, true, true, true, true, true, true, true, true, true, true, true, true, true, true, true, true, true, true, true, true, true, true, true, true, true, true, true, true, true, true, true, true, true, true, true, true, true, true, true, true, true]) HE355 HS234 rfl (by kernel_rfl) (by kernel_rfl) (by kernel_rfl) (fun _ _ _ h => h) rfl (wt0 rfl) (x_pickT rfl (not_t hc38) rfl) rfl rfl fun a_356 HE357 => ?_
                      refine dr_done (by kernel_rfl) ?_
                      clear HH107 HS158 a_161 HE162 a_167 HE168 a_169 HE170 a_171 HE172 a_173 HE174 a_175 HE176 a_177 HE178 a_179 HE180 a_181 HE182 a_183 HE184 a_185 HE186 a_187 HE188 a_189 HE190 HH165 a_191 HE192 HS166 a_196 HE197 a_199 HE200 a_201 HE202 a_203 HE204 a_205 HE206 a_207 HE208 a_209 HE210 a_211 HE212 a_213 HE214 a_215 HE216 a_217 HE218 a_219 HE220 a_221 HE222 a_223 HE224 a_225 HE226 K_193 hK194 HH195 a_227 HE228 HS198 a_232 HE233 a_235 HE236 a_237 HE238 a_239 HE240 a_336 HE337 a_338 HE339 a_340 HE341 a_342 HE343 a_344 HE345 a_346 HE347 a_348 HE349 a_350 HE351 a_352 HE353 a_354 HE355 hK230 K_229
                      refine nrm ?_
                      refine cndT HE357 rfl rfl ?_
                      refine wp_seq ?_
                      refine rg ?_
                      refine pl_x HE357 HH231 (wt0 rfl) (x_assign rfl) rfl rfl fun a_358 HE359 => ?_
                      refine wpList_nil ?_
                      clear a_356 HE357
                      refine nrm ?_
                      refine wp_ret ?_
                      refine (thn_ret (blk_ret (thn_ret (thn_ret (blk_ret (thn_ret ?_))))))
                      refine ret1 HE359 rfl (rv_tmp rfl) ?_
                      have hF : (validMulti a0) = false := by
                        first | (simp [validMulti, hc22, hc24, hc26, hc27, p28_0, p28_1, hc29, xe30, hc32, hc34, hc36, hc38]; done) | (unfold validMulti; rw [decide_eq_false (by omega)]; simp) | (unfold validMulti; rw [rg_hit (by omega : k < a0.2.2.2.length) (by unfold badMR; grind [beforeMR, validMR, rowB])]; simp) | (have hq := p28_1; rw [show k = a0.2.2.2.length from by omega] at hq; unfold validMulti; rw [hq, decide_eq_true (by omega)]; simp [hc22, hc24, hc26, hc27, p28_0, p28_1, hc29, xe30, hc32, hc34, hc36, hc38])
                      exact ⟨by first | (rw [hF] <;> rfl) | rfl | (rw [hF]; simp only [Ending.returned.injEq, Value.slice.injEq, true_and, and_true]; first | omega | (simp; done)) | (rw [hF]; simp; omega), HH231.below⟩
                  · refine dr_takeNo (i := 16) (ls' := #[true, true, true, true, true, true, true, true, true, true, true, true, true, true, true, true, true, false, false, false, false, false, false, false, false, false, false, false, false, false, false, false, false, false, false, false, false, false, false, false, false, false, false, false]) HE202 HS198 rfl (by kernel_rfl) (by kernel_rfl) (by kernel_rfl) (fun _ _ _ h => h) rfl (wtF HE202 rfl rfl rfl (not_t hc36)) rfl rfl fun a_360 HE361 => ?_
                    refine dr_takeNo (i := 17) (ls' := #[true, true, true, true, true, true, true, true, true, true, true, true, true, true, true, true, true, true, false, false, false, false, false, false, false, false, false, false, false, false, false, false, false, false, false, false, false, false, false, false, false, false, false, false]) HE361 HS198 rfl (by kernel_rfl) (by kernel_rfl) (by kernel_rfl) (fun _ _ _ h => h) rfl (wtF HE361 rfl rfl rfl (not_t hc36)) rfl rfl fun a_362 HE363 => ?_
                    refine dr_takeNo (i := 18) (ls' := #[true, true, true, true, true, true, true, true, true, true, true, true, true, true, true, true, true, true, true, false, false, false, false, false, false, false, false, false, false, false, false, false, false, false, false, false, false, false, false, false, false, false, false, false]) HE363 HS198 rfl (by kernel_rfl) (by kernel_rfl) (by kernel_rfl) (fun _ _ _ h => h) rfl (wtF HE363 rfl rfl rfl (not_t hc36)) rfl rfl fun a_364 HE365 => ?_
                    refine dr_takeNo (i := 19) (ls' := #[true, true, true, true, true, true, true, true, true, true, true, true, true, true, true, true, true, true, true, true, false, false, false, false, false, false, false, false, false, false, false, false, false, false, false, false, false, false, false, false, false, false, false, false]) HE365 HS198 rfl (by kernel_rfl) (by kernel_rfl) (by kernel_rfl) (fun _ _ _ h => h) rfl (wtF HE365 rfl rfl rfl (not_t hc36)) rfl rfl fun a_366 HE367 => ?_
                    refine dr_takeNo (i := 20) (ls' := #[true, true, true, true, true, true, true, true, true, true, true, true, true, true, true, true, true, true, true, true, true, false, false, false, false, false, false, false, false, false, false, false, false, false, false, false, false, false, false, false, false, false, false, false]) HE367 HS198 rfl (by kernel_rfl) (by kernel_rfl) (by kernel_rfl) (fun _ _ _ h => h) rfl (wtF HE367 rfl rfl rfl (not_t hc36)) rfl rfl fun a_368 HE369 => ?_
                    refine dr_takeNo (i := 21) (ls' := #[true, true, true, true, true, true, true, true, true, true, true, true, true, true, true, true, true, true, true, true, true, true, false, false, false, false, false, false, false, false, false, false, false, false, false, false, false, false, false, false, false, false, false, false]) HE369 HS198 rfl (by kernel_rfl) (by kernel_rfl) (by kernel_rfl) (fun _ _ _ h => h) rfl (wtF HE369 rfl rfl rfl (not_t hc36)) rfl rfl fun a_370 HE371 => ?_
                    refine dr_takeNo (i := 22) (ls' := #[true, true, true, true, true, true, true, true, true, true, true, true, true, true, true, true, true, true, true, true, true, true, true, false, false, false, false, false, false, false, false, false, false, false, false, false, false, false, false, false, false, false, false, false]) HE371 HS198 rfl (by kernel_rfl) (by kernel_rfl) (by kernel_rfl) (fun _ _ _ h => h) rfl (wtF HE371 rfl rfl rfl (not_t hc36)) rfl rfl fun a_372 HE373 => ?_
                    refine dr_takeNo (i := 23) (ls' := #[true, true, true, true, true, true, true, true, true, true, true, true, true, true, true, true, true, true, true, true, true, true, true, true, false, false, false, false, false, false, false, false, false, false, false, false, false, false, false, false, false, false, false, false]) HE373 HS198 rfl (by kernel_rfl) (by kernel_rfl) (by kernel_rfl) (fun _ _ _ h => h) rfl (wtF HE373 rfl rfl rfl (not_t hc36)) rfl rfl fun a_374 HE375 => ?_
                    refine dr_takeNo (i := 24) (ls' := #[true, true, true, true, true, true, true, true, true, true, true, true, true, true, true, true, true, true, true, true, true, true, true, true, true, false, false, false, false, false, false, false, false, false, false, false, false, false, false, false, false, false, false, false]) HE375 HS198 rfl (by kernel_rfl) (by kernel_rfl) (by kernel_rfl) (fun _ _ _ h => h) rfl (wtF HE375 rfl rfl rfl (not_t hc36)) rfl rfl fun a_376 HE377 => ?_
                    refine dr_takeNo (i := 25) (ls' := #[true, true, true, true, true, true, true, true, true, true, true, true, true, true, true, true, true, true, true, true, true, true, true, true, true, true, false, false, false, false, false, false, false, false, false, false, false, false, false, false, false, false, false, false]) HE377 HS198 rfl (by kernel_rfl) (by kernel_rfl) (by kernel_rfl) (fun _ _ _ h => h) rfl (wtF HE377 rfl rfl rfl (not_t hc36)) rfl rfl fun a_378 HE379 => ?_
                    refine dr_takeNo (i := 26) (ls' := #[true, true, true, true, true, true, true, true, true, true, true, true, true, true, true, true, true, true, true, true, true, true, true, true, true, true, true, false, false, false, false, false, false, false, false, false, false, false, false, false, false, false, false, false]) HE379 HS198 rfl (by kernel_rfl) (by kernel_rfl) (by kernel_rfl) (fun _ _ _ h => h) rfl (wtF HE379 rfl rfl rfl (not_t hc36)) rfl rfl fun a_380 HE381 => ?_
                    refine dr_takeNo (i := 27) (ls' := #[true, true, true, true, true, true, true, true, true, true, true, true, true, true, true, true, true, true, true, true, true, true, true, true, true, true, true, true, false, false, false, false, false, false, false, false, false, false, false, false, false, false, false, false]) HE381 HS198 rfl (by kernel_rfl) (by kernel_rfl) (by kernel_rfl) (fun _ _ _ h => h) rfl (wtF HE381 rfl rfl rfl (not_t hc36)) rfl rfl fun a_382 HE383 => ?_
                    refine dr_takeNo (i := 28) (ls' := #[true, true, true, true, true, true, true, true, true, true, true, true, true, true, true, true, true, true, true, true, true, true, true, true, true, true, true, true, true, false, false, false, false, false, false, false, false, false, false, false, false, false, false, false]) HE383 HS198 rfl (by kernel_rfl) (by kernel_rfl) (by kernel_rfl) (fun _ _ _ h => h) rfl (wtF HE383 rfl rfl rfl (not_t hc36)) rfl rfl fun a_384 HE385 => ?_
                    refine dr_takeNo (i := 29) (ls' := #[true, true, true, true, true, true, true, true, true, true, true, true, true, true, true, true, true, true, true, true, true, true, true, true, true, true, true, true, true, true, false, false, false, false, false, false, false, false, false, false, false, false, false, false]) HE385 HS198 rfl (by kernel_rfl) (by kernel_rfl) (by kernel_rfl) (fun _ _ _ h => h) rfl (wtF HE385 rfl rfl rfl (not_t hc36)) rfl rfl fun a_386 HE387 => ?_
                    refine dr_takeNo (i := 30) (ls' := #[true, true, true, true, true, true, true, true, true, true, true, true, true, true, true, true, true, true, true, true, true, true, true, true, true, true, true, true, true, true, true, false, false, false, false, false, false, false, false, false, false, false, false, false]) HE387 HS198 rfl (by kernel_rfl) (by kernel_rfl) (by kernel_rfl) (fun _ _ _ h => h) rfl (wtF HE387 rfl rfl rfl (not_t hc36)) rfl rfl fun a_388 HE389 => ?_
                    refine dr_take (i := 31) (ls' := #[true, true, true, true, true, true, true, true, true, true, true, true, true, true, true, true, true, true, true, true, true, true, true, true, true, true, true, true, true, true, true, true, false, false, false, false, false, false, false, false, false, false, false, false]) HE389 HS198 rfl (by kernel_rfl) (by kernel_rfl) (by kernel_rfl) (fun _ _ _ h => h) rfl (wt0 rfl) (x_pickT rfl (not_t hc36) rfl) rfl rfl fun a_390 HE391 => ?_
                    refine dr_take (i := 32) (ls' := #[true, true, true, true, true, true, true, true, true, true, true, true, true, true, true, true, true, true, true, true, true, true, true, true, true, true, true, true, true, true, true, true, true, false, false, false, false, false, false, false, false, false, false, false]) HE391 HS198 rfl (by kernel_rfl) (by kernel_rfl) (by kernel_rfl) (fun _ _ _ h => h) rfl (wt0 rfl) (x_move rfl) rfl rfl fun a_392 HE393 => ?_
                    refine dr_takeNo (i := 33) (ls' := #[true, true, true, true, true, true, true, true, true, true, true, true, true, true, true, true, true, true, true, true, true, true, true, true, true, true, true, true, true, true, true, true, true, true, false, false, false, false, false, false, false, false, false, false]) HE393 HS198 rfl (by kernel_rfl) (by kernel_rfl) (by kernel_rfl) (fun _ _ _ h => h) rfl (wtF HE393 rfl rfl rfl rfl) rfl rfl fun a_394 HE395 => ?_
                    refine dr_takeNo (i := 34) (ls' := #[true, true, true, true, true, true, true, true, true, true, true, true, true, true, true, true, true, true, true, true, true, true, true, true, true, true, true, true, true, true, true, true, true, true, true, false, false, false, false, false, false, false, false, false]) HE395 HS198 rfl (by kernel_rfl) (by kernel_rfl) (by kernel_rfl) (fun _ _ _ h => h) rfl (wtF HE395 rfl rfl rfl rfl) rfl rfl fun a_396 HE397 => ?_
                    refine dr_takeNo (i := 35) (ls' := #[true, true, true, true, true, true, true, true, true, true, true, true, true, true, true, true, true, true, true, true, true, true, true, true, true, true, true, true, true, true, true, true, true, true, true, true, false, false, false, false, false, false, false, false]) HE397 HS198 rfl (by kernel_rfl) (by kernel_rfl) (by kernel_rfl) (fun _ _ _ h => h) rfl (wtF HE397 rfl rfl rfl rfl) rfl rfl fun a_398 HE399 => ?_
                    refine dr_takeNo (i := 36) (ls' := #[true, true, true, true, true, true, true, true, true, true, true, true, true, true, true, true, true, true, true, true, true, true, true, true, true, true, true, true, true, true, true, true, true, true, true, true, true, false, false, false, false, false, false, false]) HE399 HS198 rfl (by kernel_rfl) (by kernel_rfl) (by kernel_rfl) (fun _ _ _ h => h) rfl (wtF HE399 rfl rfl rfl rfl) rfl rfl fun a_400 HE401 => ?_
                    refine dr_takeNo (i := 37) (ls' := #[true, true, true, true, true, true, true, true, true, true, true, true, true, true, true, true, true, true, true, true, true, true, true, true, true, true, true, true, true, true, true, true, true, true, true, true, true, true, false, false, false, false, false, false]) HE401 HS198 rfl (by kernel_rfl) (by kernel_rfl) (by kernel_rfl) (fun _ _ _ h => h) rfl (wtF HE401 rfl rfl rfl rfl) rfl rfl fun a_402 HE403 => ?_
                    refine dr_takeNo (i := 38) (ls' := #[true, true, true, true, true, true, true, true, true, true, true, true, true, true, true, true, true, true, true, true, true, true, true, true, true, true, true, true, true, true, true, true, true, true, true, true, true, true, true, false, false, false, false, false]) HE403 HS198 rfl (by kernel_rfl) (by kernel_rfl) (by kernel_rfl) (fun _ _ _ h => h) rfl (wtF HE403 rfl rfl rfl rfl) rfl rfl fun a_404 HE405 => ?_
                    refine dr_takeNo (i := 39) (ls' := #[true, true, true, true, true, true, true, true, true, true, true, true, true, true, true, true, true, true, true, true, true, true, true, true, true, true, true, true, true, true, true, true, true, true, true, true, true, true, true, true, false, false, false, false]) HE405 HS198 rfl (by kernel_rfl) (by kernel_rfl) (by kernel_rfl) (fun _ _ _ h => h) rfl (wtF HE405 rfl rfl rfl rfl) rfl rfl fun a_406 HE407 => ?_
                    refine dr_takeNo (i := 40) (ls' := #[true, true, true, true, true, true, true, true, true, true, true, true, true, true, true, true, true, true, true, true, true, true, true, true, true, true, true, true, true, true, true, true, true, true, true, true, true, true, true, true, true, false, false, false]) HE407 HS198 rfl (by kernel_rfl) (by kernel_rfl) (by kernel_rfl) (fun _ _ _ h => h) rfl (wtF HE407 rfl rfl rfl rfl) rfl rfl fun a_408 HE409 => ?_
                    refine dr_takeNo (i := 41) (ls' := #[true, true, true, true, true, true, true, true, true, true, true, true, true, true, true, true, true, true, true, true, true, true, true, true, true, true, true, true, true, true, true, true, true, true, true, true, true, true, true, true, true, true, false, false]) HE409 HS198 rfl (by kernel_rfl) (by kernel_rfl) (by kernel_rfl) (fun _ _ _ h => h) rfl (wtF HE409 rfl rfl rfl rfl) rfl rfl fun a_410 HE411 => ?_
                    refine dr_takeNo (i := 42) (ls' := #[true, true, true, true, true, true, true, true, true, true, true, true, true, true, true, true, true, true, true, true, true, true, true, true, true, true, true, true, true, true, true, true, true, true, true, true, true, true, true, true, true, true, true, false]) HE411 HS198 rfl (by kernel_rfl) (by kernel_rfl) (by kernel_rfl) (fun _ _ _ h => h) rfl (wtF HE411 rfl rfl rfl rfl) rfl rfl fun a_412 HE413 => ?_
                    refine dr_take (i := 43) (ls' := #[true, true, true, true, true, true, true, true, true, true, true, true, true, true, true, true, true, true, true, true, true, true, true, true, true, true, true, true, true, true, true, true, true, true, true, true, true, true, true, true, true, true, true, true]) HE413 HS198 rfl (by kernel_rfl) (by kernel_rfl) (by kernel_rfl) (fun _ _ _ h => h) rfl (wt0 rfl) (x_pickT rfl rfl rfl) rfl rfl fun a_414 HE415 => ?_
                    refine dr_done (by kernel_rfl) ?_
                    clear HH107 HS158 a_161 HE162 a_167 HE168 a_169 HE170 a_171 HE172 a_173 HE174 a_175 HE176 a_177 HE178 a_179 HE180 a_181 HE182 a_183 HE184 a_185 HE186 a_187 HE188 a_189 HE190 HH165 a_191 HE192 HS166 a_196 HE197 a_199 HE200 a_201 HE202 a_360 HE361 a_362 HE363 a_364 HE365 a_366 HE367 a_368 HE369 a_370 HE371 a_372 HE373 a_374 HE375 a_376 HE377 a_378 HE379 a_380 HE381 a_382 HE383 a_384 HE385 a_386 HE387 a_388 HE389 a_390 HE391 a_392 HE393 a_394 HE395 a_396 HE397 a_398 HE399 a_400 HE401 a_402 HE403 a_404 HE405 a_406 HE407 a_408 HE409 a_410 HE411 a_412 HE413 hK194 K_193
                    refine nrm ?_
                    refine cndT HE415 rfl rfl ?_
                    refine wp_seq ?_
                    refine rg ?_
                    refine pl_x HE415 HH195 (wt0 rfl) (x_assign rfl) rfl rfl fun a_416 HE417 => ?_
                    refine wpList_nil ?_
                    clear a_414 HE415
                    refine nrm ?_
                    refine wp_ret ?_
                    refine (thn_ret (blk_ret (thn_ret (thn_ret (blk_ret (thn_ret ?_))))))
                    refine ret1 HE417 rfl (rv_tmp rfl) ?_
                    have hF : (validMulti a0) = false := by
                      first | (simp [validMulti, hc22, hc24, hc26, hc27, p28_0, p28_1, hc29, xe30, hc32, hc34, hc36]; done) | (unfold validMulti; rw [decide_eq_false (by omega)]; simp) | (unfold validMulti; rw [rg_hit (by omega : k < a0.2.2.2.length) (by unfold badMR; grind [beforeMR, validMR, rowB])]; simp) | (have hq := p28_1; rw [show k = a0.2.2.2.length from by omega] at hq; unfold validMulti; rw [hq, decide_eq_true (by omega)]; simp [hc22, hc24, hc26, hc27, p28_0, p28_1, hc29, xe30, hc32, hc34, hc36])
                    exact ⟨by first | (rw [hF] <;> rfl) | rfl | (rw [hF]; simp only [Ending.returned.injEq, Value.slice.injEq, true_and, and_true]; first | omega | (simp; done)) | (rw [hF]; simp; omega), HH195.below⟩
              · refine dr_takeNo (i := 12) (ls' := #[true, true, true, true, true, true, true, true, true, true, true, true, true, false, false, false, false, false, false, false, false, false, false, false]) HE135 HS131 rfl (by kernel_rfl) (by kernel_rfl) (by kernel_rfl) (fun _ _ _ h => h) rfl (wtF HE135 rfl rfl rfl (not_t hc32)) rfl rfl fun a_418 HE419 => ?_
                refine dr_takeNo (i := 13) (ls' := #[true, true, true, true, true, true, true, true, true, true, true, true, true, true, false, false, false, false, false, false, false, false, false, false]) HE419 HS131 rfl (by kernel_rfl) (by kernel_rfl) (by kernel_rfl) (fun _ _ _ h => h) rfl (wtF HE419 rfl rfl rfl (not_t hc32)) rfl rfl fun a_420 HE421 => ?_
                refine dr_takeNo (i := 14) (ls' := #[true, true, true, true, true, true, true, true, true, true, true, true, true, true, true, false, false, false, false, false, false, false, false, false]) HE421 HS131 rfl (by kernel_rfl) (by kernel_rfl) (by kernel_rfl) (fun _ _ _ h => h) rfl (wtF HE421 rfl rfl rfl (not_t hc32)) rfl rfl fun a_422 HE423 => ?_
                refine dr_takeNo (i := 15) (ls' := #[true, true, true, true, true, true, true, true, true, true, true, true, true, true, true, true, false, false, false, false, false, false, false, false]) HE423 HS131 rfl (by kernel_rfl) (by kernel_rfl) (by kernel_rfl) (fun _ _ _ h => h) rfl (wtF HE423 rfl rfl rfl (not_t hc32)) rfl rfl fun a_424 HE425 => ?_
                refine dr_takeNo (i := 16) (ls' := #[true, true, true, true, true, true, true, true, true, true, true, true, true, true, true, true, true, false, false, false, false, false, false, false]) HE425 HS131 rfl (by kernel_rfl) (by kernel_rfl) (by kernel_rfl) (fun _ _ _ h => h) rfl (wtF HE425 rfl rfl rfl (not_t hc32)) rfl rfl fun a_426 HE427 => ?_
                refine dr_takeNo (i := 17) (ls' := #[true, true, true, true, true, true, true, true, true, true, true, true, true, true, true, true, true, true, false, false, false, false, false, false]) HE427 HS131 rfl (by kernel_rfl) (by kernel_rfl) (by kernel_rfl) (fun _ _ _ h => h) rfl (wtF HE427 rfl rfl rfl (not_t hc32)) rfl rfl fun a_428 HE429 => ?_
                refine dr_takeNo (i := 18) (ls' := #[true, true, true, true, true, true, true, true, true, true, true, true, true, true, true, true, true, true, true, false, false, false, false, false]) HE429 HS131 rfl (by kernel_rfl) (by kernel_rfl) (by kernel_rfl) (fun _ _ _ h => h) rfl (wtF HE429 rfl rfl rfl (not_t hc32)) rfl rfl fun a_430 HE431 => ?_
                refine dr_takeNo (i := 19) (ls' := #[true, true, true, true, true, true, true, true, true, true, true, true, true, true, true, true, true, true, true, true, false, false, false, false]) HE431 HS131 rfl (by kernel_rfl) (by kernel_rfl) (by kernel_rfl) (fun _ _ _ h => h) rfl (wtF HE431 rfl rfl rfl (not_t hc32)) rfl rfl fun a_432 HE433 => ?_
                refine dr_takeNo (i := 20) (ls' := #[true, true, true, true, true, true, true, true, true, true, true, true, true, true, true, true, true, true, true, true, true, false, false, false]) HE433 HS131 rfl (by kernel_rfl) (by kernel_rfl) (by kernel_rfl) (fun _ _ _ h => h) rfl (wtF HE433 rfl rfl rfl (not_t hc32)) rfl rfl fun a_434 HE435 => ?_
                refine dr_takeNo (i := 21) (ls' := #[true, true, true, true, true, true, true, true, true, true, true, true, true, true, true, true, true, true, true, true, true, true, false, false]) HE435 HS131 rfl (by kernel_rfl) (by kernel_rfl) (by kernel_rfl) (fun _ _ _ h => h) rfl (wtF HE435 rfl rfl rfl (not_t hc32)) rfl rfl fun a_436 HE437 => ?_
                refine dr_takeNo (i := 22) (ls' := #[true, true, true, true, true, true, true, true, true, true, true, true, true, true, true, true, true, true, true, true, true, true, true, false]) HE437 HS131 rfl (by kernel_rfl) (by kernel_rfl) (by kernel_rfl) (fun _ _ _ h => h) rfl (wtF HE437 rfl rfl rfl (not_t hc32)) rfl rfl fun a_438 HE439 => ?_
                refine dr_take (i := 23) (ls' := #[true, true, true, true, true, true, true, true, true, true, true, true, true, true, true, true, true, true, true, true, true, true, true, true]) HE439 HS131 rfl (by kernel_rfl) (by kernel_rfl) (by kernel_rfl) (fun _ _ _ h => h) rfl (wt0 rfl) (x_pickT rfl (not_t hc32) rfl) rfl rfl fun a_440 HE441 => ?_
                refine dr_done (by kernel_rfl) ?_
                clear HH78 a_105 HE106 a_109 HE110 a_111 HE112 a_113 HE114 a_115 HE116 a_117 HE118 a_119 HE120 a_121 HE122 a_123 HE124 a_125 HE126 HS108 a_129 HE130 a_132 HE133 a_134 HE135 a_418 HE419 a_420 HE421 a_422 HE423 a_424 HE425 a_426 HE427 a_428 HE429 a_430 HE431 a_432 HE433 a_434 HE435 a_436 HE437 a_438 HE439 hK128 K_127
                refine nrm ?_
                refine cndT HE441 rfl rfl ?_
                refine wp_seq ?_
                refine rg ?_
                refine pl_x HE441 HH107 (wt0 rfl) (x_assign rfl) rfl rfl fun a_442 HE443 => ?_
                refine wpList_nil ?_
                clear a_440 HE441
                refine nrm ?_
                refine wp_ret ?_
                refine (thn_ret (blk_ret (thn_ret (thn_ret (blk_ret (thn_ret ?_))))))
                refine ret1 HE443 rfl (rv_tmp rfl) ?_
                have hF : (validMulti a0) = false := by
                  first | (simp [validMulti, hc22, hc24, hc26, hc27, p28_0, p28_1, hc29, xe30, hc32]; done) | (unfold validMulti; rw [decide_eq_false (by omega)]; simp) | (unfold validMulti; rw [rg_hit (by omega : k < a0.2.2.2.length) (by unfold badMR; grind [beforeMR, validMR, rowB])]; simp) | (have hq := p28_1; rw [show k = a0.2.2.2.length from by omega] at hq; unfold validMulti; rw [hq, decide_eq_true (by omega)]; simp [hc22, hc24, hc26, hc27, p28_0, p28_1, hc29, xe30, hc32])
                exact ⟨by first | (rw [hF] <;> rfl) | rfl | (rw [hF]; simp only [Ending.returned.injEq, Value.slice.injEq, true_and, and_true]; first | omega | (simp; done)) | (rw [hF]; simp; omega), HH107.below⟩
            · refine wp_exit ?_
              refine (thn_exit (thn_exit (blk_hit ?_)))
              refine nrm ?_
              refine wp_seq ?_
              refine rg ?_
              refine pl_x HE92 HH78 (wt0 rfl) (x_assign rfl) rfl rfl fun a_444 HE445 => ?_
              refine wpList_nil ?_
              clear a_91 HE92
              refine nrm ?_
              refine wp_ret ?_
              refine ret1 HE445 rfl (rv_tmp rfl) ?_
              have hF : (validMulti a0) = true := by
                first | (simp [validMulti, hc22, hc24, hc26, hc27, p28_0, p28_1, hc29]; done) | (unfold validMulti; rw [decide_eq_false (by omega)]; simp) | (unfold validMulti; rw [rg_hit (by omega : k < a0.2.2.2.length) (by unfold badMR; grind [beforeMR, validMR, rowB])]; simp) | (have hq := p28_1; rw [show k = a0.2.2.2.length from by omega] at hq; unfold validMulti; rw [hq, decide_eq_true (by omega)]; simp [hc22, hc24, hc26, hc27, p28_0, p28_1, hc29])
              exact ⟨by first | (rw [hF] <;> rfl) | rfl | (rw [hF]; simp only [Ending.returned.injEq, Value.slice.injEq, true_and, and_true]; first | omega | (simp; done)) | (rw [hF]; simp; omega), HH78.below⟩
      · refine pl_no HE57 (wtF HE57 rfl rfl rfl (not_t hc26)) rfl rfl fun a_446 HE447 => ?_
        refine pl_no HE447 (wtF HE447 rfl rfl rfl (not_t hc26)) rfl rfl fun a_448 HE449 => ?_
        refine pl_no HE449 (wtF HE449 rfl rfl rfl (not_t hc26)) rfl rfl fun a_450 HE451 => ?_
        refine pl_no HE451 (wtF HE451 rfl rfl rfl (not_t hc26)) rfl rfl fun a_452 HE453 => ?_
        refine pl_no HE453 (wtF HE453 rfl rfl rfl (not_t hc26)) rfl rfl fun a_454 HE455 => ?_
        refine pl_no HE455 (wtF HE455 rfl rfl rfl (not_t hc26)) rfl rfl fun a_456 HE457 => ?_
        refine pl_x HE457 HH1 (wt0 rfl) (x_pickT rfl (not_t hc26) rfl) rfl rfl fun a_458 HE459 => ?_
        refine wpList_nil ?_
        clear a_4 HE5 a_6 HE7 a_8 HE9 a_10 HE11 a_12 HE13 a_16 HE17 a_18 HE19 a_20 HE21 a_22 HE23 a_24 HE25 a_26 HE27 K_14 hK15 a_28 HE29 a_32 HE33 a_34 HE35 a_36 HE37 a_38 HE39 a_40 HE41 a_42 HE43 a_44 HE45 K_30 hK31 a_46 HE47 a_50 HE51 a_52 HE53 a_54 HE55 a_56 HE57 a_446 HE447 a_448 HE449 a_450 HE451 a_452 HE453 a_454 HE455 a_456 HE457 hK49 K_48
        refine nrm ?_
        refine cndT HE459 rfl rfl ?_
        refine wp_seq ?_
        refine rg ?_
        refine pl_x HE459 HH1 (wt0 rfl) (x_assign rfl) rfl rfl fun a_460 HE461 => ?_
        refine wpList_nil ?_
        clear a_458 HE459
        refine nrm ?_
        refine wp_ret ?_
        refine (thn_ret ?_)
        refine ret1 HE461 rfl (rv_tmp rfl) ?_
        have hF : (validMulti a0) = false := by
          first | (simp [validMulti, hc22, hc24, hc26]; done) | (unfold validMulti; rw [decide_eq_false (by omega)]; simp) | (unfold validMulti; rw [rg_hit (by omega : k < a0.2.2.2.length) (by unfold badMR; grind [beforeMR, validMR, rowB])]; simp) | (have hq := p0_1; rw [show k = a0.2.2.2.length from by omega] at hq; unfold validMulti; rw [hq, decide_eq_true (by omega)]; simp [hc22, hc24, hc26])
        exact ⟨by first | (rw [hF] <;> rfl) | rfl | (rw [hF]; simp only [Ending.returned.injEq, Value.slice.injEq, true_and, and_true]; first | omega | (simp; done)) | (rw [hF]; simp; omega), HH1.below⟩
    · refine pl_no HE39 (wtF HE39 rfl rfl rfl (not_t hc24)) rfl rfl fun a_462 HE463 => ?_
      refine pl_no HE463 (wtF HE463 rfl rfl rfl (not_t hc24)) rfl rfl fun a_464 HE465 => ?_
      refine pl_no HE465 (wtF HE465 rfl rfl rfl (not_t hc24)) rfl rfl fun a_466 HE467 => ?_
      refine pl_no HE467 (wtF HE467 rfl rfl rfl (not_t hc24)) rfl rfl fun a_468 HE469 => ?_
      refine pl_no HE469 (wtF HE469 rfl rfl rfl (not_t hc24)) rfl rfl fun a_470 HE471 => ?_
      refine pl_no HE471 (wtF HE471 rfl rfl rfl (not_t hc24)) rfl rfl fun a_472 HE473 => ?_
      refine pl_x HE473 HH1 (wt0 rfl) (x_pickT rfl (not_t hc24) rfl) rfl rfl fun a_474 HE475 => ?_
      refine pl_x HE475 HH1 (wt0 rfl) (x_move rfl) rfl rfl fun a_476 HE477 => ?_
      refine pl_no HE477 (wtF HE477 rfl rfl rfl rfl) rfl rfl fun a_478 HE479 => ?_
      refine pl_no HE479 (wtF HE479 rfl rfl rfl rfl) rfl rfl fun a_480 HE481 => ?_
      refine pl_no HE481 (wtF HE481 rfl rfl rfl rfl) rfl rfl fun a_482 HE483 => ?_
      refine pl_no HE483 (wtF HE483 rfl rfl rfl rfl) rfl rfl fun a_484 HE485 => ?_
      refine pl_no HE485 (wtF HE485 rfl rfl rfl rfl) rfl rfl fun a_486 HE487 => ?_
      refine pl_no HE487 (wtF HE487 rfl rfl rfl rfl) rfl rfl fun a_488 HE489 => ?_
      refine pl_x HE489 HH1 (wt0 rfl) (x_pickT rfl rfl rfl) rfl rfl fun a_490 HE491 => ?_
      refine wpList_nil ?_
      clear a_4 HE5 a_6 HE7 a_8 HE9 a_10 HE11 a_12 HE13 a_16 HE17 a_18 HE19 a_20 HE21 a_22 HE23 a_24 HE25 a_26 HE27 K_14 hK15 a_28 HE29 a_32 HE33 a_34 HE35 a_36 HE37 a_38 HE39 a_462 HE463 a_464 HE465 a_466 HE467 a_468 HE469 a_470 HE471 a_472 HE473 a_474 HE475 a_476 HE477 a_478 HE479 a_480 HE481 a_482 HE483 a_484 HE485 a_486 HE487 a_488 HE489 hK31 K_30
      refine nrm ?_
      refine cndT HE491 rfl rfl ?_
      refine wp_seq ?_
      refine rg ?_
      refine pl_x HE491 HH1 (wt0 rfl) (x_assign rfl) rfl rfl fun a_492 HE493 => ?_
      refine wpList_nil ?_
      clear a_490 HE491
      refine nrm ?_
      refine wp_ret ?_
      refine (thn_ret ?_)
      refine ret1 HE493 rfl (rv_tmp rfl) ?_
      have hF : (validMulti a0) = false := by
        first | (simp [validMulti, hc22, hc24]; done) | (unfold validMulti; rw [decide_eq_false (by omega)]; simp) | (unfold validMulti; rw [rg_hit (by omega : k < a0.2.2.2.length) (by unfold badMR; grind [beforeMR, validMR, rowB])]; simp) | (have hq := p0_1; rw [show k = a0.2.2.2.length from by omega] at hq; unfold validMulti; rw [hq, decide_eq_true (by omega)]; simp [hc22, hc24])
      exact ⟨by first | (rw [hF] <;> rfl) | rfl | (rw [hF]; simp only [Ending.returned.injEq, Value.slice.injEq, true_and, and_true]; first | omega | (simp; done)) | (rw [hF]; simp; omega), HH1.below⟩
  · refine pl_no HE21 (wtF HE21 rfl rfl rfl (not_t hc22)) rfl rfl fun a_494 HE495 => ?_
    refine pl_no HE495 (wtF HE495 rfl rfl rfl (not_t hc22)) rfl rfl fun a_496 HE497 => ?_
    refine pl_no HE497 (wtF HE497 rfl rfl rfl (not_t hc22)) rfl rfl fun a_498 HE499 => ?_
    refine pl_no HE499 (wtF HE499 rfl rfl rfl (not_t hc22)) rfl rfl fun a_500 HE501 => ?_
    refine pl_no HE501 (wtF HE501 rfl rfl rfl (not_t hc22)) rfl rfl fun a_502 HE503 => ?_
    refine pl_no HE503 (wtF HE503 rfl rfl rfl (not_t hc22)) rfl rfl fun a_504 HE505 => ?_
    refine pl_x HE505 HH1 (wt0 rfl) (x_pickT rfl (not_t hc22) rfl) rfl rfl fun a_506 HE507 => ?_
    refine pl_x HE507 HH1 (wt0 rfl) (x_move rfl) rfl rfl fun a_508 HE509 => ?_
    refine pl_no HE509 (wtF HE509 rfl rfl rfl rfl) rfl rfl fun a_510 HE511 => ?_
    refine pl_no HE511 (wtF HE511 rfl rfl rfl rfl) rfl rfl fun a_512 HE513 => ?_
    refine pl_no HE513 (wtF HE513 rfl rfl rfl rfl) rfl rfl fun a_514 HE515 => ?_
    refine pl_no HE515 (wtF HE515 rfl rfl rfl rfl) rfl rfl fun a_516 HE517 => ?_
    refine pl_no HE517 (wtF HE517 rfl rfl rfl rfl) rfl rfl fun a_518 HE519 => ?_
    refine pl_no HE519 (wtF HE519 rfl rfl rfl rfl) rfl rfl fun a_520 HE521 => ?_
    refine pl_x HE521 HH1 (wt0 rfl) (x_pickT rfl rfl rfl) rfl rfl fun a_522 HE523 => ?_
    refine pl_x HE523 HH1 (wt0 rfl) (x_move rfl) rfl rfl fun a_524 HE525 => ?_
    refine pl_no HE525 (wtF HE525 rfl rfl rfl rfl) rfl rfl fun a_526 HE527 => ?_
    refine pl_no HE527 (wtF HE527 rfl rfl rfl rfl) rfl rfl fun a_528 HE529 => ?_
    refine pl_no HE529 (wtF HE529 rfl rfl rfl rfl) rfl rfl fun a_530 HE531 => ?_
    refine pl_no HE531 (wtF HE531 rfl rfl rfl rfl) rfl rfl fun a_532 HE533 => ?_
    refine pl_no HE533 (wtF HE533 rfl rfl rfl rfl) rfl rfl fun a_534 HE535 => ?_
    refine pl_no HE535 (wtF HE535 rfl rfl rfl rfl) rfl rfl fun a_536 HE537 => ?_
    refine pl_x HE537 HH1 (wt0 rfl) (x_pickT rfl rfl rfl) rfl rfl fun a_538 HE539 => ?_
    refine wpList_nil ?_
    clear a_4 HE5 a_6 HE7 a_8 HE9 a_10 HE11 a_12 HE13 a_16 HE17 a_18 HE19 a_20 HE21 a_494 HE495 a_496 HE497 a_498 HE499 a_500 HE501 a_502 HE503 a_504 HE505 a_506 HE507 a_508 HE509 a_510 HE511 a_512 HE513 a_514 HE515 a_516 HE517 a_518 HE519 a_520 HE521 a_522 HE523 a_524 HE525 a_526 HE527 a_528 HE529 a_530 HE531 a_532 HE533 a_534 HE535 a_536 HE537 hK15 K_14
    refine nrm ?_
    refine cndT HE539 rfl rfl ?_
    refine wp_seq ?_
    refine rg ?_
    refine pl_x HE539 HH1 (wt0 rfl) (x_assign rfl) rfl rfl fun a_540 HE541 => ?_
    refine wpList_nil ?_
    clear a_538 HE539
    refine nrm ?_
    refine wp_ret ?_
    refine (thn_ret ?_)
    refine ret1 HE541 rfl (rv_tmp rfl) ?_
    have hF : (validMulti a0) = false := by
      first | (simp [validMulti, hc22]; done) | (unfold validMulti; rw [decide_eq_false (by omega)]; simp) | (unfold validMulti; rw [rg_hit (by omega : k < a0.2.2.2.length) (by unfold badMR; grind [beforeMR, validMR, rowB])]; simp) | (have hq := p0_1; rw [show k = a0.2.2.2.length from by omega] at hq; unfold validMulti; rw [hq, decide_eq_true (by omega)]; simp [hc22])
    exact ⟨by first | (rw [hF] <;> rfl) | rfl | (rw [hF]; simp only [Ending.returned.injEq, Value.slice.injEq, true_and, and_true]; first | omega | (simp; done)) | (rw [hF]; simp; omega), HH1.below⟩

theorem validMulti_facts {m : tMulti} (h : validMulti m = true) : (2 ≤ m.1 ∧ m.1 ≤ 3) ∧ (2 ≤ m.2.1 ∧ m.2.1 ≤ 3) ∧ (1 ≤ m.2.2.1 ∧ m.2.2.1 ≤ 16) ∧ m.2.2.2.length ≤ 60 := by
  unfold validMulti at h
  simp only [Bool.and_eq_true, decide_eq_true_eq] at h
  have h1 := withinB_true.1 h.1.1.1.1
  have h2 := withinB_true.1 h.1.1.1.2
  have h3 := withinB_true.1 h.1.1.2
  exact ⟨h1, h2, h3, by omega⟩

theorem Sl.i64 {w : World} {S : Nat → Prop} {A : Option Addr} {c : Nat} {xs : List Int} (h : Sl eInt w S A c xs) : ∀ x ∈ xs, -9223372036854775808 ≤ x ∧ x ≤ 9223372036854775807 := by
  intro x hx
  obtain ⟨i, hi⟩ := List.mem_iff_getElem?.1 hx
  obtain ⟨b, off, _, _, hc⟩ := h.2.2 (fun e => by rw [e] at hx; cases hx)
  obtain ⟨es, ⟨_, h1⟩, _⟩ := hc i x hi
  exact h1

open Go.Lib in
def mk2 : List Int → List tFraction
  | a :: b :: r => (a, b) :: mk2 r
  | _ => []

open Go.Lib in
def knownL (k : Int) : List tFraction := if k = 0 then mk2 [3, 2] else if k = 1 then mk2 [455, 33, 11, 13, 1, 11, 3, 7, 11, 2, 1, 3] else mk2 [17, 91, 78, 85, 19, 51, 23, 38, 29, 33, 77, 29, 95, 23, 77, 19, 1, 17, 11, 13, 13, 11, 15, 14, 15, 2, 55, 1]

open Go.Lib in
def known (k : Int) : List tFraction × Int := if withinB k 0 2 = true then (knownL k, 0) else ([], 2)

theorem validMulti_rule {m : tMulti} (h : validMulti m = true) {i : Nat} (hi : i < m.2.2.2.length) : (((m.2.2.2[i]).2.1.length : Int) = m.1 ∧ ((m.2.2.2[i]).2.2.1.length : Int) = m.1 ∧ ((m.2.2.2[i]).2.2.2.1.length : Int) = m.1) ∧ (0 < i → cmpMR (m.2.2.2[i - 1]?.getD default) m.2.2.2[i] < 0) := by
  unfold validMulti at h
  simp only [Bool.and_eq_true, Bool.not_eq_true', List.any_eq_false] at h
  have hb := h.2 i (List.mem_range.2 hi)
  unfold badMR at hb
  rw [List.getElem?_eq_getElem hi, Option.getD_some] at hb
  simp only [Bool.or_eq_true, Bool.and_eq_true, Bool.not_eq_true', decide_eq_true_eq, not_or, not_and, Bool.not_eq_false] at hb
  obtain ⟨h1, h2⟩ := hb
  unfold validMR at h1
  simp only [Bool.and_eq_true, beq_iff_eq] at h1
  refine ⟨⟨h1.1.1.1.1.1.2, h1.1.1.1.1.2, h1.1.1.1.2⟩, fun h3 => ?_⟩
  have h4 := h2 h3
  unfold beforeMR at h4
  simpa using h4

def padK (st : Int) (r : List Int) : tKey := (st, r[0]?.getD 0, r[1]?.getD 0, r[2]?.getD 0)

def ruleK (r : tMultiRule) : tKey := padK r.1 r.2.1

/-- All lists with the symbols below S from place k on, those that are keys left out, put behind l. -/
def fillF (ks : List tKey) (st : Int) (T S : Nat) : Nat → Nat → List Int → List (List Int) → List Int × List (List Int)
  | 0, _, b, l => (b, l)
  | f + 1, k, b, l =>
    if k = T then (b, if padK st b ∈ ks then l else l ++ [b])
    else (((List.range S).foldl (fun p (v : Nat) => fillF ks st T S f (k + 1) (p.1.set k (v : Int)) p.2) (b, l)).1.set k (S : Int), ((List.range S).foldl (fun p (v : Nat) => fillF ks st T S f (k + 1) (p.1.set k (v : Int)) p.2) (b, l)).2)

def fillN (ks : List tKey) (st : Int) (T S f k : Nat) (b : List Int) (l : List (List Int)) (v : Nat) : List Int × List (List Int) :=
  (List.range v).foldl (fun p (v : Nat) => fillF ks st T S f (k + 1) (p.1.set k (v : Int)) p.2) (b, l)

theorem fillN_succ (ks : List tKey) (st : Int) (T S f k : Nat) (b : List Int) (l : List (List Int)) (v : Nat) :
    fillN ks st T S f k b l (v + 1) = fillF ks st T S f (k + 1) ((fillN ks st T S f k b l v).1.set k (v : Int)) (fillN ks st T S f k b l v).2 := by
  unfold fillN
  rw [List.range_succ, List.foldl_append]; rfl

theorem fillF_top {ks : List tKey} {st : Int} {T S f k : Nat} {b : List Int} {l : List (List Int)} (h : k = T) : fillF ks st T S (f + 1) k b l = (b, if padK st b ∈ ks then l else l ++ [b]) := by
  rw [fillF, if_pos h]

theorem fillF_go {ks : List tKey} {st : Int} {T S f k : Nat} {b : List Int} {l : List (List Int)} (h : ¬ k = T) : fillF ks st T S (f + 1) k b l = ((fillN ks st T S f k b l S).1.set k (S : Int), (fillN ks st T S f k b l S).2) := by
  rw [fillF, if_neg h]; rfl

theorem fillF_len (ks : List tKey) (st : Int) (T S : Nat) : ∀ (f k : Nat) (b : List Int) (l : List (List Int)), (fillF ks st T S f k b l).1.length = b.length
  | 0, _, _, _ => rfl
  | f + 1, k, b, l => by
    by_cases h : k = T
    · rw [fillF_top h]
    · rw [fillF_go h, List.length_set]
      have key : ∀ v, (fillN ks st T S f k b l v).1.length = b.length := by
        intro v
        induction v with
        | zero => rfl
        | succ v ih => rw [fillN_succ, fillF_len ks st T S f, List.length_set, ih]
      exact key S

theorem fillN_len (ks : List tKey) (st : Int) (T S f k : Nat) (b : List Int) (l : List (List Int)) (v : Nat) : (fillN ks st T S f k b l v).1.length = b.length := by
  induction v with
  | zero => rfl
  | succ v ih => rw [fillN_succ, fillF_len, List.length_set, ih]

theorem fillF_keep (ks : List tKey) (st : Int) (T S : Nat) : ∀ (f k : Nat) (b : List Int) (l : List (List Int)) (j : Nat), j < k → (fillF ks st T S f k b l).1[j]? = b[j]?
  | 0, _, _, _, _, _ => rfl
  | f + 1, k, b, l, j, hj => by
    by_cases h : k = T
    · rw [fillF_top h]
    · rw [fillF_go h, List.getElem?_set_ne (by omega)]
      have key : ∀ v, (fillN ks st T S f k b l v).1[j]? = b[j]? := by
        intro v
        induction v with
        | zero => rfl
        | succ v ih => rw [fillN_succ, fillF_keep ks st T S f (k + 1) _ _ j (by omega), List.getElem?_set_ne (by omega), ih]
      exact key S

theorem fillF_room (ks : List tKey) (st : Int) (T S : Nat) : ∀ (f k : Nat) (b : List Int) (l : List (List Int)), k ≤ T → T < f + k → (fillF ks st T S f k b l).2.length ≤ l.length + S ^ (T - k)
  | 0, k, _, _, h1, h2 => by omega
  | f + 1, k, b, l, h1, h2 => by
    by_cases h : k = T
    · rw [fillF_top h, h, Nat.sub_self, Nat.pow_zero]
      split
      · simp only; omega
      · simp only [List.length_append, List.length_cons, List.length_nil]; omega
    · rw [fillF_go h]
      have key : ∀ v, (fillN ks st T S f k b l v).2.length ≤ l.length + v * S ^ (T - (k + 1)) := by
        intro v
        induction v with
        | zero => simp [fillN]
        | succ v ih =>
          have h3 := fillF_room ks st T S f (k + 1) ((fillN ks st T S f k b l v).1.set k (v : Int)) (fillN ks st T S f k b l v).2 (by omega) (by omega)
          rw [fillN_succ, Nat.succ_mul]
          omega
      have h4 := key S
      have e : S * S ^ (T - (k + 1)) = S ^ (T - k) := by
        rw [show T - k = (T - (k + 1)) + 1 from by omega, Nat.pow_succ, Nat.mul_comm]
      rw [e] at h4
      exact h4

theorem fillN_room {ks : List tKey} {st : Int} {T S f k : Nat} {b : List Int} {l : List (List Int)} {B v : Nat} (h1 : k < T) (h2 : T < f + (k + 1)) (hv : v < S) (hB : l.length + S ^ (T - k) ≤ B) : (fillN ks st T S f k b l v).2.length + S ^ (T - (k + 1)) ≤ B := by
  have key : ∀ v, (fillN ks st T S f k b l v).2.length ≤ l.length + v * S ^ (T - (k + 1)) := by
    intro v
    induction v with
    | zero => simp [fillN]
    | succ v ih =>
      have h3 := fillF_room ks st T S f (k + 1) ((fillN ks st T S f k b l v).1.set k (v : Int)) (fillN ks st T S f k b l v).2 (by omega) (by omega)
      rw [fillN_succ, Nat.succ_mul]
      omega
  have h4 := key v
  have e : S ^ (T - k) = S * S ^ (T - (k + 1)) := by
    rw [show T - k = (T - (k + 1)) + 1 from by omega, Nat.pow_succ, Nat.mul_comm]
  have h5 : (v + 1) * S ^ (T - (k + 1)) ≤ S * S ^ (T - (k + 1)) := Nat.mul_le_mul_right _ (by omega)
  rw [Nat.succ_mul] at h5
  omega

theorem fillN_at {ks : List tKey} {st : Int} {T S f k : Nat} {b : List Int} {l : List (List Int)} {v : Nat} (h : k < b.length) : (fillF ks st T S f (k + 1) ((fillN ks st T S f k b l v).1.set k (v : Int)) (fillN ks st T S f k b l v).2).1[k]? = some (v : Int) := by
  rw [fillF_keep ks st T S f (k + 1) _ _ k (by omega), List.getElem?_set_self (by rw [fillN_len]; exact h)]

theorem pow_room {S T : Nat} (h1 : S ≤ 100) (h2 : T ≤ 3) : ([] : List (List Int)).length + S ^ (T - 0) ≤ 1000000 := by
  have e : S ^ (T - 0) ≤ 100 ^ 3 := Nat.le_trans (Nat.pow_le_pow_left h1 _) (Nat.pow_le_pow_right (by omega) (by omega))
  simpa using e

def hReads (m : tMulti) (st : Int) : List (List Int) := (fillF (m.2.2.2.map ruleK) st m.1.toNat m.2.1.toNat (m.1.toNat + 1) 0 (List.replicate m.1.toNat 0) []).2

theorem eqLi_iff {x y : List Int} : eq_L x y = true ↔ x = y := ⟨fun h => eqL_eq (fun a b hab => by simpa [eq_i] using hab) x y h, fun h => by rw [h]; exact eq_L_refl y⟩

/-- All lists of t symbols below S, in order. -/
def allF (S : Nat) : Nat → List (List Int)
  | 0 => [[]]
  | t + 1 => (List.range S).flatMap fun (u : Nat) => (allF S t).map fun r => (u : Int) :: r

/-- Those that begin with v or more. -/
def upsF (S v t : Nat) : List (List Int) := (List.range' v (S - v)).flatMap fun (u : Nat) => (allF S t).map fun r => (u : Int) :: r

/-- Those from r on. -/
def seqF (S : Nat) : List Int → List (List Int)
  | [] => [[]]
  | v :: rs => ((seqF S rs).map fun r => v :: r) ++ upsF S (v.toNat + 1) rs.length

theorem allF_ups (S t : Nat) : allF S (t + 1) = upsF S 0 t := by
  unfold upsF
  rw [allF, List.range_eq_range', Nat.sub_zero]

theorem upsF_cons {S v : Nat} (t : Nat) (h : v < S) : upsF S v t = ((allF S t).map fun r => (v : Int) :: r) ++ upsF S (v + 1) t := by
  unfold upsF
  obtain ⟨n, hn⟩ : ∃ n, S - v = n + 1 := ⟨S - v - 1, by omega⟩
  rw [hn, show S - (v + 1) = n from by omega, List.range'_succ, List.flatMap_cons]

theorem upsF_nil {S v : Nat} (t : Nat) (h : S ≤ v) : upsF S v t = [] := by
  unfold upsF
  rw [show S - v = 0 from by omega]; rfl

theorem seqF_zero {S : Nat} (h : 0 < S) : ∀ t, seqF S (List.replicate t 0) = allF S t
  | 0 => rfl
  | t + 1 => by
    rw [List.replicate_succ, seqF, seqF_zero h t, allF_ups, upsF_cons t h, List.length_replicate]; rfl

theorem seqF_last {S : Nat} : ∀ {r : List Int}, (∀ x ∈ r, x = (S : Int) - 1) → 0 < S → seqF S r = [r]
  | [], _, _ => rfl
  | v :: r, h, hS => by
    have hv := h v (by simp)
    rw [seqF, seqF_last (fun x hx => h x (by simp [hx])) hS, upsF_nil _ (by omega)]; rfl

theorem seqF_next {S : Nat} {x : Int} {q : List Int} (h0 : 0 ≤ x) (h1 : x < (S : Int) - 1) (hq : ∀ y ∈ q, y = (S : Int) - 1) : ∀ p : List Int, seqF S (p ++ x :: q) = (p ++ x :: q) :: seqF S (p ++ (x + 1) :: List.replicate q.length 0)
  | [] => by
    rw [List.nil_append, List.nil_append, seqF, seqF_last hq (by omega), upsF_cons _ (by omega), seqF, seqF_zero (by omega), List.length_replicate]
    rw [show (((x.toNat + 1 : Nat)) : Int) = x + 1 from by omega, show (x + 1).toNat + 1 = x.toNat + 1 + 1 from by omega]; rfl
  | v :: p => by
    rw [List.cons_append, List.cons_append, seqF, seqF_next h0 h1 hq p, List.map_cons, seqF]
    simp

/-- Those of a list that are no keys. -/
def goodL (ks : List tKey) (st : Int) (l : List (List Int)) : List (List Int) := l.filter fun r => decide (¬ padK st r ∈ ks)

theorem goodL_app (ks : List tKey) (st : Int) (a b : List (List Int)) : goodL ks st (a ++ b) = goodL ks st a ++ goodL ks st b := List.filter_append _ _

theorem fillF_eq (ks : List tKey) (st : Int) (T S : Nat) : ∀ (f k : Nat) (b : List Int) (l : List (List Int)), k ≤ T → T < f + k → b.length = T →
    (fillF ks st T S f k b l).2 = l ++ goodL ks st ((allF S (T - k)).map fun r => b.take k ++ r)
  | 0, k, _, _, h1, h2, _ => by omega
  | f + 1, k, b, l, h1, h2, hl => by
    by_cases h : k = T
    · rw [fillF_top h, h, Nat.sub_self]
      simp only [allF, List.map_cons, List.map_nil, List.append_nil]
      rw [List.take_of_length_le (by omega)]
      unfold goodL
      split
      · rename_i hk; simp [hk]
      · rename_i hk; simp [hk]
    · rw [fillF_go h]
      have key : ∀ v, (fillN ks st T S f k b l v).2 = l ++ goodL ks st (((List.range v).flatMap fun (u : Nat) => (allF S (T - (k + 1))).map fun r => (u : Int) :: r).map fun r => b.take k ++ r) ∧ (fillN ks st T S f k b l v).1.take k = b.take k := by
        intro v
        induction v with
        | zero => exact ⟨by simp [fillN, goodL], rfl⟩
        | succ v ih =>
          have hlen := fillN_len ks st T S f k b l v
          have hset : ((fillN ks st T S f k b l v).1.set k (v : Int)).take (k + 1) = b.take k ++ [(v : Int)] := by
            rw [List.take_succ_eq_append_getElem (by rw [List.length_set]; omega), List.getElem_set_self, List.take_set_of_le (Nat.le_refl _), ih.2]
          have h3 := fillF_eq ks st T S f (k + 1) ((fillN ks st T S f k b l v).1.set k (v : Int)) (fillN ks st T S f k b l v).2 (by omega) (by omega) (by rw [List.length_set]; omega)
          rw [fillN_succ]
          refine ⟨?_, ?_⟩
          · rw [h3, ih.1, List.append_assoc, ← goodL_app, List.range_succ, List.flatMap_append, List.map_append, hset]
            simp [List.flatMap_cons, Function.comp_def]
          · apply List.ext_getElem?
            intro j
            by_cases hj : j < k
            · rw [List.getElem?_take_of_lt hj, List.getElem?_take_of_lt hj, fillF_keep ks st T S f (k + 1) _ _ j (by omega), List.getElem?_set_ne (by omega), ← List.getElem?_take_of_lt hj, ih.2, List.getElem?_take_of_lt hj]
            · rw [List.getElem?_eq_none (by rw [List.length_take]; omega), List.getElem?_eq_none (by rw [List.length_take]; omega)]
      rw [(key S).1, show T - k = (T - (k + 1)) + 1 from by omega, allF]

theorem hReads_eq (m : tMulti) (st : Int) : hReads m st = goodL (m.2.2.2.map ruleK) st (allF m.2.1.toNat m.1.toNat) := by
  unfold hReads
  rw [fillF_eq _ _ _ _ _ _ _ _ (by omega) (by omega) (by simp)]
  simp

theorem padK_inj {s t : Int} {a b : List Int} (hl : a.length = b.length) (h3 : a.length ≤ 3) : padK s a = padK t b ↔ s = t ∧ a = b := by
  constructor
  · intro h
    unfold padK at h
    simp only [Prod.mk.injEq] at h
    refine ⟨h.1, List.ext_getElem? fun i => ?_⟩
    by_cases hi : i < a.length
    · have e : a[i]?.getD 0 = b[i]?.getD 0 := by
        rcases i with _ | _ | _ | i
        · exact h.2.1
        · exact h.2.2.1
        · exact h.2.2.2
        · omega
      rw [List.getElem?_eq_getElem hi, List.getElem?_eq_getElem (by omega)] at e ⊢
      simpa using e
    · rw [List.getElem?_eq_none (by omega), List.getElem?_eq_none (by omega)]
  · rintro ⟨rfl, rfl⟩; rfl

def hitM (st : Int) (r : List Int) (x : tMultiRule) : Bool := decide (x.1 = st) && eq_L x.2.1 r

def ruleI (l : List tMultiRule) (st : Int) (r : List Int) : Int := if l.any (hitM st r) = true then (l.findIdx (hitM st r) : Int) else -1

theorem ruleI_hit {l : List tMultiRule} {st : Int} {r : List Int} {k : Nat} (hk : k < l.length) (hno : (l.take k).any (hitM st r) = false) (h : hitM st r l[k] = true) : ruleI l st r = (k : Int) := by
  unfold ruleI
  rw [if_pos (List.any_eq_true.2 ⟨l[k], List.getElem_mem _, h⟩)]
  have : l.findIdx (hitM st r) = k := (List.findIdx_eq hk).2 ⟨h, fun j hj => by
    have h1 := List.any_eq_false.1 hno (l[j]) (List.mem_iff_getElem.2 ⟨j, by rw [List.length_take]; omega, by rw [List.getElem_take]⟩)
    simpa using h1⟩
  rw [this]

theorem ruleI_miss {l : List tMultiRule} {st : Int} {r : List Int} {k : Nat} (hk : l.length ≤ k) (hno : (l.take k).any (hitM st r) = false) : ruleI l st r = -1 := by
  rw [List.take_of_length_le hk] at hno
  unfold ruleI
  rw [if_neg (by rw [hno]; exact Bool.false_ne_true)]

theorem ruleI_neg {m : tMulti} {st : Int} {r : List Int} (hr : ∀ x ∈ m.2.2.2, x.2.1.length = r.length) (h3 : r.length ≤ 3) : ruleI m.2.2.2 st r < 0 ↔ ¬ padK st r ∈ m.2.2.2.map ruleK := by
  have key : m.2.2.2.any (hitM st r) = true ↔ padK st r ∈ m.2.2.2.map ruleK := by
    rw [List.any_eq_true, List.mem_map]
    constructor
    · rintro ⟨x, hx, h⟩
      unfold hitM at h
      rw [Bool.and_eq_true, decide_eq_true_eq, eqLi_iff] at h
      exact ⟨x, hx, by unfold ruleK; rw [h.1, h.2]⟩
    · rintro ⟨x, hx, h⟩
      unfold ruleK at h
      have h1 := (padK_inj (hr x hx) (by rw [hr x hx]; exact h3)).1 h
      refine ⟨x, hx, ?_⟩
      unfold hitM
      rw [Bool.and_eq_true, decide_eq_true_eq, eqLi_iff]
      exact h1
  unfold ruleI
  rw [← key]
  split
  · rename_i h
    simp only [h, not_true_eq_false, iff_false]
    omega
  · rename_i h
    simp [h]

theorem goodL_cons {ks : List tKey} {st : Int} {r : List Int} {l : List (List Int)} : goodL ks st (r :: l) = (if padK st r ∈ ks then [] else [r]) ++ goodL ks st l := by
  unfold goodL
  rw [List.filter_cons]
  split
  · rename_i h; simp at h; simp [h]
  · rename_i h; simp at h; simp [h]

def rowZ (r : List Int) (v : Nat) : List Int := r.take v ++ List.replicate (r.length - v) 0

theorem rowZ_len (r : List Int) {v : Nat} (h : v ≤ r.length) : (rowZ r v).length = r.length := by
  unfold rowZ; rw [List.length_append, List.length_take, List.length_replicate]; omega

theorem rowZ_all (r : List Int) : rowZ r r.length = r := by unfold rowZ; simp

theorem rowZ_at {r : List Int} {v : Nat} (h : 0 < v) (h2 : v ≤ r.length) (h3 : v - 1 < (rowZ r v).length) : (rowZ r v)[v - 1] = r[v - 1]?.getD 0 := by
  have e : (rowZ r v)[v - 1]? = r[v - 1]? := by
    unfold rowZ
    rw [List.getElem?_append_left (by rw [List.length_take]; omega), List.getElem?_take_of_lt (by omega)]
  rw [List.getElem?_eq_getElem h3] at e
  rw [← e]; rfl

theorem rowZ_set {r : List Int} {v : Nat} {x : Int} (h : 0 < v) (h2 : v ≤ r.length) : (rowZ r v).set (v - 1) x = r.take (v - 1) ++ x :: List.replicate (r.length - v) 0 := by
  obtain ⟨j, rfl⟩ : ∃ j, v = j + 1 := ⟨v - 1, by omega⟩
  unfold rowZ
  rw [Nat.add_sub_cancel, List.take_succ_eq_append_getElem (by omega), List.append_assoc, List.set_append_right _ _ (by rw [List.length_take]; omega), List.length_take, show j - min j r.length = 0 from by omega]
  rfl

theorem rowZ_step {r : List Int} {v : Nat} (h : 0 < v) (h2 : v ≤ r.length) : rowZ r (v - 1) = (rowZ r v).set (v - 1) 0 := by
  rw [rowZ_set h h2]
  unfold rowZ
  rw [show r.length - (v - 1) = (r.length - v) + 1 from by omega, List.replicate_succ]

/-- All but the symbols behind v are the last ones: the next list. -/
theorem seqF_step {S v : Nat} {r : List Int} {y : Int} (hv : 0 < v) (h2 : v ≤ r.length) (hok : ∀ x ∈ r, 0 ≤ x ∧ x ≤ (S : Int) - 1) (hy : y = r[v - 1]?.getD 0) (hne : ¬ y = (S : Int) - 1) (hup : ∀ j, v ≤ j → j < r.length → r[j]?.getD 0 = (S : Int) - 1) :
    seqF S r = r :: seqF S ((rowZ r v).set (v - 1) (y + 1)) ∧ (∀ x ∈ (rowZ r v).set (v - 1) (y + 1), 0 ≤ x ∧ x ≤ (S : Int) - 1) := by
  have hlt : v - 1 < r.length := by omega
  rw [List.getElem?_eq_getElem hlt, Option.getD_some] at hy
  have hb := hok _ (List.getElem_mem hlt)
  have e : r = r.take (v - 1) ++ r[v - 1] :: r.drop v := by
    conv => lhs; rw [← List.take_append_drop (v - 1) r, List.drop_eq_getElem_cons hlt]
    rw [show v - 1 + 1 = v from by omega]
  have hq : ∀ z ∈ r.drop v, z = (S : Int) - 1 := by
    intro z hz
    obtain ⟨j, hj, rfl⟩ := List.getElem_of_mem hz
    rw [List.length_drop] at hj
    have := hup (v + j) (by omega) (by omega)
    rw [List.getElem?_eq_getElem (by omega : v + j < r.length), Option.getD_some] at this
    rw [List.getElem_drop]; exact this
  rw [rowZ_set hv h2]
  have h5 := seqF_next (x := r[v - 1]) (q := r.drop v) hb.1 (by omega) hq (r.take (v - 1))
  rw [← e, List.length_drop] at h5
  refine ⟨by rw [hy]; exact h5, fun x hx => ?_⟩
  rcases List.mem_append.1 hx with hx | hx
  · exact hok x (List.mem_of_mem_take hx)
  · rcases List.mem_cons.1 hx with rfl | hx
    · omega
    · rw [(List.mem_replicate.1 hx).2]; omega

theorem seqF_stop {S : Nat} {r : List Int} (hS : 0 < S) (hup : ∀ j, 0 ≤ j → j < r.length → r[j]?.getD 0 = (S : Int) - 1) : seqF S r = [r] := by
  refine seqF_last (fun x hx => ?_) hS
  obtain ⟨j, hj, rfl⟩ := List.getElem_of_mem hx
  have := hup j (Nat.zero_le _) hj
  rw [List.getElem?_eq_getElem hj, Option.getD_some] at this
  exact this

theorem up_step {r : List Int} {v : Nat} {x : Int} (hv : 0 < v) (h : ∀ j, v ≤ j → j < r.length → r[j]?.getD 0 = x) (h1 : r[v - 1]?.getD 0 = x) : ∀ j, v - 1 ≤ j → j < r.length → r[j]?.getD 0 = x := by
  intro j hj hl
  by_cases e : j = v - 1
  · rw [e]; exact h1
  · exact h j (by omega) hl

theorem allF_len (S : Nat) : ∀ t, (allF S t).length = S ^ t
  | 0 => rfl
  | t + 1 => by
    have key : ∀ n, ((List.range n).flatMap fun (u : Nat) => (allF S t).map fun r => (u : Int) :: r).length = n * S ^ t := by
      intro n
      induction n with
      | zero => simp
      | succ n ih => rw [List.range_succ, List.flatMap_append, List.length_append, ih, Nat.succ_mul]; simp [allF_len S t]
    rw [allF, key, Nat.pow_succ, Nat.mul_comm]

def haltReads (m : tMulti) (st : Int) : List (List Int) × Int :=
  if validMulti m = true then (if withinB st 0 (m.2.2.1 - 1) = true then (hReads m st, 0) else ([], 2)) else ([], 1)

theorem validMulti_reads {m : tMulti} (h : validMulti m = true) : ∀ x ∈ m.2.2.2, x.2.1.length = m.1.toNat := by
  intro x hx
  obtain ⟨i, hi, rfl⟩ := List.getElem_of_mem hx
  have := (validMulti_rule h hi).1.1
  omega

theorem validMulti_reads3 {m : tMulti} (h : validMulti m = true) : ∀ x ∈ m.2.2.2, x.2.1.length ≤ 3 := by
  intro x hx
  have h1 := validMulti_reads h x hx
  have h2 := (validMulti_facts h).1
  omega

set_option maxRecDepth 100000 in
set_option maxHeartbeats 4000000 in
theorem impl_multiRules (es0 : List Value) (a0 : tMulti) (w : World) (h0 : eMulti.R w (Old w) es0 a0) (s0 : ∀ r ∈ a0.2.2.2, r.2.1.length ≤ 3) (s1 : a0.2.2.2.length ≤ 1000) :
    Calls Try.prog 103 #[.agg es0.toArray] w fun e w' => ∃ (g0' : Nat), e = .returned (.map (some g0')) ∧ Held Nob w [rMap g0' (a0.2.2.2.map ruleK)] w' := by
  have H0 := h0
  obtain ⟨Az0_3, cz0_3, rfl, gz0_0, gz0_1, gz0_2, gz0_3⟩ := shape_Multi h0
  have jz0_0 := gz0_0; unfold I64 at jz0_0
  have jz0_1 := gz0_1; unfold I64 at jz0_1
  have jz0_2 := gz0_2; unfold I64 at jz0_2
  have lz0_3 := gz0_3.len
  have HH1 := Held.start Nob w
  refine enter (n := 29) Try.func103 rfl rfl rfl fun a_2 HE3 => ?_
  refine wp_seq ?_
  refine rg ?_
  refine pl fun K_4 hK5 => ?_
  refine st_box (cs := [.int .i64 (a0.1), .int .i64 (a0.2.1), .int .i64 (a0.2.2.1), .slice Az0_3 (a0.2.2.2.length) cz0_3]) HE3 HH1 rfl rfl (wt0 rfl) rfl fun q21 a_6 w' HE7 HH8 => hK5 _ _ ?_
  refine pl_x HE7 HH8 (wt0 rfl) (x_assign rfl) rfl rfl fun a_9 HE10 => ?_
  refine wpList_nil ?_
  clear a_2 HE3 HH1 a_6 HE7 hK5 K_4
  refine nrm ?_
  refine wp_seq ?_
  refine rg ?_
  refine pl fun K_11 hK12 => ?_
  refine st_makeMap HE10 HH8 (wt0 rfl) rfl fun q22 a_13 w' HE14 HH15 => hK12 _ _ ?_
  refine pl_x HE14 HH15 (wt0 rfl) (x_assign rfl) rfl rfl fun a_16 HE17 => ?_
  refine wpList_nil ?_
  clear a_9 HE10 HH8 a_13 HE14 hK12 K_11
  refine nrm ?_
  refine wp_seq ?_
  refine wp_seq ?_
  refine rg ?_
  refine pl_x HE17 HH15 (wt0 rfl) (x_fieldAddr fa_55_3 rfl) rfl rfl fun a_18 HE19 => ?_
  refine pl_x HE19 HH15 (wt0 rfl) (x_load1 tv_53 rfl (c_blk 1 rfl rfl)) rfl rfl fun a_20 HE21 => ?_
  refine pl_x HE21 HH15 (wt0 rfl) (x_len Try.underlying53 rfl) rfl rfl fun a_22 HE23 => ?_
  refine pl_x HE23 HH15 (wt0 rfl) (x_move rfl) rfl rfl fun a_24 HE25 => ?_
  refine wpList_nil ?_
  clear a_16 HE17 a_18 HE19 a_20 HE21 a_22 HE23
  refine nrm ?_
  refine wp_block ?_
  refine lp (fun m a w' => ∃ (k : Nat), m = a0.2.2.2.length - k ∧ Env 29 [(11, .int .i64 (k : Int)), (3, .map (some q22)), (9, .slice Az0_3 (a0.2.2.2.length) cz0_3), (10, .int .i64 ((a0.2.2.2.length : Int)))] a ∧ Held Nob w [rMap q22 ((a0.2.2.2.take k).map ruleK), rBlk q21 55 [.int .i64 (a0.1), .int .i64 (a0.2.1), .int .i64 (a0.2.2.1), .slice Az0_3 (a0.2.2.2.length) cz0_3]] w' ∧ (k ≤ a0.2.2.2.length)) (a0.2.2.2.length - (0)) ?_ ?_
  · have E23 : (a0.2.2.2.take 0).map ruleK = [] := by rfl
    exact ⟨0, rfl, HE25.sub ⟨(lkI rfl (by first | rfl | omega | (simp []; done))), rfl, rfl, rfl, trivial⟩, ((HH15.sel [0, 1] (by decide) rfl).to (by first | rfl | (rw [E23]; done) | (rw [E23]; rfl) | (simp only [E23]; done) | (simp only [E23]; rfl) | (rw [E23]; simp only [List.length_set]; done))), (by first | omega | assumption | (simp; done) | simp_all)⟩
  · rintro m a_26 w' ⟨k, rfl, HE27, HH28, p24_0⟩
    have ol : ((a0.2.2.2.take k).map ruleK).length = k := by rw [List.length_map, List.length_take]; omega
    refine wp_seq ?_
    refine rg ?_
    refine pl_x HE27 HH28 (wt0 rfl) (x_lss rfl rfl) rfl rfl fun a_29 HE30 => ?_
    refine wpList_nil ?_
    clear a_24 HE25 HH15 a_26 HE27
    refine nrm ?_
    refine wp_seq ?_
    refine cnd_d HE30 rfl (fun hc25 => ?_) (fun hc25 => ?_)
    · refine wp_skip ?_
      refine nrm ?_
      refine wp_seq ?_
      refine wp_block ?_
      refine wp_seq ?_
      refine rg ?_
      refine pl_x HE30 HH28 (wt0 rfl) (x_move rfl) rfl rfl fun a_31 HE32 => ?_
      have ke26 : k < a0.2.2.2.length := by omega
      obtain ⟨be26, fe26, ese26, Ae26, Re26, De26⟩ := el_old gz0_3 ke26
      obtain ⟨e26, xe26⟩ : ∃ x_, x_ = a0.2.2.2[k] := ⟨_, rfl⟩
      rw [← xe26] at Re26
      have Qe26 := Re26
      obtain ⟨Ae26_1, ce26_1, Ae26_2, ce26_2, Ae26_3, ce26_3, rfl, ge26_0, ge26_1, ge26_2, ge26_3, ge26_4⟩ := shape_MultiRule Re26
      have je26_0 := ge26_0; unfold I64 at je26_0
      have le26_1 := ge26_1.len
      have le26_2 := ge26_2.len
      have le26_3 := ge26_3.len
      have je26_4 := ge26_4; unfold I64 at je26_4
      have hre26 := s0 e26 (by rw [xe26]; exact List.getElem_mem _)
      refine pl_x HE32 HH28 (wt0 rfl) (x_indexAddr ts_53 rfl rfl Ae26 rfl ke26) rfl rfl fun a_33 HE34 => ?_
      refine pl_x HE34 HH28 (wt0 rfl) (x_loadN (cs := [.int .i64 (e26.1), .slice Ae26_1 (e26.2.1.length) ce26_1, .slice Ae26_2 (e26.2.2.1.length) ce26_2, .slice Ae26_3 (e26.2.2.2.1.length) ce26_3, .int .i64 (e26.2.2.2.2)]) tv_104 rfl rfl (c_oldN De26)) rfl rfl fun a_35 HE36 => ?_
      refine pl fun K_37 hK38 => ?_
      refine st_alloc HE36 HH28 tv_104 (wt0 rfl) rfl fun q27 a_39 w' HE40 HH41 => hK38 _ _ ?_
      refine pl_x HE40 HH41 (wt0 rfl) (x_assign rfl) rfl rfl fun a_42 HE43 => ?_
      refine pl fun K_44 hK45 => ?_
      refine st_store (vs := [.int .i64 (e26.1), .slice Ae26_1 (e26.2.1.length) ce26_1, .slice Ae26_2 (e26.2.2.1.length) ce26_2, .slice Ae26_3 (e26.2.2.2.1.length) ce26_3, .int .i64 (e26.2.2.2.2)]) 0 HE43 HH41 tv_104 rfl rfl rfl rfl rfl rfl (by simp [Value.oneCell']) (wt0 rfl) fun w' HH46 => hK45 _ _ ?_
      refine wpList_nil ?_
      clear a_29 HE30 a_31 HE32 a_33 HE34 a_35 HE36 HH28 a_39 HE40 K_37 hK38 HH41 hK45 K_44
      refine nrm ?_
      refine wp_seq ?_
      refine rg ?_
      refine pl_x HE43 HH46 (wt0 rfl) (x_fieldAddr fa_104_0 rfl) rfl rfl fun a_47 HE48 => ?_
      refine pl_x HE48 HH46 (wt0 rfl) (x_load1 tv_2 rfl (c_blk 0 rfl rfl)) rfl rfl fun a_49 HE50 => ?_
      refine pl_x HE50 HH46 (wt0 rfl) (x_buildR rfl) rfl rfl fun a_51 HE52 => ?_
      refine pl fun K_53 hK54 => ?_
      refine st_alloc HE52 HH46 tv_137 (wt0 rfl) rfl fun q28 a_55 w' HE56 HH57 => hK54 _ _ ?_
      refine pl fun K_58 hK59 => ?_
      refine st_store (vs := [.int .i64 (e26.1), .int .i64 (0), .int .i64 (0), .int .i64 (0)]) 0 HE56 HH57 tv_137 rfl rfl rfl rfl rfl rfl (by simp [Value.oneCell']) (wt0 rfl) fun w' HH60 => hK59 _ _ ?_
      refine wpList_nil ?_
      clear a_42 HE43 a_47 HE48 a_49 HE50 a_51 HE52 HH46 K_53 hK54 HH57 hK59 K_58
      refine nrm ?_
      refine wp_seq ?_
      refine dr_start (Held Nob w [rBlk q27 104 [.int .i64 (e26.1), .slice Ae26_1 (e26.2.1.length) ce26_1, .slice Ae26_2 (e26.2.2.1.length) ce26_2, .slice Ae26_3 (e26.2.2.2.1.length) ce26_3, .int .i64 (e26.2.2.2.2)], rMap q22 ((a0.2.2.2.take k).map ruleK), rBlk q21 55 [.int .i64 (a0.1), .int .i64 (a0.2.1), .int .i64 (a0.2.2.1), .slice Az0_3 (a0.2.2.2.length) cz0_3]]) 5 #[false, false, false, false, false] hmix rfl rfl HH60 (fun _ h => h.sel [1, 2, 3] (by decide) rfl) fun w' HH61 => ?_
      have HS62 := HH61.sel [1, 2, 3] (by decide) rfl
      refine dr_take (i := 0) (ls' := #[true, false, false, false, false]) HE56 HS62 rfl (by kernel_rfl) (by kernel_rfl) (by kernel_rfl) (fun _ _ _ h => h) rfl (wt0 rfl) (x_fieldAddr fa_137_1 rfl) rfl rfl fun a_63 HE64 => ?_
      refine dr_take (i := 1) (ls' := #[true, true, false, false, false]) HE64 HS62 rfl (by kernel_rfl) (by kernel_rfl) (by kernel_rfl) (fun _ _ _ h => h) rfl (wt0 rfl) (x_sliceArr Try.underlying135 tv_2 rfl) rfl rfl fun a_65 HE66 => ?_
      refine dr_take (i := 2) (ls' := #[true, true, true, false, false]) HE66 HS62 rfl (by kernel_rfl) (by kernel_rfl) (by kernel_rfl) (fun _ _ _ h => h) rfl (wt0 rfl) (x_fieldAddr fa_104_1 rfl) rfl rfl fun a_67 HE68 => ?_
      refine dr_take (i := 3) (ls' := #[true, true, true, true, false]) HE68 HS62 rfl (by kernel_rfl) (by kernel_rfl) (by kernel_rfl) (fun _ _ _ h => h) rfl (wt0 rfl) (x_load1 tv_37 rfl (c_blk 0 rfl rfl)) rfl rfl fun a_69 HE70 => ?_
      refine dr_one (i := 4) (ls' := #[true, true, true, true, true]) rfl (by kernel_rfl) rfl fun K_71 hK72 => ?_
      refine st_copyA (ys := e26.2.1) 0 HE70 HH61 ts_37 rfl rfl rfl (by first | rfl | omega) (HH61.old ge26_1) (by omega) (wt0 rfl) rfl fun a_73 w' HE74 HH75 hI29 => hK72 _ _ (by exact HH75.sel [1, 2, 3] (by decide) rfl) ?_
      have HS76 := HH75.sel [1, 2, 3] (by decide) rfl
      refine dr_done (by kernel_rfl) ?_
      clear HH60 a_55 HE56 a_63 HE64 a_65 HE66 a_67 HE68 a_69 HE70 HH61 HS62 hK72 K_71
      refine nrm ?_
      refine rg ?_
      refine pl_x HE74 HH75 (wt0 rfl) (x_move rfl) rfl rfl fun a_77 HE78 => ?_
      refine pl_x HE78 HH75 (wt0 rfl) (x_loadN (cs := [.int .i64 (e26.1), .int .i64 ((e26.2.1[0]?.getD 0)), .int .i64 ((e26.2.1[1]?.getD 0)), .int .i64 ((e26.2.1[2]?.getD 0))]) tv_137 rfl rfl (c_blkN 0 rfl)) rfl rfl fun a_79 HE80 => ?_
      refine pl_x HE80 HH75 (wt0 rfl) (x_move rfl) rfl rfl fun a_81 HE82 => ?_
      refine pl fun K_83 hK84 => ?_
      refine st_mapUpdate (k := (e26.1, (e26.2.1[0]?.getD 0), (e26.2.1[1]?.getD 0), (e26.2.1[2]?.getD 0))) 2 HE82 HH75 rfl rfl rfl rfl ⟨⟨by omega, by omega⟩, hI29 0, hI29 1, hI29 2⟩ (by exact ⟨by omega, by omega⟩) (by unfold maxLen; omega) (wt0 rfl) fun w' HH85 => hK84 _ _ ?_
      refine wpList_nil ?_
      clear a_73 HE74 a_77 HE78 a_79 HE80 HH75 hK84 K_83
      refine blk_n ?_
      refine nrm ?_
      refine rg ?_
      refine pl_x HE82 HH85 (wt0 rfl) (x_add rfl rfl (by exact ⟨by omega, by omega⟩)) rfl rfl fun a_86 HE87 => ?_
      refine pl_x HE87 HH85 (wt0 rfl) (x_move rfl) rfl rfl fun a_88 HE89 => ?_
      refine wpList_nil ?_
      clear a_81 HE82 a_86 HE87
      have E30 : (a0.2.2.2.take (k + 1)).map ruleK = ((a0.2.2.2.take k).map ruleK ++ [(e26.1, (e26.2.1[0]?.getD 0), (e26.2.1[1]?.getD 0), (e26.2.1[2]?.getD 0))]) := by rw [List.take_succ_eq_append_getElem (by omega), List.map_append, ← xe26]; rfl
      exact nrm ⟨a0.2.2.2.length - (k + 1), (by omega), k + 1, rfl, HE89.sub ⟨(lkI rfl (by first | rfl | omega | (simp [p24_0, hc25, xe26]; done))), rfl, rfl, rfl, trivial⟩, ((HH85.sel [2, 3] (by decide) rfl).to (by first | rfl | (rw [E30]; done) | (rw [E30]; rfl) | (simp only [E30]; done) | (simp only [E30]; rfl) | (rw [E30]; simp only [List.length_set]; done))), (by first | omega | assumption | (simp; done) | simp_all)⟩
    · refine wp_exit ?_
      refine (thn_exit (thn_exit (blk_hit ?_)))
      refine nrm ?_
      refine wp_seq ?_
      refine rg ?_
      refine pl_x HE30 HH28 (wt0 rfl) (x_move rfl) rfl rfl fun a_90 HE91 => ?_
      refine pl_x HE91 HH28 (wt0 rfl) (x_assign rfl) rfl rfl fun a_92 HE93 => ?_
      refine wpList_nil ?_
      clear a_29 HE30 a_90 HE91
      refine nrm ?_
      refine wp_ret ?_
      refine ret1 HE93 rfl (rv_tmp rfl) ?_
      have hF : (a0.2.2.2.map ruleK) = (a0.2.2.2.take k).map ruleK := by
        rw [List.take_of_length_le (by omega)]
      exact ⟨_, by first | (rw [hF] <;> rfl) | rfl | (rw [hF]; simp only [Ending.returned.injEq, Value.slice.injEq, true_and, and_true]; first | omega | (simp; done)) | (rw [hF]; simp; omega), by rw [hF]; exact HH28.sel [0] (by decide) rfl⟩

end Go.Proofs.Ythfihlfjphiihaa
