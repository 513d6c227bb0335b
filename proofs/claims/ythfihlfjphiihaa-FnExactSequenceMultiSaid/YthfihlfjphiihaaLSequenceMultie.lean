/- What the proof of FnExactSequenceMulti needs: contracts of the functions that it reaches, each once. -/
import Derived.Test.YthfihlfjphiihaaProg
import Derived.Test.YthfihlfjphiihaaQMem
import Derived.Test.YthfihlfjphiihaaQOpen
import Derived.Test.YthfihlfjphiihaaLSequenceMultia
import Derived.Test.YthfihlfjphiihaaLSequenceMultib
import Derived.Test.YthfihlfjphiihaaLSequenceMultic
import Derived.Test.YthfihlfjphiihaaLSequenceMultid
import Derived.WalkKit
import Derived.WalkSpells
import Derived.Below
import Derived.LoopTactic
import Derived.Outline
import Derived.Deep.QuietTactic
import Derived.BigQuiet
import Derived.Deep.LoopGhost
import Derived.Handy
import Derived.Lib.Hide
import Derived.Shelf.Abstract
import Derived.StillTailTactics
import Derived.OwnWalk
import Derived.Maps.AppendAt
import Derived.RegionTactic
import Derived.Deep.RegionHeld3
import Derived.IntWalk
import Derived.Deep.Upon
import Derived.Laws.OwnMore
import Derived.Maps.AppendAt
import Derived.Laws.Small
import Derived.Lib.FrozenHead
import Derived.Lib.RuneBytes
import Derived.Lib.LaidTab
import Derived.Laws.StructEq
import Derived.Maps.OwnSet
import Derived.DeepKeys4
import Derived.Lib.SliceRun
import Derived.Lib.AppendZeros
import Derived.Shelf.SortG.Plain
import Derived.Shelf.SortG.SortNone
import Derived.Shelf.SlicesG.CompactI
import Derived.Shelf.SlicesG.SearchI
import Derived.Sort.OwnSortedInts
import Derived.Lib.RowBridge
import Derived.Lib.ItoaLen
import Derived.Lib.Join
import Derived.Shelf.Strconv.Itoa4
import Derived.Shelf.Strings.OnBuilder
import Derived.Shelf.Strings.BuilderK
import Derived.Shelf.Strings.BuilderRune
import Derived.Shelf.LaysM
import Derived.Ground.NamesProg
import Derived.Shelf.SlSortCmp.WholeK
import Derived.Shelf.SlSortCmp.NoneTotal
namespace Go.Proofs.Ythfihlfjphiihaa
open Go.RowKit

set_option maxRecDepth 100000 in
set_option maxHeartbeats 4000000 in
theorem spec_l06Is (p0 o0 : Nat) (es0 : List Value) (a0 : tMulti) (w : World) (h0 : eMulti.R w (Old w) es0 a0) (hq0 : ∀ j v, es0[j]? = some v → w.cell? ⟨p0, o0 + j, none⟩ = some v) :
    Calls Try.prog 60 #[.pointer (some ⟨p0, o0, none⟩)] w fun e w' => e = .returned (.bool (validMulti a0)) ∧ Below w.heap.size w w' := by
  have H0 := h0
  obtain ⟨Az0_3, cz0_3, rfl, gz0_0, gz0_1, gz0_2, gz0_3⟩ := shape_Multi h0
  have jz0_0 := gz0_0; unfold I64 at jz0_0
  have jz0_1 := gz0_1; unfold I64 at jz0_1
  have jz0_2 := gz0_2; unfold I64 at jz0_2
  have lz0_3 := gz0_3.len
  have HH1 := Held.start Nob w
  refine enter (n := 132) Try.func60 rfl rfl rfl fun a_2 HE3 => ?_
  refine wp_seq ?_
  refine rg ?_
  refine pl_x HE3 HH1 (wt0 rfl) (x_assign rfl) rfl rfl fun a_4 HE5 => ?_
  refine wpList_nil ?_
  clear a_2 HE3
  refine nrm ?_
  refine wp_seq ?_
  refine wp_seq ?_
  refine rg ?_
  refine pl_x HE5 HH1 (wt0 rfl) (x_move rfl) rfl rfl fun a_6 HE7 => ?_
  refine pl_x HE7 HH1 (wt0 rfl) (x_nilCheck rfl) rfl rfl fun a_8 HE9 => ?_
  refine pl_x HE9 HH1 (wt0 rfl) (x_fieldAddr fa_55_0 rfl) rfl rfl fun a_10 HE11 => ?_
  refine pl_x HE11 HH1 (wt0 rfl) (x_load1 tv_2 rfl (c_old (hq0 0 _ rfl))) rfl rfl fun a_12 HE13 => ?_
  refine pl fun K_14 hK15 => ?_
  refine st_call HE13 (wt0 rfl) rfl rfl rfl en_61 rfl rfl (spec_l00In a0.1 2 3 _ ) fun e w' hr => ?_
  obtain ⟨rfl, rfl⟩ := hr
  refine ⟨_, rfl, fun a_16 HE17 => hK15 _ _ ?_⟩
  refine pl_x HE17 HH1 (wt0 rfl) (x_not rfl) rfl rfl fun a_18 HE19 => ?_
  refine pl_x HE19 HH1 (wt0 rfl) (x_move rfl) rfl rfl fun a_20 HE21 => ?_
  rcases Bool.eq_false_or_eq_true ((withinB a0.1 2 3)) with hc22 | hc22
  · refine pl_x HE21 HH1 (wtT HE21 rfl rfl rfl (not_f hc22)) (x_move rfl) rfl rfl fun a_22 HE23 => ?_
    refine pl_x HE23 HH1 (wtT HE23 rfl rfl rfl (not_f hc22)) (x_nilCheck rfl) rfl rfl fun a_24 HE25 => ?_
    refine pl_x HE25 HH1 (wtT HE25 rfl rfl rfl (not_f hc22)) (x_fieldAddr fa_55_1 rfl) rfl rfl fun a_26 HE27 => ?_
    refine pl_x HE27 HH1 (wtT HE27 rfl rfl rfl (not_f hc22)) (x_load1 tv_2 rfl (c_old (hq0 1 _ rfl))) rfl rfl fun a_28 HE29 => ?_
    refine pl fun K_30 hK31 => ?_
    refine st_call HE29 (wtT HE29 rfl rfl rfl (not_f hc22)) rfl rfl rfl en_61 rfl rfl (spec_l00In a0.2.1 2 3 _ ) fun e w' hr => ?_
    obtain ⟨rfl, rfl⟩ := hr
    refine ⟨_, rfl, fun a_32 HE33 => hK31 _ _ ?_⟩
    refine pl_x HE33 HH1 (wtT HE33 rfl rfl rfl (not_f hc22)) (x_not rfl) rfl rfl fun a_34 HE35 => ?_
    refine pl_x HE35 HH1 (wt0 rfl) (x_pickF rfl (not_f hc22) rfl) rfl rfl fun a_36 HE37 => ?_
    refine pl_x HE37 HH1 (wt0 rfl) (x_move rfl) rfl rfl fun a_38 HE39 => ?_
    rcases Bool.eq_false_or_eq_true ((withinB a0.2.1 2 3)) with hc24 | hc24
    · have v1 := withinB_true.1 hc24
      refine pl_x HE39 HH1 (wtT HE39 rfl rfl rfl (not_f hc24)) (x_move rfl) rfl rfl fun a_40 HE41 => ?_
      refine pl_x HE41 HH1 (wtT HE41 rfl rfl rfl (not_f hc24)) (x_nilCheck rfl) rfl rfl fun a_42 HE43 => ?_
      refine pl_x HE43 HH1 (wtT HE43 rfl rfl rfl (not_f hc24)) (x_fieldAddr fa_55_2 rfl) rfl rfl fun a_44 HE45 => ?_
      refine pl_x HE45 HH1 (wtT HE45 rfl rfl rfl (not_f hc24)) (x_load1 tv_2 rfl (c_old (hq0 2 _ rfl))) rfl rfl fun a_46 HE47 => ?_
      refine pl fun K_48 hK49 => ?_
      refine st_call HE47 (wtT HE47 rfl rfl rfl (not_f hc24)) rfl rfl rfl en_61 rfl rfl (spec_l00In a0.2.2.1 1 16 _ ) fun e w' hr => ?_
      obtain ⟨rfl, rfl⟩ := hr
      refine ⟨_, rfl, fun a_50 HE51 => hK49 _ _ ?_⟩
      refine pl_x HE51 HH1 (wtT HE51 rfl rfl rfl (not_f hc24)) (x_not rfl) rfl rfl fun a_52 HE53 => ?_
      refine pl_x HE53 HH1 (wt0 rfl) (x_pickF rfl (not_f hc24) rfl) rfl rfl fun a_54 HE55 => ?_
      refine pl_x HE55 HH1 (wt0 rfl) (x_move rfl) rfl rfl fun a_56 HE57 => ?_
      rcases Bool.eq_false_or_eq_true ((withinB a0.2.2.1 1 16)) with hc26 | hc26
      · have v2 := withinB_true.1 hc26
        refine pl_x HE57 HH1 (wtT HE57 rfl rfl rfl (not_f hc26)) (x_move rfl) rfl rfl fun a_58 HE59 => ?_
        refine pl_x HE59 HH1 (wtT HE59 rfl rfl rfl (not_f hc26)) (x_nilCheck rfl) rfl rfl fun a_60 HE61 => ?_
        refine pl_x HE61 HH1 (wtT HE61 rfl rfl rfl (not_f hc26)) (x_fieldAddr fa_55_3 rfl) rfl rfl fun a_62 HE63 => ?_
        refine pl_x HE63 HH1 (wtT HE63 rfl rfl rfl (not_f hc26)) (x_load1 tv_53 rfl (c_old (hq0 3 _ rfl))) rfl rfl fun a_64 HE65 => ?_
        refine pl_x HE65 HH1 (wtT HE65 rfl rfl rfl (not_f hc26)) (x_len Try.underlying53 rfl) rfl rfl fun a_66 HE67 => ?_
        refine pl_x HE67 HH1 (wtT HE67 rfl rfl rfl (not_f hc26)) (x_gtr rfl rfl) rfl rfl fun a_68 HE69 => ?_
        refine pl_x HE69 HH1 (wt0 rfl) (x_pickF rfl (not_f hc26) rfl) rfl rfl fun a_70 HE71 => ?_
        refine wpList_nil ?_
        clear a_4 HE5 a_6 HE7 a_8 HE9 a_10 HE11 a_12 HE13 a_16 HE17 a_18 HE19 a_20 HE21 a_22 HE23 a_24 HE25 a_26 HE27 K_14 hK15 a_28 HE29 a_32 HE33 a_34 HE35 a_36 HE37 a_38 HE39 a_40 HE41 a_42 HE43 a_44 HE45 K_30 hK31 a_46 HE47 a_50 HE51 a_52 HE53 a_54 HE55 a_56 HE57 a_58 HE59 a_60 HE61 a_62 HE63 a_64 HE65 a_66 HE67 a_68 HE69 hK49 K_48
        refine nrm ?_
        refine cnd_d HE71 rfl (fun hc27 => ?_) (fun hc27 => ?_)
        · refine wp_seq ?_
          refine rg ?_
          refine pl_x HE71 HH1 (wt0 rfl) (x_assign rfl) rfl rfl fun a_72 HE73 => ?_
          refine wpList_nil ?_
          clear a_70 HE71
          refine nrm ?_
          refine wp_ret ?_
          refine (thn_ret ?_)
          refine ret1 HE73 rfl (rv_tmp rfl) ?_
          have hF : (validMulti a0) = false := by
            first | (simp [validMulti, hc22, hc24, hc26, hc27]; done) | (unfold validMulti; rw [decide_eq_false (by omega)]; simp) | (unfold validMulti; rw [rg_hit (by omega : k < a0.2.2.2.length) (by unfold badMR; grind [beforeMR, validMR, rowB])]; simp) | (have hq := p0_1; rw [show k = a0.2.2.2.length from by omega] at hq; unfold validMulti; rw [hq, decide_eq_true (by omega)]; simp [hc22, hc24, hc26, hc27])
          exact ⟨by first | (rw [hF] <;> rfl) | rfl | (rw [hF]; simp only [Ending.returned.injEq, Value.slice.injEq, true_and, and_true]; first | omega | (simp; done)) | (rw [hF]; simp; omega), HH1.below⟩
        · refine wp_skip ?_
          refine nrm ?_
          refine wp_seq ?_
          refine wp_seq ?_
          refine rg ?_
          refine pl_x HE71 HH1 (wt0 rfl) (x_assign rfl) rfl rfl fun a_74 HE75 => ?_
          refine wpList_nil ?_
          clear a_70 HE71
          refine nrm ?_
          refine wp_block ?_
          refine lp (fun m a w' => ∃ (k : Nat), m = a0.2.2.2.length - k ∧ Env 132 [(3, .int .i64 (k : Int)), (0, .pointer (some ⟨p0, o0, none⟩))] a ∧ Held Nob w [] w' ∧ (k ≤ a0.2.2.2.length) ∧ ((List.range k).any (badMR a0) = false)) (a0.2.2.2.length - (0)) ?_ ?_
          · exact ⟨0, rfl, HE75.sub ⟨(lkI rfl (by first | rfl | omega | (simp [hc22, hc24, hc26, hc27]; done))), rfl, trivial⟩, (HH1.sel [] (by decide) rfl), (by first | omega | assumption | (simp; done) | simp_all), (by rfl)⟩
          · rintro m a_76 w' ⟨k, rfl, HE77, HH78, p28_0, p28_1⟩
            refine wp_seq ?_
            refine wp_seq ?_
            refine rg ?_
            refine pl_x HE77 HH78 (wt0 rfl) (x_move rfl) rfl rfl fun a_79 HE80 => ?_
            refine pl_x HE80 HH78 (wt0 rfl) (x_move rfl) rfl rfl fun a_81 HE82 => ?_
            refine pl_x HE82 HH78 (wt0 rfl) (x_nilCheck rfl) rfl rfl fun a_83 HE84 => ?_
            refine pl_x HE84 HH78 (wt0 rfl) (x_fieldAddr fa_55_3 rfl) rfl rfl fun a_85 HE86 => ?_
            refine pl_x HE86 HH78 (wt0 rfl) (x_load1 tv_53 rfl (c_old (hq0 3 _ rfl))) rfl rfl fun a_87 HE88 => ?_
            refine pl_x HE88 HH78 (wt0 rfl) (x_len Try.underlying53 rfl) rfl rfl fun a_89 HE90 => ?_
            refine pl_x HE90 HH78 (wt0 rfl) (x_lss rfl rfl) rfl rfl fun a_91 HE92 => ?_
            refine wpList_nil ?_
            clear a_74 HE75 HH1 a_76 HE77 a_79 HE80 a_81 HE82 a_83 HE84 a_85 HE86 a_87 HE88 a_89 HE90
            refine nrm ?_
            refine cnd_d HE92 rfl (fun hc29 => ?_) (fun hc29 => ?_)
            · refine wp_skip ?_
              refine nrm ?_
              refine wp_seq ?_
              refine wp_block ?_
              refine wp_seq ?_
              refine rg ?_
              refine pl_x HE92 HH78 (wt0 rfl) (x_move rfl) rfl rfl fun a_93 HE94 => ?_
              refine pl_x HE94 HH78 (wt0 rfl) (x_nilCheck rfl) rfl rfl fun a_95 HE96 => ?_
              refine pl_x HE96 HH78 (wt0 rfl) (x_fieldAddr fa_55_3 rfl) rfl rfl fun a_97 HE98 => ?_
              refine pl_x HE98 HH78 (wt0 rfl) (x_load1 tv_53 rfl (c_old (hq0 3 _ rfl))) rfl rfl fun a_99 HE100 => ?_
              refine pl_x HE100 HH78 (wt0 rfl) (x_move rfl) rfl rfl fun a_101 HE102 => ?_
              have ke30 : k < a0.2.2.2.length := by omega
              obtain ⟨be30, fe30, ese30, Ae30, Re30, De30⟩ := el_old gz0_3 ke30
              obtain ⟨e30, xe30⟩ : ∃ x_, x_ = a0.2.2.2[k] := ⟨_, rfl⟩
              rw [← xe30] at Re30
              have Qe30 := Re30
              obtain ⟨Ae30_1, ce30_1, Ae30_2, ce30_2, Ae30_3, ce30_3, rfl, ge30_0, ge30_1, ge30_2, ge30_3, ge30_4⟩ := shape_MultiRule Re30
              have je30_0 := ge30_0; unfold I64 at je30_0
              have le30_1 := ge30_1.len
              have le30_2 := ge30_2.len
              have le30_3 := ge30_3.len
              have je30_4 := ge30_4; unfold I64 at je30_4
              have ge30 : a0.2.2.2[k]?.getD default = e30 := by rw [List.getElem?_eq_getElem ke30, xe30]; rfl
              refine pl_x HE102 HH78 (wt0 rfl) (x_indexAddr ts_53 rfl rfl Ae30 rfl ke30) rfl rfl fun a_103 HE104 => ?_
              refine pl_x HE104 HH78 (wt0 rfl) (x_assign rfl) rfl rfl fun a_105 HE106 => ?_
              refine wpList_nil ?_
              clear a_91 HE92 a_93 HE94 a_95 HE96 a_97 HE98 a_99 HE100 a_101 HE102 a_103 HE104
              refine nrm ?_
              refine wp_seq ?_
              refine wp_seq ?_
              refine dr_start (Held Nob w []) 24 #[false, false, false, false, false, false, false, false, false, false, false, false, false, false, false, false, false, false, false, false, false, false, false, false] hmix rfl rfl HH78 (fun _ h => h.sel [] (by decide) rfl) fun w' HH107 => ?_
              have HS108 := HH107
              refine dr_take (i := 0) (ls' := #[true, false, false, false, false, false, false, false, false, false, false, false, false, false, false, false, false, false, false, false, false, false, false, false]) HE106 HS108 rfl (by kernel_rfl) (by kernel_rfl) (by kernel_rfl) (fun _ _ _ h => h) rfl (wt0 rfl) (x_move rfl) rfl rfl fun a_109 HE110 => ?_
              refine dr_take (i := 1) (ls' := #[true, true, false, false, false, false, false, false, false, false, false, false, false, false, false, false, false, false, false, false, false, false, false, false]) HE110 HS108 rfl (by kernel_rfl) (by kernel_rfl) (by kernel_rfl) (fun _ _ _ h => h) rfl (wt0 rfl) (x_nilCheck rfl) rfl rfl fun a_111 HE112 => ?_
              refine dr_take (i := 2) (ls' := #[true, true, true, false, false, false, false, false, false, false, false, false, false, false, false, false, false, false, false, false, false, false, false, false]) HE112 HS108 rfl (by kernel_rfl) (by kernel_rfl) (by kernel_rfl) (fun _ _ _ h => h) rfl (wt0 rfl) (x_fieldAddr fa_104_0 rfl) rfl rfl fun a_113 HE114 => ?_
              refine dr_take (i := 3) (ls' := #[true, true, true, true, false, false, false, false, false, false, false, false, false, false, false, false, false, false, false, false, false, false, false, false]) HE114 HS108 rfl (by kernel_rfl) (by kernel_rfl) (by kernel_rfl) (fun _ _ _ h => h) rfl (wt0 rfl) (x_load1 tv_2 rfl (c_old (De30 0 _ rfl))) rfl rfl fun a_115 HE116 => ?_
              refine dr_take (i := 4) (ls' := #[true, true, true, true, true, false, false, false, false, false, false, false, false, false, false, false, false, false, false, false, false, false, false, false]) HE116 HS108 rfl (by kernel_rfl) (by kernel_rfl) (by kernel_rfl) (fun _ _ _ h => h) rfl (wt0 rfl) (x_move rfl) rfl rfl fun a_117 HE118 => ?_
              refine dr_take (i := 5) (ls' := #[true, true, true, true, true, true, false, false, false, false, false, false, false, false, false, false, false, false, false, false, false, false, false, false]) HE118 HS108 rfl (by kernel_rfl) (by kernel_rfl) (by kernel_rfl) (fun _ _ _ h => h) rfl (wt0 rfl) (x_nilCheck rfl) rfl rfl fun a_119 HE120 => ?_
              refine dr_take (i := 6) (ls' := #[true, true, true, true, true, true, true, false, false, false, false, false, false, false, false, false, false, false, false, false, false, false, false, false]) HE120 HS108 rfl (by kernel_rfl) (by kernel_rfl) (by kernel_rfl) (fun _ _ _ h => h) rfl (wt0 rfl) (x_fieldAddr fa_55_2 rfl) rfl rfl fun a_121 HE122 => ?_
              refine dr_take (i := 7) (ls' := #[true, true, true, true, true, true, true, true, false, false, false, false, false, false, false, false, false, false, false, false, false, false, false, false]) HE122 HS108 rfl (by kernel_rfl) (by kernel_rfl) (by kernel_rfl) (fun _ _ _ h => h) rfl (wt0 rfl) (x_load1 tv_2 rfl (c_old (hq0 2 _ rfl))) rfl rfl fun a_123 HE124 => ?_
              refine dr_take (i := 8) (ls' := #[true, true, true, true, true, true, true, true, true, false, false, false, false, false, false, false, false, false, false, false, false, false, false, false]) HE124 HS108 rfl (by kernel_rfl) (by kernel_rfl) (by kernel_rfl) (fun _ _ _ h => h) rfl (wt0 rfl) (x_sub rfl rfl (by exact ⟨by omega, by omega⟩)) rfl rfl fun a_125 HE126 => ?_
              refine dr_one (i := 9) (ls' := #[true, true, true, true, true, true, true, true, true, true, false, false, false, false, false, false, false, false, false, false, false, false, false, false]) rfl (by kernel_rfl) rfl fun K_127 hK128 => ?_
              refine st_call HE126 (wt0 rfl) rfl rfl rfl en_61 rfl rfl (spec_l00In e30.1 0 (a0.2.2.1 - 1) _ ) fun e w' hr => ?_
              obtain ⟨rfl, rfl⟩ := hr
              refine ⟨_, rfl, fun a_129 HE130 => hK128 _ _ (by exact HH107.sel [] (by decide) rfl) ?_⟩
              have HS131 := HH107.sel [] (by decide) rfl
              refine dr_take (i := 10) (ls' := #[true, true, true, true, true, true, true, true, true, true, true, false, false, false, false, false, false, false, false, false, false, false, false, false]) HE130 HS131 rfl (by kernel_rfl) (by kernel_rfl) (by kernel_rfl) (fun _ _ _ h => h) rfl (wt0 rfl) (x_not rfl) rfl rfl fun a_132 HE133 => ?_
              refine dr_take (i := 11) (ls' := #[true, true, true, true, true, true, true, true, true, true, true, true, false, false, false, false, false, false, false, false, false, false, false, false]) HE133 HS131 rfl (by kernel_rfl) (by kernel_rfl) (by kernel_rfl) (fun _ _ _ h => h) rfl (wt0 rfl) (x_move rfl) rfl rfl fun a_134 HE135 => ?_
              rcases Bool.eq_false_or_eq_true ((withinB e30.1 0 (a0.2.2.1 - 1))) with hc32 | hc32
              · refine dr_take (i := 12) (ls' := #[true, true, true, true, true, true, true, true, true, true, true, true, true, false, false, false, false, false, false, false, false, false, false, false]) HE135 HS131 rfl (by kernel_rfl) (by kernel_rfl) (by kernel_rfl) (fun _ _ _ h => h) rfl (wtT HE135 rfl rfl rfl (not_f hc32)) (x_move rfl) rfl rfl fun a_136 HE137 => ?_
                refine dr_take (i := 13) (ls' := #[true, true, true, true, true, true, true, true, true, true, true, true, true, true, false, false, false, false, false, false, false, false, false, false]) HE137 HS131 rfl (by kernel_rfl) (by kernel_rfl) (by kernel_rfl) (fun _ _ _ h => h) rfl (wtT HE137 rfl rfl rfl (not_f hc32)) (x_nilCheck rfl) rfl rfl fun a_138 HE139 => ?_
                refine dr_take (i := 14) (ls' := #[true, true, true, true, true, true, true, true, true, true, true, true, true, true, true, false, false, false, false, false, false, false, false, false]) HE139 HS131 rfl (by kernel_rfl) (by kernel_rfl) (by kernel_rfl) (fun _ _ _ h => h) rfl (wtT HE139 rfl rfl rfl (not_f hc32)) (x_fieldAddr fa_104_4 rfl) rfl rfl fun a_140 HE141 => ?_
                refine dr_take (i := 15) (ls' := #[true, true, true, true, true, true, true, true, true, true, true, true, true, true, true, true, false, false, false, false, false, false, false, false]) HE141 HS131 rfl (by kernel_rfl) (by kernel_rfl) (by kernel_rfl) (fun _ _ _ h => h) rfl (wtT HE141 rfl rfl rfl (not_f hc32)) (x_load1 tv_2 rfl (c_old (De30 4 _ rfl))) rfl rfl fun a_142 HE143 => ?_
                refine dr_take (i := 16) (ls' := #[true, true, true, true, true, true, true, true, true, true, true, true, true, true, true, true, true, false, false, false, false, false, false, false]) HE143 HS131 rfl (by kernel_rfl) (by kernel_rfl) (by kernel_rfl) (fun _ _ _ h => h) rfl (wtT HE143 rfl rfl rfl (not_f hc32)) (x_move rfl) rfl rfl fun a_144 HE145 => ?_
                refine dr_take (i := 17) (ls' := #[true, true, true, true, true, true, true, true, true, true, true, true, true, true, true, true, true, true, false, false, false, false, false, false]) HE145 HS131 rfl (by kernel_rfl) (by kernel_rfl) (by kernel_rfl) (fun _ _ _ h => h) rfl (wtT HE145 rfl rfl rfl (not_f hc32)) (x_nilCheck rfl) rfl rfl fun a_146 HE147 => ?_
                refine dr_take (i := 18) (ls' := #[true, true, true, true, true, true, true, true, true, true, true, true, true, true, true, true, true, true, true, false, false, false, false, false]) HE147 HS131 rfl (by kernel_rfl) (by kernel_rfl) (by kernel_rfl) (fun _ _ _ h => h) rfl (wtT HE147 rfl rfl rfl (not_f hc32)) (x_fieldAddr fa_55_2 rfl) rfl rfl fun a_148 HE149 => ?_
                refine dr_take (i := 19) (ls' := #[true, true, true, true, true, true, true, true, true, true, true, true, true, true, true, true, true, true, true, true, false, false, false, false]) HE149 HS131 rfl (by kernel_rfl) (by kernel_rfl) (by kernel_rfl) (fun _ _ _ h => h) rfl (wtT HE149 rfl rfl rfl (not_f hc32)) (x_load1 tv_2 rfl (c_old (hq0 2 _ rfl))) rfl rfl fun a_150 HE151 => ?_
                refine dr_take (i := 20) (ls' := #[true, true, true, true, true, true, true, true, true, true, true, true, true, true, true, true, true, true, true, true, true, false, false, false]) HE151 HS131 rfl (by kernel_rfl) (by kernel_rfl) (by kernel_rfl) (fun _ _ _ h => h) rfl (wtT HE151 rfl rfl rfl (not_f hc32)) (x_sub rfl rfl (by exact ⟨by omega, by omega⟩)) rfl rfl fun a_152 HE153 => ?_
                refine dr_one (i := 21) (ls' := #[true, true, true, true, true, true, true, true, true, true, true, true, true, true, true, true, true, true, true, true, true, true, false, false]) rfl (by kernel_rfl) rfl fun K_154 hK155 => ?_
                refine st_call HE153 (wtT HE153 rfl rfl rfl (not_f hc32)) rfl rfl rfl en_61 rfl rfl (spec_l00In e30.2.2.2.2 0 (a0.2.2.1 - 1) _ ) fun e w' hr => ?_
                obtain ⟨rfl, rfl⟩ := hr
                refine ⟨_, rfl, fun a_156 HE157 => hK155 _ _ (by exact HH107.sel [] (by decide) rfl) ?_⟩
                have HS158 := HH107.sel [] (by decide) rfl
                refine dr_take (i := 22) (ls' := #[true, true, true, true, true, true, true, true, true, true, true, true, true, true, true, true, true, true, true, true, true, true, true, false]) HE157 HS158 rfl (by kernel_rfl) (by kernel_rfl) (by kernel_rfl) (fun _ _ _ h => h) rfl (wtT HE157 rfl rfl rfl (not_f hc32)) (x_not rfl) rfl rfl fun a_159 HE160 => ?_
                refine dr_take (i := 23) (ls' := #[true, true, true, true, true, true, true, true, true, true, true, true, true, true, true, true, true, true, true, true, true, true, true, true]) HE160 HS158 rfl (by kernel_rfl) (by kernel_rfl) (by kernel_rfl) (fun _ _ _ h => h) rfl (wt0 rfl) (x_pickF rfl (not_f hc32) rfl) rfl rfl fun a_161 HE162 => ?_
                refine dr_done (by kernel_rfl) ?_
                clear HH78 a_105 HE106 a_109 HE110 a_111 HE112 a_113 HE114 a_115 HE116 a_117 HE118 a_119 HE120 a_121 HE122 a_123 HE124 a_125 HE126 HS108 a_129 HE130 a_132 HE133 a_134 HE135 a_136 HE137 a_138 HE139 a_140 HE141 a_142 HE143 a_144 HE145 a_146 HE147 a_148 HE149 a_150 HE151 K_127 hK128 a_152 HE153 HS131 a_156 HE157 a_159 HE160 hK155 K_154
                refine nrm ?_
                refine cnd_nb HE162 rfl (fun hc34 => ?_) (fun hc34 => ?_)
                · refine wp_seq ?_
                  refine rg ?_
                  refine pl_x HE162 HH107 (wt0 rfl) (x_assign rfl) rfl rfl fun a_163 HE164 => ?_
                  refine wpList_nil ?_
                  clear a_161 HE162
                  refine nrm ?_
                  refine wp_ret ?_
                  refine (thn_ret (blk_ret (thn_ret (thn_ret (blk_ret (thn_ret ?_))))))
                  refine ret1 HE164 rfl (rv_tmp rfl) ?_
                  have hF : (validMulti a0) = false := by
                    first | (simp [validMulti, hc22, hc24, hc26, hc27, p28_0, p28_1, hc29, xe30, hc32, hc34]; done) | (unfold validMulti; rw [decide_eq_false (by omega)]; simp) | (unfold validMulti; rw [rg_hit (by omega : k < a0.2.2.2.length) (by unfold badMR; grind [beforeMR, validMR, rowB])]; simp) | (have hq := p28_1; rw [show k = a0.2.2.2.length from by omega] at hq; unfold validMulti; rw [hq, decide_eq_true (by omega)]; simp [hc22, hc24, hc26, hc27, p28_0, p28_1, hc29, xe30, hc32, hc34])
                  exact ⟨by first | (rw [hF] <;> rfl) | rfl | (rw [hF]; simp only [Ending.returned.injEq, Value.slice.injEq, true_and, and_true]; first | omega | (simp; done)) | (rw [hF]; simp; omega), HH107.below⟩
                · refine wp_skip ?_
                  refine nrm ?_
                  refine wp_seq ?_
                  refine wp_seq ?_
                  refine dr_start (Held Nob w []) 44 #[false, false, false, false, false, false, false, false, false, false, false, false, false, false, false, false, false, false, false, false, false, false, false, false, false, false, false, false, false, false, false, false, false, false, false, false, false, false, false, false, false, false, false, false] hmix rfl rfl HH107 (fun _ h => h.sel [] (by decide) rfl) fun w' HH165 => ?_
                  have HS166 := HH165
                  refine dr_take (i := 0) (ls' := #[true, false, false, false, false, false, false, false, false, false, false, false, false, false, false, false, false, false, false, false, false, false, false, false, false, false, false, false, false, false, false, false, false, false, false, false, false, false, false, false, false, false, false, false]) HE162 HS166 rfl (by kernel_rfl) (by kernel_rfl) (by kernel_rfl) (fun _ _ _ h => h) rfl (wt0 rfl) (x_move rfl) rfl rfl fun a_167 HE168 => ?_
                  refine dr_take (i := 1) (ls' := #[true, true, false, false, false, false, false, false, false, false, false, false, false, false, false, false, false, false, false, false, false, false, false, false, false, false, false, false, false, false, false, false, false, false, false, false, false, false, false, false, false, false, false, false]) HE168 HS166 rfl (by kernel_rfl) (by kernel_rfl) (by kernel_rfl) (fun _ _ _ h => h) rfl (wt0 rfl) (x_nilCheck rfl) rfl rfl fun a_169 HE170 => ?_
                  refine dr_take (i := 2) (ls' := #[true, true, true, false, false, false, false, false, false, false, false, false, false, false, false, false, false, false, false, false, false, false, false, false, false, false, false, false, false, false, false, false, false, false, false, false, false, false, false, false, false, false, false, false]) HE170 HS166 rfl (by kernel_rfl) (by kernel_rfl) (by kernel_rfl) (fun _ _ _ h => h) rfl (wt0 rfl) (x_fieldAddr fa_104_1 rfl) rfl rfl fun a_171 HE172 => ?_
                  refine dr_take (i := 3) (ls' := #[true, true, true, true, false, false, false, false, false, false, false, false, false, false, false, false, false, false, false, false, false, false, false, false, false, false, false, false, false, false, false, false, false, false, false, false, false, false, false, false, false, false, false, false]) HE172 HS166 rfl (by kernel_rfl) (by kernel_rfl) (by kernel_rfl) (fun _ _ _ h => h) rfl (wt0 rfl) (x_load1 tv_37 rfl (c_old (De30 1 _ rfl))) rfl rfl fun a_173 HE174 => ?_
                  refine dr_take (i := 4) (ls' := #[true, true, true, true, true, false, false, false, false, false, false, false, false, false, false, false, false, false, false, false, false, false, false, false, false, false, false, false, false, false, false, false, false, false, false, false, false, false, false, false, false, false, false, false]) HE174 HS166 rfl (by kernel_rfl) (by kernel_rfl) (by kernel_rfl) (fun _ _ _ h => h) rfl (wt0 rfl) (x_move rfl) rfl rfl fun a_175 HE176 => ?_
                  refine dr_take (i := 5) (ls' := #[true, true, true, true, true, true, false, false, false, false, false, false, false, false, false, false, false, false, false, false, false, false, false, false, false, false, false, false, false, false, false, false, false, false, false, false, false, false, false, false, false, false, false, false]) HE176 HS166 rfl (by kernel_rfl) (by kernel_rfl) (by kernel_rfl) (fun _ _ _ h => h) rfl (wt0 rfl) (x_nilCheck rfl) rfl rfl fun a_177 HE178 => ?_
                  refine dr_take (i := 6) (ls' := #[true, true, true, true, true, true, true, false, false, false, false, false, false, false, false, false, false, false, false, false, false, false, false, false, false, false, false, false, false, false, false, false, false, false, false, false, false, false, false, false, false, false, false, false]) HE178 HS166 rfl (by kernel_rfl) (by kernel_rfl) (by kernel_rfl) (fun _ _ _ h => h) rfl (wt0 rfl) (x_fieldAddr fa_55_0 rfl) rfl rfl fun a_179 HE180 => ?_
                  refine dr_take (i := 7) (ls' := #[true, true, true, true, true, true, true, true, false, false, false, false, false, false, false, false, false, false, false, false, false, false, false, false, false, false, false, false, false, false, false, false, false, false, false, false, false, false, false, false, false, false, false, false]) HE180 HS166 rfl (by kernel_rfl) (by kernel_rfl) (by kernel_rfl) (fun _ _ _ h => h) rfl (wt0 rfl) (x_load1 tv_2 rfl (c_old (hq0 0 _ rfl))) rfl rfl fun a_181 HE182 => ?_
                  refine dr_take (i := 8) (ls' := #[true, true, true, true, true, true, true, true, true, false, false, false, false, false, false, false, false, false, false, false, false, false, false, false, false, false, false, false, false, false, false, false, false, false, false, false, false, false, false, false, false, false, false, false]) HE182 HS166 rfl (by kernel_rfl) (by kernel_rfl) (by kernel_rfl) (fun _ _ _ h => h) rfl (wt0 rfl) (x_move rfl) rfl rfl fun a_183 HE184 => ?_
                  refine dr_take (i := 9) (ls' := #[true, true, true, true, true, true, true, true, true, true, false, false, false, false, false, false, false, false, false, false, false, false, false, false, false, false, false, false, false, false, false, false, false, false, false, false, false, false, false, false, false, false, false, false]) HE184 HS166 rfl (by kernel_rfl) (by kernel_rfl) (by kernel_rfl) (fun _ _ _ h => h) rfl (wt0 rfl) (x_nilCheck rfl) rfl rfl fun a_185 HE186 => ?_
                  refine dr_take (i := 10) (ls' := #[true, true, true, true, true, true, true, true, true, true, true, false, false, false, false, false, false, false, false, false, false, false, false, false, false, false, false, false, false, false, false, false, false, false, false, false, false, false, false, false, false, false, false, false]) HE186 HS166 rfl (by kernel_rfl) (by kernel_rfl) (by kernel_rfl) (fun _ _ _ h => h) rfl (wt0 rfl) (x_fieldAddr fa_55_1 rfl) rfl rfl fun a_187 HE188 => ?_
                  refine dr_take (i := 11) (ls' := #[true, true, true, true, true, true, true, true, true, true, true, true, false, false, false, false, false, false, false, false, false, false, false, false, false, false, false, false, false, false, false, false, false, false, false, false, false, false, false, false, false, false, false, false]) HE188 HS166 rfl (by kernel_rfl) (by kernel_rfl) (by kernel_rfl) (fun _ _ _ h => h) rfl (wt0 rfl) (x_load1 tv_2 rfl (c_old (hq0 1 _ rfl))) rfl rfl fun a_189 HE190 => ?_
                  refine dr_take (i := 12) (ls' := #[true, true, true, true, true, true, true, true, true, true, true, true, true, false, false, false, false, false, false, false, false, false, false, false, false, false, false, false, false, false, false, false, false, false, false, false, false, false, false, false, false, false, false, false]) HE190 HS166 rfl (by kernel_rfl) (by kernel_rfl) (by kernel_rfl) (fun _ _ _ h => h) rfl (wt0 rfl) (x_sub rfl rfl (by exact ⟨by omega, by omega⟩)) rfl rfl fun a_191 HE192 => ?_
                  refine dr_one (i := 13) (ls' := #[true, true, true, true, true, true, true, true, true, true, true, true, true, true, false, false, false, false, false, false, false, false, false, false, false, false, false, false, false, false, false, false, false, false, false, false, false, false, false, false, false, false, false, false]) rfl (by kernel_rfl) rfl fun K_193 hK194 => ?_
                  refine st_call HE192 (wt0 rfl) rfl rfl rfl en_97 rfl rfl (spec_l06RowE _ _ e30.2.1 a0.1 0 (a0.2.1 - 1) _ (HH165.old ge30_1)) fun e w' hr => ?_
                  obtain ⟨rfl, hbr35⟩ := hr
                  have HH195 := HH165.on hbr35
                  refine ⟨_, rfl, fun a_196 HE197 => hK194 _ _ (by exact HH195.sel [] (by decide) rfl) ?_⟩
                  have HS198 := HH195.sel [] (by decide) rfl
                  refine dr_take (i := 14) (ls' := #[true, true, true, true, true, true, true, true, true, true, true, true, true, true, true, false, false, false, false, false, false, false, false, false, false, false, false, false, false, false, false, false, false, false, false, false, false, false, false, false, false, false, false, false]) HE197 HS198 rfl (by kernel_rfl) (by kernel_rfl) (by kernel_rfl) (fun _ _ _ h => h) rfl (wt0 rfl) (x_not rfl) rfl rfl fun a_199 HE200 => ?_
                  refine dr_take (i := 15) (ls' := #[true, true, true, true, true, true, true, true, true, true, true, true, true, true, true, true, false, false, false, false, false, false, false, false, false, false, false, false, false, false, false, false, false, false, false, false, false, false, false, false, false, false, false, false]) HE200 HS198 rfl (by kernel_rfl) (by kernel_rfl) (by kernel_rfl) (fun _ _ _ h => h) rfl (wt0 rfl) (x_move rfl) rfl rfl fun a_201 HE202 => ?_
                  rcases Bool.eq_false_or_eq_true ((rowB e30.2.1 a0.1 0 (a0.2.1 - 1))) with hc36 | hc36
                  · refine dr_take (i := 16) (ls' := #[true, true, true, true, true, true, true, true, true, true, true, true, true, true, true, true, true, false, false, false, false, false, false, false, false, false, false, false, false, false, false, false, false, false, false, false, false, false, false, false, false, false, false, false]) HE202 HS198 rfl (by kernel_rfl) (by kernel_rfl) (by kernel_rfl) (fun _ _ _ h => h) rfl (wtT HE202 rfl rfl rfl (not_f hc36)) (x_move rfl) rfl rfl fun a_203 HE204 => ?_
                    refine dr_take (i := 17) (ls' := #[true, true, true, true, true, true, true, true, true, true, true, true, true, true, true, true, true, true, false, false, false, false, false, false, false, false, false, false, false, false, false, false, false, false, false, false, false, false, false, false, false, false, false, false]) HE204 HS198 rfl (by kernel_rfl) (by kernel_rfl) (by kernel_rfl) (fun _ _ _ h => h) rfl (wtT HE204 rfl rfl rfl (not_f hc36)) (x_nilCheck rfl) rfl rfl fun a_205 HE206 => ?_
                    refine dr_take (i := 18) (ls' := #[true, true, true, true, true, true, true, true, true, true, true, true, true, true, true, true, true, true, true, false, false, false, false, false, false, false, false, false, false, false, false, false, false, false, false, false, false, false, false, false, false, false, false, false]) HE206 HS198 rfl (by kernel_rfl) (by kernel_rfl) (by kernel_rfl) (fun _ _ _ h => h) rfl (wtT HE206 rfl rfl rfl (not_f hc36)) (x_fieldAddr fa_104_2 rfl) rfl rfl fun a_207 HE208 => ?_
                    refine dr_take (i := 19) (ls' := #[true, true, true, true, true, true, true, true, true, true, true, true, true, true, true, true, true, true, true, true, false, false, false, false, false, false, false, false, false, false, false, false, false, false, false, false, false, false, false, false, false, false, false, false]) HE208 HS198 rfl (by kernel_rfl) (by kernel_rfl) (by kernel_rfl) (fun _ _ _ h => h) rfl (wtT HE208 rfl rfl rfl (not_f hc36)) (x_load1 tv_37 rfl (c_old (De30 2 _ rfl))) rfl rfl fun a_209 HE210 => ?_
                    refine dr_take (i := 20) (ls' := #[true, true, true, true, true, true, true, true, true, true, true, true, true, true, true, true, true, true, true, true, true, false, false, false, false, false, false, false, false, false, false, false, false, false, false, false, false, false, false, false, false, false, false, false]) HE210 HS198 rfl (by kernel_rfl) (by kernel_rfl) (by kernel_rfl) (fun _ _ _ h => h) rfl (wtT HE210 rfl rfl rfl (not_f hc36)) (x_move rfl) rfl rfl fun a_211 HE212 => ?_
                    refine dr_take (i := 21) (ls' := #[true, true, true, true, true, true, true, true, true, true, true, true, true, true, true, true, true, true, true, true, true, true, false, false, false, false, false, false, false, false, false, false, false, false, false, false, false, false, false, false, false, false, false, false]) HE212 HS198 rfl (by kernel_rfl) (by kernel_rfl) (by kernel_rfl) (fun _ _ _ h => h) rfl (wtT HE212 rfl rfl rfl (not_f hc36)) (x_nilCheck rfl) rfl rfl fun a_213 HE214 => ?_
                    refine dr_take (i := 22) (ls' := #[true, true, true, true, true, true, true, true, true, true, true, true, true, true, true, true, true, true, true, true, true, true, true, false, false, false, false, false, false, false, false, false, false, false, false, false, false, false, false, false, false, false, false, false]) HE214 HS198 rfl (by kernel_rfl) (by kernel_rfl) (by kernel_rfl) (fun _ _ _ h => h) rfl (wtT HE214 rfl rfl rfl (not_f hc36)) (x_fieldAddr fa_55_0 rfl) rfl rfl fun a_215 HE216 => ?_
                    refine dr_take (i := 23) (ls' := #[true, true, true, true, true, true, true, true, true, true, true, true, true, true, true, true, true, true, true, true, true, true, true, true, false, false, false, false, false, false, false, false, false, false, false, false, false, false, false, false, false, false, false, false]) HE216 HS198 rfl (by kernel_rfl) (by kernel_rfl) (by kernel_rfl) (fun _ _ _ h => h) rfl (wtT HE216 rfl rfl rfl (not_f hc36)) (x_load1 tv_2 rfl (c_old (hq0 0 _ rfl))) rfl rfl fun a_217 HE218 => ?_
                    refine dr_take (i := 24) (ls' := #[true, true, true, true, true, true, true, true, true, true, true, true, true, true, true, true, true, true, true, true, true, true, true, true, true, false, false, false, false, false, false, false, false, false, false, false, false, false, false, false, false, false, false, false]) HE218 HS198 rfl (by kernel_rfl) (by kernel_rfl) (by kernel_rfl) (fun _ _ _ h => h) rfl (wtT HE218 rfl rfl rfl (not_f hc36)) (x_move rfl) rfl rfl fun a_219 HE220 => ?_
                    refine dr_take (i := 25) (ls' := #[true, true, true, true, true, true, true, true, true, true, true, true, true, true, true, true, true, true, true, true, true, true, true, true, true, true, false, false, false, false, false, false, false, false, false, false, false, false, false, false, false, false, false, false]) HE220 HS198 rfl (by kernel_rfl) (by kernel_rfl) (by kernel_rfl) (fun _ _ _ h => h) rfl (wtT HE220 rfl rfl rfl (not_f hc36)) (x_nilCheck rfl) rfl rfl fun a_221 HE222 => ?_
                    refine dr_take (i := 26) (ls' := #[true, true, true, true, true, true, true, true, true, true, true, true, true, true, true, true, true, true, true, true, true, true, true, true, true, true, true, false, false, false, false, false, false, false, false, false, false, false, false, false, false, false, false, false]) HE222 HS198 rfl (by kernel_rfl) (by kernel_rfl) (by kernel_rfl) (fun _ _ _ h => h) rfl (wtT HE222 rfl rfl rfl (not_f hc36)) (x_fieldAddr fa_55_1 rfl) rfl rfl fun a_223 HE224 => ?_
                    refine dr_take (i := 27) (ls' := #[true, true, true, true, true, true, true, true, true, true, true, true, true, true, true, true, true, true, true, true, true, true, true, true, true, true, true, true, false, false, false, false, false, false, false, false, false, false, false, false, false, false, false, false]) HE224 HS198 rfl (by kernel_rfl) (by kernel_rfl) (by kernel_rfl) (fun _ _ _ h => h) rfl (wtT HE224 rfl rfl rfl (not_f hc36)) (x_load1 tv_2 rfl (c_old (hq0 1 _ rfl))) rfl rfl fun a_225 HE226 => ?_
                    refine dr_take (i := 28) (ls' := #[true, true, true, true, true, true, true, true, true, true, true, true, true, true, true, true, true, true, true, true, true, true, true, true, true, true, true, true, true, false, false, false, false, false, false, false, false, false, false, false, false, false, false, false]) HE226 HS198 rfl (by kernel_rfl) (by kernel_rfl) (by kernel_rfl) (fun _ _ _ h => h) rfl (wtT HE226 rfl rfl rfl (not_f hc36)) (x_sub rfl rfl (by exact ⟨by omega, by omega⟩)) rfl rfl fun a_227 HE228 => ?_
                    refine dr_one (i := 29) (ls' := #[true, true, true, true, true, true, true, true, true, true, true, true, true, true, true, true, true, true, true, true, true, true, true, true, true, true, true, true, true, true, false, false, false, false, false, false, false, false, false, false, false, false, false, false]) rfl (by kernel_rfl) rfl fun K_229 hK230 => ?_
                    refine st_call HE228 (wtT HE228 rfl rfl rfl (not_f hc36)) rfl rfl rfl en_97 rfl rfl (spec_l06RowE _ _ e30.2.2.1 a0.1 0 (a0.2.1 - 1) _ (HH195.old ge30_2)) fun e w' hr => ?_
                    obtain ⟨rfl, hbr37⟩ := hr
                    have HH231 := HH195.on hbr37
                    refine ⟨_, rfl, fun a_232 HE233 => hK230 _ _ (by exact HH231.sel [] (by decide) rfl) ?_⟩
                    have HS234 := HH231.sel [] (by decide) rfl
                    refine dr_take (i := 30) (ls' := #[true, true, true, true, true, true, true, true, true, true, true, true, true, true, true, true, true, true, true, true, true, true, true, true, true, true, true, true, true, true, true, false, false, false, false, false, false, false, false, false, false, false, false, false]) HE233 HS234 rfl (by kernel_rfl) (by kernel_rfl) (by kernel_rfl) (fun _ _ _ h => h) rfl (wtT HE233 rfl rfl rfl (not_f hc36)) (x_not rfl) rfl rfl fun a_235 HE236 => ?_
                    refine dr_take (i := 31) (ls' := #[true, true, true, true, true, true, true, true, true, true, true, true, true, true, true, true, true, true, true, true, true, true, true, true, true, true, true, true, true, true, true, true, false, false, false, false, false, false, false, false, false, false, false, false]) HE236 HS234 rfl (by kernel_rfl) (by kernel_rfl) (by kernel_rfl) (fun _ _ _ h => h) rfl (wt0 rfl) (x_pickF rfl (not_f hc36) rfl) rfl rfl fun a_237 HE238 => ?_
                    refine dr_take (i := 32) (ls' := #[true, true, true, true, true, true, true, true, true, true, true, true, true, true, true, true, true, true, true, true, true, true, true, true, true, true, true, true, true, true, true, true, true, false, false, false, false, false, false, false, false, false, false, false]) HE238 HS234 rfl (by kernel_rfl) (by kernel_rfl) (by kernel_rfl) (fun _ _ _ h => h) rfl (wt0 rfl) (x_move rfl) rfl rfl fun a_239 HE240 => ?_
                    rcases Bool.eq_false_or_eq_true ((rowB e30.2.2.1 a0.1 0 (a0.2.1 - 1))) with hc38 | hc38
                    · refine dr_take (i := 33) (ls' := #[true, true, true, true, true, true, true, true, true, true, true, true, true, true, true, true, true, true, true, true, true, true, true, true, true, true, true, true, true, true, true, true, true, true, false, false, false, false, false, false, false, false, false, false]) HE240 HS234 rfl (by kernel_rfl) (by kernel_rfl) (by kernel_rfl) (fun _ _ _ h => h) rfl (wtT HE240 rfl rfl rfl (not_f hc38)) (x_move rfl) rfl rfl fun a_241 HE242 => ?_
                      refine dr_take (i := 34) (ls' := #[true, true, true, true, true, true, true, true, true, true, true, true, true, true, true, true, true, true, true, true, true, true, true, true, true, true, true, true, true, true, true, true, true, true, true, false, false, false, false, false, false, false, false, false]) HE242 HS234 rfl (by kernel_rfl) (by kernel_rfl) (by kernel_rfl) (fun _ _ _ h => h) rfl (wtT HE242 rfl rfl rfl (not_f hc38)) (x_nilCheck rfl) rfl rfl fun a_243 HE244 => ?_
                      refine dr_take (i := 35) (ls' := #[true, true, true, true, true, true, true, true, true, true, true, true, true, true, true, true, true, true, true, true, true, true, true, true, true, true, true, true, true, true, true, true, true, true, true, true, false, false, false, false, false, false, false, false]) HE244 HS234 rfl (by kernel_rfl) (by kernel_rfl) (by kernel_rfl) (fun _ _ _ h => h) rfl (wtT HE244 rfl rfl rfl (not_f hc38)) (x_fieldAddr fa_104_3 rfl) rfl rfl fun a_245 HE246 => ?_
                      refine dr_take (i := 36) (ls' := #[true, true, true, true, true, true, true, true, true, true, true, true, true, true, true, true, true, true, true, true, true, true, true, true, true, true, true, true, true, true, true, true, true, true, true, true, true, false, false, false, false, false, false, false]) HE246 HS234 rfl (by kernel_rfl) (by kernel_rfl) (by kernel_rfl) (fun _ _ _ h => h) rfl (wtT HE246 rfl rfl rfl (not_f hc38)) (x_load1 tv_37 rfl (c_old (De30 3 _ rfl))) rfl rfl fun a_247 HE248 => ?_
                      refine dr_take (i := 37) (ls' := #[true, true, true, true, true, true, true, true, true, true, true, true, true, true, true, true, true, true, true, true, true, true, true, true, true, true, true, true, true, true, true, true, true, true, true, true, true, true, false, false, false, false, false, false]) HE248 HS234 rfl (by kernel_rfl) (by kernel_rfl) (by kernel_rfl) (fun _ _ _ h => h) rfl (wtT HE248 rfl rfl rfl (not_f hc38)) (x_move rfl) rfl rfl fun a_249 HE250 => ?_
                      refine dr_take (i := 38) (ls' := #[true, true, true, true, true, true, true, true, true, true, true, true, true, true, true, true, true, true, true, true, true, true, true, true, true, true, true, true, true, true, true, true, true, true, true, true, true, true, true, false, false, false, false, false]) HE250 HS234 rfl (by kernel_rfl) (by kernel_rfl) (by kernel_rfl) (fun _ _ _ h => h) rfl (wtT HE250 rfl rfl rfl (not_f hc38)) (x_nilCheck rfl) rfl rfl fun a_251 HE252 => ?_
                      refine dr_take (i := 39) (ls' := #[true, true, true, true, true, true, true, true, true, true, true, true, true, true, true, true, true, true, true, true, true, true, true, true, true, true, true, true, true, true, true, true, true, true, true, true, true, true, true, true, false, false, false, false]) HE252 HS234 rfl (by kernel_rfl) (by kernel_rfl) (by kernel_rfl) (fun _ _ _ h => h) rfl (wtT HE252 rfl rfl rfl (not_f hc38)) (x_fieldAddr fa_55_0 rfl) rfl rfl fun a_253 HE254 => ?_
                      refine dr_take (i := 40) (ls' := #[true, true, true, true, true, true, true, true, true, true, true, true, true, true, true, true, true, true, true, true, true, true, true, true, true, true, true, true, true, true, true, true, true, true, true, true, true, true, true, true, true, false, false, false]) HE254 HS234 rfl (by kernel_rfl) (by kernel_rfl) (by kernel_rfl) (fun _ _ _ h => h) rfl (wtT HE254 rfl rfl rfl (not_f hc38)) (x_load1 tv_2 rfl (c_old (hq0 0 _ rfl))) rfl rfl fun a_255 HE256 => ?_
                      refine dr_one (i := 41) (ls' := #[true, true, true, true, true, true, true, true, true, true, true, true, true, true, true, true, true, true, true, true, true, true, true, true, true, true, true, true, true, true, true, true, true, true, true, true, true, true, true, true, true, true, false, false]) rfl (by kernel_rfl) rfl fun K_257 hK258 => ?_
                      refine st_call HE256 (wtT HE256 rfl rfl rfl (not_f hc38)) rfl rfl rfl en_97 rfl rfl (spec_l06RowE _ _ e30.2.2.2.1 a0.1 (-1) 1 _ (HH231.old ge30_3)) fun e w' hr => ?_
                      obtain ⟨rfl, hbr39⟩ := hr
                      have HH259 := HH231.on hbr39
                      refine ⟨_, rfl, fun a_260 HE261 => hK258 _ _ (by exact HH259.sel [] (by decide) rfl) ?_⟩
                      have HS262 := HH259.sel [] (by decide) rfl
                      refine dr_take (i := 42) (ls' := #[true, true, true, true, true, true, true, true, true, true, true, true, true, true, true, true, true, true, true, true, true, true, true, true, true, true, true, true, true, true, true, true, true, true, true, true, true, true, true, true, true, true, true, false]) HE261 HS262 rfl (by kernel_rfl) (by kernel_rfl) (by kernel_rfl) (fun _ _ _ h => h) rfl (wtT HE261 rfl rfl rfl (not_f hc38)) (x_not rfl) rfl rfl fun a_263 HE264 => ?_
                      refine dr_take (i := 43) (ls' := #[true, true, true, true, true, true, true, true, true, true, true, true, true, true, true, true, true, true, true, true, true, true, true, true, true, true, true, true, true, true, true, true, true, true, true, true, true, true, true, true, true, true, true, true]) HE264 HS262 rfl (by kernel_rfl) (by kernel_rfl) (by kernel_rfl) (fun _ _ _ h => h) rfl (wt0 rfl) (x_pickF rfl (not_f hc38) rfl) rfl rfl fun a_265 HE266 => ?_
                      refine dr_done (by kernel_rfl) ?_
                      clear HH107 HS158 a_161 HE162 a_167 HE168 a_169 HE170 a_171 HE172 a_173 HE174 a_175 HE176 a_177 HE178 a_179 HE180 a_181 HE182 a_183 HE184 a_185 HE186 a_187 HE188 a_189 HE190 HH165 a_191 HE192 HS166 a_196 HE197 a_199 HE200 a_201 HE202 a_203 HE204 a_205 HE206 a_207 HE208 a_209 HE210 a_211 HE212 a_213 HE214 a_215 HE216 a_217 HE218 a_219 HE220 a_221 HE222 a_223 HE224 a_225 HE226 K_193 hK194 HH195 a_227 HE228 HS198 a_232 HE233 a_235 HE236 a_237 HE238 a_239 HE240 a_241 HE242 a_243 HE244 a_245 HE246 a_247 HE248 a_249 HE250 a_251 HE252 a_253 HE254 K_229 hK230 HH231 a_255 HE256 HS234 a_260 HE261 a_263 HE264 hK258 K_257
                      refine nrm ?_
                      refine cnd_nb HE266 rfl (fun hc40 => ?_) (fun hc40 => ?_)
                      · refine wp_seq ?_
                        refine rg ?_
                        refine pl_x HE266 HH259 (wt0 rfl) (x_assign rfl) rfl rfl fun a_267 HE268 => ?_
                        refine wpList_nil ?_
                        clear a_265 HE266
                        refine nrm ?_
                        refine wp_ret ?_
                        refine (thn_ret (blk_ret (thn_ret (thn_ret (blk_ret (thn_ret ?_))))))
                        refine ret1 HE268 rfl (rv_tmp rfl) ?_
                        have hF : (validMulti a0) = false := by
                          first | (simp [validMulti, hc22, hc24, hc26, hc27, p28_0, p28_1, hc29, xe30, hc32, hc34, hc36, hc38, hc40]; done) | (unfold validMulti; rw [decide_eq_false (by omega)]; simp) | (unfold validMulti; rw [rg_hit (by omega : k < a0.2.2.2.length) (by unfold badMR; grind [beforeMR, validMR, rowB])]; simp) | (have hq := p28_1; rw [show k = a0.2.2.2.length from by omega] at hq; unfold validMulti; rw [hq, decide_eq_true (by omega)]; simp [hc22, hc24, hc26, hc27, p28_0, p28_1, hc29, xe30, hc32, hc34, hc36, hc38, hc40])
                        exact ⟨by first | (rw [hF] <;> rfl) | rfl | (rw [hF]; simp only [Ending.returned.injEq, Value.slice.injEq, true_and, and_true]; first | omega | (simp; done)) | (rw [hF]; simp; omega), HH259.below⟩
                      · refine wp_skip ?_
                        refine nrm ?_
                        refine wp_seq ?_
                        refine rg ?_
                        refine pl_x HE266 HH259 (wt0 rfl) (x_move rfl) rfl rfl fun a_269 HE270 => ?_
                        refine pl_x HE270 HH259 (wt0 rfl) (x_gtr rfl rfl) rfl rfl fun a_271 HE272 => ?_
                        refine pl_x HE272 HH259 (wt0 rfl) (x_move rfl) rfl rfl fun a_273 HE274 => ?_
                        by_cases hc41 : 0 < (k : Int)
                        · refine pl_x HE274 HH259 (wtT HE274 rfl rfl rfl (decide_eq_true hc41)) (x_move rfl) rfl rfl fun a_275 HE276 => ?_
                          refine pl_x HE276 HH259 (wtT HE276 rfl rfl rfl (decide_eq_true hc41)) (x_nilCheck rfl) rfl rfl fun a_277 HE278 => ?_
                          refine pl_x HE278 HH259 (wtT HE278 rfl rfl rfl (decide_eq_true hc41)) (x_fieldAddr fa_55_3 rfl) rfl rfl fun a_279 HE280 => ?_
                          refine pl_x HE280 HH259 (wtT HE280 rfl rfl rfl (decide_eq_true hc41)) (x_load1 tv_53 rfl (c_old (hq0 3 _ rfl))) rfl rfl fun a_281 HE282 => ?_
                          refine pl_x HE282 HH259 (wtT HE282 rfl rfl rfl (decide_eq_true hc41)) (x_move rfl) rfl rfl fun a_283 HE284 => ?_
                          refine pl_x HE284 HH259 (wtT HE284 rfl rfl rfl (decide_eq_true hc41)) (x_sub rfl rfl (by exact ⟨by omega, by omega⟩)) rfl rfl fun a_285 HE286 => ?_
                          have ke42 : (k - 1) < a0.2.2.2.length := by omega
                          obtain ⟨be42, fe42, ese42, Ae42, Re42, De42⟩ := el_old gz0_3 ke42
                          obtain ⟨e42, xe42⟩ : ∃ x_, x_ = a0.2.2.2[(k - 1)] := ⟨_, rfl⟩
                          rw [← xe42] at Re42
                          have Qe42 := Re42
                          obtain ⟨Ae42_1, ce42_1, Ae42_2, ce42_2, Ae42_3, ce42_3, rfl, ge42_0, ge42_1, ge42_2, ge42_3, ge42_4⟩ := shape_MultiRule Re42
                          have je42_0 := ge42_0; unfold I64 at je42_0
                          have le42_1 := ge42_1.len
                          have le42_2 := ge42_2.len
                          have le42_3 := ge42_3.len
                          have je42_4 := ge42_4; unfold I64 at je42_4
                          have ge42 : a0.2.2.2[(k - 1)]?.getD default = e42 := by rw [List.getElem?_eq_getElem ke42, xe42]; rfl
                          refine pl_x HE286 HH259 (wtT HE286 rfl rfl rfl (decide_eq_true hc41)) (x_indexAddr ts_53 rfl rfl Ae42 (by omega) ke42) rfl rfl fun a_287 HE288 => ?_
                          refine pl_x HE288 HH259 (wtT HE288 rfl rfl rfl (decide_eq_true hc41)) (x_move rfl) rfl rfl fun a_289 HE290 => ?_
                          refine pl fun K_291 hK292 => ?_
                          refine st_call HE290 (wtT HE290 rfl rfl rfl (decide_eq_true hc41)) rfl rfl rfl en_98 rfl rfl (spec_l06Before _ _ _ e42 _ _ _ e30 _ (HH259.oldR Qe42) (c_oldN De42 _ HH259) (HH259.oldR Qe30) (c_oldN De30 _ HH259)) fun e w' hr => ?_
                          obtain ⟨rfl, hbr43⟩ := hr
                          have HH293 := HH259.on hbr43
                          refine ⟨_, rfl, fun a_294 HE295 => hK292 _ _ ?_⟩
                          refine pl_x HE295 HH293 (wtT HE295 rfl rfl rfl (decide_eq_true hc41)) (x_not rfl) rfl rfl fun a_296 HE297 => ?_
                          refine pl_x HE297 HH293 (wt0 rfl) (x_pickT rfl (decide_eq_true hc41) rfl) rfl rfl fun a_298 HE299 => ?_
                          refine wpList_nil ?_
                          clear a_265 HE266 a_269 HE270 a_271 HE272 a_273 HE274 a_275 HE276 a_277 HE278 a_279 HE280 a_281 HE282 a_283 HE284 a_285 HE286 a_287 HE288 HH259 a_289 HE290 a_294 HE295 a_296 HE297 hK292 K_291
                          refine nrm ?_
                          refine cnd_nb HE299 rfl (fun hc44 => ?_) (fun hc44 => ?_)
                          · refine wp_seq ?_
                            refine rg ?_
                            refine pl_x HE299 HH293 (wt0 rfl) (x_assign rfl) rfl rfl fun a_300 HE301 => ?_
                            refine wpList_nil ?_
                            clear a_298 HE299
                            refine nrm ?_
                            refine wp_ret ?_
                            refine (blk_ret (thn_ret (thn_ret (blk_ret (thn_ret ?_)))))
                            refine ret1 HE301 rfl (rv_tmp rfl) ?_
                            have hF : (validMulti a0) = false := by
                              first | (simp [validMulti, hc22, hc24, hc26, hc27, p28_0, p28_1, hc29, xe30, hc32, hc34, hc36, hc38, hc40, hc41, xe42, hc44]; done) | (unfold validMulti; rw [decide_eq_false (by omega)]; simp) | (unfold validMulti; rw [rg_hit (by omega : k < a0.2.2.2.length) (by unfold badMR; grind [beforeMR, validMR, rowB])]; simp) | (have hq := p28_1; rw [show k = a0.2.2.2.length from by omega] at hq; unfold validMulti; rw [hq, decide_eq_true (by omega)]; simp [hc22, hc24, hc26, hc27, p28_0, p28_1, hc29, xe30, hc32, hc34, hc36, hc38, hc40, hc41, xe42, hc44])
                            exact ⟨by first | (rw [hF] <;> rfl) | rfl | (rw [hF]; simp only [Ending.returned.injEq, Value.slice.injEq, true_and, and_true]; first | omega | (simp; done)) | (rw [hF]; simp; omega), HH293.below⟩
                          · refine wp_skip ?_
                            refine blk_n ?_
                            refine nrm ?_
                            refine rg ?_
                            refine pl_x HE299 HH293 (wt0 rfl) (x_move rfl) rfl rfl fun a_302 HE303 => ?_
                            refine pl_x HE303 HH293 (wt0 rfl) (x_add rfl rfl (by exact ⟨by omega, by omega⟩)) rfl rfl fun a_304 HE305 => ?_
                            refine pl_x HE305 HH293 (wt0 rfl) (x_assign rfl) rfl rfl fun a_306 HE307 => ?_
                            refine wpList_nil ?_
                            clear a_298 HE299 a_302 HE303 a_304 HE305
                            exact nrm ⟨a0.2.2.2.length - (k + 1), (by omega), k + 1, rfl, HE307.sub ⟨(lkI rfl (by first | rfl | omega | (simp [hc22, hc24, hc26, hc27, p28_0, p28_1, hc29, xe30, hc32, hc34, hc36, hc38, hc40, hc41, xe42, hc44]; done))), rfl, trivial⟩, (HH293.sel [] (by decide) rfl), (by first | omega | assumption | (simp; done) | simp_all), (by exact rg_step p28_1 (by unfold badMR; grind [beforeMR, validMR, rowB]))⟩
                        · refine pl_no HE274 (wtF HE274 rfl rfl rfl (decide_eq_false hc41)) rfl rfl fun a_308 HE309 => ?_
                          refine pl_no HE309 (wtF HE309 rfl rfl rfl (decide_eq_false hc41)) rfl rfl fun a_310 HE311 => ?_
                          refine pl_no HE311 (wtF HE311 rfl rfl rfl (decide_eq_false hc41)) rfl rfl fun a_312 HE313 => ?_
                          refine pl_no HE313 (wtF HE313 rfl rfl rfl (decide_eq_false hc41)) rfl rfl fun a_314 HE315 => ?_
                          refine pl_no HE315 (wtF HE315 rfl rfl rfl (decide_eq_false hc41)) rfl rfl fun a_316 HE317 => ?_
                          refine pl_no HE317 (wtF HE317 rfl rfl rfl (decide_eq_false hc41)) rfl rfl fun a_318 HE319 => ?_
                          refine pl_no HE319 (wtF HE319 rfl rfl rfl (decide_eq_false hc41)) rfl rfl fun a_320 HE321 => ?_
                          refine pl_no HE321 (wtF HE321 rfl rfl rfl (decide_eq_false hc41)) rfl rfl fun a_322 HE323 => ?_
                          refine pl_no HE323 (wtF HE323 rfl rfl rfl (decide_eq_false hc41)) rfl rfl fun a_324 HE325 => ?_
                          refine pl_no HE325 (wtF HE325 rfl rfl rfl (decide_eq_false hc41)) rfl rfl fun a_326 HE327 => ?_
                          refine pl_x HE327 HH259 (wt0 rfl) (x_pickF rfl (decide_eq_false hc41) rfl) rfl rfl fun a_328 HE329 => ?_
                          refine wpList_nil ?_
                          clear a_265 HE266 a_269 HE270 a_271 HE272 a_273 HE274 a_308 HE309 a_310 HE311 a_312 HE313 a_314 HE315 a_316 HE317 a_318 HE319 a_320 HE321 a_322 HE323 a_324 HE325 a_326 HE327
                          refine nrm ?_
                          refine cndF HE329 rfl rfl ?_
                          refine wp_skip ?_
                          refine blk_n ?_
                          refine nrm ?_
                          refine rg ?_
                          refine pl_x HE329 HH259 (wt0 rfl) (x_move rfl) rfl rfl fun a_330 HE331 => ?_
                          refine pl_x HE331 HH259 (wt0 rfl) (x_add rfl rfl (by exact ⟨by omega, by omega⟩)) rfl rfl fun a_332 HE333 => ?_
                          refine pl_x HE333 HH259 (wt0 rfl) (x_assign rfl) rfl rfl fun a_334 HE335 => ?_
                          refine wpList_nil ?_
                          clear a_328 HE329 a_330 HE331 a_332 HE333
                          exact nrm ⟨a0.2.2.2.length - (k + 1), (by omega), k + 1, rfl, HE335.sub ⟨(lkI rfl (by first | rfl | omega | (simp [hc22, hc24, hc26, hc27, p28_0, p28_1, hc29, xe30, hc32, hc34, hc36, hc38, hc40, hc41]; done))), rfl, trivial⟩, (HH259.sel [] (by decide) rfl), (by first | omega | assumption | (simp; done) | simp_all), (by exact rg_step p28_1 (by unfold badMR; grind [beforeMR, validMR, rowB]))⟩
                    · refine dr_takeNo (i := 33) (ls' := #[true, true, true, true, true, true, true, true, true, true, true, true, true, true, true, true, true, true, true, true, true, true, true, true, true, true, true, true, true, true, true, true, true, true, false, false, false, false, false, false, false, false, false, false]) HE240 HS234 rfl (by kernel_rfl) (by kernel_rfl) (by kernel_rfl) (fun _ _ _ h => h) rfl (wtF HE240 rfl rfl rfl (not_t hc38)) rfl rfl fun a_336 HE337 => ?_
                      refine dr_takeNo (i := 34) (ls' := #[true, true, true, true, true, true, true, true, true, true, true, true, true, true, true, true, true, true, true, true, true, true, true, true, true, true, true, true, true, true, true, true, true, true, true, false, false, false, false, false, false, false, false, false]) HE337 HS234 rfl (by kernel_rfl) (by kernel_rfl) (by kernel_rfl) (fun _ _ _ h => h) rfl (wtF HE337 rfl rfl rfl (not_t hc38)) rfl rfl fun a_338 HE339 => ?_
                      refine dr_takeNo (i := 35) (ls' := #[true, true, true, true, true, true, true, true, true, true, true, true, true, true, true, true, true, true, true, true, true, true, true, true, true, true, true, true, true, true, true, true, true, true, true, true, false, false, false, false, false, false, false, false]) HE339 HS234 rfl (by kernel_rfl) (by kernel_rfl) (by kernel_rfl) (fun _ _ _ h => h) rfl (wtF HE339 rfl rfl rfl (not_t hc38)) rfl rfl fun a_340 HE341 => ?_
                      refine dr_takeNo (i := 36) (ls' := #[true, true, true, true, true, true, true, true, true, true, true, true, true, true, true, true, true, true, true, true, true, true, true, true, true, true, true, true, true, true, true, true, true, true, true, true, true, false, false, false, false, false, false, false]) HE341 HS234 rfl (by kernel_rfl) (by kernel_rfl) (by kernel_rfl) (fun _ _ _ h => h) rfl (wtF HE341 rfl rfl rfl (not_t hc38)) rfl rfl fun a_342 HE343 => ?_
                      refine dr_takeNo (i := 37) (ls' := #[true, true, true, true, true, true, true, true, true, true, true, true, true, true, true, true, true, true, true, true, true, true, true, true, true, true, true, true, true, true, true, true, true, true, true, true, true, true, false, false, false, false, false, false]) HE343 HS234 rfl (by kernel_rfl) (by kernel_rfl) (by kernel_rfl) (fun _ _ _ h => h) rfl (wtF HE343 rfl rfl rfl (not_t hc38)) rfl rfl fun a_344 HE345 => ?_
                      refine dr_takeNo (i := 38) (ls' := #[true, true, true, true, true, true, true, true, true, true, true, true, true, true, true, true, true, true, true, true, true, true, true, true, true, true, true, true, true, true, true, true, true, true, true, true, true, true, true, false, false, false, false, false]) HE345 HS234 rfl (by kernel_rfl) (by kernel_rfl) (by kernel_rfl) (fun _ _ _ h => h) rfl (wtF HE345 rfl rfl rfl (not_t hc38)) rfl rfl fun a_346 HE347 => ?_
                      refine dr_takeNo (i := 39) (ls' := #[true, true, true, true, true, true, true, true, true, true, true, true, true, true, true, true, true, true, true, true, true, true, true, true, true, true, true, true, true, true, true, true, true, true, true, true, true, true, true, true, false, false, false, false]) HE347 HS234 rfl (by kernel_rfl) (by kernel_rfl) (by kernel_rfl) (fun _ _ _ h => h) rfl (wtF HE347 rfl rfl rfl (not_t hc38)) rfl rfl fun a_348 HE349 => ?_
                      refine dr_takeNo (i := 40) (ls' := #[true, true, true, true, true, true, true, true, true, true, true, true, true, true, true, true, true, true, true, true, true, true, true, true, true, true, true, true, true, true, true, true, true, true, true, true, true, true, true, true, true, false, false, false]) HE349 HS234 rfl (by kernel_rfl) (by kernel_rfl) (by kernel_rfl) (fun _ _ _ h => h) rfl (wtF HE349 rfl rfl rfl (not_t hc38)) rfl rfl fun a_350 HE351 => ?_
                      refine dr_takeNo (i := 41) (ls' := #[true, true, true, true, true, true, true, true, true, true, true, true, true, true, true, true, true, true, true, true, true, true, true, true, true, true, true, true, true, true, true, true, true, true, true, true, true, true, true, true, true, true, false, false]) HE351 HS234 rfl (by kernel_rfl) (by kernel_rfl) (by kernel_rfl) (fun _ _ _ h => h) rfl (wtF HE351 rfl rfl rfl (not_t hc38)) rfl rfl fun a_352 HE353 => ?_
                      refine dr_takeNo (i := 42) (ls' := #[true, true, true, true, true, true, true, true, true, true, true, true, true, true, true, true, true, true, true, true, true, true, true, true, true, true, true, true, true, true, true, true, true, true, true, true, true, true, true, true, true, true, true, false]) HE353 HS234 rfl (by kernel_rfl) (by kernel_rfl) (by kernel_rfl) (fun _ _ _ h => h) rfl (wtF HE353 rfl rfl rfl (not_t hc38)) rfl rfl fun a_354 HE355 => ?_
                      refine dr_take (i := 43) (ls' := #[true, true, true, true, true, true, true, true, true, true, true, true, true, true, true, true, true, true, true, true, true, true, true, true, true, true, true, true, true, true, true, true, true, true, true, true, true, true, true, true, true, true, true, true]) HE355 HS234 rfl (by kernel_rfl) (by kernel_rfl) (by kernel_rfl) (fun _ _ _ h => h) rfl (wt0 rfl) (x_pickT rfl (not_t hc38) rfl) rfl rfl fun a_356 HE357 => ?_
                      refine dr_done (by kernel_rfl) ?_
                      clear HH107 HS158 a_161 HE162 a_167 HE168 a_169 HE170 a_171 HE172 a_173 HE174 a_175 HE176 a_177 HE178 a_179 HE180 a_181 HE182 a_183 HE184 a_185 HE186 a_187 HE188 a_189 HE190 HH165 a_191 HE192 HS166 a_196 HE197 a_199 HE200 a_201 HE202 a_203 HE204 a_205 HE206 a_207 HE208 a_209 HE210 a_211 HE212 a_213 HE214 a_215 HE216 a_217 HE218 a_219 HE220 a_221 HE222 a_223 HE224 a_225 HE226 K_193 hK194 HH195 a_227 HE228 HS198 a_232 HE233 a_235 HE236 a_237 HE238 a_239 HE240 a_336 HE337 a_338 HE339 a_340 HE341 a_342 HE343 a_344 HE345 a_346 HE347 a_348 HE349 a_350 HE351 a_352 HE353 a_354 HE355 hK230 K_229
                      refine nrm ?_
                      refine cndT HE357 rfl rfl ?_
                      refine wp_seq ?_
                      refine rg ?_
                      refine pl_x HE357 HH231 (wt0 rfl) (x_assign rfl) rfl rfl fun a_358 HE359 => ?_
                      refine wpList_nil ?_
                      clear a_356 HE357
                      refine nrm ?_
                      refine wp_ret ?_
                      refine (thn_ret (blk_ret (thn_ret (thn_ret (blk_ret (thn_ret ?_))))))
                      refine ret1 HE359 rfl (rv_tmp rfl) ?_
                      have hF : (validMulti a0) = false := by
                        first | (simp [validMulti, hc22, hc24, hc26, hc27, p28_0, p28_1, hc29, xe30, hc32, hc34, hc36, hc38]; done) | (unfold validMulti; rw [decide_eq_false (by omega)]; simp) | (unfold validMulti; rw [rg_hit (by omega : k < a0.2.2.2.length) (by unfold badMR; grind [beforeMR, validMR, rowB])]; simp) | (have hq := p28_1; rw [show k = a0.2.2.2.length from by omega] at hq; unfold validMulti; rw [hq, decide_eq_true (by omega)]; simp [hc22, hc24, hc26, hc27, p28_0, p28_1, hc29, xe30, hc32, hc34, hc36, hc38])
                      exact ⟨by first | (rw [hF] <;> rfl) | rfl | (rw [hF]; simp only [Ending.returned.injEq, Value.slice.injEq, true_and, and_true]; first | omega | (simp; done)) | (rw [hF]; simp; omega), HH231.below⟩
                  · refine dr_takeNo (i := 16) (ls' := #[true, true, true, true, true, true, true, true, true, true, true, true, true, true, true, true, true, false, false, false, false, false, false, false, false, false, false, false, false, false, false, false, false, false, false, false, false, false, false, false, false, false, false, false]) HE202 HS198 rfl (by kernel_rfl) (by kernel_rfl) (by kernel_rfl) (fun _ _ _ h => h) rfl (wtF HE202 rfl rfl rfl (not_t hc36)) rfl rfl fun a_360 HE361 => ?_
                    refine dr_takeNo (i := 17) (ls' := #[true, true, true, true, true, true, true, true, true, true, true, true, true, true, true, true, true, true, false, false, false, false, false, false, false, false, false, false, false, false, false, false, false, false, false, false, false, false, false, false, false, false, false, false]) HE361 HS198 rfl (by kernel_rfl) (by kernel_rfl) (by kernel_rfl) (fun _ _ _ h => h) rfl (wtF HE361 rfl rfl rfl (not_t hc36)) rfl rfl fun a_362 HE363 => ?_
                    refine dr_takeNo (i := 18) (ls' := #[true, true, true, true, true, true, true, true, true, true, true, true, true, true, true, true, true, true, true, false, false, false, false, false, false, false, false, false, false, false, false, false, false, false, false, false, false, false, false, false, false, false, false, false]) HE363 HS198 rfl (by kernel_rfl) (by kernel_rfl) (by kernel_rfl) (fun _ _ _ h => h) rfl (wtF HE363 rfl rfl rfl (not_t hc36)) rfl rfl fun a_364 HE365 => ?_
                    refine dr_takeNo (i := 19) (ls' := #[true, true, true, true, true, true, true, true, true, true, true, true, true, true, true, true, true, true, true, true, false, false, false, false, false, false, false, false, false, false, false, false, false, false, false, false, false, false, false, false, false, false, false, false]) HE365 HS198 rfl (by kernel_rfl) (by kernel_rfl) (by kernel_rfl) (fun _ _ _ h => h) rfl (wtF HE365 rfl rfl rfl (not_t hc36)) rfl rfl fun a_366 HE367 => ?_
                    refine dr_takeNo (i := 20) (ls' := #[true, true, true, true, true, true, true, true, true, true, true, true, true, true, true, true, true, true, true, true, true, false, false, false, false, false, false, false, false, false, false, false, false, false, false, false, false, false, false, false, false, false, false, false]) HE367 HS198 rfl (by kernel_rfl) (by kernel_rfl) (by kernel_rfl) (fun _ _ _ h => h) rfl (wtF HE367 rfl rfl rfl (not_t hc36)) rfl rfl fun a_368 HE369 => ?_
                    refine dr_takeNo (i := 21) (ls' := #[true, true, true, true, true, true, true, true, true, true, true, true, true, true, true, true, true, true, true, true, true, true, false, false, false, false, false, false, false, false, false, false, false, false, false, false, false, false, false, false, false, false, false, false]) HE369 HS198 rfl (by kernel_rfl) (by kernel_rfl) (by kernel_rfl) (fun _ _ _ h => h) rfl (wtF HE369 rfl rfl rfl (not_t hc36)) rfl rfl fun a_370 HE371 => ?_
                    refine dr_takeNo (i := 22) (ls' := #[true, true, true, true, true, true, true, true, true, true, true, true, true, true, true, true, true, true, true, true, true, true, true, false, false, false, false, false, false, false, false, false, false, false, false, false, false, false, false, false, false, false, false, false]) HE371 HS198 rfl (by kernel_rfl) (by kernel_rfl) (by kernel_rfl) (fun _ _ _ h => h) rfl (wtF HE371 rfl rfl rfl (not_t hc36)) rfl rfl fun a_372 HE373 => ?_
                    refine dr_takeNo (i := 23) (ls' := #[true, true, true, true, true, true, true, true, true, true, true, true, true, true, true, true, true, true, true, true, true, true, true, true, false, false, false, false, false, false, false, false, false, false, false, false, false, false, false, false, false, false, false, false]) HE373 HS198 rfl (by kernel_rfl) (by kernel_rfl) (by kernel_rfl) (fun _ _ _ h => h) rfl (wtF HE373 rfl rfl rfl (not_t hc36)) rfl rfl fun a_374 HE375 => ?_
                    refine dr_takeNo (i := 24) (ls' := #[true, true, true, true, true, true, true, true, true, true, true, true, true, true, true, true, true, true, true, true, true, true, true, true, true, false, false, false, false, false, false, false, false, false, false, false, false, false, false, false, false, false, false, false]) HE375 HS198 rfl (by kernel_rfl) (by kernel_rfl) (by kernel_rfl) (fun _ _ _ h => h) rfl (wtF HE375 rfl rfl rfl (not_t hc36)) rfl rfl fun a_376 HE377 => ?_
                    refine dr_takeNo (i := 25) (ls' := #[true, true, true, true, true, true, true, true, true, true, true, true, true, true, true, true, true, true, true, true, true, true, true, true, true, true, false, false, false, false, false, false, false, false, false, false, false, false, false, false, false, false, false, false]) HE377 HS198 rfl (by kernel_rfl) (by kernel_rfl) (by kernel_rfl) (fun _ _ _ h => h) rfl (wtF HE377 rfl rfl rfl (not_t hc36)) rfl rfl fun a_378 HE379 => ?_
                    refine dr_takeNo (i := 26) (ls' := #[true, true, true, true, true, true, true, true, true, true, true, true, true, true, true, true, true, true, true, true, true, true, true, true, true, true, true, false, false, false, false, false, false, false, false, false, false, false, false, false, false, false, false, false]) HE379 HS198 rfl (by kernel_rfl) (by kernel_rfl) (by kernel_rfl) (fun _ _ _ h => h) rfl (wtF HE379 rfl rfl rfl (not_t hc36)) rfl rfl fun a_380 HE381 => ?_
                    refine dr_takeNo (i := 27) (ls' := #[true, true, true, true, true, true, true, true, true, true, true, true, true, true, true, true, true, true, true, true, true, true, true, true, true, true, true, true, false, false, false, false, false, false, false, false, false, false, false, false, false, false, false, false]) HE381 HS198 rfl (by kernel_rfl) (by kernel_rfl) (by kernel_rfl) (fun _ _ _ h => h) rfl (wtF HE381 rfl rfl rfl (not_t hc36)) rfl rfl fun a_382 HE383 => ?_
                    refine dr_takeNo (i := 28) (ls' := #[true, true, true, true, true, true, true, true, true, true, true, true, true, true, true, true, true, true, true, true, true, true, true, true, true, true, true, true, true, false, false, false, false, false, false, false, false, false, false, false, false, false, false, false]) HE383 HS198 rfl (by kernel_rfl) (by kernel_rfl) (by kernel_rfl) (fun _ _ _ h => h) rfl (wtF HE383 rfl rfl rfl (not_t hc36)) rfl rfl fun a_384 HE385 => ?_
                    refine dr_takeNo (i := 29) (ls' := #[true, true, true, true, true, true, true, true, true, true, true, true, true, true, true, true, true, true, true, true, true, true, true, true, true, true, true, true, true, true, false, false, false, false, false, false, false, false, false, false, false, false, false, false]) HE385 HS198 rfl (by kernel_rfl) (by kernel_rfl) (by kernel_rfl) (fun _ _ _ h => h) rfl (wtF HE385 rfl rfl rfl (not_t hc36)) rfl rfl fun a_386 HE387 => ?_
                    refine dr_takeNo (i := 30) (ls' := #[true, true, true, true, true, true, true, true, true, true, true, true, true, true, true, true, true, true, true, true, true, true, true, true, true, true, true, true, true, true, true, false, false, false, false, false, false, false, false, false, false, false, false, false]) HE387 HS198 rfl (by kernel_rfl) (by kernel_rfl) (by kernel_rfl) (fun _ _ _ h => h) rfl (wtF HE387 rfl rfl rfl (not_t hc36)) rfl rfl fun a_388 HE389 => ?_
                    refine dr_take (i := 31) (ls' := #[true, true, true, true, true, true, true, true, true, true, true, true, true, true, true, true, true, true, true, true, true, true, true, true, true, true, true, true, true, true, true, true, false, false, false, false, false, false, false, false, false, false, false, false]) HE389 HS198 rfl (by kernel_rfl) (by kernel_rfl) (by kernel_rfl) (fun _ _ _ h => h) rfl (wt0 rfl) (x_pickT rfl (not_t hc36) rfl) rfl rfl fun a_390 HE391 => ?_
                    refine dr_take (i := 32) (ls' := #[true, true, true, true, true, true, true, true, true, true, true, true, true, true, true, true, true, true, true, true, true, true, true, true, true, true, true, true, true, true, true, true, true, false, false, false, false, false, false, false, false, false, false, false]) HE391 HS198 rfl (by kernel_rfl) (by kernel_rfl) (by kernel_rfl) (fun _ _ _ h => h) rfl (wt0 rfl) (x_move rfl) rfl rfl fun a_392 HE393 => ?_
                    refine dr_takeNo (i := 33) (ls' := #[true, true, true, true, true, true, true, true, true, true, true, true, true, true, true, true, true, true, true, true, true, true, true, true, true, true, true, true, true, true, true, true, true, true, false, false, false, false, false, false, false, false, false, false]) HE393 HS198 rfl (by kernel_rfl) (by kernel_rfl) (by kernel_rfl) (fun _ _ _ h => h) rfl (wtF HE393 rfl rfl rfl rfl) rfl rfl fun a_394 HE395 => ?_
                    refine dr_takeNo (i := 34) (ls' := #[true, true, true, true, true, true, true, true, true, true, true, true, true, true, true, true, true, true, true, true, true, true, true, true, true, true, true, true, true, true, true, true, true, true, true, false, false, false, false, false, false, false, false, false]) HE395 HS198 rfl (by kernel_rfl) (by kernel_rfl) (by kernel_rfl) (fun _ _ _ h => h) rfl (wtF HE395 rfl rfl rfl rfl) rfl rfl fun a_396 HE397 => ?_
                    refine dr_takeNo (i := 35) (ls' := #[true, true, true, true, true, true, true, true, true, true, true, true, true, true, true, true, true, true, true, true, true, true, true, true, true, true, true, true, true, true, true, true, true, true, true, true, false, false, false, false, false, false, false, false]) HE397 HS198 rfl (by kernel_rfl) (by kernel_rfl) (by kernel_rfl) (fun _ _ _ h => h) rfl (wtF HE397 rfl rfl rfl rfl) rfl rfl fun a_398 HE399 => ?_
                    refine dr_takeNo (i := 36) (ls' := #[true, true, true, true, true, true, true, true, true, true, true, true, true, true, true, true, true, true, true, true, true, true, true, true, true, true, true, true, true, true, true, true, true, true, true, true, true, false, false, false, false, false, false, false]) HE399 HS198 rfl (by kernel_rfl) (by kernel_rfl) (by kernel_rfl) (fun _ _ _ h => h) rfl (wtF HE399 rfl rfl rfl rfl) rfl rfl fun a_400 HE401 => ?_
                    refine dr_takeNo (i := 37) (ls' := #[true, true, true, true, true, true, true, true, true, true, true, true, true, true, true, true, true, true, true, true, true, true, true, true, true, true, true, true, true, true, true, true, true, true, true, true, true, true, false, false, false, false, false, false]) HE401 HS198 rfl (by kernel_rfl) (by kernel_rfl) (by kernel_rfl) (fun _ _ _ h => h) rfl (wtF HE401 rfl rfl rfl rfl) rfl rfl fun a_402 HE403 => ?_
                    refine dr_takeNo (i := 38) (ls' := #[true, true, true, true, true, true, true, true, true, true, true, true, true, true, true, true, true, true, true, true, true, true, true, true, true, true, true, true, true, true, true, true, true, true, true, true, true, true, true, false, false, false, false, false]) HE403 HS198 rfl (by kernel_rfl) (by kernel_rfl) (by kernel_rfl) (fun _ _ _ h => h) rfl (wtF HE403 rfl rfl rfl rfl) rfl rfl fun a_404 HE405 => ?_
                    refine dr_takeNo (i := 39) (ls' := #[true, true, true, true, true, true, true, true, true, true, true, true, true, true, true, true, true, true, true, true, true, true, true, true, true, true, true, true, true, true, true, true, true, true, true, true, true, true, true, true, false, false, false, false]) HE405 HS198 rfl (by kernel_rfl) (by kernel_rfl) (by kernel_rfl) (fun _ _ _ h => h) rfl (wtF HE405 rfl rfl rfl rfl) rfl rfl fun a_406 HE407 => ?_
                    refine dr_takeNo (i := 40) (ls' := #[true, true, true, true, true, true, true, true, true, true, true, true, true, true, true, true, true, true, true, true, true, true, true, true, true, true, true, true, true, true, true, true, true, true, true, true, true, true, true, true, true, false, false, false]) HE407 HS198 rfl (by kernel_rfl) (by kernel_rfl) (by kernel_rfl) (fun _ _ _ h => h) rfl (wtF HE407 rfl rfl rfl rfl) rfl rfl fun a_408 HE409 => ?_
                    refine dr_takeNo (i := 41) (ls' := #[true, true, true, true, true, true, true, true, true, true, true, true, true, true, true, true, true, true, true, true, true, true, true, true, true, true, true, true, true, true, true, true, true, true, true, true, true, true, true, true, true, true, false, false]) HE409 HS198 rfl (by kernel_rfl) (by kernel_rfl) (by kernel_rfl) (fun _ _ _ h => h) rfl (wtF HE409 rfl rfl rfl rfl) rfl rfl fun a_410 HE411 => ?_
                    refine dr_takeNo (i := 42) (ls' := #[true, true, true, true, true, true, true, true, true, true, true, true, true, true, true, true, true, true, true, true, true, true, true, true, true, true, true, true, true, true, true, true, true, true, true, true, true, true, true, true, true, true, true, false]) HE411 HS198 rfl (by kernel_rfl) (by kernel_rfl) (by kernel_rfl) (fun _ _ _ h => h) rfl (wtF HE411 rfl rfl rfl rfl) rfl rfl fun a_412 HE413 => ?_
                    refine dr_take (i := 43) (ls' := #[true, true, true, true, true, true, true, true, true, true, true, true, true, true, true, true, true, true, true, true, true, true, true, true, true, true, true, true, true, true, true, true, true, true, true, true, true, true, true, true, true, true, true, true]) HE413 HS198 rfl (by kernel_rfl) (by kernel_rfl) (by kernel_rfl) (fun _ _ _ h => h) rfl (wt0 rfl) (x_pickT rfl rfl rfl) rfl rfl fun a_414 HE415 => ?_
                    refine dr_done (by kernel_rfl) ?_
                    clear HH107 HS158 a_161 HE162 a_167 HE168 a_169 HE170 a_171 HE172 a_173 HE174 a_175 HE176 a_177 HE178 a_179 HE180 a_181 HE182 a_183 HE184 a_185 HE186 a_187 HE188 a_189 HE190 HH165 a_191 HE192 HS166 a_196 HE197 a_199 HE200 a_201 HE202 a_360 HE361 a_362 HE363 a_364 HE365 a_366 HE367 a_368 HE369 a_370 HE371 a_372 HE373 a_374 HE375 a_376 HE377 a_378 HE379 a_380 HE381 a_382 HE383 a_384 HE385 a_386 HE387 a_388 HE389 a_390 HE391 a_392 HE393 a_394 HE395 a_396 HE397 a_398 HE399 a_400 HE401 a_402 HE403 a_404 HE405 a_406 HE407 a_408 HE409 a_410 HE411 a_412 HE413 hK194 K_193
                    refine nrm ?_
                    refine cndT HE415 rfl rfl ?_
                    refine wp_seq ?_
                    refine rg ?_
                    refine pl_x HE415 HH195 (wt0 rfl) (x_assign rfl) rfl rfl fun a_416 HE417 => ?_
                    refine wpList_nil ?_
                    clear a_414 HE415
                    refine nrm ?_
                    refine wp_ret ?_
                    refine (thn_ret (blk_ret (thn_ret (thn_ret (blk_ret (thn_ret ?_))))))
                    refine ret1 HE417 rfl (rv_tmp rfl) ?_
                    have hF : (validMulti a0) = false := by
                      first | (simp [validMulti, hc22, hc24, hc26, hc27, p28_0, p28_1, hc29, xe30, hc32, hc34, hc36]; done) | (unfold validMulti; rw [decide_eq_false (by omega)]; simp) | (unfold validMulti; rw [rg_hit (by omega : k < a0.2.2.2.length) (by unfold badMR; grind [beforeMR, validMR, rowB])]; simp) | (have hq := p28_1; rw [show k = a0.2.2.2.length from by omega] at hq; unfold validMulti; rw [hq, decide_eq_true (by omega)]; simp [hc22, hc24, hc26, hc27, p28_0, p28_1, hc29, xe30, hc32, hc34, hc36])
                    exact ⟨by first | (rw [hF] <;> rfl) | rfl | (rw [hF]; simp only [Ending.returned.injEq, Value.slice.injEq, true_and, and_true]; first | omega | (simp; done)) | (rw [hF]; simp; omega), HH195.below⟩
              · refine dr_takeNo (i := 12) (ls' := #[true, true, true, true, true, true, true, true, true, true, true, true, true, false, false, false, false, false, false, false, false, false, false, false]) HE135 HS131 rfl (by kernel_rfl) (by kernel_rfl) (by kernel_rfl) (fun _ _ _ h => h) rfl (wtF HE135 rfl rfl rfl (not_t hc32)) rfl rfl fun a_418 HE419 => ?_
                refine dr_takeNo (i := 13) (ls' := #[true, true, true, true, true, true, true, true, true, true, true, true, true, true, false, false, false, false, false, false, false, false, false, false]) HE419 HS131 rfl (by kernel_rfl) (by kernel_rfl) (by kernel_rfl) (fun _ _ _ h => h) rfl (wtF HE419 rfl rfl rfl (not_t hc32)) rfl rfl fun a_420 HE421 => ?_
                refine dr_takeNo (i := 14) (ls' := #[true, true, true, true, true, true, true, true, true, true, true, true, true, true, true, false, false, false, false, false, false, false, false, false]) HE421 HS131 rfl (by kernel_rfl) (by kernel_rfl) (by kernel_rfl) (fun _ _ _ h => h) rfl (wtF HE421 rfl rfl rfl (not_t hc32)) rfl rfl fun a_422 HE423 => ?_
                refine dr_takeNo (i := 15) (ls' := #[true, true, true, true, true, true, true, true, true, true, true, true, true, true, true, true, false, false, false, false, false, false, false, false]) HE423 HS131 rfl (by kernel_rfl) (by kernel_rfl) (by kernel_rfl) (fun _ _ _ h => h) rfl (wtF HE423 rfl rfl rfl (not_t hc32)) rfl rfl fun a_424 HE425 => ?_
                refine dr_takeNo (i := 16) (ls' := #[true, true, true, true, true, true, true, true, true, true, true, true, true, true, true, true, true, false, false, false, false, false, false, false]) HE425 HS131 rfl (by kernel_rfl) (by kernel_rfl) (by kernel_rfl) (fun _ _ _ h => h) rfl (wtF HE425 rfl rfl rfl (not_t hc32)) rfl rfl fun a_426 HE427 => ?_
                refine dr_takeNo (i := 17) (ls' := #[true, true, true, true, true, true, true, true, true, true, true, true, true, true, true, true, true, true, false, false, false, false, false, false]) HE427 HS131 rfl (by kernel_rfl) (by kernel_rfl) (by kernel_rfl) (fun _ _ _ h => h) rfl (wtF HE427 rfl rfl rfl (not_t hc32)) rfl rfl fun a_428 HE429 => ?_
                refine dr_takeNo (i := 18) (ls' := #[true, true, true, true, true, true, true, true, true, true, true, true, true, true, true, true, true, true, true, false, false, false, false, false]) HE429 HS131 rfl (by kernel_rfl) (by kernel_rfl) (by kernel_rfl) (fun _ _ _ h => h) rfl (wtF HE429 rfl rfl rfl (not_t hc32)) rfl rfl fun a_430 HE431 => ?_
                refine dr_takeNo (i := 19) (ls' := #[true, true, true, true, true, true, true, true, true, true, true, true, true, true, true, true, true, true, true, true, false, false, false, false]) HE431 HS131 rfl (by kernel_rfl) (by kernel_rfl) (by kernel_rfl) (fun _ _ _ h => h) rfl (wtF HE431 rfl rfl rfl (not_t hc32)) rfl rfl fun a_432 HE433 => ?_
                refine dr_takeNo (i := 20) (ls' := #[true, true, true, true, true, true, true, true, true, true, true, true, true, true, true, true, true, true, true, true, true, false, false, false]) HE433 HS131 rfl (by kernel_rfl) (by kernel_rfl) (by kernel_rfl) (fun _ _ _ h => h) rfl (wtF HE433 rfl rfl rfl (not_t hc32)) rfl rfl fun a_434 HE435 => ?_
                refine dr_takeNo (i := 21) (ls' := #[true, true, true, true, true, true, true, true, true, true, true, true, true, true, true, true, true, true, true, true, true, true, false, false]) HE435 HS131 rfl (by kernel_rfl) (by kernel_rfl) (by kernel_rfl) (fun _ _ _ h => h) rfl (wtF HE435 rfl rfl rfl (not_t hc32)) rfl rfl fun a_436 HE437 => ?_
                refine dr_takeNo (i := 22) (ls' := #[true, true, true, true, true, true, true, true, true, true, true, true, true, true, true, true, true, true, true, true, true, true, true, false]) HE437 HS131 rfl (by kernel_rfl) (by kernel_rfl) (by kernel_rfl) (fun _ _ _ h => h) rfl (wtF HE437 rfl rfl rfl (not_t hc32)) rfl rfl fun a_438 HE439 => ?_
                refine dr_take (i := 23) (ls' := #[true, true, true, true, true, true, true, true, true, true, true, true, true, true, true, true, true, true, true, true, true, true, true, true]) HE439 HS131 rfl (by kernel_rfl) (by kernel_rfl) (by kernel_rfl) (fun _ _ _ h => h) rfl (wt0 rfl) (x_pickT rfl (not_t hc32) rfl) rfl rfl fun a_440 HE441 => ?_
                refine dr_done (by kernel_rfl) ?_
                clear HH78 a_105 HE106 a_109 HE110 a_111 HE112 a_113 HE114 a_115 HE116 a_117 HE118 a_119 HE120 a_121 HE122 a_123 HE124 a_125 HE126 HS108 a_129 HE130 a_132 HE133 a_134 HE135 a_418 HE419 a_420 HE421 a_422 HE423 a_424 HE425 a_426 HE427 a_428 HE429 a_430 HE431 a_432 HE433 a_434 HE435 a_436 HE437 a_438 HE439 hK128 K_127
                refine nrm ?_
                refine cndT HE441 rfl rfl ?_
                refine wp_seq ?_
                refine rg ?_
                refine pl_x HE441 HH107 (wt0 rfl) (x_assign rfl) rfl rfl fun a_442 HE443 => ?_
                refine wpList_nil ?_
                clear a_440 HE441
                refine nrm ?_
                refine wp_ret ?_
                refine (thn_ret (blk_ret (thn_ret (thn_ret (blk_ret (thn_ret ?_))))))
                refine ret1 HE443 rfl (rv_tmp rfl) ?_
                have hF : (validMulti a0) = false := by
                  first | (simp [validMulti, hc22, hc24, hc26, hc27, p28_0, p28_1, hc29, xe30, hc32]; done) | (unfold validMulti; rw [decide_eq_false (by omega)]; simp) | (unfold validMulti; rw [rg_hit (by omega : k < a0.2.2.2.length) (by unfold badMR; grind [beforeMR, validMR, rowB])]; simp) | (have hq := p28_1; rw [show k = a0.2.2.2.length from by omega] at hq; unfold validMulti; rw [hq, decide_eq_true (by omega)]; simp [hc22, hc24, hc26, hc27, p28_0, p28_1, hc29, xe30, hc32])
                exact ⟨by first | (rw [hF] <;> rfl) | rfl | (rw [hF]; simp only [Ending.returned.injEq, Value.slice.injEq, true_and, and_true]; first | omega | (simp; done)) | (rw [hF]; simp; omega), HH107.below⟩
            · refine wp_exit ?_
              refine (thn_exit (thn_exit (blk_hit ?_)))
              refine nrm ?_
              refine wp_seq ?_
              refine rg ?_
              refine pl_x HE92 HH78 (wt0 rfl) (x_assign rfl) rfl rfl fun a_444 HE445 => ?_
              refine wpList_nil ?_
              clear a_91 HE92
              refine nrm ?_
              refine wp_ret ?_
              refine ret1 HE445 rfl (rv_tmp rfl) ?_
              have hF : (validMulti a0) = true := by
                first | (simp [validMulti, hc22, hc24, hc26, hc27, p28_0, p28_1, hc29]; done) | (unfold validMulti; rw [decide_eq_false (by omega)]; simp) | (unfold validMulti; rw [rg_hit (by omega : k < a0.2.2.2.length) (by unfold badMR; grind [beforeMR, validMR, rowB])]; simp) | (have hq := p28_1; rw [show k = a0.2.2.2.length from by omega] at hq; unfold validMulti; rw [hq, decide_eq_true (by omega)]; simp [hc22, hc24, hc26, hc27, p28_0, p28_1, hc29])
              exact ⟨by first | (rw [hF] <;> rfl) | rfl | (rw [hF]; simp only [Ending.returned.injEq, Value.slice.injEq, true_and, and_true]; first | omega | (simp; done)) | (rw [hF]; simp; omega), HH78.below⟩
      · refine pl_no HE57 (wtF HE57 rfl rfl rfl (not_t hc26)) rfl rfl fun a_446 HE447 => ?_
        refine pl_no HE447 (wtF HE447 rfl rfl rfl (not_t hc26)) rfl rfl fun a_448 HE449 => ?_
        refine pl_no HE449 (wtF HE449 rfl rfl rfl (not_t hc26)) rfl rfl fun a_450 HE451 => ?_
        refine pl_no HE451 (wtF HE451 rfl rfl rfl (not_t hc26)) rfl rfl fun a_452 HE453 => ?_
        refine pl_no HE453 (wtF HE453 rfl rfl rfl (not_t hc26)) rfl rfl fun a_454 HE455 => ?_
        refine pl_no HE455 (wtF HE455 rfl rfl rfl (not_t hc26)) rfl rfl fun a_456 HE457 => ?_
        refine pl_x HE457 HH1 (wt0 rfl) (x_pickT rfl (not_t hc26) rfl) rfl rfl fun a_458 HE459 => ?_
        refine wpList_nil ?_
        clear a_4 HE5 a_6 HE7 a_8 HE9 a_10 HE11 a_12 HE13 a_16 HE17 a_18 HE19 a_20 HE21 a_22 HE23 a_24 HE25 a_26 HE27 K_14 hK15 a_28 HE29 a_32 HE33 a_34 HE35 a_36 HE37 a_38 HE39 a_40 HE41 a_42 HE43 a_44 HE45 K_30 hK31 a_46 HE47 a_50 HE51 a_52 HE53 a_54 HE55 a_56 HE57 a_446 HE447 a_448 HE449 a_450 HE451 a_452 HE453 a_454 HE455 a_456 HE457 hK49 K_48
        refine nrm ?_
        refine cndT HE459 rfl rfl ?_
        refine wp_seq ?_
        refine rg ?_
        refine pl_x HE459 HH1 (wt0 rfl) (x_assign rfl) rfl rfl fun a_460 HE461 => ?_
        refine wpList_nil ?_
        clear a_458 HE459
        refine nrm ?_
        refine wp_ret ?_
        refine (thn_ret ?_)
        refine ret1 HE461 rfl (rv_tmp rfl) ?_
        have hF : (validMulti a0) = false := by
          first | (simp [validMulti, hc22, hc24, hc26]; done) | (unfold validMulti; rw [decide_eq_false (by omega)]; simp) | (unfold validMulti; rw [rg_hit (by omega : k < a0.2.2.2.length) (by unfold badMR; grind [beforeMR, validMR, rowB])]; simp) | (have hq := p0_1; rw [show k = a0.2.2.2.length from by omega] at hq; unfold validMulti; rw [hq, decide_eq_true (by omega)]; simp [hc22, hc24, hc26])
        exact ⟨by first | (rw [hF] <;> rfl) | rfl | (rw [hF]; simp only [Ending.returned.injEq, Value.slice.injEq, true_and, and_true]; first | omega | (simp; done)) | (rw [hF]; simp; omega), HH1.below⟩
    · refine pl_no HE39 (wtF HE39 rfl rfl rfl (not_t hc24)) rfl rfl fun a_462 HE463 => ?_
      refine pl_no HE463 (wtF HE463 rfl rfl rfl (not_t hc24)) rfl rfl fun a_464 HE465 => ?_
      refine pl_no HE465 (wtF HE465 rfl rfl rfl (not_t hc24)) rfl rfl fun a_466 HE467 => ?_
      refine pl_no HE467 (wtF HE467 rfl rfl rfl (not_t hc24)) rfl rfl fun a_468 HE469 => ?_
      refine pl_no HE469 (wtF HE469 rfl rfl rfl (not_t hc24)) rfl rfl fun a_470 HE471 => ?_
      refine pl_no HE471 (wtF HE471 rfl rfl rfl (not_t hc24)) rfl rfl fun a_472 HE473 => ?_
      refine pl_x HE473 HH1 (wt0 rfl) (x_pickT rfl (not_t hc24) rfl) rfl rfl fun a_474 HE475 => ?_
      refine pl_x HE475 HH1 (wt0 rfl) (x_move rfl) rfl rfl fun a_476 HE477 => ?_
      refine pl_no HE477 (wtF HE477 rfl rfl rfl rfl) rfl rfl fun a_478 HE479 => ?_
      refine pl_no HE479 (wtF HE479 rfl rfl rfl rfl) rfl rfl fun a_480 HE481 => ?_
      refine pl_no HE481 (wtF HE481 rfl rfl rfl rfl) rfl rfl fun a_482 HE483 => ?_
      refine pl_no HE483 (wtF HE483 rfl rfl rfl rfl) rfl rfl fun a_484 HE485 => ?_
      refine pl_no HE485 (wtF HE485 rfl rfl rfl rfl) rfl rfl fun a_486 HE487 => ?_
      refine pl_no HE487 (wtF HE487 rfl rfl rfl rfl) rfl rfl fun a_488 HE489 => ?_
      refine pl_x HE489 HH1 (wt0 rfl) (x_pickT rfl rfl rfl) rfl rfl fun a_490 HE491 => ?_
      refine wpList_nil ?_
      clear a_4 HE5 a_6 HE7 a_8 HE9 a_10 HE11 a_12 HE13 a_16 HE17 a_18 HE19 a_20 HE21 a_22 HE23 a_24 HE25 a_26 HE27 K_14 hK15 a_28 HE29 a_32 HE33 a_34 HE35 a_36 HE37 a_38 HE39 a_462 HE463 a_464 HE465 a_466 HE467 a_468 HE469 a_470 HE471 a_472 HE473 a_474 HE475 a_476 HE477 a_478 HE479 a_480 HE481 a_482 HE483 a_484 HE485 a_486 HE487 a_488 HE489 hK31 K_30
      refine nrm ?_
      refine cndT HE491 rfl rfl ?_
      refine wp_seq ?_
      refine rg ?_
      refine pl_x HE491 HH1 (wt0 rfl) (x_assign rfl) rfl rfl fun a_492 HE493 => ?_
      refine wpList_nil ?_
      clear a_490 HE491
      refine nrm ?_
      refine wp_ret ?_
      refine (thn_ret ?_)
      refine ret1 HE493 rfl (rv_tmp rfl) ?_
      have hF : (validMulti a0) = false := by
        first | (simp [validMulti, hc22, hc24]; done) | (unfold validMulti; rw [decide_eq_false (by omega)]; simp) | (unfold validMulti; rw [rg_hit (by omega : k < a0.2.2.2.length) (by unfold badMR; grind [beforeMR, validMR, rowB])]; simp) | (have hq := p0_1; rw [show k = a0.2.2.2.length from by omega] at hq; unfold validMulti; rw [hq, decide_eq_true (by omega)]; simp [hc22, hc24])
      exact ⟨by first | (rw [hF] <;> rfl) | rfl | (rw [hF]; simp only [Ending.returned.injEq, Value.slice.injEq, true_and, and_true]; first | omega | (simp; done)) | (rw [hF]; simp; omega), HH1.below⟩
  · refine pl_no HE21 (wtF HE21 rfl rfl rfl (not_t hc22)) rfl rfl fun a_494 HE495 => ?_
    refine pl_no HE495 (wtF HE495 rfl rfl rfl (not_t hc22)) rfl rfl fun a_496 HE497 => ?_
    refine pl_no HE497 (wtF HE497 rfl rfl rfl (not_t hc22)) rfl rfl fun a_498 HE499 => ?_
    refine pl_no HE499 (wtF HE499 rfl rfl rfl (not_t hc22)) rfl rfl fun a_500 HE501 => ?_
    refine pl_no HE501 (wtF HE501 rfl rfl rfl (not_t hc22)) rfl rfl fun a_502 HE503 => ?_
    refine pl_no HE503 (wtF HE503 rfl rfl rfl (not_t hc22)) rfl rfl fun a_504 HE505 => ?_
    refine pl_x HE505 HH1 (wt0 rfl) (x_pickT rfl (not_t hc22) rfl) rfl rfl fun a_506 HE507 => ?_
    refine pl_x HE507 HH1 (wt0 rfl) (x_move rfl) rfl rfl fun a_508 HE509 => ?_
    refine pl_no HE509 (wtF HE509 rfl rfl rfl rfl) rfl rfl fun a_510 HE511 => ?_
    refine pl_no HE511 (wtF HE511 rfl rfl rfl rfl) rfl rfl fun a_512 HE513 => ?_
    refine pl_no HE513 (wtF HE513 rfl rfl rfl rfl) rfl rfl fun a_514 HE515 => ?_
    refine pl_no HE515 (wtF HE515 rfl rfl rfl rfl) rfl rfl fun a_516 HE517 => ?_
    refine pl_no HE517 (wtF HE517 rfl rfl rfl rfl) rfl rfl fun a_518 HE519 => ?_
    refine pl_no HE519 (wtF HE519 rfl rfl rfl rfl) rfl rfl fun a_520 HE521 => ?_
    refine pl_x HE521 HH1 (wt0 rfl) (x_pickT rfl rfl rfl) rfl rfl fun a_522 HE523 => ?_
    refine pl_x HE523 HH1 (wt0 rfl) (x_move rfl) rfl rfl fun a_524 HE525 => ?_
    refine pl_no HE525 (wtF HE525 rfl rfl rfl rfl) rfl rfl fun a_526 HE527 => ?_
    refine pl_no HE527 (wtF HE527 rfl rfl rfl rfl) rfl rfl fun a_528 HE529 => ?_
    refine pl_no HE529 (wtF HE529 rfl rfl rfl rfl) rfl rfl fun a_530 HE531 => ?_
    refine pl_no HE531 (wtF HE531 rfl rfl rfl rfl) rfl rfl fun a_532 HE533 => ?_
    refine pl_no HE533 (wtF HE533 rfl rfl rfl rfl) rfl rfl fun a_534 HE535 => ?_
    refine pl_no HE535 (wtF HE535 rfl rfl rfl rfl) rfl rfl fun a_536 HE537 => ?_
    refine pl_x HE537 HH1 (wt0 rfl) (x_pickT rfl rfl rfl) rfl rfl fun a_538 HE539 => ?_
    refine wpList_nil ?_
    clear a_4 HE5 a_6 HE7 a_8 HE9 a_10 HE11 a_12 HE13 a_16 HE17 a_18 HE19 a_20 HE21 a_494 HE495 a_496 HE497 a_498 HE499 a_500 HE501 a_502 HE503 a_504 HE505 a_506 HE507 a_508 HE509 a_510 HE511 a_512 HE513 a_514 HE515 a_516 HE517 a_518 HE519 a_520 HE521 a_522 HE523 a_524 HE525 a_526 HE527 a_528 HE529 a_530 HE531 a_532 HE533 a_534 HE535 a_536 HE537 hK15 K_14
    refine nrm ?_
    refine cndT HE539 rfl rfl ?_
    refine wp_seq ?_
    refine rg ?_
    refine pl_x HE539 HH1 (wt0 rfl) (x_assign rfl) rfl rfl fun a_540 HE541 => ?_
    refine wpList_nil ?_
    clear a_538 HE539
    refine nrm ?_
    refine wp_ret ?_
    refine (thn_ret ?_)
    refine ret1 HE541 rfl (rv_tmp rfl) ?_
    have hF : (validMulti a0) = false := by
      first | (simp [validMulti, hc22]; done) | (unfold validMulti; rw [decide_eq_false (by omega)]; simp) | (unfold validMulti; rw [rg_hit (by omega : k < a0.2.2.2.length) (by unfold badMR; grind [beforeMR, validMR, rowB])]; simp) | (have hq := p0_1; rw [show k = a0.2.2.2.length from by omega] at hq; unfold validMulti; rw [hq, decide_eq_true (by omega)]; simp [hc22])
    exact ⟨by first | (rw [hF] <;> rfl) | rfl | (rw [hF]; simp only [Ending.returned.injEq, Value.slice.injEq, true_and, and_true]; first | omega | (simp; done)) | (rw [hF]; simp; omega), HH1.below⟩

def two6 (state a b moveA moveB next : Int) : tMultiRule := (state, [a, b], [a, b], [moveA, moveB], next)

def two7 (state a b write one two next : Int) : tMultiRule := (state, [a, b], [a, write], [one, two], next)

def copyTo (k : Nat) : List tMultiRule := (List.range k).map fun (j : Nat) => two7 0 ((j : Int) + 1) 0 ((j : Int) + 1) 1 1 0

theorem copyTo_len (k : Nat) : (copyTo k).length = k := by simp [copyTo]

def copyRls (s : Int) : List tMultiRule := copyTo (s - 1).toNat

theorem one_MultiRule (w : World) (S : Nat → Prop) (es : List Value) (x : tMultiRule) (h : eMultiRule.R w S es x) : ∀ v ∈ es, v.oneCell' = true := by
  obtain ⟨c1, c2, rfl, ⟨rfl, _⟩, d1, d2, rfl, ⟨A1, n1, rfl, _⟩, e1, e2, rfl, ⟨A2, n2, rfl, _⟩, f1, f2, rfl, ⟨A3, n3, rfl, _⟩, rfl, _⟩ := h
  intro v hv
  simp at hv
  rcases hv with rfl | rfl | rfl | rfl | rfl <;> rfl

/-- The place of r among the first k. -/
def posMR (l : List tMultiRule) (r : tMultiRule) : Nat → Nat
  | 0 => 0
  | k + 1 => if beforeMR r (l[k]?.getD default) = true then posMR l r k else k + 1

def putMR (l : List tMultiRule) (r : tMultiRule) : List tMultiRule := l.take (posMR l r l.length) ++ r :: l.drop (posMR l r l.length)

theorem posMR_le (l : List tMultiRule) (r : tMultiRule) : ∀ k, posMR l r k ≤ k
  | 0 => Nat.le_refl _
  | k + 1 => by
    rw [posMR]
    split
    · have := posMR_le l r k; omega
    · exact Nat.le_refl _

theorem posMR_step {l : List tMultiRule} {r x : tMultiRule} {n k : Nat} (h : posMR l r n = posMR l r k) (hk : 0 < k) (hx : l[k - 1]? = some x) (hb : beforeMR r x = true) : posMR l r n = posMR l r (k - 1) := by
  obtain ⟨j, rfl⟩ : ∃ j, k = j + 1 := ⟨k - 1, by omega⟩
  rw [Nat.add_sub_cancel] at hx ⊢
  rw [h, posMR, hx, Option.getD_some, if_pos hb]

theorem posMR_stop {l : List tMultiRule} {r x : tMultiRule} {n k : Nat} (h : posMR l r n = posMR l r k) (hk : 0 < k) (hx : l[k - 1]? = some x) (hb : beforeMR r x = false) : posMR l r n = k := by
  obtain ⟨j, rfl⟩ : ∃ j, k = j + 1 := ⟨k - 1, by omega⟩
  rw [Nat.add_sub_cancel] at hx
  rw [h, posMR, hx, Option.getD_some, if_neg (by rw [hb]; exact Bool.false_ne_true)]

theorem posMR_zero {l : List tMultiRule} {r : tMultiRule} {n k : Nat} (h : posMR l r n = posMR l r k) (hk : ¬ 0 < (k : Int)) : posMR l r n = k := by
  have : k = 0 := by omega
  subst this; exact h

theorem putMR_len (l : List tMultiRule) (r : tMultiRule) : (putMR l r).length = l.length + 1 := by
  unfold putMR
  rw [List.length_append, List.length_cons, List.length_take, List.length_drop]
  have := posMR_le l r l.length
  omega

/-- A row whose elements behind k have been shifted. -/
def shR {α : Type} (l : List α) (z : α) (k : Nat) : List α := l.take k ++ ((l ++ [z])[k]?.getD z) :: l.drop k

theorem shR_len {α : Type} (l : List α) (z : α) (k : Nat) (h : k ≤ l.length) : (shR l z k).length = l.length + 1 := by
  unfold shR
  rw [List.length_append, List.length_cons, List.length_take, List.length_drop]; omega

theorem shR_start {α : Type} (l : List α) (z : α) : shR l z l.length = l ++ [z] := by
  unfold shR
  rw [List.take_of_length_le (Nat.le_refl _), List.drop_of_length_le (Nat.le_refl _), List.getElem?_append_right (Nat.le_refl _), Nat.sub_self]; rfl

theorem shR_set {α : Type} (l : List α) (z r : α) {k : Nat} (h : k ≤ l.length) : (shR l z k).set k r = l.take k ++ r :: l.drop k := by
  have hl : (l.take k).length = k := by rw [List.length_take]; omega
  unfold shR
  rw [List.set_append_right _ _ (by omega), hl, Nat.sub_self]; rfl

theorem shR_step {α : Type} {l : List α} {z e : α} {k : Nat} (h0 : 0 < k) (h : k ≤ l.length) (he : (shR l z k)[k - 1]? = some e) : shR l z (k - 1) = (shR l z k).set k e := by
  have hl : (l.take k).length = k := by rw [List.length_take]; omega
  have e1 : l[k - 1]? = some e := by
    unfold shR at he
    rw [List.getElem?_append_left (by omega), List.getElem?_take_of_lt (by omega)] at he
    exact he
  obtain ⟨j, rfl⟩ : ∃ j, k = j + 1 := ⟨k - 1, by omega⟩
  rw [Nat.add_sub_cancel] at e1 ⊢
  have hj : j < l.length := by omega
  have e2 : l[j] = e := by rw [List.getElem?_eq_getElem hj] at e1; exact Option.some.inj e1
  rw [shR_set l z e h]
  unfold shR
  rw [List.getElem?_append_left hj, e1, Option.getD_some, List.take_succ_eq_append_getElem hj, e2, List.drop_eq_getElem_cons hj, e2]
  simp

theorem put_perm {css : List (List Value)} {l : List tMultiRule} (hl : css.length = l.length) (e : List Value) (r : tMultiRule) (p : Nat) : ((e, r) :: css.zip l).Perm ((css.take p ++ e :: css.drop p).zip (l.take p ++ r :: l.drop p)) := by
  have h1 : (css.take p ++ e :: css.drop p).zip (l.take p ++ r :: l.drop p) = (css.take p).zip (l.take p) ++ (e, r) :: (css.drop p).zip (l.drop p) := by
    rw [List.zip_append (by rw [List.length_take, List.length_take, hl]), List.zip_cons_cons]
  have h2 : css.zip l = (css.take p).zip (l.take p) ++ (css.drop p).zip (l.drop p) := by
    rw [← List.zip_append (by rw [List.length_take, List.length_take, hl]), List.take_append_drop, List.take_append_drop]
  rw [h1, h2]
  exact List.perm_middle.symm

set_option maxRecDepth 100000 in
set_option maxHeartbeats 4000000 in
theorem spec_l06Put (M : Nat → Prop) (A0 : Option Addr) (c0 : Nat) (a0 : (List tMultiRule)) (S0 : Nat → Prop) (es1 : List Value) (a1 : tMultiRule) (S1 : Nat → Prop) (w : World) (HM : Held M w [rVec eMultiRule 104 S0 A0 c0 a0, rO eMultiRule S1 es1 a1] w) (s0 : a0.length ≤ 100000) :
    Calls Try.prog 69 #[.slice A0 a0.length c0, .agg es1.toArray] w fun e w' => ∃ (AR0' : Option Addr) (cR0' : Nat) (SR0' : Nat → Prop), e = .returned (.slice AR0' (putMR a0 a1).length cR0') ∧ Held M w [rVec eMultiRule 104 SR0' AR0' cR0' (putMR a0 a1)] w' := by
  have HH1 := HM
  have lv0 := (HH1.vecSl (i := 0) rfl).len
  have R1 := HH1.rd (i := 1) rfl
  obtain ⟨Az1_1, cz1_1, Az1_2, cz1_2, Az1_3, cz1_3, rfl, gz1_0, gz1_1, gz1_2, gz1_3, gz1_4⟩ := shape_MultiRule R1
  have jz1_0 := gz1_0; unfold I64 at jz1_0
  have jz1_4 := gz1_4; unfold I64 at jz1_4
  clear R1
  refine enter (n := 45) Try.func69 rfl rfl rfl fun a_2 HE3 => ?_
  obtain ⟨css, Sx, Sy, hcl, HH4⟩ := HH1.explode one_MultiRule
  have HE5 := HE3.castS (t := 0) (m' := List.length css) rfl hcl.symm
  refine wp_seq ?_
  refine rg ?_
  refine pl fun K_6 hK7 => ?_
  refine st_box (cs := [.int .i64 (a1.1), .slice Az1_1 (a1.2.1.length) cz1_1, .slice Az1_2 (a1.2.2.1.length) cz1_2, .slice Az1_3 (a1.2.2.2.1.length) cz1_3, .int .i64 (a1.2.2.2.2)]) HE5 HH4 rfl rfl (wt0 rfl) rfl fun q21 a_8 w' HE9 HH10 => hK7 _ _ ?_
  refine pl_x HE9 HH10 (wt0 rfl) (x_assign rfl) rfl rfl fun a_11 HE12 => ?_
  refine wpList_nil ?_
  clear HH1 HE3 a_2 HE5 HH4 a_8 HE9 hK7 K_6
  refine nrm ?_
  refine wp_seq ?_
  refine rg ?_
  refine pl_x HE12 HH10 (wt0 rfl) (x_move rfl) rfl rfl fun a_13 HE14 => ?_
  refine pl_x HE14 HH10 (wt0 rfl) (x_len Try.underlying53 rfl) rfl rfl fun a_15 HE16 => ?_
  refine pl_x HE16 HH10 (wt0 rfl) (x_assign rfl) rfl rfl fun a_17 HE18 => ?_
  refine wpList_nil ?_
  clear a_11 HE12 a_13 HE14 a_15 HE16
  refine nrm ?_
  refine wp_seq ?_
  refine wp_block ?_
  refine lp (fun m a w' => ∃ (k : Nat), m = 0 + k ∧ Env 45 [(5, .int .i64 (k : Int)), (0, .slice A0 ((List.length css)) c0), (3, .pointer (some ⟨q21, 0, none⟩))] a ∧ Held M w [rBlk q21 104 [.int .i64 (a1.1), .slice Az1_1 (a1.2.1.length) cz1_1, .slice Az1_2 (a1.2.2.1.length) cz1_2, .slice Az1_3 (a1.2.2.2.1.length) cz1_3, .int .i64 (a1.2.2.2.2)], rVec (eRaw eMultiRule.size eMultiRule.pos) 104 Sx A0 c0 css, rEls eMultiRule Sy (css.zip a0), rO eMultiRule S1 [.int .i64 (a1.1), .slice Az1_1 (a1.2.1.length) cz1_1, .slice Az1_2 (a1.2.2.1.length) cz1_2, .slice Az1_3 (a1.2.2.2.1.length) cz1_3, .int .i64 (a1.2.2.2.2)] a1] w' ∧ (k ≤ List.length css) ∧ (posMR a0 a1 (List.length css) = posMR a0 a1 k)) (0 + ((List.length css))) ?_ ?_
  · exact ⟨(List.length css), rfl, HE18.sub ⟨rfl, rfl, rfl, trivial⟩, (HH10.sel [0, 1, 2, 3] (by decide) rfl), (by first | omega | assumption | (simp; done) | simp_all), (by rfl)⟩
  · rintro m a_19 w' ⟨k, rfl, HE20, HH21, p22_0, p22_1⟩
    refine wp_seq ?_
    refine wp_seq ?_
    refine rg ?_
    refine pl_x HE20 HH21 (wt0 rfl) (x_move rfl) rfl rfl fun a_22 HE23 => ?_
    refine pl_x HE23 HH21 (wt0 rfl) (x_gtr rfl rfl) rfl rfl fun a_24 HE25 => ?_
    refine pl_x HE25 HH21 (wt0 rfl) (x_move rfl) rfl rfl fun a_26 HE27 => ?_
    by_cases hc23 : 0 < (k : Int)
    · refine pl_x HE27 HH21 (wtT HE27 rfl rfl rfl (decide_eq_true hc23)) (x_move rfl) rfl rfl fun a_28 HE29 => ?_
      refine pl_x HE29 HH21 (wtT HE29 rfl rfl rfl (decide_eq_true hc23)) (x_move rfl) rfl rfl fun a_30 HE31 => ?_
      refine pl_x HE31 HH21 (wtT HE31 rfl rfl rfl (decide_eq_true hc23)) (x_sub rfl rfl (by exact ⟨by omega, by omega⟩)) rfl rfl fun a_32 HE33 => ?_
      have ke24 : (k - 1) < (List.length css) := by omega
      obtain ⟨be24, rfl⟩ := HH21.rawAt (i := 1) rfl ke24
      refine pl_x HE33 HH21 (wtT HE33 rfl rfl rfl (decide_eq_true hc23)) (x_indexAddr ts_53 rfl rfl rfl (by omega) ke24) rfl rfl fun a_34 HE35 => ?_
      refine pl fun K_36 hK37 => ?_
      obtain ⟨es25, xes25⟩ : ∃ es_, (css)[(k - 1)]? = some es_ := ⟨_, List.getElem?_eq_getElem (by omega)⟩
      obtain ⟨ex26, xex26⟩ : ∃ x_, (a0)[(k - 1)]? = some x_ := ⟨_, List.getElem?_eq_getElem (by omega)⟩
      refine st_call HE35 (wtT HE35 rfl rfl rfl (decide_eq_true hc23)) rfl rfl rfl en_98 rfl rfl (spec_l06Before _ _ _ a1 _ _ _ ex26 _ (HH21.rd (i := 3) rfl) (c_blkN 0 rfl _ HH21) (HH21.elsRd (i := 2) rfl (List.getElem?_zip_eq_some.2 ⟨xes25, xex26⟩)) (c_rawN 1 rfl rfl xes25 _ HH21)) fun e w' hr => ?_
      obtain ⟨rfl, hbr27⟩ := hr
      have HH38 := HH21.on hbr27
      refine ⟨_, rfl, fun a_39 HE40 => hK37 _ _ ?_⟩
      refine pl_x HE40 HH38 (wt0 rfl) (x_pickT rfl (decide_eq_true hc23) rfl) rfl rfl fun a_41 HE42 => ?_
      refine wpList_nil ?_
      clear a_17 HE18 HH10 a_19 HE20 a_22 HE23 a_24 HE25 a_26 HE27 a_28 HE29 a_30 HE31 a_32 HE33 HH21 a_34 HE35 a_39 HE40 hK37 K_36
      refine nrm ?_
      refine cnd_b HE42 rfl (fun hc28 => ?_) (fun hc28 => ?_)
      · refine wp_skip ?_
        refine nrm ?_
        refine wp_block ?_
        refine rg ?_
        refine pl_x HE42 HH38 (wt0 rfl) (x_move rfl) rfl rfl fun a_43 HE44 => ?_
        refine pl_x HE44 HH38 (wt0 rfl) (x_sub rfl rfl (by exact ⟨by omega, by omega⟩)) rfl rfl fun a_45 HE46 => ?_
        refine pl_x HE46 HH38 (wt0 rfl) (x_assign rfl) rfl rfl fun a_47 HE48 => ?_
        refine wpList_nil ?_
        clear a_41 HE42 a_43 HE44 a_45 HE46
        refine blk_n ?_
        exact nrm ⟨0 + ((k - 1)), (by omega), (k - 1), rfl, HE48.sub ⟨(lkI rfl (by first | rfl | omega | (simp [p22_0, p22_1, hc23, xex26, hc28]; done))), rfl, rfl, trivial⟩, (HH38.sel [0, 1, 2, 3] (by decide) rfl), (by first | omega | assumption | (simp; done) | simp_all), (by exact posMR_step p22_1 (by omega) (by assumption) (by assumption))⟩
      · refine wp_exit ?_
        refine (thn_exit (thn_exit (blk_hit ?_)))
        refine nrm ?_
        refine wp_seq ?_
        refine rg ?_
        refine pl_x HE42 HH38 (wt0 rfl) (x_move rfl) rfl rfl fun a_49 HE50 => ?_
        refine pl_x HE50 HH38 (wt0 rfl) (show XS _ _ _ _ (.agg #[.int .i64 (0), .slice none (0) 0, .slice none (0) 0, .slice none (0) 0, .int .i64 (0)]) from x_build (vs := []) tb_104 rfl (by simp [Value.oneCell'])) rfl rfl fun a_51 HE52 => ?_
        refine pl fun K_53 hK54 => ?_
        refine st_lit (m := 1) (cs := [.int .i64 (0), .slice none (0) 0, .slice none (0) 0, .slice none (0) 0, .int .i64 (0)]) (e := 104) HE52 HH38 (run_lit ts_53 HE52 (vs := [.agg #[.int .i64 (0), .slice none (0) 0, .slice none (0) 0, .slice none (0) 0, .int .i64 (0)]]) rfl rfl (by simp [Value.cells]) rfl (by decide)) (wt0 rfl) rfl rfl fun q29 a_55 w' HE56 HH57 => hK54 _ _ ?_
        refine pl fun K_58 hK59 => ?_
        refine st_app1F (E := (eRaw eMultiRule.size eMultiRule.pos)) ([.int .i64 (0), .slice none (0) 0, .slice none (0) 0, .slice none (0) 0, .int .i64 (0)] : List Value) HE56 HH57 ts_53 [2, 0, 1, 3, 4] (by decide) rfl (fun _ => ⟨rfl, rfl, by simp [Value.oneCell']⟩) rfl rfl (by simp [Value.oneCell']) (by unfold maxLen; first | omega | (simp; done) | (simp; omega)) (by first | omega | (simp; done) | (simp; omega)) (wt0 rfl) rfl fun A30 c31 S32 a_60 w' HE61 HH62 => hK59 _ _ ?_
        have lA30 : List.length (α := List Value) (css ++ [([.int .i64 (0), .slice none (0) 0, .slice none (0) 0, .slice none (0) 0, .int .i64 (0)] : List Value)]) = List.length css + 1 := List.length_append
        refine pl_x HE61 HH62 (wt0 rfl) (x_assign rfl) rfl rfl fun a_63 HE64 => ?_
        refine wpList_nil ?_
        clear a_41 HE42 a_49 HE50 a_51 HE52 HH38 K_53 hK54 a_55 HE56 HH57 a_60 HE61 hK59 K_58
        refine nrm ?_
        refine wp_seq ?_
        refine wp_seq ?_
        refine rg ?_
        refine pl_x HE64 HH62 (wt0 rfl) (x_move rfl) rfl rfl fun a_65 HE66 => ?_
        refine pl_x HE66 HH62 (wt0 rfl) (x_len Try.underlying53 rfl) rfl rfl fun a_67 HE68 => ?_
        refine pl_x HE68 HH62 (wt0 rfl) (x_sub rfl rfl (by exact ⟨by omega, by omega⟩)) rfl rfl fun a_69 HE70 => ?_
        refine pl_x HE70 HH62 (wt0 rfl) (x_assign rfl) rfl rfl fun a_71 HE72 => ?_
        refine wpList_nil ?_
        clear a_63 HE64 a_65 HE66 a_67 HE68 a_69 HE70
        refine nrm ?_
        refine wp_block ?_
        have hpk : posMR a0 a1 (List.length css) = k := by first | exact posMR_zero p22_1 (by assumption) | exact posMR_stop p22_1 (by omega) (by assumption) (by assumption)
        obtain ⟨zz, hzz⟩ : ∃ zz_, zz_ = ([.int .i64 (0), .slice none (0) 0, .slice none (0) 0, .slice none (0) 0, .int .i64 (0)] : List Value) := ⟨_, rfl⟩
        refine lp (fun m a w' => ∃ (j : Nat) (A_0 : Option Addr) (c_0 : Nat) (S_0 : Nat → Prop), m = 0 + j ∧ Env 45 [(0, .slice A_0 (List.length (shR css zz j)) c_0), (6, .int .i64 (j : Int)), (3, .pointer (some ⟨q21, 0, none⟩)), (5, .int .i64 ((k : Int)))] a ∧ Held M w [rVec (eRaw eMultiRule.size eMultiRule.pos) 104 S_0 A_0 c_0 (shR css zz j), rBlk q21 104 [.int .i64 (a1.1), .slice Az1_1 (a1.2.1.length) cz1_1, .slice Az1_2 (a1.2.2.1.length) cz1_2, .slice Az1_3 (a1.2.2.2.1.length) cz1_3, .int .i64 (a1.2.2.2.2)], rEls eMultiRule Sy (css.zip a0), rO eMultiRule S1 [.int .i64 (a1.1), .slice Az1_1 (a1.2.1.length) cz1_1, .slice Az1_2 (a1.2.2.1.length) cz1_2, .slice Az1_3 (a1.2.2.2.1.length) cz1_3, .int .i64 (a1.2.2.2.2)] a1] w' ∧ (k ≤ j) ∧ (j ≤ List.length css)) (0 + ((List.length css))) ?_ ?_
        · have E33 : (shR css zz ((List.length css))) = (css ++ [([.int .i64 (0), .slice none (0) 0, .slice none (0) 0, .slice none (0) 0, .int .i64 (0)] : List Value)]) := by
            rw [shR_start, hzz]
          exact ⟨(List.length css), A30, c31, S32, rfl, HE72.sub ⟨(by rw [E33]; rfl), (lkI rfl (by simp)), rfl, rfl, trivial⟩, ((HH62.sel [0, 1, 2, 3] (by decide) rfl).to (by first | rfl | (rw [E33]; done) | (rw [E33]; rfl) | (simp only [E33]; done) | (simp only [E33]; rfl) | (rw [E33]; simp only [List.length_set]; done))), (by first | omega | assumption | (simp; done) | simp_all), (by first | omega | assumption | (simp; done) | simp_all)⟩
        · rintro m a_73 w' ⟨j, A_0, c_0, S_0, rfl, HE74, HH75, p34_0, p34_1⟩
          have hln := shR_len css zz j (by omega)
          refine wp_seq ?_
          refine wp_seq ?_
          refine rg ?_
          refine pl_x HE74 HH75 (wt0 rfl) (x_move rfl) rfl rfl fun a_76 HE77 => ?_
          refine pl_x HE77 HH75 (wt0 rfl) (x_move rfl) rfl rfl fun a_78 HE79 => ?_
          refine pl_x HE79 HH75 (wt0 rfl) (x_gtr rfl rfl) rfl rfl fun a_80 HE81 => ?_
          refine wpList_nil ?_
          clear a_71 HE72 HH62 a_73 HE74 a_76 HE77 a_78 HE79
          refine nrm ?_
          refine cnd_d HE81 rfl (fun hc35 => ?_) (fun hc35 => ?_)
          · refine wp_skip ?_
            refine nrm ?_
            refine wp_seq ?_
            refine wp_block ?_
            refine rg ?_
            refine pl_x HE81 HH75 (wt0 rfl) (x_move rfl) rfl rfl fun a_82 HE83 => ?_
            refine pl_x HE83 HH75 (wt0 rfl) (x_move rfl) rfl rfl fun a_84 HE85 => ?_
            refine pl_x HE85 HH75 (wt0 rfl) (x_move rfl) rfl rfl fun a_86 HE87 => ?_
            refine pl_x HE87 HH75 (wt0 rfl) (x_move rfl) rfl rfl fun a_88 HE89 => ?_
            refine pl_x HE89 HH75 (wt0 rfl) (x_sub rfl rfl (by exact ⟨by omega, by omega⟩)) rfl rfl fun a_90 HE91 => ?_
            have ke36 : (j - 1) < (List.length (shR css zz j)) := by omega
            obtain ⟨be36, rfl⟩ := HH75.rawAt (i := 0) rfl ke36
            refine pl_x HE91 HH75 (wt0 rfl) (x_indexAddr ts_53 rfl rfl rfl (by omega) ke36) rfl rfl fun a_92 HE93 => ?_
            obtain ⟨es37, xes37⟩ : ∃ es_, ((shR css zz j))[(j - 1)]? = some es_ := ⟨_, List.getElem?_eq_getElem (by first | omega | (simp; omega))⟩
            have les37 := HH75.rawLen (i := 0) rfl es37 (List.mem_of_getElem? xes37)
            refine pl_x HE93 HH75 (wt0 rfl) (x_loadN (cs := es37) tv_104 rfl les37.1 (c_rawN 0 rfl rfl xes37)) rfl rfl fun a_94 HE95 => ?_
            have ke38 : j < (List.length (shR css zz j)) := by omega
            refine pl_x HE95 HH75 (wt0 rfl) (x_indexAddr ts_53 rfl rfl rfl rfl ke38) rfl rfl fun a_96 HE97 => ?_
            refine pl fun K_98 hK99 => ?_
            refine st_storeRaw (n := eMultiRule.size) (hn := eMultiRule.pos) (vs := es37) 0 HE97 HH75 tv_104 rfl rfl rfl rfl rfl rfl (by first | exact ke38 | omega | (simp; omega)) les37.1 les37.2 (wt0 rfl) fun w' HH100 => hK99 _ _ ?_
            have HE101 := HE97.castS (t := 0) (m' := List.length ((shR css zz j).set j es37)) rfl (by rw [List.length_set])
            refine wpList_nil ?_
            clear a_80 HE81 a_82 HE83 a_84 HE85 a_86 HE87 a_88 HE89 a_90 HE91 a_92 HE93 a_94 HE95 HH75 HE97 hK99 K_98
            refine blk_n ?_
            refine nrm ?_
            refine rg ?_
            refine pl_x HE101 HH100 (wt0 rfl) (x_move rfl) rfl rfl fun a_102 HE103 => ?_
            refine pl_x HE103 HH100 (wt0 rfl) (x_sub rfl rfl (by exact ⟨by omega, by omega⟩)) rfl rfl fun a_104 HE105 => ?_
            refine pl_x HE105 HH100 (wt0 rfl) (x_assign rfl) rfl rfl fun a_106 HE107 => ?_
            refine wpList_nil ?_
            clear a_96 HE101 a_102 HE103 a_104 HE105
            have E39 : (shR css zz ((j - 1))) = ((shR css zz j).set j es37) := by
              exact shR_step (by omega) (by omega) (by assumption)
            exact nrm ⟨0 + ((j - 1)), (by omega), (j - 1), (some ⟨be36, 0, none⟩), c_0, (fun b => b = be36), rfl, HE107.sub ⟨(by rw [E39]; rfl), (lkI rfl (by first | rfl | omega | (simp [p22_0, p22_1, hc23, xex26, hc28, p34_0, p34_1, hc35, xes37]; done))), rfl, rfl, trivial⟩, ((HH100.sel [0, 1, 2, 3] (by decide) rfl).to (by first | rfl | (rw [E39]; done) | (rw [E39]; rfl) | (simp only [E39]; done) | (simp only [E39]; rfl) | (rw [E39]; simp only [List.length_set]; done))), (by first | omega | assumption | (simp; done) | simp_all), (by first | omega | assumption | (simp; done) | simp_all)⟩
          · have hjk : j = k := by omega
            refine wp_exit ?_
            refine (thn_exit (thn_exit (blk_hit ?_)))
            refine nrm ?_
            refine wp_seq ?_
            refine rg ?_
            refine pl_x HE81 HH75 (wt0 rfl) (x_move rfl) rfl rfl fun a_108 HE109 => ?_
            refine pl_x HE109 HH75 (wt0 rfl) (x_move rfl) rfl rfl fun a_110 HE111 => ?_
            refine pl_x HE111 HH75 (wt0 rfl) (x_loadN (cs := [.int .i64 (a1.1), .slice Az1_1 (a1.2.1.length) cz1_1, .slice Az1_2 (a1.2.2.1.length) cz1_2, .slice Az1_3 (a1.2.2.2.1.length) cz1_3, .int .i64 (a1.2.2.2.2)]) tv_104 rfl rfl (c_blkN 1 rfl)) rfl rfl fun a_112 HE113 => ?_
            have ke40 : k < (List.length (shR css zz j)) := by omega
            obtain ⟨be40, rfl⟩ := HH75.rawAt (i := 0) rfl ke40
            refine pl_x HE113 HH75 (wt0 rfl) (x_indexAddr ts_53 rfl rfl rfl rfl ke40) rfl rfl fun a_114 HE115 => ?_
            refine pl fun K_116 hK117 => ?_
            refine st_storeRaw (n := eMultiRule.size) (hn := eMultiRule.pos) (vs := [.int .i64 (a1.1), .slice Az1_1 (a1.2.1.length) cz1_1, .slice Az1_2 (a1.2.2.1.length) cz1_2, .slice Az1_3 (a1.2.2.2.1.length) cz1_3, .int .i64 (a1.2.2.2.2)]) 0 HE115 HH75 tv_104 rfl rfl rfl rfl rfl rfl (by first | exact ke40 | omega | (simp; omega)) rfl (by simp [Value.oneCell']) (wt0 rfl) fun w' HH118 => hK117 _ _ ?_
            have HE119 := HE115.castS (t := 0) (m' := List.length ((shR css zz j).set k [.int .i64 (a1.1), .slice Az1_1 (a1.2.1.length) cz1_1, .slice Az1_2 (a1.2.2.1.length) cz1_2, .slice Az1_3 (a1.2.2.2.1.length) cz1_3, .int .i64 (a1.2.2.2.2)])) rfl (by rw [List.length_set])
            refine wpList_nil ?_
            clear a_80 HE81 a_108 HE109 a_110 HE111 a_112 HE113 HH75 HE115 hK117 K_116
            refine nrm ?_
            refine wp_seq ?_
            refine rg ?_
            refine pl_x HE119 HH118 (wt0 rfl) (x_move rfl) rfl rfl fun a_120 HE121 => ?_
            refine pl_x HE121 HH118 (wt0 rfl) (x_assign rfl) rfl rfl fun a_122 HE123 => ?_
            refine wpList_nil ?_
            clear a_114 HE119 a_120 HE121
            refine nrm ?_
            refine wp_ret ?_
            refine ret1 HE123 rfl (rv_tmp rfl) ?_
            have HH124 := HH118.sel [3, 2, 0, 1] (by decide) rfl
            obtain ⟨Su, HH125⟩ := HH124.unpeel (p := ([.int .i64 (a1.1), .slice Az1_1 (a1.2.1.length) cz1_1, .slice Az1_2 (a1.2.2.1.length) cz1_2, .slice Az1_3 (a1.2.2.2.1.length) cz1_3, .int .i64 (a1.2.2.2.2)], a1))
            have HH126 := HH125.sel [1, 0, 2] (by decide) rfl
            have hfin := shR_set css zz [.int .i64 (a1.1), .slice Az1_1 (a1.2.1.length) cz1_1, .slice Az1_2 (a1.2.2.1.length) cz1_2, .slice Az1_3 (a1.2.2.2.1.length) cz1_3, .int .i64 (a1.2.2.2.2)] (k := k) (by omega)
            have hput : putMR a0 a1 = a0.take k ++ a1 :: a0.drop k := by unfold putMR; rw [← hcl, hpk]
            have hlq : List.length ((shR css zz j).set k [.int .i64 (a1.1), .slice Az1_1 (a1.2.1.length) cz1_1, .slice Az1_2 (a1.2.2.1.length) cz1_2, .slice Az1_3 (a1.2.2.2.1.length) cz1_3, .int .i64 (a1.2.2.2.2)]) = List.length (putMR a0 a1) := by rw [putMR_len, hjk, hfin]; first | (simp; done) | (simp; omega)
            obtain ⟨Sv, HH127⟩ := HH126.implode (xs := putMR a0 a1) hlq (by rw [hjk, hfin, hput]; exact put_perm hcl _ _ k)
            have hF : (putMR a0 a1) = (putMR a0 a1) := by
              rfl
            exact ⟨(some ⟨be40, 0, none⟩), c_0, _, by first | (rw [hF] <;> rfl) | rfl | (rw [hF]; simp only [Ending.returned.injEq, Value.slice.injEq, true_and, and_true]; first | omega | (simp; done)) | (rw [hF]; simp; omega), by rw [hF]; exact HH127.sel [0] (by decide) rfl⟩
    · refine pl_no HE27 (wtF HE27 rfl rfl rfl (decide_eq_false hc23)) rfl rfl fun a_128 HE129 => ?_
      refine pl_no HE129 (wtF HE129 rfl rfl rfl (decide_eq_false hc23)) rfl rfl fun a_130 HE131 => ?_
      refine pl_no HE131 (wtF HE131 rfl rfl rfl (decide_eq_false hc23)) rfl rfl fun a_132 HE133 => ?_
      refine pl_no HE133 (wtF HE133 rfl rfl rfl (decide_eq_false hc23)) rfl rfl fun a_134 HE135 => ?_
      refine pl_no HE135 (wtF HE135 rfl rfl rfl (decide_eq_false hc23)) rfl rfl fun a_136 HE137 => ?_
      refine pl_x HE137 HH21 (wt0 rfl) (x_pickF rfl (decide_eq_false hc23) rfl) rfl rfl fun a_138 HE139 => ?_
      refine wpList_nil ?_
      clear a_17 HE18 HH10 a_19 HE20 a_22 HE23 a_24 HE25 a_26 HE27 a_128 HE129 a_130 HE131 a_132 HE133 a_134 HE135 a_136 HE137
      refine nrm ?_
      refine cndF HE139 rfl rfl ?_
      refine wp_exit ?_
      refine (thn_exit (thn_exit (blk_hit ?_)))
      refine nrm ?_
      refine wp_seq ?_
      refine rg ?_
      refine pl_x HE139 HH21 (wt0 rfl) (x_move rfl) rfl rfl fun a_140 HE141 => ?_
      refine pl_x HE141 HH21 (wt0 rfl) (show XS _ _ _ _ (.agg #[.int .i64 (0), .slice none (0) 0, .slice none (0) 0, .slice none (0) 0, .int .i64 (0)]) from x_build (vs := []) tb_104 rfl (by simp [Value.oneCell'])) rfl rfl fun a_142 HE143 => ?_
      refine pl fun K_144 hK145 => ?_
      refine st_lit (m := 1) (cs := [.int .i64 (0), .slice none (0) 0, .slice none (0) 0, .slice none (0) 0, .int .i64 (0)]) (e := 104) HE143 HH21 (run_lit ts_53 HE143 (vs := [.agg #[.int .i64 (0), .slice none (0) 0, .slice none (0) 0, .slice none (0) 0, .int .i64 (0)]]) rfl rfl (by simp [Value.cells]) rfl (by decide)) (wt0 rfl) rfl rfl fun q41 a_146 w' HE147 HH148 => hK145 _ _ ?_
      refine pl fun K_149 hK150 => ?_
      refine st_app1F (E := (eRaw eMultiRule.size eMultiRule.pos)) ([.int .i64 (0), .slice none (0) 0, .slice none (0) 0, .slice none (0) 0, .int .i64 (0)] : List Value) HE147 HH148 ts_53 [2, 0, 1, 3, 4] (by decide) rfl (fun _ => ⟨rfl, rfl, by simp [Value.oneCell']⟩) rfl rfl (by simp [Value.oneCell']) (by unfold maxLen; first | omega | (simp; done) | (simp; omega)) (by first | omega | (simp; done) | (simp; omega)) (wt0 rfl) rfl fun A42 c43 S44 a_151 w' HE152 HH153 => hK150 _ _ ?_
      have lA42 : List.length (α := List Value) (css ++ [([.int .i64 (0), .slice none (0) 0, .slice none (0) 0, .slice none (0) 0, .int .i64 (0)] : List Value)]) = List.length css + 1 := List.length_append
      refine pl_x HE152 HH153 (wt0 rfl) (x_assign rfl) rfl rfl fun a_154 HE155 => ?_
      refine wpList_nil ?_
      clear a_138 HE139 a_140 HE141 a_142 HE143 HH21 K_144 hK145 a_146 HE147 HH148 a_151 HE152 hK150 K_149
      refine nrm ?_
      refine wp_seq ?_
      refine wp_seq ?_
      refine rg ?_
      refine pl_x HE155 HH153 (wt0 rfl) (x_move rfl) rfl rfl fun a_156 HE157 => ?_
      refine pl_x HE157 HH153 (wt0 rfl) (x_len Try.underlying53 rfl) rfl rfl fun a_158 HE159 => ?_
      refine pl_x HE159 HH153 (wt0 rfl) (x_sub rfl rfl (by exact ⟨by omega, by omega⟩)) rfl rfl fun a_160 HE161 => ?_
      refine pl_x HE161 HH153 (wt0 rfl) (x_assign rfl) rfl rfl fun a_162 HE163 => ?_
      refine wpList_nil ?_
      clear a_154 HE155 a_156 HE157 a_158 HE159 a_160 HE161
      refine nrm ?_
      refine wp_block ?_
      have hpk : posMR a0 a1 (List.length css) = k := by first | exact posMR_zero p22_1 (by assumption) | exact posMR_stop p22_1 (by omega) (by assumption) (by assumption)
      obtain ⟨zz, hzz⟩ : ∃ zz_, zz_ = ([.int .i64 (0), .slice none (0) 0, .slice none (0) 0, .slice none (0) 0, .int .i64 (0)] : List Value) := ⟨_, rfl⟩
      refine lp (fun m a w' => ∃ (j : Nat) (A_0 : Option Addr) (c_0 : Nat) (S_0 : Nat → Prop), m = 0 + j ∧ Env 45 [(0, .slice A_0 (List.length (shR css zz j)) c_0), (6, .int .i64 (j : Int)), (3, .pointer (some ⟨q21, 0, none⟩)), (5, .int .i64 ((k : Int)))] a ∧ Held M w [rVec (eRaw eMultiRule.size eMultiRule.pos) 104 S_0 A_0 c_0 (shR css zz j), rBlk q21 104 [.int .i64 (a1.1), .slice Az1_1 (a1.2.1.length) cz1_1, .slice Az1_2 (a1.2.2.1.length) cz1_2, .slice Az1_3 (a1.2.2.2.1.length) cz1_3, .int .i64 (a1.2.2.2.2)], rEls eMultiRule Sy (css.zip a0), rO eMultiRule S1 [.int .i64 (a1.1), .slice Az1_1 (a1.2.1.length) cz1_1, .slice Az1_2 (a1.2.2.1.length) cz1_2, .slice Az1_3 (a1.2.2.2.1.length) cz1_3, .int .i64 (a1.2.2.2.2)] a1] w' ∧ (k ≤ j) ∧ (j ≤ List.length css)) (0 + ((List.length css))) ?_ ?_
      · have E45 : (shR css zz ((List.length css))) = (css ++ [([.int .i64 (0), .slice none (0) 0, .slice none (0) 0, .slice none (0) 0, .int .i64 (0)] : List Value)]) := by
          rw [shR_start, hzz]
        exact ⟨(List.length css), A42, c43, S44, rfl, HE163.sub ⟨(by rw [E45]; rfl), (lkI rfl (by simp)), rfl, rfl, trivial⟩, ((HH153.sel [0, 1, 2, 3] (by decide) rfl).to (by first | rfl | (rw [E45]; done) | (rw [E45]; rfl) | (simp only [E45]; done) | (simp only [E45]; rfl) | (rw [E45]; simp only [List.length_set]; done))), (by first | omega | assumption | (simp; done) | simp_all), (by first | omega | assumption | (simp; done) | simp_all)⟩
      · rintro m a_164 w' ⟨j, A_0, c_0, S_0, rfl, HE165, HH166, p46_0, p46_1⟩
        have hln := shR_len css zz j (by omega)
        refine wp_seq ?_
        refine wp_seq ?_
        refine rg ?_
        refine pl_x HE165 HH166 (wt0 rfl) (x_move rfl) rfl rfl fun a_167 HE168 => ?_
        refine pl_x HE168 HH166 (wt0 rfl) (x_move rfl) rfl rfl fun a_169 HE170 => ?_
        refine pl_x HE170 HH166 (wt0 rfl) (x_gtr rfl rfl) rfl rfl fun a_171 HE172 => ?_
        refine wpList_nil ?_
        clear a_162 HE163 HH153 a_164 HE165 a_167 HE168 a_169 HE170
        refine nrm ?_
        refine cnd_d HE172 rfl (fun hc47 => ?_) (fun hc47 => ?_)
        · refine wp_skip ?_
          refine nrm ?_
          refine wp_seq ?_
          refine wp_block ?_
          refine rg ?_
          refine pl_x HE172 HH166 (wt0 rfl) (x_move rfl) rfl rfl fun a_173 HE174 => ?_
          refine pl_x HE174 HH166 (wt0 rfl) (x_move rfl) rfl rfl fun a_175 HE176 => ?_
          refine pl_x HE176 HH166 (wt0 rfl) (x_move rfl) rfl rfl fun a_177 HE178 => ?_
          refine pl_x HE178 HH166 (wt0 rfl) (x_move rfl) rfl rfl fun a_179 HE180 => ?_
          refine pl_x HE180 HH166 (wt0 rfl) (x_sub rfl rfl (by exact ⟨by omega, by omega⟩)) rfl rfl fun a_181 HE182 => ?_
          have ke48 : (j - 1) < (List.length (shR css zz j)) := by omega
          obtain ⟨be48, rfl⟩ := HH166.rawAt (i := 0) rfl ke48
          refine pl_x HE182 HH166 (wt0 rfl) (x_indexAddr ts_53 rfl rfl rfl (by omega) ke48) rfl rfl fun a_183 HE184 => ?_
          obtain ⟨es49, xes49⟩ : ∃ es_, ((shR css zz j))[(j - 1)]? = some es_ := ⟨_, List.getElem?_eq_getElem (by first | omega | (simp; omega))⟩
          have les49 := HH166.rawLen (i := 0) rfl es49 (List.mem_of_getElem? xes49)
          refine pl_x HE184 HH166 (wt0 rfl) (x_loadN (cs := es49) tv_104 rfl les49.1 (c_rawN 0 rfl rfl xes49)) rfl rfl fun a_185 HE186 => ?_
          have ke50 : j < (List.length (shR css zz j)) := by omega
          refine pl_x HE186 HH166 (wt0 rfl) (x_indexAddr ts_53 rfl rfl rfl rfl ke50) rfl rfl fun a_187 HE188 => ?_
          refine pl fun K_189 hK190 => ?_
          refine st_storeRaw (n := eMultiRule.size) (hn := eMultiRule.pos) (vs := es49) 0 HE188 HH166 tv_104 rfl rfl rfl rfl rfl rfl (by first | exact ke50 | omega | (simp; omega)) les49.1 les49.2 (wt0 rfl) fun w' HH191 => hK190 _ _ ?_
          have HE192 := HE188.castS (t := 0) (m' := List.length ((shR css zz j).set j es49)) rfl (by rw [List.length_set])
          refine wpList_nil ?_
          clear a_171 HE172 a_173 HE174 a_175 HE176 a_177 HE178 a_179 HE180 a_181 HE182 a_183 HE184 a_185 HE186 HH166 HE188 hK190 K_189
          refine blk_n ?_
          refine nrm ?_
          refine rg ?_
          refine pl_x HE192 HH191 (wt0 rfl) (x_move rfl) rfl rfl fun a_193 HE194 => ?_
          refine pl_x HE194 HH191 (wt0 rfl) (x_sub rfl rfl (by exact ⟨by omega, by omega⟩)) rfl rfl fun a_195 HE196 => ?_
          refine pl_x HE196 HH191 (wt0 rfl) (x_assign rfl) rfl rfl fun a_197 HE198 => ?_
          refine wpList_nil ?_
          clear a_187 HE192 a_193 HE194 a_195 HE196
          have E51 : (shR css zz ((j - 1))) = ((shR css zz j).set j es49) := by
            exact shR_step (by omega) (by omega) (by assumption)
          exact nrm ⟨0 + ((j - 1)), (by omega), (j - 1), (some ⟨be48, 0, none⟩), c_0, (fun b => b = be48), rfl, HE198.sub ⟨(by rw [E51]; rfl), (lkI rfl (by first | rfl | omega | (simp [p22_0, p22_1, hc23, p46_0, p46_1, hc47, xes49]; done))), rfl, rfl, trivial⟩, ((HH191.sel [0, 1, 2, 3] (by decide) rfl).to (by first | rfl | (rw [E51]; done) | (rw [E51]; rfl) | (simp only [E51]; done) | (simp only [E51]; rfl) | (rw [E51]; simp only [List.length_set]; done))), (by first | omega | assumption | (simp; done) | simp_all), (by first | omega | assumption | (simp; done) | simp_all)⟩
        · have hjk : j = k := by omega
          refine wp_exit ?_
          refine (thn_exit (thn_exit (blk_hit ?_)))
          refine nrm ?_
          refine wp_seq ?_
          refine rg ?_
          refine pl_x HE172 HH166 (wt0 rfl) (x_move rfl) rfl rfl fun a_199 HE200 => ?_
          refine pl_x HE200 HH166 (wt0 rfl) (x_move rfl) rfl rfl fun a_201 HE202 => ?_
          refine pl_x HE202 HH166 (wt0 rfl) (x_loadN (cs := [.int .i64 (a1.1), .slice Az1_1 (a1.2.1.length) cz1_1, .slice Az1_2 (a1.2.2.1.length) cz1_2, .slice Az1_3 (a1.2.2.2.1.length) cz1_3, .int .i64 (a1.2.2.2.2)]) tv_104 rfl rfl (c_blkN 1 rfl)) rfl rfl fun a_203 HE204 => ?_
          have ke52 : k < (List.length (shR css zz j)) := by omega
          obtain ⟨be52, rfl⟩ := HH166.rawAt (i := 0) rfl ke52
          refine pl_x HE204 HH166 (wt0 rfl) (x_indexAddr ts_53 rfl rfl rfl rfl ke52) rfl rfl fun a_205 HE206 => ?_
          refine pl fun K_207 hK208 => ?_
          refine st_storeRaw (n := eMultiRule.size) (hn := eMultiRule.pos) (vs := [.int .i64 (a1.1), .slice Az1_1 (a1.2.1.length) cz1_1, .slice Az1_2 (a1.2.2.1.length) cz1_2, .slice Az1_3 (a1.2.2.2.1.length) cz1_3, .int .i64 (a1.2.2.2.2)]) 0 HE206 HH166 tv_104 rfl rfl rfl rfl rfl rfl (by first | exact ke52 | omega | (simp; omega)) rfl (by simp [Value.oneCell']) (wt0 rfl) fun w' HH209 => hK208 _ _ ?_
          have HE210 := HE206.castS (t := 0) (m' := List.length ((shR css zz j).set k [.int .i64 (a1.1), .slice Az1_1 (a1.2.1.length) cz1_1, .slice Az1_2 (a1.2.2.1.length) cz1_2, .slice Az1_3 (a1.2.2.2.1.length) cz1_3, .int .i64 (a1.2.2.2.2)])) rfl (by rw [List.length_set])
          refine wpList_nil ?_
          clear a_171 HE172 a_199 HE200 a_201 HE202 a_203 HE204 HH166 HE206 hK208 K_207
          refine nrm ?_
          refine wp_seq ?_
          refine rg ?_
          refine pl_x HE210 HH209 (wt0 rfl) (x_move rfl) rfl rfl fun a_211 HE212 => ?_
          refine pl_x HE212 HH209 (wt0 rfl) (x_assign rfl) rfl rfl fun a_213 HE214 => ?_
          refine wpList_nil ?_
          clear a_205 HE210 a_211 HE212
          refine nrm ?_
          refine wp_ret ?_
          refine ret1 HE214 rfl (rv_tmp rfl) ?_
          have HH215 := HH209.sel [3, 2, 0, 1] (by decide) rfl
          obtain ⟨Su, HH216⟩ := HH215.unpeel (p := ([.int .i64 (a1.1), .slice Az1_1 (a1.2.1.length) cz1_1, .slice Az1_2 (a1.2.2.1.length) cz1_2, .slice Az1_3 (a1.2.2.2.1.length) cz1_3, .int .i64 (a1.2.2.2.2)], a1))
          have HH217 := HH216.sel [1, 0, 2] (by decide) rfl
          have hfin := shR_set css zz [.int .i64 (a1.1), .slice Az1_1 (a1.2.1.length) cz1_1, .slice Az1_2 (a1.2.2.1.length) cz1_2, .slice Az1_3 (a1.2.2.2.1.length) cz1_3, .int .i64 (a1.2.2.2.2)] (k := k) (by omega)
          have hput : putMR a0 a1 = a0.take k ++ a1 :: a0.drop k := by unfold putMR; rw [← hcl, hpk]
          have hlq : List.length ((shR css zz j).set k [.int .i64 (a1.1), .slice Az1_1 (a1.2.1.length) cz1_1, .slice Az1_2 (a1.2.2.1.length) cz1_2, .slice Az1_3 (a1.2.2.2.1.length) cz1_3, .int .i64 (a1.2.2.2.2)]) = List.length (putMR a0 a1) := by rw [putMR_len, hjk, hfin]; first | (simp; done) | (simp; omega)
          obtain ⟨Sv, HH218⟩ := HH217.implode (xs := putMR a0 a1) hlq (by rw [hjk, hfin, hput]; exact put_perm hcl _ _ k)
          have hF : (putMR a0 a1) = (putMR a0 a1) := by
            rfl
          exact ⟨(some ⟨be52, 0, none⟩), c_0, _, by first | (rw [hF] <;> rfl) | rfl | (rw [hF]; simp only [Ending.returned.injEq, Value.slice.injEq, true_and, and_true]; first | omega | (simp; done)) | (rw [hF]; simp; omega), by rw [hF]; exact HH218.sel [0] (by decide) rfl⟩

theorem validMulti_facts {m : tMulti} (h : validMulti m = true) : (2 ≤ m.1 ∧ m.1 ≤ 3) ∧ (2 ≤ m.2.1 ∧ m.2.1 ≤ 3) ∧ (1 ≤ m.2.2.1 ∧ m.2.2.1 ≤ 16) ∧ m.2.2.2.length ≤ 60 := by
  unfold validMulti at h
  simp only [Bool.and_eq_true, decide_eq_true_eq] at h
  have h1 := withinB_true.1 h.1.1.1.1
  have h2 := withinB_true.1 h.1.1.1.2
  have h3 := withinB_true.1 h.1.1.2
  exact ⟨h1, h2, h3, by omega⟩

def sortI (xs : List Int) : List Int := xs.mergeSort fun x y => decide (x ≤ y)

theorem sortI_len (xs : List Int) : (sortI xs).length = xs.length := List.length_mergeSort xs

theorem sortI_mem {xs : List Int} {x : Int} : x ∈ sortI xs ↔ x ∈ xs := (List.mergeSort_perm xs _).mem_iff

theorem sortI_rise (xs : List Int) : (sortI xs).Pairwise (· ≤ ·) := by
  have := List.pairwise_mergeSort (le := fun x y : Int => decide (x ≤ y)) (fun a b c h1 h2 => by simp at *; omega) (fun a b => by simp; omega) xs
  exact this.imp fun h => by simpa using h

def orderB (xs : List Int) (n : Int) : Bool := decide ((xs.length : Int) = n) && (List.range xs.length).all fun i => decide ((sortI xs)[i]?.getD 0 = (i : Int))

theorem rise_at {ys : List Int} (h : ys.Pairwise (· < ·)) : ∀ (i : Nat) (hi : i < ys.length), (∀ y ∈ ys, 0 ≤ y ∧ y < (ys.length : Int)) → ys[i] = (i : Int) := by
  have up : ∀ (i : Nat) (hi : i < ys.length), (∀ y ∈ ys, 0 ≤ y) → (i : Int) ≤ ys[i] := by
    intro i
    induction i with
    | zero => intro hi h0; exact h0 _ (List.getElem_mem hi)
    | succ i ih =>
      intro hi h0
      have h1 := ih (by omega) h0
      have h2 := List.pairwise_iff_getElem.1 h i (i + 1) (by omega) hi (by omega)
      have h3 : ys[i] < ys[i + 1] := h2
      omega
  have down : ∀ (d i : Nat) (hi : i < ys.length), i + d + 1 = ys.length → (∀ y ∈ ys, y < (ys.length : Int)) → ys[i] ≤ (i : Int) := by
    intro d
    induction d with
    | zero =>
      intro i hi hd h0
      have := h0 _ (List.getElem_mem hi)
      omega
    | succ d ih =>
      intro i hi hd h0
      have h1 := ih (i + 1) (by omega) (by omega) h0
      have h2 := List.pairwise_iff_getElem.1 h i (i + 1) hi (by omega) (by omega)
      have h3 : ys[i] < ys[i + 1] := h2
      omega
  intro i hi h0
  have h1 := up i hi fun y hy => (h0 y hy).1
  have h2 := down (ys.length - 1 - i) i hi (by omega) fun y hy => (h0 y hy).2
  omega

theorem order_iff (xs : List Int) (n : Int) : orderB xs n = true ↔ (xs.length : Int) = n ∧ (∀ x ∈ xs, 0 ≤ x ∧ x < n) ∧ xs.Nodup := by
  have hl := sortI_len xs
  unfold orderB
  simp only [Bool.and_eq_true, decide_eq_true_eq, List.all_eq_true, List.mem_range]
  constructor
  · rintro ⟨h1, h2⟩
    have hat : ∀ (i : Nat) (hi : i < (sortI xs).length), (sortI xs)[i] = (i : Int) := by
      intro i hi
      have := h2 i (by omega)
      rwa [List.getElem?_eq_getElem hi] at this
    refine ⟨h1, fun x hx => ?_, ?_⟩
    · obtain ⟨i, hi, rfl⟩ := List.mem_iff_getElem.1 (sortI_mem.2 hx)
      rw [hat i hi]
      omega
    · refine (List.mergeSort_perm xs (fun x y => decide (x ≤ y))).nodup_iff.1 ?_
      refine List.pairwise_iff_getElem.2 fun i j hi hj hij => ?_
      have e1 := hat i hi
      have e2 := hat j hj
      unfold sortI at e1 e2
      rw [e1, e2]
      omega
  · rintro ⟨h1, h2, h3⟩
    refine ⟨h1, fun i hi => ?_⟩
    have hnd : (sortI xs).Nodup := (List.mergeSort_perm xs (fun x y => decide (x ≤ y))).nodup_iff.2 h3
    have hr : (sortI xs).Pairwise (· < ·) := by
      refine List.pairwise_iff_getElem.2 fun i j hi hj hij => ?_
      have h4 := List.pairwise_iff_getElem.1 (sortI_rise xs) i j hi hj hij
      have h5 : (sortI xs)[i] ≠ (sortI xs)[j] := List.pairwise_iff_getElem.1 hnd i j hi hj hij
      omega
    rw [List.getElem?_eq_getElem (by omega)]
    exact rise_at hr i (by omega) fun y hy => by
      have := h2 y (sortI_mem.1 hy)
      omega

theorem Sl.i64 {w : World} {S : Nat → Prop} {A : Option Addr} {c : Nat} {xs : List Int} (h : Sl eInt w S A c xs) : ∀ x ∈ xs, -9223372036854775808 ≤ x ∧ x ≤ 9223372036854775807 := by
  intro x hx
  obtain ⟨i, hi⟩ := List.mem_iff_getElem?.1 hx
  obtain ⟨b, off, _, _, hc⟩ := h.2.2 (fun e => by rw [e] at hx; cases hx)
  obtain ⟨es, ⟨_, h1⟩, _⟩ := hc i x hi
  exact h1

open Go.Lib in
def mk2 : List Int → List tFraction
  | a :: b :: r => (a, b) :: mk2 r
  | _ => []

open Go.Lib in
def knownL (k : Int) : List tFraction := if k = 0 then mk2 [3, 2] else if k = 1 then mk2 [455, 33, 11, 13, 1, 11, 3, 7, 11, 2, 1, 3] else mk2 [17, 91, 78, 85, 19, 51, 23, 38, 29, 33, 77, 29, 95, 23, 77, 19, 1, 17, 11, 13, 13, 11, 15, 14, 15, 2, 55, 1]

open Go.Lib in
def known (k : Int) : List tFraction × Int := if withinB k 0 2 = true then (knownL k, 0) else ([], 2)

def powN (a : List Int) : Nat → List Int
  | 0 => [1]
  | e + 1 => mulN (powN a e) a

def nn (a b : Int) : List Int := mulN (powN [2] a.toNat) (powN [3] b.toNat)

/-- Nothing has changed but for new blocks and draws. -/
def Gr (w w' : World) : Prop := ∃ (q : Nat) (os : Array Obj), w' = Go.Sort.grow (w.drewN q) os

theorem Gr.refl (w : World) : Gr w w := ⟨0, #[], by simp [Go.Sort.grow, World.drewN]⟩

theorem Gr.alloc {w w' : World} (h : Gr w w') (o : Obj) : Gr w (w'.alloc o) := by
  obtain ⟨q, os, rfl⟩ := h
  exact ⟨q, os ++ #[o], by rw [Go.Sort.alloc_eq_grow, Go.Sort.grow_grow]⟩

theorem st_boxG {P : Program} {ops : Array Oper} {Q : Exit → Act → World → Prop} {a : Act} {w : World} {K : Act → World → Prop} {n d : Nat} {L : List (Nat × Value)} {M : Nat → Prop} {w0 wb : World} {rs : List Res} {t : TypeId} {x : Operand} {v : Value} {cs : List Value} {ty : TypeId} {pos : String} {af : Array Edge} {g : Option (Nat × Bool)} (hG : Gr wb w) (hE : Env n L a) (hH : Held M w0 rs w) (hx : ev L x = some v) (hv : v.cells = cs.toArray) (hw : Region.wanted ⟨some d, .box t x, ty, pos, af, g⟩ (yielded ops a.tmps) = true) (hn : Nat.blt d n = true)
    (k : ∀ q a' w', Env n ((d, .pointer (some ⟨q, 0, none⟩)) :: L) a' → Held M w0 (rBlk q t cs :: rs) w' → Gr wb w' → K a' w') : Stp P ops Q ⟨some d, .box t x, ty, pos, af, g⟩ a w K :=
  st_val hE hw (run_box hE hx hv) rfl hn fun a' hE' => k _ a' _ hE' (hH.alloc t cs) (hG.alloc _)

theorem cmpL_anti : ∀ a b : List Int, cmpL b a = - cmpL a b
  | [], [] => rfl
  | [], _ :: _ => rfl
  | _ :: _, [] => rfl
  | x :: xs, y :: ys => by
    have ih := cmpL_anti xs ys
    unfold cmpL
    split <;> split <;> first | omega | (split <;> omega) | rfl

theorem cmpL_zero : ∀ a b : List Int, cmpL a b = 0 → a = b
  | [], [], _ => rfl
  | [], _ :: _, h => by simp [cmpL] at h
  | _ :: _, [], h => by simp [cmpL] at h
  | x :: xs, y :: ys, h => by
    unfold cmpL at h
    split at h
    · omega
    · split at h
      · omega
      · rw [cmpL_zero xs ys h, show x = y by omega]

theorem cmpL_self (a : List Int) : cmpL a a = 0 := by have := cmpL_anti a a; omega

theorem cmpL_trans : ∀ a b c : List Int, cmpL a b < 0 → cmpL b c < 0 → cmpL a c < 0
  | [], [], _, h, _ => by simp [cmpL] at h
  | [], _ :: _, [], _, h => by simp [cmpL] at h
  | [], _ :: _, _ :: _, _, _ => by simp [cmpL]
  | _ :: _, [], _, h, _ => by simp [cmpL] at h
  | _ :: _, _ :: _, [], _, h => by simp [cmpL] at h
  | x :: xs, y :: ys, z :: zs, h1, h2 => by
    have ih := cmpL_trans xs ys zs
    unfold cmpL at h1 h2 ⊢
    by_cases e1 : x < y
    · by_cases e2 : y < z
      · rw [if_pos (by omega)]; omega
      · by_cases e3 : z < y
        · rw [if_neg e2, if_pos e3] at h2; omega
        · rw [if_pos (by omega)]; omega
    · by_cases e3 : y < x
      · rw [if_neg e1, if_pos e3] at h1; omega
      · rw [if_neg e1, if_neg e3] at h1
        obtain rfl : x = y := by omega
        by_cases e2 : x < z
        · rw [if_pos e2]; omega
        · by_cases e4 : z < x
          · rw [if_neg e2, if_pos e4] at h2; omega
          · rw [if_neg e2, if_neg e4] at h2 ⊢
            exact ih h1 h2

theorem cmpMR_anti (a b : tMultiRule) : cmpMR b a = - cmpMR a b := by
  have := cmpL_anti a.2.1 b.2.1
  unfold cmpMR
  by_cases h : a.1 = b.1
  · rw [if_pos h, if_pos h.symm]; exact this
  · rw [if_neg h, if_neg (Ne.symm h)]
    by_cases h2 : a.1 < b.1
    · rw [if_pos h2, if_neg (by omega)]; rfl
    · rw [if_neg h2, if_pos (by omega)]

theorem cmpMR_zero {a b : tMultiRule} : cmpMR a b = 0 ↔ a.1 = b.1 ∧ a.2.1 = b.2.1 := by
  unfold cmpMR
  by_cases h : a.1 = b.1
  · rw [if_pos h]
    exact ⟨fun hc => ⟨h, cmpL_zero _ _ hc⟩, fun hc => by rw [hc.2, cmpL_self]⟩
  · rw [if_neg h]
    exact ⟨fun hc => by split at hc <;> omega, fun hc => absurd hc.1 h⟩

theorem cmpMR_self (a : tMultiRule) : cmpMR a a = 0 := cmpMR_zero.2 ⟨rfl, rfl⟩

theorem cmpMR_trans {a b c : tMultiRule} (h1 : cmpMR a b < 0) (h2 : cmpMR b c < 0) : cmpMR a c < 0 := by
  unfold cmpMR at h1 h2 ⊢
  by_cases e1 : a.1 = b.1
  · by_cases e2 : b.1 = c.1
    · rw [if_pos e1] at h1; rw [if_pos e2] at h2; rw [if_pos (by omega)]
      exact cmpL_trans _ _ _ h1 h2
    · rw [if_neg e2] at h2; rw [if_neg (by omega)]
      by_cases e3 : b.1 < c.1
      · rw [if_pos (by omega)]; omega
      · rw [if_neg e3] at h2; omega
  · rw [if_neg e1] at h1
    by_cases e3 : a.1 < b.1
    · by_cases e2 : b.1 = c.1
      · rw [if_neg (by omega), if_pos (by omega)]; omega
      · rw [if_neg e2] at h2
        by_cases e4 : b.1 < c.1
        · rw [if_neg (by omega), if_pos (by omega)]; omega
        · rw [if_neg e4] at h2; omega
    · rw [if_neg e3] at h1; omega

theorem cmpMR_cong {a b c : tMultiRule} (h : cmpMR a b = 0) : cmpMR a c = cmpMR b c := by
  obtain ⟨h1, h2⟩ := cmpMR_zero.1 h
  unfold cmpMR; rw [h1, h2]

end Go.Proofs.Ythfihlfjphiihaa
