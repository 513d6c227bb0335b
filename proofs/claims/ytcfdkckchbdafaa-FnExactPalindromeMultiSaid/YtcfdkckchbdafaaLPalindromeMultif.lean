/- What the proof of FnExactPalindromeMulti needs: contracts of the functions that it reaches, each once. -/
import Derived.Test.YtcfdkckchbdafaaProg
import Derived.Test.YtcfdkckchbdafaaQMem
import Derived.Test.YtcfdkckchbdafaaQOpen
import Derived.Test.YtcfdkckchbdafaaLPalindromeMultia
import Derived.Test.YtcfdkckchbdafaaLPalindromeMultib
import Derived.Test.YtcfdkckchbdafaaLPalindromeMultic
import Derived.Test.YtcfdkckchbdafaaLPalindromeMultid
import Derived.Test.YtcfdkckchbdafaaLPalindromeMultie
import Derived.WalkKit
import Derived.WalkSpells
import Derived.Below
import Derived.LoopTactic
import Derived.Outline
import Derived.Deep.QuietTactic
import Derived.BigQuiet
import Derived.Deep.LoopGhost
import Derived.Handy
import Derived.Lib.Hide
import Derived.Shelf.Abstract
import Derived.StillTailTactics
import Derived.OwnWalk
import Derived.Maps.AppendAt
import Derived.RegionTactic
import Derived.Deep.RegionHeld3
import Derived.IntWalk
import Derived.Deep.Upon
import Derived.Laws.OwnMore
import Derived.Maps.AppendAt
import Derived.Lib.FrozenHead
import Derived.Lib.RuneBytes
import Derived.Lib.LaidTab
import Derived.Laws.StructEq
import Derived.Lib.ItoaLen
import Derived.Lib.Join
import Derived.Shelf.Strconv.Itoa4
import Derived.Shelf.Strings.OnBuilder
import Derived.Shelf.Strings.BuilderK
import Derived.Shelf.Strings.BuilderRune
import Derived.Shelf.LaysM
import Derived.Ground.NamesProg
import Derived.Shelf.SlSortCmp.WholeK
import Derived.Shelf.SlSortCmp.NoneTotal
import Derived.Lib.RowBridge
namespace Go.Proofs.Ytcfdkckchbdafaa
open Go.RowKit

set_option maxRecDepth 100000 in
set_option maxHeartbeats 4000000 in
theorem law_PalindromeMulti (a0 : Int) (w : World) (h0 : I64 a0) :
    Calls Try.prog 6 #[.int .i64 a0] w fun e w' => e = .returned (.bool true) ∧ Below w.heap.size w w' := by
  unfold I64 at h0
  have n0 : (cv_Multi (palMulti a0).1 : Int) ≤ 1000000000 := palMulti_ct a0
  have HH1 := Held.start Nob w
  refine enter (n := 63) Try.func6 rfl rfl rfl fun a_2 HE3 => ?_
  refine wp_seq ?_
  refine rg ?_
  refine pl_x HE3 HH1 (wt0 rfl) (x_assign rfl) rfl rfl fun a_4 HE5 => ?_
  refine wpList_nil ?_
  clear a_2 HE3
  refine nrm ?_
  refine wp_seq ?_
  refine rg ?_
  refine pl_x HE5 HH1 (wt0 rfl) (x_move rfl) rfl rfl fun a_6 HE7 => ?_
  refine pl fun K_8 hK9 => ?_
  refine st_call HE7 (wt0 rfl) rfl rfl rfl en_37 rfl rfl (spec_PalindromeMulti a0 _ ) fun e w' hr => ?_
  obtain ⟨esr21_0, rfl, hor21_0, hbr21⟩ := hr
  have hr := eMulti.read hor21_0
  obtain ⟨Sr21, HH10⟩ := HH1.newO hbr21 hor21_0
  obtain ⟨Ar21_0_3, cr21_0_3, rfl, gr21_0_0, gr21_0_1, gr21_0_2, gr21_0_3⟩ := shape_Multi hr
  have jr21_0_0 := gr21_0_0; unfold I64 at jr21_0_0
  have jr21_0_1 := gr21_0_1; unfold I64 at jr21_0_1
  have jr21_0_2 := gr21_0_2; unfold I64 at jr21_0_2
  refine ⟨_, rfl, fun a_11 HE12 => hK9 _ _ ?_⟩
  refine pl_x HE12 HH10 (wt0 rfl) (x_move rfl) rfl rfl fun a_13 HE14 => ?_
  refine pl_x HE14 HH10 (wt0 rfl) (x_extract rfl rfl) rfl rfl fun a_15 HE16 => ?_
  refine pl_x HE16 HH10 (wt0 rfl) (x_extract rfl rfl) rfl rfl fun a_17 HE18 => ?_
  refine pl fun K_19 hK20 => ?_
  refine st_alloc HE18 HH10 tv_55 (wt0 rfl) rfl fun q22 a_21 w' HE22 HH23 => hK20 _ _ ?_
  refine pl fun K_24 hK25 => ?_
  refine st_store (vs := [.int .i64 ((palMulti a0).1.1), .int .i64 ((palMulti a0).1.2.1), .int .i64 ((palMulti a0).1.2.2.1), .slice Ar21_0_3 ((palMulti a0).1.2.2.2.length) cr21_0_3]) 0 HE22 HH23 tv_55 rfl rfl rfl rfl rfl rfl (by simp [Value.oneCell']) (wt0 rfl) fun w' HH26 => hK25 _ _ ?_
  refine pl_x HE22 HH26 (wt0 rfl) (x_assign rfl) rfl rfl fun a_27 HE28 => ?_
  refine wpList_nil ?_
  clear a_4 HE5 HH1 a_6 HE7 a_11 HE12 a_13 HE14 a_15 HE16 K_8 hK9 a_17 HE18 HH10 K_19 hK20 HH23 a_21 HE22 hK25 K_24
  refine nrm ?_
  refine wp_seq ?_
  refine rg ?_
  refine pl_x HE28 HH26 (wt0 rfl) (x_move rfl) rfl rfl fun a_29 HE30 => ?_
  refine pl fun K_31 hK32 => ?_
  refine st_call HE30 (wt0 rfl) rfl rfl rfl en_38 rfl rfl (impl_PalindromeMulti a0 _ ) fun e w' hr => ?_
  obtain ⟨esr23_0, rfl, hor23_0, hbr23⟩ := hr
  have hr := eMulti.read hor23_0
  obtain ⟨Sr23, HH33⟩ := HH26.newO hbr23 hor23_0
  obtain ⟨Ar23_0_3, cr23_0_3, rfl, gr23_0_0, gr23_0_1, gr23_0_2, gr23_0_3⟩ := shape_Multi hr
  have jr23_0_0 := gr23_0_0; unfold I64 at jr23_0_0
  have jr23_0_1 := gr23_0_1; unfold I64 at jr23_0_1
  have jr23_0_2 := gr23_0_2; unfold I64 at jr23_0_2
  refine ⟨_, rfl, fun a_34 HE35 => hK32 _ _ ?_⟩
  refine pl_x HE35 HH33 (wt0 rfl) (x_move rfl) rfl rfl fun a_36 HE37 => ?_
  refine pl_x HE37 HH33 (wt0 rfl) (x_extract rfl rfl) rfl rfl fun a_38 HE39 => ?_
  refine pl_x HE39 HH33 (wt0 rfl) (x_extract rfl rfl) rfl rfl fun a_40 HE41 => ?_
  refine pl fun K_42 hK43 => ?_
  refine st_alloc HE41 HH33 tv_55 (wt0 rfl) rfl fun q24 a_44 w' HE45 HH46 => hK43 _ _ ?_
  refine pl fun K_47 hK48 => ?_
  refine st_store (vs := [.int .i64 ((palMulti a0).1.1), .int .i64 ((palMulti a0).1.2.1), .int .i64 ((palMulti a0).1.2.2.1), .slice Ar23_0_3 ((palMulti a0).1.2.2.2.length) cr23_0_3]) 0 HE45 HH46 tv_55 rfl rfl rfl rfl rfl rfl (by simp [Value.oneCell']) (wt0 rfl) fun w' HH49 => hK48 _ _ ?_
  refine pl_x HE45 HH49 (wt0 rfl) (x_assign rfl) rfl rfl fun a_50 HE51 => ?_
  refine wpList_nil ?_
  clear a_27 HE28 HH26 a_29 HE30 a_34 HE35 a_36 HE37 a_38 HE39 K_31 hK32 a_40 HE41 HH33 K_42 hK43 HH46 a_44 HE45 hK48 K_47
  refine nrm ?_
  refine wp_seq ?_
  refine wp_seq ?_
  refine rg ?_
  refine pl_x HE51 HH49 (wt0 rfl) (x_loadN (cs := [.int .i64 ((palMulti a0).1.1), .int .i64 ((palMulti a0).1.2.1), .int .i64 ((palMulti a0).1.2.2.1), .slice Ar23_0_3 ((palMulti a0).1.2.2.2.length) cr23_0_3]) tv_55 rfl rfl (c_blkN 0 rfl)) rfl rfl fun a_52 HE53 => ?_
  refine pl_x HE53 HH49 (wt0 rfl) (x_loadN (cs := [.int .i64 ((palMulti a0).1.1), .int .i64 ((palMulti a0).1.2.1), .int .i64 ((palMulti a0).1.2.2.1), .slice Ar21_0_3 ((palMulti a0).1.2.2.2.length) cr21_0_3]) tv_55 rfl rfl (c_blkN 2 rfl)) rfl rfl fun a_54 HE55 => ?_
  refine pl fun K_56 hK57 => ?_
  refine st_call HE55 (wt0 rfl) rfl rfl rfl en_33 rfl rfl (eq_Multi_c [.int .i64 ((palMulti a0).1.1), .int .i64 ((palMulti a0).1.2.1), .int .i64 ((palMulti a0).1.2.2.1), .slice Ar23_0_3 ((palMulti a0).1.2.2.2.length) cr23_0_3] [.int .i64 ((palMulti a0).1.1), .int .i64 ((palMulti a0).1.2.1), .int .i64 ((palMulti a0).1.2.2.1), .slice Ar21_0_3 ((palMulti a0).1.2.2.2.length) cr21_0_3] ((palMulti a0).1) ((palMulti a0).1) _ (HH49.rd (i := 1) rfl) (HH49.rd (i := 3) rfl)) fun e w' hr => ?_
  obtain ⟨rfl, hbr25⟩ := hr
  have HH58 := HH49.on hbr25
  clear hbr25
  refine ⟨_, rfl, fun a_59 HE60 => hK57 _ _ ?_⟩
  refine pl_x HE60 HH58 (wt0 rfl) (x_not rfl) rfl rfl fun a_61 HE62 => ?_
  refine pl_x HE62 HH58 (wt0 rfl) (x_move rfl) rfl rfl fun a_63 HE64 => ?_
  refine pl_x HE64 HH58 (wtT HE64 rfl rfl rfl (not_f (eq_Multi_refl _))) (x_move rfl) rfl rfl fun a_65 HE66 => ?_
  refine pl_x HE66 HH58 (wtT HE66 rfl rfl rfl (not_f (eq_Multi_refl _))) (x_move rfl) rfl rfl fun a_67 HE68 => ?_
  refine pl_x HE68 HH58 (wtT HE68 rfl rfl rfl (not_f (eq_Multi_refl _))) (x_neq rfl rfl) rfl rfl fun a_69 HE70 => ?_
  refine pl_x HE70 HH58 (wt0 rfl) (x_pickF rfl (not_f (eq_Multi_refl _)) rfl) rfl rfl fun a_71 HE72 => ?_
  refine wpList_nil ?_
  clear a_50 HE51 a_52 HE53 HH49 a_54 HE55 a_59 HE60 a_61 HE62 a_63 HE64 a_65 HE66 a_67 HE68 a_69 HE70 hK57 K_56
  refine nrm ?_
  refine cndF HE72 rfl (bne_f rfl) ?_
  refine wp_skip ?_
  refine nrm ?_
  refine wp_seq ?_
  refine rg ?_
  refine pl_x HE72 HH58 (wt0 rfl) (x_assign rfl) rfl rfl fun a_73 HE74 => ?_
  refine wpList_nil ?_
  clear a_71 HE72
  refine nrm ?_
  refine wp_seq ?_
  refine rg ?_
  refine pl_x HE74 HH58 (wt0 rfl) (x_loadN (cs := [.int .i64 ((palMulti a0).1.1), .int .i64 ((palMulti a0).1.2.1), .int .i64 ((palMulti a0).1.2.2.1), .slice Ar23_0_3 ((palMulti a0).1.2.2.2.length) cr23_0_3]) tv_55 rfl rfl (c_blkN 0 rfl)) rfl rfl fun a_75 HE76 => ?_
  refine pl_x HE76 HH58 (wt0 rfl) (x_move rfl) rfl rfl fun a_77 HE78 => ?_
  refine pl fun K_79 hK80 => ?_
  have HH81 := HH58.sel [1, 0, 2, 3] (by decide) rfl
  have HH82 : Held Nob w ([rO eMulti Sr23 [.int .i64 ((palMulti a0).1.1), .int .i64 ((palMulti a0).1.2.1), .int .i64 ((palMulti a0).1.2.2.1), .slice Ar23_0_3 ((palMulti a0).1.2.2.2.length) cr23_0_3] ((palMulti a0).1)] ++ [rBlk q24 55 [.int .i64 ((palMulti a0).1.1), .int .i64 ((palMulti a0).1.2.1), .int .i64 ((palMulti a0).1.2.2.1), .slice Ar23_0_3 ((palMulti a0).1.2.2.2.length) cr23_0_3], rBlk q22 55 [.int .i64 ((palMulti a0).1.1), .int .i64 ((palMulti a0).1.2.1), .int .i64 ((palMulti a0).1.2.2.1), .slice Ar21_0_3 ((palMulti a0).1.2.2.2.length) cr21_0_3], rO eMulti Sr21 [.int .i64 ((palMulti a0).1.1), .int .i64 ((palMulti a0).1.2.1), .int .i64 ((palMulti a0).1.2.2.1), .slice Ar21_0_3 ((palMulti a0).1.2.2.2.length) cr21_0_3] ((palMulti a0).1)]) _ := HH81
  refine st_call HE78 (wt0 rfl) rfl rfl rfl en_34 rfl rfl (mark_Multi_h (Foot [rO eMulti Sr23 [.int .i64 ((palMulti a0).1.1), .int .i64 ((palMulti a0).1.2.1), .int .i64 ((palMulti a0).1.2.2.1), .slice Ar23_0_3 ((palMulti a0).1.2.2.2.length) cr23_0_3] ((palMulti a0).1)]) [.int .i64 ((palMulti a0).1.1), .int .i64 ((palMulti a0).1.2.1), .int .i64 ((palMulti a0).1.2.2.1), .slice Ar23_0_3 ((palMulti a0).1.2.2.2.length) cr23_0_3] ((palMulti a0).1) _ 1 _ HH82.focus (by omega) (by omega)) fun e w' hr => ?_
  obtain ⟨Sr26, rfl, hbr26⟩ := hr
  have HH83 := HH82.back hbr26
  clear hbr26
  have HH84 : Held Nob w (rO eMulti Sr26 [.int .i64 ((palMulti a0).1.1), .int .i64 ((palMulti a0).1.2.1), .int .i64 ((palMulti a0).1.2.2.1), .slice Ar23_0_3 ((palMulti a0).1.2.2.2.length) cr23_0_3] (mv_Multi ((palMulti a0).1) 1) :: [rBlk q24 55 [.int .i64 ((palMulti a0).1.1), .int .i64 ((palMulti a0).1.2.1), .int .i64 ((palMulti a0).1.2.2.1), .slice Ar23_0_3 ((palMulti a0).1.2.2.2.length) cr23_0_3], rBlk q22 55 [.int .i64 ((palMulti a0).1.1), .int .i64 ((palMulti a0).1.2.1), .int .i64 ((palMulti a0).1.2.2.1), .slice Ar21_0_3 ((palMulti a0).1.2.2.2.length) cr21_0_3], rO eMulti Sr21 [.int .i64 ((palMulti a0).1.1), .int .i64 ((palMulti a0).1.2.1), .int .i64 ((palMulti a0).1.2.2.1), .slice Ar21_0_3 ((palMulti a0).1.2.2.2.length) cr21_0_3] ((palMulti a0).1)]) _ := HH83
  refine ⟨_, rfl, fun a_85 HE86 => hK80 _ _ ?_⟩
  refine pl_x HE86 HH84 (wt0 rfl) (x_assign rfl) rfl rfl fun a_87 HE88 => ?_
  refine wpList_nil ?_
  clear a_73 HE74 a_75 HE76 HH58 HH81 HH82 HH83 a_77 HE78 a_85 HE86 hK80 K_79
  refine nrm ?_
  refine wp_seq ?_
  refine rg ?_
  refine pl_x HE88 HH84 (wt0 rfl) (x_assign rfl) rfl rfl fun a_89 HE90 => ?_
  refine wpList_nil ?_
  clear a_87 HE88
  refine nrm ?_
  refine wp_seq ?_
  refine rg ?_
  refine pl_x HE90 HH84 (wt0 rfl) (x_loadN (cs := [.int .i64 ((palMulti a0).1.1), .int .i64 ((palMulti a0).1.2.1), .int .i64 ((palMulti a0).1.2.2.1), .slice Ar23_0_3 ((palMulti a0).1.2.2.2.length) cr23_0_3]) tv_55 rfl rfl (c_blkN 1 rfl)) rfl rfl fun a_91 HE92 => ?_
  refine pl_x HE92 HH84 (wt0 rfl) (x_move rfl) rfl rfl fun a_93 HE94 => ?_
  refine pl fun K_95 hK96 => ?_
  refine st_call HE94 (wt0 rfl) rfl rfl rfl en_39 rfl rfl (held_Multi_e [.int .i64 ((palMulti a0).1.1), .int .i64 ((palMulti a0).1.2.1), .int .i64 ((palMulti a0).1.2.2.1), .slice Ar23_0_3 ((palMulti a0).1.2.2.2.length) cr23_0_3] (mv_Multi ((palMulti a0).1) 1) 1 ((palMulti a0).1) _ (HH84.rd (i := 0) rfl) rfl (by omega) (by omega)) fun e w' hr => ?_
  obtain ⟨rfl, hbr27⟩ := hr
  have HH97 := HH84.on hbr27
  clear hbr27
  refine ⟨_, rfl, fun a_98 HE99 => hK96 _ _ ?_⟩
  refine pl_x HE99 HH97 (wt0 rfl) (x_assign rfl) rfl rfl fun a_100 HE101 => ?_
  refine wpList_nil ?_
  clear a_89 HE90 a_91 HE92 HH84 a_93 HE94 a_98 HE99 hK96 K_95
  refine nrm ?_
  refine wp_seq ?_
  refine wp_seq ?_
  refine rg ?_
  refine pl_x HE101 HH97 (wt0 rfl) (x_move rfl) rfl rfl fun a_102 HE103 => ?_
  refine pl_x HE103 HH97 (wt0 rfl) (x_lss rfl rfl) rfl rfl fun a_104 HE105 => ?_
  refine wpList_nil ?_
  clear a_100 HE101 a_102 HE103
  refine nrm ?_
  refine cnd_d HE105 rfl (fun hc28 => ?_) (fun hc28 => ?_)
  · refine wp_seq ?_
    refine rg ?_
    refine pl_x HE105 HH97 (wt0 rfl) (x_assign rfl) rfl rfl fun a_106 HE107 => ?_
    refine wpList_nil ?_
    clear a_104 HE105
    refine nrm ?_
    refine wp_ret ?_
    refine (thn_ret ?_)
    refine ret1 HE107 rfl (rv_tmp rfl) ?_
    have hF : true = false := by
      first | rfl | (exfalso; omega)
    exact ⟨by first | (rw [hF] <;> rfl) | rfl | (rw [hF]; simp only [Ending.returned.injEq, Value.slice.injEq, true_and, and_true]; first | omega | (simp; done)) | (rw [hF]; simp; omega), HH97.below⟩
  · refine wp_skip ?_
    refine nrm ?_
    refine wp_seq ?_
    refine wp_seq ?_
    refine rg ?_
    refine pl_x HE105 HH97 (wt0 rfl) (x_move rfl) rfl rfl fun a_108 HE109 => ?_
    refine pl_x HE109 HH97 (wt0 rfl) (x_move rfl) rfl rfl fun a_110 HE111 => ?_
    refine pl_x HE111 HH97 (wt0 rfl) (x_neq rfl rfl) rfl rfl fun a_112 HE113 => ?_
    refine wpList_nil ?_
    clear a_104 HE105 a_108 HE109 a_110 HE111
    refine nrm ?_
    refine cndF HE113 rfl (bne_f rfl) ?_
    refine wp_skip ?_
    refine nrm ?_
    refine wp_seq ?_
    refine rg ?_
    refine pl_x HE113 HH97 (wt0 rfl) (x_move rfl) rfl rfl fun a_114 HE115 => ?_
    refine pl fun K_116 hK117 => ?_
    refine st_call HE115 (wt0 rfl) rfl rfl rfl en_38 rfl rfl (impl_PalindromeMulti a0 _ ) fun e w' hr => ?_
    obtain ⟨esr29_0, rfl, hor29_0, hbr29⟩ := hr
    have hr := eMulti.read hor29_0
    obtain ⟨Sr29, HH118⟩ := HH97.newO hbr29 hor29_0
    obtain ⟨Ar29_0_3, cr29_0_3, rfl, gr29_0_0, gr29_0_1, gr29_0_2, gr29_0_3⟩ := shape_Multi hr
    have jr29_0_0 := gr29_0_0; unfold I64 at jr29_0_0
    have jr29_0_1 := gr29_0_1; unfold I64 at jr29_0_1
    have jr29_0_2 := gr29_0_2; unfold I64 at jr29_0_2
    refine ⟨_, rfl, fun a_119 HE120 => hK117 _ _ ?_⟩
    refine pl_x HE120 HH118 (wt0 rfl) (x_move rfl) rfl rfl fun a_121 HE122 => ?_
    refine pl_x HE122 HH118 (wt0 rfl) (x_extract rfl rfl) rfl rfl fun a_123 HE124 => ?_
    refine pl_x HE124 HH118 (wt0 rfl) (x_extract rfl rfl) rfl rfl fun a_125 HE126 => ?_
    refine pl fun K_127 hK128 => ?_
    refine st_alloc HE126 HH118 tv_55 (wt0 rfl) rfl fun q30 a_129 w' HE130 HH131 => hK128 _ _ ?_
    refine pl fun K_132 hK133 => ?_
    refine st_store (vs := [.int .i64 ((palMulti a0).1.1), .int .i64 ((palMulti a0).1.2.1), .int .i64 ((palMulti a0).1.2.2.1), .slice Ar29_0_3 ((palMulti a0).1.2.2.2.length) cr29_0_3]) 0 HE130 HH131 tv_55 rfl rfl rfl rfl rfl rfl (by simp [Value.oneCell']) (wt0 rfl) fun w' HH134 => hK133 _ _ ?_
    refine pl_x HE130 HH134 (wt0 rfl) (x_assign rfl) rfl rfl fun a_135 HE136 => ?_
    refine wpList_nil ?_
    clear a_112 HE113 HH97 a_114 HE115 a_119 HE120 a_121 HE122 a_123 HE124 K_116 hK117 a_125 HE126 HH118 K_127 hK128 HH131 a_129 HE130 hK133 K_132
    refine nrm ?_
    refine wp_seq ?_
    refine wp_seq ?_
    refine rg ?_
    refine pl_x HE136 HH134 (wt0 rfl) (x_loadN (cs := [.int .i64 ((palMulti a0).1.1), .int .i64 ((palMulti a0).1.2.1), .int .i64 ((palMulti a0).1.2.2.1), .slice Ar29_0_3 ((palMulti a0).1.2.2.2.length) cr29_0_3]) tv_55 rfl rfl (c_blkN 0 rfl)) rfl rfl fun a_137 HE138 => ?_
    refine pl_x HE138 HH134 (wt0 rfl) (x_loadN (cs := [.int .i64 ((palMulti a0).1.1), .int .i64 ((palMulti a0).1.2.1), .int .i64 ((palMulti a0).1.2.2.1), .slice Ar21_0_3 ((palMulti a0).1.2.2.2.length) cr21_0_3]) tv_55 rfl rfl (c_blkN 4 rfl)) rfl rfl fun a_139 HE140 => ?_
    refine pl fun K_141 hK142 => ?_
    refine st_call HE140 (wt0 rfl) rfl rfl rfl en_33 rfl rfl (eq_Multi_c [.int .i64 ((palMulti a0).1.1), .int .i64 ((palMulti a0).1.2.1), .int .i64 ((palMulti a0).1.2.2.1), .slice Ar29_0_3 ((palMulti a0).1.2.2.2.length) cr29_0_3] [.int .i64 ((palMulti a0).1.1), .int .i64 ((palMulti a0).1.2.1), .int .i64 ((palMulti a0).1.2.2.1), .slice Ar21_0_3 ((palMulti a0).1.2.2.2.length) cr21_0_3] ((palMulti a0).1) ((palMulti a0).1) _ (HH134.rd (i := 1) rfl) (HH134.rd (i := 5) rfl)) fun e w' hr => ?_
    obtain ⟨rfl, hbr31⟩ := hr
    have HH143 := HH134.on hbr31
    clear hbr31
    refine ⟨_, rfl, fun a_144 HE145 => hK142 _ _ ?_⟩
    refine pl_x HE145 HH143 (wt0 rfl) (x_not rfl) rfl rfl fun a_146 HE147 => ?_
    refine pl_x HE147 HH143 (wt0 rfl) (x_move rfl) rfl rfl fun a_148 HE149 => ?_
    refine pl_x HE149 HH143 (wtT HE149 rfl rfl rfl (not_f (eq_Multi_refl _))) (x_move rfl) rfl rfl fun a_150 HE151 => ?_
    refine pl_x HE151 HH143 (wtT HE151 rfl rfl rfl (not_f (eq_Multi_refl _))) (x_move rfl) rfl rfl fun a_152 HE153 => ?_
    refine pl_x HE153 HH143 (wtT HE153 rfl rfl rfl (not_f (eq_Multi_refl _))) (x_neq rfl rfl) rfl rfl fun a_154 HE155 => ?_
    refine pl_x HE155 HH143 (wt0 rfl) (x_pickF rfl (not_f (eq_Multi_refl _)) rfl) rfl rfl fun a_156 HE157 => ?_
    refine wpList_nil ?_
    clear a_135 HE136 a_137 HE138 HH134 a_139 HE140 a_144 HE145 a_146 HE147 a_148 HE149 a_150 HE151 a_152 HE153 a_154 HE155 hK142 K_141
    refine nrm ?_
    refine cndF HE157 rfl (bne_f rfl) ?_
    refine wp_skip ?_
    refine nrm ?_
    refine wp_seq ?_
    refine rg ?_
    refine pl_x HE157 HH143 (wt0 rfl) (x_assign rfl) rfl rfl fun a_158 HE159 => ?_
    refine wpList_nil ?_
    clear a_156 HE157
    refine nrm ?_
    refine wp_seq ?_
    refine rg ?_
    refine pl_x HE159 HH143 (wt0 rfl) (x_loadN (cs := [.int .i64 ((palMulti a0).1.1), .int .i64 ((palMulti a0).1.2.1), .int .i64 ((palMulti a0).1.2.2.1), .slice Ar23_0_3 ((palMulti a0).1.2.2.2.length) cr23_0_3]) tv_55 rfl rfl (c_blkN 3 rfl)) rfl rfl fun a_160 HE161 => ?_
    refine pl_x HE161 HH143 (wt0 rfl) (x_move rfl) rfl rfl fun a_162 HE163 => ?_
    refine pl fun K_164 hK165 => ?_
    refine st_call HE163 (wt0 rfl) rfl rfl rfl en_39 rfl rfl (held_Multi_e [.int .i64 ((palMulti a0).1.1), .int .i64 ((palMulti a0).1.2.1), .int .i64 ((palMulti a0).1.2.2.1), .slice Ar23_0_3 ((palMulti a0).1.2.2.2.length) cr23_0_3] (mv_Multi ((palMulti a0).1) 1) 1 ((palMulti a0).1) _ (HH143.rd (i := 2) rfl) rfl (by omega) (by omega)) fun e w' hr => ?_
    obtain ⟨rfl, hbr32⟩ := hr
    have HH166 := HH143.on hbr32
    clear hbr32
    refine ⟨_, rfl, fun a_167 HE168 => hK165 _ _ ?_⟩
    refine pl_x HE168 HH166 (wt0 rfl) (x_assign rfl) rfl rfl fun a_169 HE170 => ?_
    refine wpList_nil ?_
    clear a_158 HE159 a_160 HE161 HH143 a_162 HE163 a_167 HE168 hK165 K_164
    refine nrm ?_
    refine wp_seq ?_
    refine wp_seq ?_
    refine rg ?_
    refine pl_x HE170 HH166 (wt0 rfl) (x_move rfl) rfl rfl fun a_171 HE172 => ?_
    refine pl_x HE172 HH166 (wt0 rfl) (x_lss rfl rfl) rfl rfl fun a_173 HE174 => ?_
    refine wpList_nil ?_
    clear a_169 HE170 a_171 HE172
    refine nrm ?_
    refine cndF HE174 rfl (decide_eq_false hc28) ?_
    refine wp_skip ?_
    refine nrm ?_
    refine wp_seq ?_
    refine wp_seq ?_
    refine rg ?_
    refine pl_x HE174 HH166 (wt0 rfl) (x_move rfl) rfl rfl fun a_175 HE176 => ?_
    refine pl_x HE176 HH166 (wt0 rfl) (x_move rfl) rfl rfl fun a_177 HE178 => ?_
    refine pl_x HE178 HH166 (wt0 rfl) (x_neq rfl rfl) rfl rfl fun a_179 HE180 => ?_
    refine wpList_nil ?_
    clear a_173 HE174 a_175 HE176 a_177 HE178
    refine nrm ?_
    refine cndF HE180 rfl (bne_f rfl) ?_
    refine wp_skip ?_
    refine nrm ?_
    refine wp_seq ?_
    refine rg ?_
    refine pl_x HE180 HH166 (wt0 rfl) (x_assign rfl) rfl rfl fun a_181 HE182 => ?_
    refine wpList_nil ?_
    clear a_179 HE180
    refine nrm ?_
    refine wp_ret ?_
    refine ret1 HE182 rfl (rv_tmp rfl) ?_
    have hF : true = true := by
      first | rfl | (exfalso; omega)
    exact ⟨by first | (rw [hF] <;> rfl) | rfl | (rw [hF]; simp only [Ending.returned.injEq, Value.slice.injEq, true_and, and_true]; first | omega | (simp; done)) | (rw [hF]; simp; omega), HH166.below⟩

end Go.Proofs.Ytcfdkckchbdafaa
