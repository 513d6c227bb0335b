/- What the proof of FnExactPermuteTapes needs: contracts of the functions that it reaches, each once. -/
import Derived.Test.YtcfdkckchbdafaaProg
import Derived.Test.YtcfdkckchbdafaaQMem
import Derived.Test.YtcfdkckchbdafaaQOpen
import Derived.Test.YtcfdkckchbdafaaLPermuteTapesa
import Derived.Test.YtcfdkckchbdafaaLPermuteTapesb
import Derived.Test.YtcfdkckchbdafaaLPermuteTapesc
import Derived.Test.YtcfdkckchbdafaaLPermuteTapesd
import Derived.Test.YtcfdkckchbdafaaLPermuteTapese
import Derived.Test.YtcfdkckchbdafaaLPermuteTapesf
import Derived.Test.YtcfdkckchbdafaaLPermuteTapesg
import Derived.WalkKit
import Derived.WalkSpells
import Derived.Below
import Derived.LoopTactic
import Derived.Outline
import Derived.Deep.QuietTactic
import Derived.BigQuiet
import Derived.Deep.LoopGhost
import Derived.Handy
import Derived.Lib.Hide
import Derived.Shelf.Abstract
import Derived.StillTailTactics
import Derived.OwnWalk
import Derived.Maps.AppendAt
import Derived.RegionTactic
import Derived.Deep.RegionHeld3
import Derived.IntWalk
import Derived.Deep.Upon
import Derived.Laws.OwnMore
import Derived.Maps.AppendAt
import Derived.Lib.FrozenHead
import Derived.Lib.RuneBytes
import Derived.Lib.LaidTab
import Derived.Laws.StructEq
import Derived.Lib.SliceRun
import Derived.Lib.AppendZeros
import Derived.Shelf.SortG.Plain
import Derived.Shelf.SortG.SortNone
import Derived.Shelf.SlicesG.CompactI
import Derived.Shelf.SlicesG.SearchI
import Derived.Sort.OwnSortedInts
import Derived.Lib.RowBridge
import Derived.Lib.ItoaLen
import Derived.Lib.Join
import Derived.Shelf.Strconv.Itoa4
import Derived.Shelf.Strings.OnBuilder
import Derived.Shelf.Strings.BuilderK
import Derived.Shelf.Strings.BuilderRune
import Derived.Shelf.LaysM
import Derived.Ground.NamesProg
import Derived.Shelf.SlSortCmp.WholeK
import Derived.Shelf.SlSortCmp.NoneTotal
namespace Go.Proofs.Ytcfdkckchbdafaa
open Go.RowKit

set_option maxRecDepth 100000 in
set_option maxHeartbeats 4000000 in
theorem law_PermuteTapes (es0 : List Value) (a0 : tMulti) (A1 : Option Addr) (c1 : Nat) (a1 : (List Int)) (w : World) (h0 : eMulti.R w (Old w) es0 a0) (h1 : Sl eInt w (Old w) A1 c1 a1) :
    Calls Try.prog 8 #[.agg es0.toArray, .slice A1 a1.length c1] w fun e w' => e = .returned (.bool true) ∧ Below w.heap.size w w' := by
  have H0 := h0
  obtain ⟨Az0_3, cz0_3, rfl, gz0_0, gz0_1, gz0_2, gz0_3⟩ := shape_Multi h0
  have jz0_0 := gz0_0; unfold I64 at jz0_0
  have jz0_1 := gz0_1; unfold I64 at jz0_1
  have jz0_2 := gz0_2; unfold I64 at jz0_2
  have lz0_3 := gz0_3.len
  have l1 := h1.len
  have m0 := cv_cost_Multi a0
  have cl1 : cost_L a1 = a1.length := rfl
  have m1 := ct_cost_L a1
  have n0 : (cv_Multi (permTapes a0 a1).1 : Int) ≤ 1000000000 := permTapes_ct a0 a1
  have HH1 := Held.start Nob w
  refine enter (n := 117) Try.func8 rfl rfl rfl fun a_2 HE3 => ?_
  refine wp_seq ?_
  refine rg ?_
  refine pl fun K_4 hK5 => ?_
  refine st_box (cs := [.int .i64 (a0.1), .int .i64 (a0.2.1), .int .i64 (a0.2.2.1), .slice Az0_3 (a0.2.2.2.length) cz0_3]) HE3 HH1 rfl rfl (wt0 rfl) rfl fun q21 a_6 w' HE7 HH8 => hK5 _ _ ?_
  refine pl_x HE7 HH8 (wt0 rfl) (x_assign rfl) rfl rfl fun a_9 HE10 => ?_
  refine wpList_nil ?_
  clear a_2 HE3 HH1 a_6 HE7 hK5 K_4
  refine nrm ?_
  refine wp_seq ?_
  refine wp_seq ?_
  refine rg ?_
  refine pl_x HE10 HH8 (wt0 rfl) (x_move rfl) rfl rfl fun a_11 HE12 => ?_
  refine pl_x HE12 HH8 (wt0 rfl) (x_len Try.underlying37 rfl) rfl rfl fun a_13 HE14 => ?_
  refine pl_x HE14 HH8 (wt0 rfl) (x_gtr rfl rfl) rfl rfl fun a_15 HE16 => ?_
  refine wpList_nil ?_
  clear a_9 HE10 a_11 HE12 a_13 HE14
  refine nrm ?_
  refine cnd_d HE16 rfl (fun hc22 => ?_) (fun hc22 => ?_)
  · refine wp_seq ?_
    refine rg ?_
    refine pl_x HE16 HH8 (wt0 rfl) (x_assign rfl) rfl rfl fun a_17 HE18 => ?_
    refine wpList_nil ?_
    clear a_15 HE16
    refine nrm ?_
    refine wp_ret ?_
    refine (thn_ret ?_)
    refine ret1 HE18 rfl (rv_tmp rfl) ?_
    have hF : true = true := by
      first | rfl | (exfalso; omega)
    exact ⟨by first | (rw [hF] <;> rfl) | rfl | (rw [hF]; simp only [Ending.returned.injEq, Value.slice.injEq, true_and, and_true]; first | omega | (simp; done)) | (rw [hF]; simp; omega), HH8.below⟩
  · refine wp_skip ?_
    refine nrm ?_
    refine wp_seq ?_
    refine rg ?_
    refine pl_x HE16 HH8 (wt0 rfl) (x_assign rfl) rfl rfl fun a_19 HE20 => ?_
    refine wpList_nil ?_
    clear a_15 HE16
    refine nrm ?_
    refine wp_seq ?_
    refine rg ?_
    refine pl_x HE20 HH8 (wt0 rfl) (x_loadN (cs := [.int .i64 (a0.1), .int .i64 (a0.2.1), .int .i64 (a0.2.2.1), .slice Az0_3 (a0.2.2.2.length) cz0_3]) tv_48 rfl rfl (c_blkN 0 rfl)) rfl rfl fun a_21 HE22 => ?_
    refine pl_x HE22 HH8 (wt0 rfl) (x_move rfl) rfl rfl fun a_23 HE24 => ?_
    refine pl fun K_25 hK26 => ?_
    refine st_call HE24 (wt0 rfl) rfl rfl rfl en_28 rfl rfl (sz_Multi [.int .i64 (a0.1), .int .i64 (a0.2.1), .int .i64 (a0.2.2.1), .slice Az0_3 (a0.2.2.2.length) cz0_3] a0 1048576 _ (HH8.oldR H0) (by omega) (by omega)) fun e w' hr => ?_
    obtain ⟨rfl, hbr23⟩ := hr
    have HH27 := HH8.on hbr23
    clear hbr23
    refine ⟨_, rfl, fun a_28 HE29 => hK26 _ _ ?_⟩
    refine pl_x HE29 HH27 (wt0 rfl) (x_assign rfl) rfl rfl fun a_30 HE31 => ?_
    refine wpList_nil ?_
    clear a_19 HE20 a_21 HE22 HH8 a_23 HE24 a_28 HE29 hK26 K_25
    refine nrm ?_
    refine wp_seq ?_
    refine wp_seq ?_
    refine rg ?_
    refine pl_x HE31 HH27 (wt0 rfl) (x_move rfl) rfl rfl fun a_32 HE33 => ?_
    refine pl_x HE33 HH27 (wt0 rfl) (x_lss rfl rfl) rfl rfl fun a_34 HE35 => ?_
    refine wpList_nil ?_
    clear a_30 HE31 a_32 HE33
    refine nrm ?_
    refine cnd_d HE35 rfl (fun hc24 => ?_) (fun hc24 => ?_)
    · refine wp_seq ?_
      refine rg ?_
      refine pl_x HE35 HH27 (wt0 rfl) (x_assign rfl) rfl rfl fun a_36 HE37 => ?_
      refine wpList_nil ?_
      clear a_34 HE35
      refine nrm ?_
      refine wp_ret ?_
      refine (thn_ret ?_)
      refine ret1 HE37 rfl (rv_tmp rfl) ?_
      have hF : true = true := by
        first | rfl | (exfalso; omega)
      exact ⟨by first | (rw [hF] <;> rfl) | rfl | (rw [hF]; simp only [Ending.returned.injEq, Value.slice.injEq, true_and, and_true]; first | omega | (simp; done)) | (rw [hF]; simp; omega), HH27.below⟩
    · have zr23 := left_ok hc24
      refine wp_skip ?_
      refine nrm ?_
      refine wp_seq ?_
      refine rg ?_
      refine pl_x HE35 HH27 (wt0 rfl) (x_loadN (cs := [.int .i64 (a0.1), .int .i64 (a0.2.1), .int .i64 (a0.2.2.1), .slice Az0_3 (a0.2.2.2.length) cz0_3]) tv_48 rfl rfl (c_blkN 0 rfl)) rfl rfl fun a_38 HE39 => ?_
      refine pl fun K_40 hK41 => ?_
      refine st_call HE39 (wt0 rfl) rfl rfl rfl en_30 rfl rfl (to_Multi [.int .i64 (a0.1), .int .i64 (a0.2.1), .int .i64 (a0.2.2.1), .slice Az0_3 (a0.2.2.2.length) cz0_3] a0 _ (HH27.oldR H0) (by omega)) fun e w' hr => ?_
      obtain ⟨esr25, rfl, hor25, hbr25⟩ := hr
      have hr := eMulti.read hor25
      obtain ⟨Sr25, HH42⟩ := HH27.newO hbr25 hor25
      obtain ⟨Ar25_3, cr25_3, rfl, gr25_0, gr25_1, gr25_2, gr25_3⟩ := shape_Multi hr
      clear hbr25 hor25 gr25_0 gr25_1 gr25_2 gr25_3
      refine ⟨_, rfl, fun a_43 HE44 => hK41 _ _ ?_⟩
      refine pl_x HE44 HH42 (wt0 rfl) (x_move rfl) rfl rfl fun a_45 HE46 => ?_
      refine pl fun K_47 hK48 => ?_
      refine st_call HE46 (wt0 rfl) rfl rfl rfl en_43 rfl rfl (to_Int64S _ _ a1 _ (HH42.old h1) (by omega)) fun e w' hr => ?_
      obtain ⟨Ar26, cr26, rfl, hor26, hbr26⟩ := hr
      obtain ⟨Sr26, HH49⟩ := HH42.newS hbr26 hor26
      clear hbr26 hor26
      refine ⟨_, rfl, fun a_50 HE51 => hK48 _ _ ?_⟩
      refine pl fun K_52 hK53 => ?_
      refine st_call HE51 (wt0 rfl) rfl rfl rfl en_42 rfl rfl (spec_PermuteTapes [.int .i64 (a0.1), .int .i64 (a0.2.1), .int .i64 (a0.2.2.1), .slice Ar25_3 (a0.2.2.2.length) cr25_3] a0 _ _ a1 _ (HH49.rd (i := 1) rfl) (HH49.sl (i := 0) rfl)) fun e w' hr => ?_
      obtain ⟨esr27_0, rfl, hor27_0, hbr27⟩ := hr
      have hr := eMulti.read hor27_0
      obtain ⟨Sr27, HH54⟩ := HH49.newO hbr27 hor27_0
      obtain ⟨Ar27_0_3, cr27_0_3, rfl, gr27_0_0, gr27_0_1, gr27_0_2, gr27_0_3⟩ := shape_Multi hr
      have jr27_0_0 := gr27_0_0; unfold I64 at jr27_0_0
      have jr27_0_1 := gr27_0_1; unfold I64 at jr27_0_1
      have jr27_0_2 := gr27_0_2; unfold I64 at jr27_0_2
      refine ⟨_, rfl, fun a_55 HE56 => hK53 _ _ ?_⟩
      refine pl_x HE56 HH54 (wt0 rfl) (x_move rfl) rfl rfl fun a_57 HE58 => ?_
      refine pl_x HE58 HH54 (wt0 rfl) (x_extract rfl rfl) rfl rfl fun a_59 HE60 => ?_
      refine pl_x HE60 HH54 (wt0 rfl) (x_extract rfl rfl) rfl rfl fun a_61 HE62 => ?_
      refine pl fun K_63 hK64 => ?_
      refine st_alloc HE62 HH54 tv_55 (wt0 rfl) rfl fun q28 a_65 w' HE66 HH67 => hK64 _ _ ?_
      refine pl fun K_68 hK69 => ?_
      refine st_store (vs := [.int .i64 ((permTapes a0 a1).1.1), .int .i64 ((permTapes a0 a1).1.2.1), .int .i64 ((permTapes a0 a1).1.2.2.1), .slice Ar27_0_3 ((permTapes a0 a1).1.2.2.2.length) cr27_0_3]) 0 HE66 HH67 tv_55 rfl rfl rfl rfl rfl rfl (by simp [Value.oneCell']) (wt0 rfl) fun w' HH70 => hK69 _ _ ?_
      refine pl_x HE66 HH70 (wt0 rfl) (x_assign rfl) rfl rfl fun a_71 HE72 => ?_
      refine wpList_nil ?_
      clear a_34 HE35 HH27 a_38 HE39 a_43 HE44 K_40 hK41 HH42 a_45 HE46 K_47 hK48 HH49 a_50 HE51 a_55 HE56 a_57 HE58 a_59 HE60 K_52 hK53 a_61 HE62 HH54 K_63 hK64 HH67 a_65 HE66 hK69 K_68
      refine nrm ?_
      refine wp_seq ?_
      refine rg ?_
      refine pl_x HE72 HH70 (wt0 rfl) (x_loadN (cs := [.int .i64 (a0.1), .int .i64 (a0.2.1), .int .i64 (a0.2.2.1), .slice Az0_3 (a0.2.2.2.length) cz0_3]) tv_48 rfl rfl (c_blkN 4 rfl)) rfl rfl fun a_73 HE74 => ?_
      refine pl fun K_75 hK76 => ?_
      refine st_call HE74 (wt0 rfl) rfl rfl rfl en_30 rfl rfl (to_Multi [.int .i64 (a0.1), .int .i64 (a0.2.1), .int .i64 (a0.2.2.1), .slice Az0_3 (a0.2.2.2.length) cz0_3] a0 _ (HH70.oldR H0) (by omega)) fun e w' hr => ?_
      obtain ⟨esr29, rfl, hor29, hbr29⟩ := hr
      have hr := eMulti.read hor29
      obtain ⟨Sr29, HH77⟩ := HH70.newO hbr29 hor29
      obtain ⟨Ar29_3, cr29_3, rfl, gr29_0, gr29_1, gr29_2, gr29_3⟩ := shape_Multi hr
      clear hbr29 hor29 gr29_0 gr29_1 gr29_2 gr29_3
      refine ⟨_, rfl, fun a_78 HE79 => hK76 _ _ ?_⟩
      refine pl fun K_80 hK81 => ?_
      refine st_alloc HE79 HH77 tv_55 (wt0 rfl) rfl fun q30 a_82 w' HE83 HH84 => hK81 _ _ ?_
      refine pl fun K_85 hK86 => ?_
      refine st_store (vs := [.int .i64 (a0.1), .int .i64 (a0.2.1), .int .i64 (a0.2.2.1), .slice Ar29_3 (a0.2.2.2.length) cr29_3]) 0 HE83 HH84 tv_55 rfl rfl rfl rfl rfl rfl (by simp [Value.oneCell']) (wt0 rfl) fun w' HH87 => hK86 _ _ ?_
      refine wpList_nil ?_
      clear a_71 HE72 HH70 a_73 HE74 K_75 hK76 a_78 HE79 HH77 K_80 hK81 HH84 hK86 K_85
      refine nrm ?_
      refine wp_seq ?_
      refine rg ?_
      refine pl_x HE83 HH87 (wt0 rfl) (x_move rfl) rfl rfl fun a_88 HE89 => ?_
      refine pl fun K_90 hK91 => ?_
      refine st_call HE89 (wt0 rfl) rfl rfl rfl en_43 rfl rfl (to_Int64S _ _ a1 _ (HH87.old h1) (by omega)) fun e w' hr => ?_
      obtain ⟨Ar31, cr31, rfl, hor31, hbr31⟩ := hr
      obtain ⟨Sr31, HH92⟩ := HH87.newS hbr31 hor31
      clear hbr31 hor31
      refine ⟨_, rfl, fun a_93 HE94 => hK91 _ _ ?_⟩
      refine pl_x HE94 HH92 (wt0 rfl) (x_assign rfl) rfl rfl fun a_95 HE96 => ?_
      refine wpList_nil ?_
      clear a_82 HE83 HH87 a_88 HE89 a_93 HE94 hK91 K_90
      refine nrm ?_
      refine wp_seq ?_
      refine rg ?_
      refine pl_x HE96 HH92 (wt0 rfl) (x_loadN (cs := [.int .i64 (a0.1), .int .i64 (a0.2.1), .int .i64 (a0.2.2.1), .slice Ar29_3 (a0.2.2.2.length) cr29_3]) tv_55 rfl rfl (c_blkN 1 rfl)) rfl rfl fun a_97 HE98 => ?_
      refine pl_x HE98 HH92 (wt0 rfl) (x_move rfl) rfl rfl fun a_99 HE100 => ?_
      refine pl fun K_101 hK102 => ?_
      refine st_call HE100 (wt0 rfl) rfl rfl rfl en_44 rfl rfl (impl_PermuteTapes [.int .i64 (a0.1), .int .i64 (a0.2.1), .int .i64 (a0.2.2.1), .slice Ar29_3 (a0.2.2.2.length) cr29_3] a0 _ _ a1 _ (HH92.rd (i := 2) rfl) (HH92.sl (i := 0) rfl)) fun e w' hr => ?_
      obtain ⟨esr32_0, rfl, hor32_0, hbr32⟩ := hr
      have hr := eMulti.read hor32_0
      obtain ⟨Sr32, HH103⟩ := HH92.newO hbr32 hor32_0
      obtain ⟨Ar32_0_3, cr32_0_3, rfl, gr32_0_0, gr32_0_1, gr32_0_2, gr32_0_3⟩ := shape_Multi hr
      have jr32_0_0 := gr32_0_0; unfold I64 at jr32_0_0
      have jr32_0_1 := gr32_0_1; unfold I64 at jr32_0_1
      have jr32_0_2 := gr32_0_2; unfold I64 at jr32_0_2
      refine ⟨_, rfl, fun a_104 HE105 => hK102 _ _ ?_⟩
      refine pl_x HE105 HH103 (wt0 rfl) (x_move rfl) rfl rfl fun a_106 HE107 => ?_
      refine pl_x HE107 HH103 (wt0 rfl) (x_extract rfl rfl) rfl rfl fun a_108 HE109 => ?_
      refine pl_x HE109 HH103 (wt0 rfl) (x_extract rfl rfl) rfl rfl fun a_110 HE111 => ?_
      refine pl fun K_112 hK113 => ?_
      refine st_alloc HE111 HH103 tv_55 (wt0 rfl) rfl fun q33 a_114 w' HE115 HH116 => hK113 _ _ ?_
      refine pl fun K_117 hK118 => ?_
      refine st_store (vs := [.int .i64 ((permTapes a0 a1).1.1), .int .i64 ((permTapes a0 a1).1.2.1), .int .i64 ((permTapes a0 a1).1.2.2.1), .slice Ar32_0_3 ((permTapes a0 a1).1.2.2.2.length) cr32_0_3]) 0 HE115 HH116 tv_55 rfl rfl rfl rfl rfl rfl (by simp [Value.oneCell']) (wt0 rfl) fun w' HH119 => hK118 _ _ ?_
      refine pl_x HE115 HH119 (wt0 rfl) (x_assign rfl) rfl rfl fun a_120 HE121 => ?_
      refine wpList_nil ?_
      clear a_95 HE96 a_97 HE98 HH92 a_99 HE100 a_104 HE105 a_106 HE107 a_108 HE109 K_101 hK102 a_110 HE111 HH103 K_112 hK113 HH116 a_114 HE115 hK118 K_117
      refine nrm ?_
      refine wp_seq ?_
      refine wp_seq ?_
      refine rg ?_
      refine pl_x HE121 HH119 (wt0 rfl) (x_loadN (cs := [.int .i64 ((permTapes a0 a1).1.1), .int .i64 ((permTapes a0 a1).1.2.1), .int .i64 ((permTapes a0 a1).1.2.2.1), .slice Ar32_0_3 ((permTapes a0 a1).1.2.2.2.length) cr32_0_3]) tv_55 rfl rfl (c_blkN 0 rfl)) rfl rfl fun a_122 HE123 => ?_
      refine pl_x HE123 HH119 (wt0 rfl) (x_loadN (cs := [.int .i64 ((permTapes a0 a1).1.1), .int .i64 ((permTapes a0 a1).1.2.1), .int .i64 ((permTapes a0 a1).1.2.2.1), .slice Ar27_0_3 ((permTapes a0 a1).1.2.2.2.length) cr27_0_3]) tv_55 rfl rfl (c_blkN 5 rfl)) rfl rfl fun a_124 HE125 => ?_
      refine pl fun K_126 hK127 => ?_
      refine st_call HE125 (wt0 rfl) rfl rfl rfl en_33 rfl rfl (eq_Multi_c [.int .i64 ((permTapes a0 a1).1.1), .int .i64 ((permTapes a0 a1).1.2.1), .int .i64 ((permTapes a0 a1).1.2.2.1), .slice Ar32_0_3 ((permTapes a0 a1).1.2.2.2.length) cr32_0_3] [.int .i64 ((permTapes a0 a1).1.1), .int .i64 ((permTapes a0 a1).1.2.1), .int .i64 ((permTapes a0 a1).1.2.2.1), .slice Ar27_0_3 ((permTapes a0 a1).1.2.2.2.length) cr27_0_3] ((permTapes a0 a1).1) ((permTapes a0 a1).1) _ (HH119.rd (i := 1) rfl) (HH119.rd (i := 6) rfl)) fun e w' hr => ?_
      obtain ⟨rfl, hbr34⟩ := hr
      have HH128 := HH119.on hbr34
      clear hbr34
      refine ⟨_, rfl, fun a_129 HE130 => hK127 _ _ ?_⟩
      refine pl_x HE130 HH128 (wt0 rfl) (x_not rfl) rfl rfl fun a_131 HE132 => ?_
      refine pl_x HE132 HH128 (wt0 rfl) (x_move rfl) rfl rfl fun a_133 HE134 => ?_
      refine pl_x HE134 HH128 (wtT HE134 rfl rfl rfl (not_f (eq_Multi_refl _))) (x_move rfl) rfl rfl fun a_135 HE136 => ?_
      refine pl_x HE136 HH128 (wtT HE136 rfl rfl rfl (not_f (eq_Multi_refl _))) (x_move rfl) rfl rfl fun a_137 HE138 => ?_
      refine pl_x HE138 HH128 (wtT HE138 rfl rfl rfl (not_f (eq_Multi_refl _))) (x_neq rfl rfl) rfl rfl fun a_139 HE140 => ?_
      refine pl_x HE140 HH128 (wt0 rfl) (x_pickF rfl (not_f (eq_Multi_refl _)) rfl) rfl rfl fun a_141 HE142 => ?_
      refine wpList_nil ?_
      clear a_120 HE121 a_122 HE123 HH119 a_124 HE125 a_129 HE130 a_131 HE132 a_133 HE134 a_135 HE136 a_137 HE138 a_139 HE140 hK127 K_126
      refine nrm ?_
      refine cndF HE142 rfl (bne_f rfl) ?_
      refine wp_skip ?_
      refine nrm ?_
      refine wp_seq ?_
      refine wp_seq ?_
      refine dr_start (Held Nob w [rBlk q33 55 [.int .i64 ((permTapes a0 a1).1.1), .int .i64 ((permTapes a0 a1).1.2.1), .int .i64 ((permTapes a0 a1).1.2.2.1), .slice Ar32_0_3 ((permTapes a0 a1).1.2.2.2.length) cr32_0_3], rO eMulti Sr32 [.int .i64 ((permTapes a0 a1).1.1), .int .i64 ((permTapes a0 a1).1.2.1), .int .i64 ((permTapes a0 a1).1.2.2.1), .slice Ar32_0_3 ((permTapes a0 a1).1.2.2.2.length) cr32_0_3] ((permTapes a0 a1).1), rSo eInt Sr31 Ar31 cr31 a1, rBlk q30 55 [.int .i64 (a0.1), .int .i64 (a0.2.1), .int .i64 (a0.2.2.1), .slice Ar29_3 (a0.2.2.2.length) cr29_3], rO eMulti Sr29 [.int .i64 (a0.1), .int .i64 (a0.2.1), .int .i64 (a0.2.2.1), .slice Ar29_3 (a0.2.2.2.length) cr29_3] a0, rBlk q28 55 [.int .i64 ((permTapes a0 a1).1.1), .int .i64 ((permTapes a0 a1).1.2.1), .int .i64 ((permTapes a0 a1).1.2.2.1), .slice Ar27_0_3 ((permTapes a0 a1).1.2.2.2.length) cr27_0_3], rO eMulti Sr27 [.int .i64 ((permTapes a0 a1).1.1), .int .i64 ((permTapes a0 a1).1.2.1), .int .i64 ((permTapes a0 a1).1.2.2.1), .slice Ar27_0_3 ((permTapes a0 a1).1.2.2.2.length) cr27_0_3] ((permTapes a0 a1).1), rSo eInt Sr26 Ar26 cr26 a1, rO eMulti Sr25 [.int .i64 (a0.1), .int .i64 (a0.2.1), .int .i64 (a0.2.2.1), .slice Ar25_3 (a0.2.2.2.length) cr25_3] a0, rBlk q21 48 [.int .i64 (a0.1), .int .i64 (a0.2.1), .int .i64 (a0.2.2.1), .slice Az0_3 (a0.2.2.2.length) cz0_3]]) 5 #[false, false, false, false, false] hmix rfl rfl HH128 (fun _ h => h.sel [0, 1, 2, 3, 4, 5, 6, 7, 8, 9] (by decide) rfl) fun w' HH143 => ?_
      have HS144 := HH143
      refine dr_take (i := 0) (ls' := #[true, false, false, false, false]) HE142 HS144 rfl (by kernel_rfl) (by kernel_rfl) (by kernel_rfl) (fun _ _ _ h => h) rfl (wt0 rfl) (x_loadN (cs := [.int .i64 (a0.1), .int .i64 (a0.2.1), .int .i64 (a0.2.2.1), .slice Ar29_3 (a0.2.2.2.length) cr29_3]) tv_55 rfl rfl (c_blkN 3 rfl)) rfl rfl fun a_145 HE146 => ?_
      refine dr_take (i := 1) (ls' := #[true, true, false, false, false]) HE146 HS144 rfl (by kernel_rfl) (by kernel_rfl) (by kernel_rfl) (fun _ _ _ h => h) rfl (wt0 rfl) (x_loadN (cs := [.int .i64 (a0.1), .int .i64 (a0.2.1), .int .i64 (a0.2.2.1), .slice Az0_3 (a0.2.2.2.length) cz0_3]) tv_48 rfl rfl (c_blkN 9 rfl)) rfl rfl fun a_147 HE148 => ?_
      refine dr_one (i := 2) (ls' := #[true, true, true, false, false]) rfl (by kernel_rfl) rfl fun K_149 hK150 => ?_
      refine st_call HE148 (wt0 rfl) rfl rfl rfl en_30 rfl rfl (to_Multi [.int .i64 (a0.1), .int .i64 (a0.2.1), .int .i64 (a0.2.2.1), .slice Az0_3 (a0.2.2.2.length) cz0_3] a0 _ (HH143.oldR H0) (by omega)) fun e w' hr => ?_
      obtain ⟨esr35, rfl, hor35, hbr35⟩ := hr
      have hr := eMulti.read hor35
      obtain ⟨Sr35, HH151⟩ := HH143.newO hbr35 hor35
      obtain ⟨Ar35_3, cr35_3, rfl, gr35_0, gr35_1, gr35_2, gr35_3⟩ := shape_Multi hr
      clear hbr35 hor35 gr35_0 gr35_1 gr35_2 gr35_3
      refine ⟨_, rfl, fun a_152 HE153 => hK150 _ _ (by exact HH151.sel [1, 2, 3, 4, 5, 6, 7, 8, 9, 10] (by decide) rfl) ?_⟩
      have HS154 := HH151.sel [1, 2, 3, 4, 5, 6, 7, 8, 9, 10] (by decide) rfl
      refine dr_one (i := 3) (ls' := #[true, true, true, true, false]) rfl (by kernel_rfl) rfl fun K_155 hK156 => ?_
      refine st_call HE153 (wt0 rfl) rfl rfl rfl en_33 rfl rfl (eq_Multi_c [.int .i64 (a0.1), .int .i64 (a0.2.1), .int .i64 (a0.2.2.1), .slice Ar29_3 (a0.2.2.2.length) cr29_3] [.int .i64 (a0.1), .int .i64 (a0.2.1), .int .i64 (a0.2.2.1), .slice Ar35_3 (a0.2.2.2.length) cr35_3] a0 a0 _ (HH151.rd (i := 5) rfl) (HH151.rd (i := 0) rfl)) fun e w' hr => ?_
      obtain ⟨rfl, hbr36⟩ := hr
      have HH157 := HH151.on hbr36
      clear hbr36
      refine ⟨_, rfl, fun a_158 HE159 => hK156 _ _ (by exact HH157.sel [1, 2, 3, 4, 5, 6, 7, 8, 9, 10] (by decide) rfl) ?_⟩
      have HS160 := HH157.sel [1, 2, 3, 4, 5, 6, 7, 8, 9, 10] (by decide) rfl
      refine dr_take (i := 4) (ls' := #[true, true, true, true, true]) HE159 HS160 rfl (by kernel_rfl) (by kernel_rfl) (by kernel_rfl) (fun _ _ _ h => h) rfl (wt0 rfl) (x_not rfl) rfl rfl fun a_161 HE162 => ?_
      refine dr_done (by kernel_rfl) ?_
      clear HH128 a_141 HE142 a_145 HE146 HH143 a_147 HE148 HS144 K_149 hK150 HH151 a_152 HE153 HS154 a_158 HE159 hK156 K_155
      refine nrm ?_
      refine cndF HE162 rfl (not_f (eq_Multi_refl _)) ?_
      refine wp_skip ?_
      refine nrm ?_
      refine wp_seq ?_
      refine wp_seq ?_
      refine rg ?_
      refine pl_x HE162 HH157 (wt0 rfl) (x_move rfl) rfl rfl fun a_163 HE164 => ?_
      refine pl_x HE164 HH157 (wt0 rfl) (x_move rfl) rfl rfl fun a_165 HE166 => ?_
      refine pl fun K_167 hK168 => ?_
      refine st_call HE166 (wt0 rfl) rfl rfl rfl en_43 rfl rfl (to_Int64S _ _ a1 _ (HH157.old h1) (by omega)) fun e w' hr => ?_
      obtain ⟨Ar37, cr37, rfl, hor37, hbr37⟩ := hr
      obtain ⟨Sr37, HH169⟩ := HH157.newS hbr37 hor37
      clear hbr37 hor37
      refine ⟨_, rfl, fun a_170 HE171 => hK168 _ _ ?_⟩
      refine pl fun K_172 hK173 => ?_
      refine st_call HE171 (wt0 rfl) rfl rfl rfl en_23 rfl rfl (eq_L_c _ _ _ _ a1 a1 _ (HH169.sl (i := 4) rfl) (HH169.sl (i := 0) rfl)) fun e w' hr => ?_
      obtain ⟨rfl, hbr38⟩ := hr
      have HH174 := HH169.on hbr38
      clear hbr38
      refine ⟨_, rfl, fun a_175 HE176 => hK173 _ _ ?_⟩
      refine pl_x HE176 HH174 (wt0 rfl) (x_not rfl) rfl rfl fun a_177 HE178 => ?_
      refine wpList_nil ?_
      clear a_161 HE162 a_163 HE164 HH157 a_165 HE166 K_167 hK168 HH169 a_170 HE171 a_175 HE176 hK173 K_172
      refine nrm ?_
      refine cndF HE178 rfl (not_f (eq_L_refl _)) ?_
      refine wp_skip ?_
      refine nrm ?_
      refine wp_seq ?_
      refine rg ?_
      refine pl_x HE178 HH174 (wt0 rfl) (x_assign rfl) rfl rfl fun a_179 HE180 => ?_
      refine wpList_nil ?_
      clear a_177 HE178
      refine nrm ?_
      refine wp_seq ?_
      refine rg ?_
      refine pl_x HE180 HH174 (wt0 rfl) (x_loadN (cs := [.int .i64 (a0.1), .int .i64 (a0.2.1), .int .i64 (a0.2.2.1), .slice Ar29_3 (a0.2.2.2.length) cr29_3]) tv_55 rfl rfl (c_blkN 5 rfl)) rfl rfl fun a_181 HE182 => ?_
      refine pl_x HE182 HH174 (wt0 rfl) (x_move rfl) rfl rfl fun a_183 HE184 => ?_
      refine pl fun K_185 hK186 => ?_
      have HH187 := HH174.sel [6, 0, 1, 2, 3, 4, 5, 7, 8, 9, 10, 11] (by decide) rfl
      have HH188 : Held Nob w ([rO eMulti Sr29 [.int .i64 (a0.1), .int .i64 (a0.2.1), .int .i64 (a0.2.2.1), .slice Ar29_3 (a0.2.2.2.length) cr29_3] a0] ++ [rSo eInt Sr37 Ar37 cr37 a1, rO eMulti Sr35 [.int .i64 (a0.1), .int .i64 (a0.2.1), .int .i64 (a0.2.2.1), .slice Ar35_3 (a0.2.2.2.length) cr35_3] a0, rBlk q33 55 [.int .i64 ((permTapes a0 a1).1.1), .int .i64 ((permTapes a0 a1).1.2.1), .int .i64 ((permTapes a0 a1).1.2.2.1), .slice Ar32_0_3 ((permTapes a0 a1).1.2.2.2.length) cr32_0_3], rO eMulti Sr32 [.int .i64 ((permTapes a0 a1).1.1), .int .i64 ((permTapes a0 a1).1.2.1), .int .i64 ((permTapes a0 a1).1.2.2.1), .slice Ar32_0_3 ((permTapes a0 a1).1.2.2.2.length) cr32_0_3] ((permTapes a0 a1).1), rSo eInt Sr31 Ar31 cr31 a1, rBlk q30 55 [.int .i64 (a0.1), .int .i64 (a0.2.1), .int .i64 (a0.2.2.1), .slice Ar29_3 (a0.2.2.2.length) cr29_3], rBlk q28 55 [.int .i64 ((permTapes a0 a1).1.1), .int .i64 ((permTapes a0 a1).1.2.1), .int .i64 ((permTapes a0 a1).1.2.2.1), .slice Ar27_0_3 ((permTapes a0 a1).1.2.2.2.length) cr27_0_3], rO eMulti Sr27 [.int .i64 ((permTapes a0 a1).1.1), .int .i64 ((permTapes a0 a1).1.2.1), .int .i64 ((permTapes a0 a1).1.2.2.1), .slice Ar27_0_3 ((permTapes a0 a1).1.2.2.2.length) cr27_0_3] ((permTapes a0 a1).1), rSo eInt Sr26 Ar26 cr26 a1, rO eMulti Sr25 [.int .i64 (a0.1), .int .i64 (a0.2.1), .int .i64 (a0.2.2.1), .slice Ar25_3 (a0.2.2.2.length) cr25_3] a0, rBlk q21 48 [.int .i64 (a0.1), .int .i64 (a0.2.1), .int .i64 (a0.2.2.1), .slice Az0_3 (a0.2.2.2.length) cz0_3]]) _ := HH187
      refine st_call HE184 (wt0 rfl) rfl rfl rfl en_34 rfl rfl (mark_Multi_h (Foot [rO eMulti Sr29 [.int .i64 (a0.1), .int .i64 (a0.2.1), .int .i64 (a0.2.2.1), .slice Ar29_3 (a0.2.2.2.length) cr29_3] a0]) [.int .i64 (a0.1), .int .i64 (a0.2.1), .int .i64 (a0.2.2.1), .slice Ar29_3 (a0.2.2.2.length) cr29_3] a0 _ 1 _ HH188.focus (by omega) (by omega)) fun e w' hr => ?_
      obtain ⟨Sr39, rfl, hbr39⟩ := hr
      have HH189 := HH188.back hbr39
      clear hbr39
      have HH190 : Held Nob w (rO eMulti Sr39 [.int .i64 (a0.1), .int .i64 (a0.2.1), .int .i64 (a0.2.2.1), .slice Ar29_3 (a0.2.2.2.length) cr29_3] (mv_Multi a0 1) :: [rSo eInt Sr37 Ar37 cr37 a1, rO eMulti Sr35 [.int .i64 (a0.1), .int .i64 (a0.2.1), .int .i64 (a0.2.2.1), .slice Ar35_3 (a0.2.2.2.length) cr35_3] a0, rBlk q33 55 [.int .i64 ((permTapes a0 a1).1.1), .int .i64 ((permTapes a0 a1).1.2.1), .int .i64 ((permTapes a0 a1).1.2.2.1), .slice Ar32_0_3 ((permTapes a0 a1).1.2.2.2.length) cr32_0_3], rO eMulti Sr32 [.int .i64 ((permTapes a0 a1).1.1), .int .i64 ((permTapes a0 a1).1.2.1), .int .i64 ((permTapes a0 a1).1.2.2.1), .slice Ar32_0_3 ((permTapes a0 a1).1.2.2.2.length) cr32_0_3] ((permTapes a0 a1).1), rSo eInt Sr31 Ar31 cr31 a1, rBlk q30 55 [.int .i64 (a0.1), .int .i64 (a0.2.1), .int .i64 (a0.2.2.1), .slice Ar29_3 (a0.2.2.2.length) cr29_3], rBlk q28 55 [.int .i64 ((permTapes a0 a1).1.1), .int .i64 ((permTapes a0 a1).1.2.1), .int .i64 ((permTapes a0 a1).1.2.2.1), .slice Ar27_0_3 ((permTapes a0 a1).1.2.2.2.length) cr27_0_3], rO eMulti Sr27 [.int .i64 ((permTapes a0 a1).1.1), .int .i64 ((permTapes a0 a1).1.2.1), .int .i64 ((permTapes a0 a1).1.2.2.1), .slice Ar27_0_3 ((permTapes a0 a1).1.2.2.2.length) cr27_0_3] ((permTapes a0 a1).1), rSo eInt Sr26 Ar26 cr26 a1, rO eMulti Sr25 [.int .i64 (a0.1), .int .i64 (a0.2.1), .int .i64 (a0.2.2.1), .slice Ar25_3 (a0.2.2.2.length) cr25_3] a0, rBlk q21 48 [.int .i64 (a0.1), .int .i64 (a0.2.1), .int .i64 (a0.2.2.1), .slice Az0_3 (a0.2.2.2.length) cz0_3]]) _ := HH189
      refine ⟨_, rfl, fun a_191 HE192 => hK186 _ _ ?_⟩
      refine pl_x HE192 HH190 (wt0 rfl) (x_assign rfl) rfl rfl fun a_193 HE194 => ?_
      refine wpList_nil ?_
      clear a_179 HE180 a_181 HE182 HH174 HH187 HH188 HH189 a_183 HE184 a_191 HE192 hK186 K_185
      refine nrm ?_
      refine wp_seq ?_
      refine rg ?_
      refine pl_x HE194 HH190 (wt0 rfl) (x_move rfl) rfl rfl fun a_195 HE196 => ?_
      refine pl_x HE196 HH190 (wt0 rfl) (x_move rfl) rfl rfl fun a_197 HE198 => ?_
      refine pl fun K_199 hK200 => ?_
      refine st_call HE198 (wt0 rfl) rfl rfl rfl en_25 rfl rfl (mark_L_c _ _ a1 (1 + (cv_Multi a0 : Int)) _ _ (so_of_o (HH190.get (i := 5) rfl)) (HH190.lt (i := 5) rfl) (by omega) (by omega)) fun e w' hr => ?_
      obtain ⟨rfl, hsr40, hcr40⟩ := hr
      have HH201 := HH190.mut (i := 5) rfl hcr40 (rSo eInt Sr31 Ar31 cr31 (mk_L a1 (1 + (cv_Multi a0 : Int)))) (oSl hsr40) (fun b hb => .inl hb)
      clear hsr40 hcr40
      refine ⟨_, rfl, fun a_202 HE203 => hK200 _ _ ?_⟩
      refine pl_x HE203 HH201 (wt0 rfl) (x_assign rfl) rfl rfl fun a_204 HE205 => ?_
      refine wpList_nil ?_
      clear a_193 HE194 a_195 HE196 HH190 a_197 HE198 a_202 HE203 hK200 K_199
      refine nrm ?_
      refine wp_seq ?_
      refine wp_seq ?_
      refine rg ?_
      refine pl_x HE205 HH201 (wt0 rfl) (x_move rfl) rfl rfl fun a_206 HE207 => ?_
      refine pl_x HE207 HH201 (wt0 rfl) (x_lss rfl rfl) rfl rfl fun a_208 HE209 => ?_
      refine pl_x HE209 HH201 (wt0 rfl) (x_move rfl) rfl rfl fun a_210 HE211 => ?_
      by_cases hc41 : ((1 + (cv_Multi a0 : Int)) + (ct_L a1 : Int)) < 0
      · refine pl_no HE211 (wtF HE211 rfl rfl rfl (decide_eq_true hc41)) rfl rfl fun a_212 HE213 => ?_
        refine pl_no HE213 (wtF HE213 rfl rfl rfl (decide_eq_true hc41)) rfl rfl fun a_214 HE215 => ?_
        refine pl_no HE215 (wtF HE215 rfl rfl rfl (decide_eq_true hc41)) rfl rfl fun a_216 HE217 => ?_
        refine pl_no HE217 (wtF HE217 rfl rfl rfl (decide_eq_true hc41)) rfl rfl fun a_218 HE219 => ?_
        refine pl_x HE219 HH201 (wt0 rfl) (x_pickT rfl (decide_eq_true hc41) rfl) rfl rfl fun a_220 HE221 => ?_
        refine pl_x HE221 HH201 (wt0 rfl) (x_move rfl) rfl rfl fun a_222 HE223 => ?_
        refine pl_no HE223 (wtF HE223 rfl rfl rfl rfl) rfl rfl fun a_224 HE225 => ?_
        refine pl_no HE225 (wtF HE225 rfl rfl rfl rfl) rfl rfl fun a_226 HE227 => ?_
        refine pl_no HE227 (wtF HE227 rfl rfl rfl rfl) rfl rfl fun a_228 HE229 => ?_
        refine pl_x HE229 HH201 (wt0 rfl) (x_pickT rfl rfl rfl) rfl rfl fun a_230 HE231 => ?_
        refine wpList_nil ?_
        clear a_204 HE205 a_206 HE207 a_208 HE209 a_210 HE211 a_212 HE213 a_214 HE215 a_216 HE217 a_218 HE219 a_220 HE221 a_222 HE223 a_224 HE225 a_226 HE227 a_228 HE229
        refine nrm ?_
        refine cndT HE231 rfl rfl ?_
        refine wp_seq ?_
        refine rg ?_
        refine pl_x HE231 HH201 (wt0 rfl) (x_assign rfl) rfl rfl fun a_232 HE233 => ?_
        refine wpList_nil ?_
        clear a_230 HE231
        refine nrm ?_
        refine wp_ret ?_
        refine (thn_ret ?_)
        refine ret1 HE233 rfl (rv_tmp rfl) ?_
        have hF : true = false := by
          first | rfl | (exfalso; omega)
        exact ⟨by first | (rw [hF] <;> rfl) | rfl | (rw [hF]; simp only [Ending.returned.injEq, Value.slice.injEq, true_and, and_true]; first | omega | (simp; done)) | (rw [hF]; simp; omega), HH201.below⟩
      · refine pl_x HE211 HH201 (wtT HE211 rfl rfl rfl (decide_eq_false hc41)) (x_loadN (cs := [.int .i64 ((permTapes a0 a1).1.1), .int .i64 ((permTapes a0 a1).1.2.1), .int .i64 ((permTapes a0 a1).1.2.2.1), .slice Ar32_0_3 ((permTapes a0 a1).1.2.2.2.length) cr32_0_3]) tv_55 rfl rfl (c_blkN 3 rfl)) rfl rfl fun a_234 HE235 => ?_
        refine pl_x HE235 HH201 (wtT HE235 rfl rfl rfl (decide_eq_false hc41)) (x_loadN (cs := [.int .i64 ((permTapes a0 a1).1.1), .int .i64 ((permTapes a0 a1).1.2.1), .int .i64 ((permTapes a0 a1).1.2.2.1), .slice Ar27_0_3 ((permTapes a0 a1).1.2.2.2.length) cr27_0_3]) tv_55 rfl rfl (c_blkN 7 rfl)) rfl rfl fun a_236 HE237 => ?_
        refine pl fun K_238 hK239 => ?_
        refine st_call HE237 (wtT HE237 rfl rfl rfl (decide_eq_false hc41)) rfl rfl rfl en_33 rfl rfl (eq_Multi_c [.int .i64 ((permTapes a0 a1).1.1), .int .i64 ((permTapes a0 a1).1.2.1), .int .i64 ((permTapes a0 a1).1.2.2.1), .slice Ar32_0_3 ((permTapes a0 a1).1.2.2.2.length) cr32_0_3] [.int .i64 ((permTapes a0 a1).1.1), .int .i64 ((permTapes a0 a1).1.2.1), .int .i64 ((permTapes a0 a1).1.2.2.1), .slice Ar27_0_3 ((permTapes a0 a1).1.2.2.2.length) cr27_0_3] ((permTapes a0 a1).1) ((permTapes a0 a1).1) _ (HH201.rd (i := 4) rfl) (HH201.rd (i := 8) rfl)) fun e w' hr => ?_
        obtain ⟨rfl, hbr42⟩ := hr
        have HH240 := HH201.on hbr42
        clear hbr42
        refine ⟨_, rfl, fun a_241 HE242 => hK239 _ _ ?_⟩
        refine pl_x HE242 HH240 (wtT HE242 rfl rfl rfl (decide_eq_false hc41)) (x_not rfl) rfl rfl fun a_243 HE244 => ?_
        refine pl_x HE244 HH240 (wt0 rfl) (x_pickF rfl (decide_eq_false hc41) rfl) rfl rfl fun a_245 HE246 => ?_
        refine pl_x HE246 HH240 (wt0 rfl) (x_move rfl) rfl rfl fun a_247 HE248 => ?_
        refine pl_x HE248 HH240 (wtT HE248 rfl rfl rfl (not_f (eq_Multi_refl _))) (x_move rfl) rfl rfl fun a_249 HE250 => ?_
        refine pl_x HE250 HH240 (wtT HE250 rfl rfl rfl (not_f (eq_Multi_refl _))) (x_move rfl) rfl rfl fun a_251 HE252 => ?_
        refine pl_x HE252 HH240 (wtT HE252 rfl rfl rfl (not_f (eq_Multi_refl _))) (x_neq rfl rfl) rfl rfl fun a_253 HE254 => ?_
        refine pl_x HE254 HH240 (wt0 rfl) (x_pickF rfl (not_f (eq_Multi_refl _)) rfl) rfl rfl fun a_255 HE256 => ?_
        refine wpList_nil ?_
        clear a_204 HE205 a_206 HE207 a_208 HE209 a_210 HE211 a_234 HE235 HH201 a_236 HE237 a_241 HE242 a_243 HE244 a_245 HE246 a_247 HE248 a_249 HE250 a_251 HE252 a_253 HE254 hK239 K_238
        refine nrm ?_
        refine cndF HE256 rfl (bne_f rfl) ?_
        refine wp_skip ?_
        refine nrm ?_
        refine wp_seq ?_
        refine rg ?_
        refine pl_x HE256 HH240 (wt0 rfl) (x_assign rfl) rfl rfl fun a_257 HE258 => ?_
        refine wpList_nil ?_
        clear a_255 HE256
        refine nrm ?_
        refine wp_seq ?_
        refine rg ?_
        refine pl_x HE258 HH240 (wt0 rfl) (x_loadN (cs := [.int .i64 ((permTapes a0 a1).1.1), .int .i64 ((permTapes a0 a1).1.2.1), .int .i64 ((permTapes a0 a1).1.2.2.1), .slice Ar32_0_3 ((permTapes a0 a1).1.2.2.2.length) cr32_0_3]) tv_55 rfl rfl (c_blkN 3 rfl)) rfl rfl fun a_259 HE260 => ?_
        refine pl_x HE260 HH240 (wt0 rfl) (x_move rfl) rfl rfl fun a_261 HE262 => ?_
        refine pl fun K_263 hK264 => ?_
        have HH265 := HH240.sel [4, 0, 1, 2, 3, 5, 6, 7, 8, 9, 10, 11] (by decide) rfl
        have HH266 : Held Nob w ([rO eMulti Sr32 [.int .i64 ((permTapes a0 a1).1.1), .int .i64 ((permTapes a0 a1).1.2.1), .int .i64 ((permTapes a0 a1).1.2.2.1), .slice Ar32_0_3 ((permTapes a0 a1).1.2.2.2.length) cr32_0_3] ((permTapes a0 a1).1)] ++ [rO eMulti Sr39 [.int .i64 (a0.1), .int .i64 (a0.2.1), .int .i64 (a0.2.2.1), .slice Ar29_3 (a0.2.2.2.length) cr29_3] (mv_Multi a0 1), rSo eInt Sr37 Ar37 cr37 a1, rO eMulti Sr35 [.int .i64 (a0.1), .int .i64 (a0.2.1), .int .i64 (a0.2.2.1), .slice Ar35_3 (a0.2.2.2.length) cr35_3] a0, rBlk q33 55 [.int .i64 ((permTapes a0 a1).1.1), .int .i64 ((permTapes a0 a1).1.2.1), .int .i64 ((permTapes a0 a1).1.2.2.1), .slice Ar32_0_3 ((permTapes a0 a1).1.2.2.2.length) cr32_0_3], rSo eInt Sr31 Ar31 cr31 (mk_L a1 (1 + (cv_Multi a0 : Int))), rBlk q30 55 [.int .i64 (a0.1), .int .i64 (a0.2.1), .int .i64 (a0.2.2.1), .slice Ar29_3 (a0.2.2.2.length) cr29_3], rBlk q28 55 [.int .i64 ((permTapes a0 a1).1.1), .int .i64 ((permTapes a0 a1).1.2.1), .int .i64 ((permTapes a0 a1).1.2.2.1), .slice Ar27_0_3 ((permTapes a0 a1).1.2.2.2.length) cr27_0_3], rO eMulti Sr27 [.int .i64 ((permTapes a0 a1).1.1), .int .i64 ((permTapes a0 a1).1.2.1), .int .i64 ((permTapes a0 a1).1.2.2.1), .slice Ar27_0_3 ((permTapes a0 a1).1.2.2.2.length) cr27_0_3] ((permTapes a0 a1).1), rSo eInt Sr26 Ar26 cr26 a1, rO eMulti Sr25 [.int .i64 (a0.1), .int .i64 (a0.2.1), .int .i64 (a0.2.2.1), .slice Ar25_3 (a0.2.2.2.length) cr25_3] a0, rBlk q21 48 [.int .i64 (a0.1), .int .i64 (a0.2.1), .int .i64 (a0.2.2.1), .slice Az0_3 (a0.2.2.2.length) cz0_3]]) _ := HH265
        refine st_call HE262 (wt0 rfl) rfl rfl rfl en_34 rfl rfl (mark_Multi_h (Foot [rO eMulti Sr32 [.int .i64 ((permTapes a0 a1).1.1), .int .i64 ((permTapes a0 a1).1.2.1), .int .i64 ((permTapes a0 a1).1.2.2.1), .slice Ar32_0_3 ((permTapes a0 a1).1.2.2.2.length) cr32_0_3] ((permTapes a0 a1).1)]) [.int .i64 ((permTapes a0 a1).1.1), .int .i64 ((permTapes a0 a1).1.2.1), .int .i64 ((permTapes a0 a1).1.2.2.1), .slice Ar32_0_3 ((permTapes a0 a1).1.2.2.2.length) cr32_0_3] ((permTapes a0 a1).1) _ 1 _ HH266.focus (by omega) (by omega)) fun e w' hr => ?_
        obtain ⟨Sr43, rfl, hbr43⟩ := hr
        have HH267 := HH266.back hbr43
        clear hbr43
        have HH268 : Held Nob w (rO eMulti Sr43 [.int .i64 ((permTapes a0 a1).1.1), .int .i64 ((permTapes a0 a1).1.2.1), .int .i64 ((permTapes a0 a1).1.2.2.1), .slice Ar32_0_3 ((permTapes a0 a1).1.2.2.2.length) cr32_0_3] (mv_Multi ((permTapes a0 a1).1) 1) :: [rO eMulti Sr39 [.int .i64 (a0.1), .int .i64 (a0.2.1), .int .i64 (a0.2.2.1), .slice Ar29_3 (a0.2.2.2.length) cr29_3] (mv_Multi a0 1), rSo eInt Sr37 Ar37 cr37 a1, rO eMulti Sr35 [.int .i64 (a0.1), .int .i64 (a0.2.1), .int .i64 (a0.2.2.1), .slice Ar35_3 (a0.2.2.2.length) cr35_3] a0, rBlk q33 55 [.int .i64 ((permTapes a0 a1).1.1), .int .i64 ((permTapes a0 a1).1.2.1), .int .i64 ((permTapes a0 a1).1.2.2.1), .slice Ar32_0_3 ((permTapes a0 a1).1.2.2.2.length) cr32_0_3], rSo eInt Sr31 Ar31 cr31 (mk_L a1 (1 + (cv_Multi a0 : Int))), rBlk q30 55 [.int .i64 (a0.1), .int .i64 (a0.2.1), .int .i64 (a0.2.2.1), .slice Ar29_3 (a0.2.2.2.length) cr29_3], rBlk q28 55 [.int .i64 ((permTapes a0 a1).1.1), .int .i64 ((permTapes a0 a1).1.2.1), .int .i64 ((permTapes a0 a1).1.2.2.1), .slice Ar27_0_3 ((permTapes a0 a1).1.2.2.2.length) cr27_0_3], rO eMulti Sr27 [.int .i64 ((permTapes a0 a1).1.1), .int .i64 ((permTapes a0 a1).1.2.1), .int .i64 ((permTapes a0 a1).1.2.2.1), .slice Ar27_0_3 ((permTapes a0 a1).1.2.2.2.length) cr27_0_3] ((permTapes a0 a1).1), rSo eInt Sr26 Ar26 cr26 a1, rO eMulti Sr25 [.int .i64 (a0.1), .int .i64 (a0.2.1), .int .i64 (a0.2.2.1), .slice Ar25_3 (a0.2.2.2.length) cr25_3] a0, rBlk q21 48 [.int .i64 (a0.1), .int .i64 (a0.2.1), .int .i64 (a0.2.2.1), .slice Az0_3 (a0.2.2.2.length) cz0_3]]) _ := HH267
        refine ⟨_, rfl, fun a_269 HE270 => hK264 _ _ ?_⟩
        refine pl_x HE270 HH268 (wt0 rfl) (x_assign rfl) rfl rfl fun a_271 HE272 => ?_
        refine wpList_nil ?_
        clear a_257 HE258 a_259 HE260 HH240 HH265 HH266 HH267 a_261 HE262 a_269 HE270 hK264 K_263
        refine nrm ?_
        refine wp_seq ?_
        refine rg ?_
        refine pl_x HE272 HH268 (wt0 rfl) (x_assign rfl) rfl rfl fun a_273 HE274 => ?_
        refine wpList_nil ?_
        clear a_271 HE272
        refine nrm ?_
        refine wp_seq ?_
        refine rg ?_
        refine pl_x HE274 HH268 (wt0 rfl) (x_loadN (cs := [.int .i64 ((permTapes a0 a1).1.1), .int .i64 ((permTapes a0 a1).1.2.1), .int .i64 ((permTapes a0 a1).1.2.2.1), .slice Ar32_0_3 ((permTapes a0 a1).1.2.2.2.length) cr32_0_3]) tv_55 rfl rfl (c_blkN 4 rfl)) rfl rfl fun a_275 HE276 => ?_
        refine pl_x HE276 HH268 (wt0 rfl) (x_move rfl) rfl rfl fun a_277 HE278 => ?_
        refine pl fun K_279 hK280 => ?_
        refine st_call HE278 (wt0 rfl) rfl rfl rfl en_39 rfl rfl (held_Multi_e [.int .i64 ((permTapes a0 a1).1.1), .int .i64 ((permTapes a0 a1).1.2.1), .int .i64 ((permTapes a0 a1).1.2.2.1), .slice Ar32_0_3 ((permTapes a0 a1).1.2.2.2.length) cr32_0_3] (mv_Multi ((permTapes a0 a1).1) 1) 1 ((permTapes a0 a1).1) _ (HH268.rd (i := 0) rfl) rfl (by omega) (by omega)) fun e w' hr => ?_
        obtain ⟨rfl, hbr44⟩ := hr
        have HH281 := HH268.on hbr44
        clear hbr44
        refine ⟨_, rfl, fun a_282 HE283 => hK280 _ _ ?_⟩
        refine pl_x HE283 HH281 (wt0 rfl) (x_assign rfl) rfl rfl fun a_284 HE285 => ?_
        refine wpList_nil ?_
        clear a_273 HE274 a_275 HE276 HH268 a_277 HE278 a_282 HE283 hK280 K_279
        refine nrm ?_
        refine wp_seq ?_
        refine wp_seq ?_
        refine rg ?_
        refine pl_x HE285 HH281 (wt0 rfl) (x_move rfl) rfl rfl fun a_286 HE287 => ?_
        refine pl_x HE287 HH281 (wt0 rfl) (x_lss rfl rfl) rfl rfl fun a_288 HE289 => ?_
        refine wpList_nil ?_
        clear a_284 HE285 a_286 HE287
        refine nrm ?_
        refine cnd_d HE289 rfl (fun hc45 => ?_) (fun hc45 => ?_)
        · refine wp_seq ?_
          refine rg ?_
          refine pl_x HE289 HH281 (wt0 rfl) (x_assign rfl) rfl rfl fun a_290 HE291 => ?_
          refine wpList_nil ?_
          clear a_288 HE289
          refine nrm ?_
          refine wp_ret ?_
          refine (thn_ret ?_)
          refine ret1 HE291 rfl (rv_tmp rfl) ?_
          have hF : true = false := by
            first | rfl | (exfalso; omega)
          exact ⟨by first | (rw [hF] <;> rfl) | rfl | (rw [hF]; simp only [Ending.returned.injEq, Value.slice.injEq, true_and, and_true]; first | omega | (simp; done)) | (rw [hF]; simp; omega), HH281.below⟩
        · refine wp_skip ?_
          refine nrm ?_
          refine wp_seq ?_
          refine wp_seq ?_
          refine rg ?_
          refine pl_x HE289 HH281 (wt0 rfl) (x_move rfl) rfl rfl fun a_292 HE293 => ?_
          refine pl_x HE293 HH281 (wt0 rfl) (x_move rfl) rfl rfl fun a_294 HE295 => ?_
          refine pl_x HE295 HH281 (wt0 rfl) (x_neq rfl rfl) rfl rfl fun a_296 HE297 => ?_
          refine wpList_nil ?_
          clear a_288 HE289 a_292 HE293 a_294 HE295
          refine nrm ?_
          refine cndF HE297 rfl (bne_f rfl) ?_
          refine wp_skip ?_
          refine nrm ?_
          refine wp_seq ?_
          refine rg ?_
          refine pl_x HE297 HH281 (wt0 rfl) (x_loadN (cs := [.int .i64 (a0.1), .int .i64 (a0.2.1), .int .i64 (a0.2.2.1), .slice Az0_3 (a0.2.2.2.length) cz0_3]) tv_48 rfl rfl (c_blkN 11 rfl)) rfl rfl fun a_298 HE299 => ?_
          refine pl fun K_300 hK301 => ?_
          refine st_call HE299 (wt0 rfl) rfl rfl rfl en_30 rfl rfl (to_Multi [.int .i64 (a0.1), .int .i64 (a0.2.1), .int .i64 (a0.2.2.1), .slice Az0_3 (a0.2.2.2.length) cz0_3] a0 _ (HH281.oldR H0) (by omega)) fun e w' hr => ?_
          obtain ⟨esr46, rfl, hor46, hbr46⟩ := hr
          have hr := eMulti.read hor46
          obtain ⟨Sr46, HH302⟩ := HH281.newO hbr46 hor46
          obtain ⟨Ar46_3, cr46_3, rfl, gr46_0, gr46_1, gr46_2, gr46_3⟩ := shape_Multi hr
          clear hbr46 hor46 gr46_0 gr46_1 gr46_2 gr46_3
          refine ⟨_, rfl, fun a_303 HE304 => hK301 _ _ ?_⟩
          refine pl_x HE304 HH302 (wt0 rfl) (x_move rfl) rfl rfl fun a_305 HE306 => ?_
          refine pl fun K_307 hK308 => ?_
          refine st_call HE306 (wt0 rfl) rfl rfl rfl en_43 rfl rfl (to_Int64S _ _ a1 _ (HH302.old h1) (by omega)) fun e w' hr => ?_
          obtain ⟨Ar47, cr47, rfl, hor47, hbr47⟩ := hr
          obtain ⟨Sr47, HH309⟩ := HH302.newS hbr47 hor47
          clear hbr47 hor47
          refine ⟨_, rfl, fun a_310 HE311 => hK308 _ _ ?_⟩
          refine pl fun K_312 hK313 => ?_
          refine st_call HE311 (wt0 rfl) rfl rfl rfl en_44 rfl rfl (impl_PermuteTapes [.int .i64 (a0.1), .int .i64 (a0.2.1), .int .i64 (a0.2.2.1), .slice Ar46_3 (a0.2.2.2.length) cr46_3] a0 _ _ a1 _ (HH309.rd (i := 1) rfl) (HH309.sl (i := 0) rfl)) fun e w' hr => ?_
          obtain ⟨esr48_0, rfl, hor48_0, hbr48⟩ := hr
          have hr := eMulti.read hor48_0
          obtain ⟨Sr48, HH314⟩ := HH309.newO hbr48 hor48_0
          obtain ⟨Ar48_0_3, cr48_0_3, rfl, gr48_0_0, gr48_0_1, gr48_0_2, gr48_0_3⟩ := shape_Multi hr
          have jr48_0_0 := gr48_0_0; unfold I64 at jr48_0_0
          have jr48_0_1 := gr48_0_1; unfold I64 at jr48_0_1
          have jr48_0_2 := gr48_0_2; unfold I64 at jr48_0_2
          refine ⟨_, rfl, fun a_315 HE316 => hK313 _ _ ?_⟩
          refine pl_x HE316 HH314 (wt0 rfl) (x_move rfl) rfl rfl fun a_317 HE318 => ?_
          refine pl_x HE318 HH314 (wt0 rfl) (x_extract rfl rfl) rfl rfl fun a_319 HE320 => ?_
          refine pl_x HE320 HH314 (wt0 rfl) (x_extract rfl rfl) rfl rfl fun a_321 HE322 => ?_
          refine pl fun K_323 hK324 => ?_
          refine st_alloc HE322 HH314 tv_55 (wt0 rfl) rfl fun q49 a_325 w' HE326 HH327 => hK324 _ _ ?_
          refine pl fun K_328 hK329 => ?_
          refine st_store (vs := [.int .i64 ((permTapes a0 a1).1.1), .int .i64 ((permTapes a0 a1).1.2.1), .int .i64 ((permTapes a0 a1).1.2.2.1), .slice Ar48_0_3 ((permTapes a0 a1).1.2.2.2.length) cr48_0_3]) 0 HE326 HH327 tv_55 rfl rfl rfl rfl rfl rfl (by simp [Value.oneCell']) (wt0 rfl) fun w' HH330 => hK329 _ _ ?_
          refine pl_x HE326 HH330 (wt0 rfl) (x_assign rfl) rfl rfl fun a_331 HE332 => ?_
          refine wpList_nil ?_
          clear a_296 HE297 HH281 a_298 HE299 a_303 HE304 K_300 hK301 HH302 a_305 HE306 K_307 hK308 HH309 a_310 HE311 a_315 HE316 a_317 HE318 a_319 HE320 K_312 hK313 a_321 HE322 HH314 K_323 hK324 HH327 a_325 HE326 hK329 K_328
          refine nrm ?_
          refine wp_seq ?_
          refine wp_seq ?_
          refine rg ?_
          refine pl_x HE332 HH330 (wt0 rfl) (x_loadN (cs := [.int .i64 ((permTapes a0 a1).1.1), .int .i64 ((permTapes a0 a1).1.2.1), .int .i64 ((permTapes a0 a1).1.2.2.1), .slice Ar48_0_3 ((permTapes a0 a1).1.2.2.2.length) cr48_0_3]) tv_55 rfl rfl (c_blkN 0 rfl)) rfl rfl fun a_333 HE334 => ?_
          refine pl_x HE334 HH330 (wt0 rfl) (x_loadN (cs := [.int .i64 ((permTapes a0 a1).1.1), .int .i64 ((permTapes a0 a1).1.2.1), .int .i64 ((permTapes a0 a1).1.2.2.1), .slice Ar27_0_3 ((permTapes a0 a1).1.2.2.2.length) cr27_0_3]) tv_55 rfl rfl (c_blkN 11 rfl)) rfl rfl fun a_335 HE336 => ?_
          refine pl fun K_337 hK338 => ?_
          refine st_call HE336 (wt0 rfl) rfl rfl rfl en_33 rfl rfl (eq_Multi_c [.int .i64 ((permTapes a0 a1).1.1), .int .i64 ((permTapes a0 a1).1.2.1), .int .i64 ((permTapes a0 a1).1.2.2.1), .slice Ar48_0_3 ((permTapes a0 a1).1.2.2.2.length) cr48_0_3] [.int .i64 ((permTapes a0 a1).1.1), .int .i64 ((permTapes a0 a1).1.2.1), .int .i64 ((permTapes a0 a1).1.2.2.1), .slice Ar27_0_3 ((permTapes a0 a1).1.2.2.2.length) cr27_0_3] ((permTapes a0 a1).1) ((permTapes a0 a1).1) _ (HH330.rd (i := 1) rfl) (HH330.rd (i := 12) rfl)) fun e w' hr => ?_
          obtain ⟨rfl, hbr50⟩ := hr
          have HH339 := HH330.on hbr50
          clear hbr50
          refine ⟨_, rfl, fun a_340 HE341 => hK338 _ _ ?_⟩
          refine pl_x HE341 HH339 (wt0 rfl) (x_not rfl) rfl rfl fun a_342 HE343 => ?_
          refine pl_x HE343 HH339 (wt0 rfl) (x_move rfl) rfl rfl fun a_344 HE345 => ?_
          refine pl_x HE345 HH339 (wtT HE345 rfl rfl rfl (not_f (eq_Multi_refl _))) (x_move rfl) rfl rfl fun a_346 HE347 => ?_
          refine pl_x HE347 HH339 (wtT HE347 rfl rfl rfl (not_f (eq_Multi_refl _))) (x_move rfl) rfl rfl fun a_348 HE349 => ?_
          refine pl_x HE349 HH339 (wtT HE349 rfl rfl rfl (not_f (eq_Multi_refl _))) (x_neq rfl rfl) rfl rfl fun a_350 HE351 => ?_
          refine pl_x HE351 HH339 (wt0 rfl) (x_pickF rfl (not_f (eq_Multi_refl _)) rfl) rfl rfl fun a_352 HE353 => ?_
          refine wpList_nil ?_
          clear a_331 HE332 a_333 HE334 HH330 a_335 HE336 a_340 HE341 a_342 HE343 a_344 HE345 a_346 HE347 a_348 HE349 a_350 HE351 hK338 K_337
          refine nrm ?_
          refine cndF HE353 rfl (bne_f rfl) ?_
          refine wp_skip ?_
          refine nrm ?_
          refine wp_seq ?_
          refine rg ?_
          refine pl_x HE353 HH339 (wt0 rfl) (x_assign rfl) rfl rfl fun a_354 HE355 => ?_
          refine wpList_nil ?_
          clear a_352 HE353
          refine nrm ?_
          refine wp_seq ?_
          refine rg ?_
          refine pl_x HE355 HH339 (wt0 rfl) (x_loadN (cs := [.int .i64 ((permTapes a0 a1).1.1), .int .i64 ((permTapes a0 a1).1.2.1), .int .i64 ((permTapes a0 a1).1.2.2.1), .slice Ar32_0_3 ((permTapes a0 a1).1.2.2.2.length) cr32_0_3]) tv_55 rfl rfl (c_blkN 8 rfl)) rfl rfl fun a_356 HE357 => ?_
          refine pl_x HE357 HH339 (wt0 rfl) (x_move rfl) rfl rfl fun a_358 HE359 => ?_
          refine pl fun K_360 hK361 => ?_
          refine st_call HE359 (wt0 rfl) rfl rfl rfl en_39 rfl rfl (held_Multi_e [.int .i64 ((permTapes a0 a1).1.1), .int .i64 ((permTapes a0 a1).1.2.1), .int .i64 ((permTapes a0 a1).1.2.2.1), .slice Ar32_0_3 ((permTapes a0 a1).1.2.2.2.length) cr32_0_3] (mv_Multi ((permTapes a0 a1).1) 1) 1 ((permTapes a0 a1).1) _ (HH339.rd (i := 4) rfl) rfl (by omega) (by omega)) fun e w' hr => ?_
          obtain ⟨rfl, hbr51⟩ := hr
          have HH362 := HH339.on hbr51
          clear hbr51
          refine ⟨_, rfl, fun a_363 HE364 => hK361 _ _ ?_⟩
          refine pl_x HE364 HH362 (wt0 rfl) (x_assign rfl) rfl rfl fun a_365 HE366 => ?_
          refine wpList_nil ?_
          clear a_354 HE355 a_356 HE357 HH339 a_358 HE359 a_363 HE364 hK361 K_360
          refine nrm ?_
          refine wp_seq ?_
          refine wp_seq ?_
          refine rg ?_
          refine pl_x HE366 HH362 (wt0 rfl) (x_move rfl) rfl rfl fun a_367 HE368 => ?_
          refine pl_x HE368 HH362 (wt0 rfl) (x_lss rfl rfl) rfl rfl fun a_369 HE370 => ?_
          refine wpList_nil ?_
          clear a_365 HE366 a_367 HE368
          refine nrm ?_
          refine cndF HE370 rfl (decide_eq_false hc45) ?_
          refine wp_skip ?_
          refine nrm ?_
          refine wp_seq ?_
          refine wp_seq ?_
          refine rg ?_
          refine pl_x HE370 HH362 (wt0 rfl) (x_move rfl) rfl rfl fun a_371 HE372 => ?_
          refine pl_x HE372 HH362 (wt0 rfl) (x_move rfl) rfl rfl fun a_373 HE374 => ?_
          refine pl_x HE374 HH362 (wt0 rfl) (x_neq rfl rfl) rfl rfl fun a_375 HE376 => ?_
          refine wpList_nil ?_
          clear a_369 HE370 a_371 HE372 a_373 HE374
          refine nrm ?_
          refine cndF HE376 rfl (bne_f rfl) ?_
          refine wp_skip ?_
          refine nrm ?_
          refine wp_seq ?_
          refine rg ?_
          refine pl_x HE376 HH362 (wt0 rfl) (x_assign rfl) rfl rfl fun a_377 HE378 => ?_
          refine wpList_nil ?_
          clear a_375 HE376
          refine nrm ?_
          refine wp_ret ?_
          refine ret1 HE378 rfl (rv_tmp rfl) ?_
          have hF : true = true := by
            first | rfl | (exfalso; omega)
          exact ⟨by first | (rw [hF] <;> rfl) | rfl | (rw [hF]; simp only [Ending.returned.injEq, Value.slice.injEq, true_and, and_true]; first | omega | (simp; done)) | (rw [hF]; simp; omega), HH362.below⟩

end Go.Proofs.Ytcfdkckchbdafaa
