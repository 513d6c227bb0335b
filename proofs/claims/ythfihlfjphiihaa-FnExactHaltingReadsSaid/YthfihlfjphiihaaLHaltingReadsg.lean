/- What the proof of FnExactHaltingReads needs: contracts of the functions that it reaches, each once. -/
import Derived.Test.YthfihlfjphiihaaProg
import Derived.Test.YthfihlfjphiihaaQMem
import Derived.Test.YthfihlfjphiihaaQOpen
import Derived.Test.YthfihlfjphiihaaLHaltingReadsa
import Derived.Test.YthfihlfjphiihaaLHaltingReadsb
import Derived.Test.YthfihlfjphiihaaLHaltingReadsc
import Derived.Test.YthfihlfjphiihaaLHaltingReadsd
import Derived.Test.YthfihlfjphiihaaLHaltingReadse
import Derived.Test.YthfihlfjphiihaaLHaltingReadsf
import Derived.WalkKit
import Derived.WalkSpells
import Derived.Below
import Derived.LoopTactic
import Derived.Outline
import Derived.Deep.QuietTactic
import Derived.BigQuiet
import Derived.Deep.LoopGhost
import Derived.Handy
import Derived.Lib.Hide
import Derived.Shelf.Abstract
import Derived.StillTailTactics
import Derived.OwnWalk
import Derived.Maps.AppendAt
import Derived.RegionTactic
import Derived.Deep.RegionHeld3
import Derived.IntWalk
import Derived.Deep.Upon
import Derived.Laws.OwnMore
import Derived.Maps.AppendAt
import Derived.Laws.Small
import Derived.Lib.FrozenHead
import Derived.Lib.RuneBytes
import Derived.Lib.LaidTab
import Derived.Laws.StructEq
import Derived.Maps.OwnSet
import Derived.DeepKeys4
import Derived.Lib.SliceRun
import Derived.Lib.AppendZeros
import Derived.Lib.ItoaLen
import Derived.Lib.Join
import Derived.Shelf.Strconv.Itoa4
import Derived.Shelf.Strings.OnBuilder
import Derived.Shelf.Strings.BuilderK
import Derived.Shelf.Strings.BuilderRune
import Derived.Shelf.LaysM
import Derived.Ground.NamesProg
namespace Go.Proofs.Ythfihlfjphiihaa
open Go.RowKit

set_option maxRecDepth 100000 in
set_option maxHeartbeats 4000000 in
theorem law_HaltingReads (es0 : List Value) (a0 : tMulti) (a1 : Int) (w : World) (h0 : eMulti.R w (Old w) es0 a0) (h1 : I64 a1) :
    Calls Try.prog 5 #[.agg es0.toArray, .int .i64 a1] w fun e w' => e = .returned (.bool true) ∧ Below w.heap.size w w' := by
  have H0 := h0
  obtain ⟨Az0_3, cz0_3, rfl, gz0_0, gz0_1, gz0_2, gz0_3⟩ := shape_Multi h0
  have jz0_0 := gz0_0; unfold I64 at jz0_0
  have jz0_1 := gz0_1; unfold I64 at jz0_1
  have jz0_2 := gz0_2; unfold I64 at jz0_2
  have lz0_3 := gz0_3.len
  unfold I64 at h1
  have m0 := cv_cost_Multi a0
  have n0 : (ct_LL (haltReads a0 a1).1 : Int) ≤ 1000000000 := haltReads_ct a0 a1
  have HH1 := Held.start Nob w
  refine enter (n := 101) Try.func5 rfl rfl rfl fun a_2 HE3 => ?_
  refine wp_seq ?_
  refine rg ?_
  refine pl fun K_4 hK5 => ?_
  refine st_box (cs := [.int .i64 (a0.1), .int .i64 (a0.2.1), .int .i64 (a0.2.2.1), .slice Az0_3 (a0.2.2.2.length) cz0_3]) HE3 HH1 rfl rfl (wt0 rfl) rfl fun q21 a_6 w' HE7 HH8 => hK5 _ _ ?_
  refine pl_x HE7 HH8 (wt0 rfl) (x_assign rfl) rfl rfl fun a_9 HE10 => ?_
  refine wpList_nil ?_
  clear a_2 HE3 HH1 a_6 HE7 hK5 K_4
  refine nrm ?_
  refine wp_seq ?_
  refine rg ?_
  refine pl_x HE10 HH8 (wt0 rfl) (x_assign rfl) rfl rfl fun a_11 HE12 => ?_
  refine wpList_nil ?_
  clear a_9 HE10
  refine nrm ?_
  refine wp_seq ?_
  refine rg ?_
  refine pl_x HE12 HH8 (wt0 rfl) (x_loadN (cs := [.int .i64 (a0.1), .int .i64 (a0.2.1), .int .i64 (a0.2.2.1), .slice Az0_3 (a0.2.2.2.length) cz0_3]) tv_48 rfl rfl (c_blkN 0 rfl)) rfl rfl fun a_13 HE14 => ?_
  refine pl_x HE14 HH8 (wt0 rfl) (x_move rfl) rfl rfl fun a_15 HE16 => ?_
  refine pl fun K_17 hK18 => ?_
  refine st_call HE16 (wt0 rfl) rfl rfl rfl en_26 rfl rfl (sz_Multi [.int .i64 (a0.1), .int .i64 (a0.2.1), .int .i64 (a0.2.2.1), .slice Az0_3 (a0.2.2.2.length) cz0_3] a0 1048576 _ (HH8.oldR H0) (by omega) (by omega)) fun e w' hr => ?_
  obtain ⟨rfl, hbr22⟩ := hr
  have HH19 := HH8.on hbr22
  clear hbr22
  refine ⟨_, rfl, fun a_20 HE21 => hK18 _ _ ?_⟩
  refine pl_x HE21 HH19 (wt0 rfl) (x_assign rfl) rfl rfl fun a_22 HE23 => ?_
  refine wpList_nil ?_
  clear a_11 HE12 a_13 HE14 HH8 a_15 HE16 a_20 HE21 hK18 K_17
  refine nrm ?_
  refine wp_seq ?_
  refine wp_seq ?_
  refine rg ?_
  refine pl_x HE23 HH19 (wt0 rfl) (x_move rfl) rfl rfl fun a_24 HE25 => ?_
  refine pl_x HE25 HH19 (wt0 rfl) (x_lss rfl rfl) rfl rfl fun a_26 HE27 => ?_
  refine wpList_nil ?_
  clear a_22 HE23 a_24 HE25
  refine nrm ?_
  refine cnd_d HE27 rfl (fun hc23 => ?_) (fun hc23 => ?_)
  · refine wp_seq ?_
    refine rg ?_
    refine pl_x HE27 HH19 (wt0 rfl) (x_assign rfl) rfl rfl fun a_28 HE29 => ?_
    refine wpList_nil ?_
    clear a_26 HE27
    refine nrm ?_
    refine wp_ret ?_
    refine (thn_ret ?_)
    refine ret1 HE29 rfl (rv_tmp rfl) ?_
    have hF : true = true := by
      first | rfl | (exfalso; omega)
    exact ⟨by first | (rw [hF] <;> rfl) | rfl | (rw [hF]; simp only [Ending.returned.injEq, Value.slice.injEq, true_and, and_true]; first | omega | (simp; done)) | (rw [hF]; simp; omega), HH19.below⟩
  · have zr22 := left_ok hc23
    refine wp_skip ?_
    refine nrm ?_
    refine wp_seq ?_
    refine rg ?_
    refine pl_x HE27 HH19 (wt0 rfl) (x_loadN (cs := [.int .i64 (a0.1), .int .i64 (a0.2.1), .int .i64 (a0.2.2.1), .slice Az0_3 (a0.2.2.2.length) cz0_3]) tv_48 rfl rfl (c_blkN 0 rfl)) rfl rfl fun a_30 HE31 => ?_
    refine pl fun K_32 hK33 => ?_
    refine st_call HE31 (wt0 rfl) rfl rfl rfl en_28 rfl rfl (to_Multi [.int .i64 (a0.1), .int .i64 (a0.2.1), .int .i64 (a0.2.2.1), .slice Az0_3 (a0.2.2.2.length) cz0_3] a0 _ (HH19.oldR H0) (by omega)) fun e w' hr => ?_
    obtain ⟨esr24, rfl, hor24, hbr24⟩ := hr
    have hr := eMulti.read hor24
    obtain ⟨Sr24, HH34⟩ := HH19.newO hbr24 hor24
    obtain ⟨Ar24_3, cr24_3, rfl, gr24_0, gr24_1, gr24_2, gr24_3⟩ := shape_Multi hr
    clear hbr24 hor24 gr24_0 gr24_1 gr24_2 gr24_3
    refine ⟨_, rfl, fun a_35 HE36 => hK33 _ _ ?_⟩
    refine pl_x HE36 HH34 (wt0 rfl) (x_move rfl) rfl rfl fun a_37 HE38 => ?_
    refine pl fun K_39 hK40 => ?_
    refine st_call HE38 (wt0 rfl) rfl rfl rfl en_27 rfl rfl (spec_HaltingReads [.int .i64 (a0.1), .int .i64 (a0.2.1), .int .i64 (a0.2.2.1), .slice Ar24_3 (a0.2.2.2.length) cr24_3] a0 a1 _ (HH34.rd (i := 0) rfl)) fun e w' hr => ?_
    obtain ⟨Ar25_0, cr25_0, rfl, hor25_0, hbr25⟩ := hr
    obtain ⟨Sr25, HH41⟩ := HH34.newS hbr25 hor25_0
    refine ⟨_, rfl, fun a_42 HE43 => hK40 _ _ ?_⟩
    refine pl_x HE43 HH41 (wt0 rfl) (x_move rfl) rfl rfl fun a_44 HE45 => ?_
    refine pl_x HE45 HH41 (wt0 rfl) (x_extract rfl rfl) rfl rfl fun a_46 HE47 => ?_
    refine pl_x HE47 HH41 (wt0 rfl) (x_extract rfl rfl) rfl rfl fun a_48 HE49 => ?_
    refine pl_x HE49 HH41 (wt0 rfl) (x_assign rfl) rfl rfl fun a_50 HE51 => ?_
    refine pl_x HE51 HH41 (wt0 rfl) (x_assign rfl) rfl rfl fun a_52 HE53 => ?_
    refine wpList_nil ?_
    clear a_26 HE27 HH19 a_30 HE31 a_35 HE36 K_32 hK33 HH34 a_37 HE38 a_42 HE43 a_44 HE45 a_46 HE47 a_48 HE49 a_50 HE51 hK40 K_39
    refine nrm ?_
    refine wp_seq ?_
    refine rg ?_
    refine pl_x HE53 HH41 (wt0 rfl) (x_loadN (cs := [.int .i64 (a0.1), .int .i64 (a0.2.1), .int .i64 (a0.2.2.1), .slice Az0_3 (a0.2.2.2.length) cz0_3]) tv_48 rfl rfl (c_blkN 2 rfl)) rfl rfl fun a_54 HE55 => ?_
    refine pl fun K_56 hK57 => ?_
    refine st_call HE55 (wt0 rfl) rfl rfl rfl en_28 rfl rfl (to_Multi [.int .i64 (a0.1), .int .i64 (a0.2.1), .int .i64 (a0.2.2.1), .slice Az0_3 (a0.2.2.2.length) cz0_3] a0 _ (HH41.oldR H0) (by omega)) fun e w' hr => ?_
    obtain ⟨esr26, rfl, hor26, hbr26⟩ := hr
    have hr := eMulti.read hor26
    obtain ⟨Sr26, HH58⟩ := HH41.newO hbr26 hor26
    obtain ⟨Ar26_3, cr26_3, rfl, gr26_0, gr26_1, gr26_2, gr26_3⟩ := shape_Multi hr
    clear hbr26 hor26 gr26_0 gr26_1 gr26_2 gr26_3
    refine ⟨_, rfl, fun a_59 HE60 => hK57 _ _ ?_⟩
    refine pl fun K_61 hK62 => ?_
    refine st_alloc HE60 HH58 tv_55 (wt0 rfl) rfl fun q27 a_63 w' HE64 HH65 => hK62 _ _ ?_
    refine pl fun K_66 hK67 => ?_
    refine st_store (vs := [.int .i64 (a0.1), .int .i64 (a0.2.1), .int .i64 (a0.2.2.1), .slice Ar26_3 (a0.2.2.2.length) cr26_3]) 0 HE64 HH65 tv_55 rfl rfl rfl rfl rfl rfl (by simp [Value.oneCell']) (wt0 rfl) fun w' HH68 => hK67 _ _ ?_
    refine wpList_nil ?_
    clear a_52 HE53 HH41 a_54 HE55 K_56 hK57 a_59 HE60 HH58 K_61 hK62 HH65 hK67 K_66
    refine nrm ?_
    refine wp_seq ?_
    refine rg ?_
    refine pl_x HE64 HH68 (wt0 rfl) (x_loadN (cs := [.int .i64 (a0.1), .int .i64 (a0.2.1), .int .i64 (a0.2.2.1), .slice Ar26_3 (a0.2.2.2.length) cr26_3]) tv_55 rfl rfl (c_blkN 0 rfl)) rfl rfl fun a_69 HE70 => ?_
    refine pl_x HE70 HH68 (wt0 rfl) (x_move rfl) rfl rfl fun a_71 HE72 => ?_
    refine pl fun K_73 hK74 => ?_
    refine st_call HE72 (wt0 rfl) rfl rfl rfl en_29 rfl rfl (impl_HaltingReads [.int .i64 (a0.1), .int .i64 (a0.2.1), .int .i64 (a0.2.2.1), .slice Ar26_3 (a0.2.2.2.length) cr26_3] a0 a1 _ (HH68.rd (i := 1) rfl)) fun e w' hr => ?_
    obtain ⟨Ar28_0, cr28_0, rfl, hor28_0, hbr28⟩ := hr
    obtain ⟨Sr28, HH75⟩ := HH68.newS hbr28 hor28_0
    refine ⟨_, rfl, fun a_76 HE77 => hK74 _ _ ?_⟩
    refine pl_x HE77 HH75 (wt0 rfl) (x_move rfl) rfl rfl fun a_78 HE79 => ?_
    refine pl_x HE79 HH75 (wt0 rfl) (x_extract rfl rfl) rfl rfl fun a_80 HE81 => ?_
    refine pl_x HE81 HH75 (wt0 rfl) (x_extract rfl rfl) rfl rfl fun a_82 HE83 => ?_
    refine pl_x HE83 HH75 (wt0 rfl) (x_assign rfl) rfl rfl fun a_84 HE85 => ?_
    refine pl_x HE85 HH75 (wt0 rfl) (x_assign rfl) rfl rfl fun a_86 HE87 => ?_
    refine wpList_nil ?_
    clear a_63 HE64 a_69 HE70 HH68 a_71 HE72 a_76 HE77 a_78 HE79 a_80 HE81 a_82 HE83 a_84 HE85 hK74 K_73
    refine nrm ?_
    refine wp_seq ?_
    refine wp_seq ?_
    refine rg ?_
    refine pl_x HE87 HH75 (wt0 rfl) (x_move rfl) rfl rfl fun a_88 HE89 => ?_
    refine pl_x HE89 HH75 (wt0 rfl) (x_move rfl) rfl rfl fun a_90 HE91 => ?_
    refine pl fun K_92 hK93 => ?_
    refine st_call HE91 (wt0 rfl) rfl rfl rfl en_30 rfl rfl (eq_LL_c _ _ _ _ ((haltReads a0 a1).1) ((haltReads a0 a1).1) _ (HH75.sl (i := 0) rfl) (HH75.sl (i := 3) rfl)) fun e w' hr => ?_
    obtain ⟨rfl, hbr29⟩ := hr
    have HH94 := HH75.on hbr29
    clear hbr29
    refine ⟨_, rfl, fun a_95 HE96 => hK93 _ _ ?_⟩
    refine pl_x HE96 HH94 (wt0 rfl) (x_not rfl) rfl rfl fun a_97 HE98 => ?_
    refine pl_x HE98 HH94 (wt0 rfl) (x_move rfl) rfl rfl fun a_99 HE100 => ?_
    refine pl_x HE100 HH94 (wtT HE100 rfl rfl rfl (not_f (eq_LL_refl _))) (x_move rfl) rfl rfl fun a_101 HE102 => ?_
    refine pl_x HE102 HH94 (wtT HE102 rfl rfl rfl (not_f (eq_LL_refl _))) (x_move rfl) rfl rfl fun a_103 HE104 => ?_
    refine pl_x HE104 HH94 (wtT HE104 rfl rfl rfl (not_f (eq_LL_refl _))) (x_neq rfl rfl) rfl rfl fun a_105 HE106 => ?_
    refine pl_x HE106 HH94 (wt0 rfl) (x_pickF rfl (not_f (eq_LL_refl _)) rfl) rfl rfl fun a_107 HE108 => ?_
    refine wpList_nil ?_
    clear a_86 HE87 a_88 HE89 HH75 a_90 HE91 a_95 HE96 a_97 HE98 a_99 HE100 a_101 HE102 a_103 HE104 a_105 HE106 hK93 K_92
    refine nrm ?_
    refine cndF HE108 rfl (bne_f rfl) ?_
    refine wp_skip ?_
    refine nrm ?_
    refine wp_seq ?_
    refine wp_seq ?_
    refine dr_start (Held Nob w [rSo (eSl eInt) Sr28 Ar28_0 cr28_0 ((haltReads a0 a1).1), rBlk q27 55 [.int .i64 (a0.1), .int .i64 (a0.2.1), .int .i64 (a0.2.2.1), .slice Ar26_3 (a0.2.2.2.length) cr26_3], rO eMulti Sr26 [.int .i64 (a0.1), .int .i64 (a0.2.1), .int .i64 (a0.2.2.1), .slice Ar26_3 (a0.2.2.2.length) cr26_3] a0, rSo (eSl eInt) Sr25 Ar25_0 cr25_0 ((haltReads a0 a1).1), rO eMulti Sr24 [.int .i64 (a0.1), .int .i64 (a0.2.1), .int .i64 (a0.2.2.1), .slice Ar24_3 (a0.2.2.2.length) cr24_3] a0, rBlk q21 48 [.int .i64 (a0.1), .int .i64 (a0.2.1), .int .i64 (a0.2.2.1), .slice Az0_3 (a0.2.2.2.length) cz0_3]]) 5 #[false, false, false, false, false] hmix rfl rfl HH94 (fun _ h => h.sel [0, 1, 2, 3, 4, 5] (by decide) rfl) fun w' HH109 => ?_
    have HS110 := HH109
    refine dr_take (i := 0) (ls' := #[true, false, false, false, false]) HE108 HS110 rfl (by kernel_rfl) (by kernel_rfl) (by kernel_rfl) (fun _ _ _ h => h) rfl (wt0 rfl) (x_loadN (cs := [.int .i64 (a0.1), .int .i64 (a0.2.1), .int .i64 (a0.2.2.1), .slice Ar26_3 (a0.2.2.2.length) cr26_3]) tv_55 rfl rfl (c_blkN 1 rfl)) rfl rfl fun a_111 HE112 => ?_
    refine dr_take (i := 1) (ls' := #[true, true, false, false, false]) HE112 HS110 rfl (by kernel_rfl) (by kernel_rfl) (by kernel_rfl) (fun _ _ _ h => h) rfl (wt0 rfl) (x_loadN (cs := [.int .i64 (a0.1), .int .i64 (a0.2.1), .int .i64 (a0.2.2.1), .slice Az0_3 (a0.2.2.2.length) cz0_3]) tv_48 rfl rfl (c_blkN 5 rfl)) rfl rfl fun a_113 HE114 => ?_
    refine dr_one (i := 2) (ls' := #[true, true, true, false, false]) rfl (by kernel_rfl) rfl fun K_115 hK116 => ?_
    refine st_call HE114 (wt0 rfl) rfl rfl rfl en_28 rfl rfl (to_Multi [.int .i64 (a0.1), .int .i64 (a0.2.1), .int .i64 (a0.2.2.1), .slice Az0_3 (a0.2.2.2.length) cz0_3] a0 _ (HH109.oldR H0) (by omega)) fun e w' hr => ?_
    obtain ⟨esr30, rfl, hor30, hbr30⟩ := hr
    have hr := eMulti.read hor30
    obtain ⟨Sr30, HH117⟩ := HH109.newO hbr30 hor30
    obtain ⟨Ar30_3, cr30_3, rfl, gr30_0, gr30_1, gr30_2, gr30_3⟩ := shape_Multi hr
    clear hbr30 hor30 gr30_0 gr30_1 gr30_2 gr30_3
    refine ⟨_, rfl, fun a_118 HE119 => hK116 _ _ (by exact HH117.sel [1, 2, 3, 4, 5, 6] (by decide) rfl) ?_⟩
    have HS120 := HH117.sel [1, 2, 3, 4, 5, 6] (by decide) rfl
    refine dr_one (i := 3) (ls' := #[true, true, true, true, false]) rfl (by kernel_rfl) rfl fun K_121 hK122 => ?_
    refine st_call HE119 (wt0 rfl) rfl rfl rfl en_31 rfl rfl (eq_Multi_c [.int .i64 (a0.1), .int .i64 (a0.2.1), .int .i64 (a0.2.2.1), .slice Ar26_3 (a0.2.2.2.length) cr26_3] [.int .i64 (a0.1), .int .i64 (a0.2.1), .int .i64 (a0.2.2.1), .slice Ar30_3 (a0.2.2.2.length) cr30_3] a0 a0 _ (HH117.rd (i := 3) rfl) (HH117.rd (i := 0) rfl)) fun e w' hr => ?_
    obtain ⟨rfl, hbr31⟩ := hr
    have HH123 := HH117.on hbr31
    clear hbr31
    refine ⟨_, rfl, fun a_124 HE125 => hK122 _ _ (by exact HH123.sel [1, 2, 3, 4, 5, 6] (by decide) rfl) ?_⟩
    have HS126 := HH123.sel [1, 2, 3, 4, 5, 6] (by decide) rfl
    refine dr_take (i := 4) (ls' := #[true, true, true, true, true]) HE125 HS126 rfl (by kernel_rfl) (by kernel_rfl) (by kernel_rfl) (fun _ _ _ h => h) rfl (wt0 rfl) (x_not rfl) rfl rfl fun a_127 HE128 => ?_
    refine dr_done (by kernel_rfl) ?_
    clear HH94 a_107 HE108 a_111 HE112 HH109 a_113 HE114 HS110 K_115 hK116 HH117 a_118 HE119 HS120 a_124 HE125 hK122 K_121
    refine nrm ?_
    refine cndF HE128 rfl (not_f (eq_Multi_refl _)) ?_
    refine wp_skip ?_
    refine nrm ?_
    refine wp_seq ?_
    refine rg ?_
    refine pl_x HE128 HH123 (wt0 rfl) (x_assign rfl) rfl rfl fun a_129 HE130 => ?_
    refine wpList_nil ?_
    clear a_127 HE128
    refine nrm ?_
    refine wp_seq ?_
    refine rg ?_
    refine pl_x HE130 HH123 (wt0 rfl) (x_loadN (cs := [.int .i64 (a0.1), .int .i64 (a0.2.1), .int .i64 (a0.2.2.1), .slice Ar26_3 (a0.2.2.2.length) cr26_3]) tv_55 rfl rfl (c_blkN 2 rfl)) rfl rfl fun a_131 HE132 => ?_
    refine pl_x HE132 HH123 (wt0 rfl) (x_move rfl) rfl rfl fun a_133 HE134 => ?_
    refine pl fun K_135 hK136 => ?_
    have HH137 := HH123.sel [3, 0, 1, 2, 4, 5, 6] (by decide) rfl
    have HH138 : Held Nob w ([rO eMulti Sr26 [.int .i64 (a0.1), .int .i64 (a0.2.1), .int .i64 (a0.2.2.1), .slice Ar26_3 (a0.2.2.2.length) cr26_3] a0] ++ [rO eMulti Sr30 [.int .i64 (a0.1), .int .i64 (a0.2.1), .int .i64 (a0.2.2.1), .slice Ar30_3 (a0.2.2.2.length) cr30_3] a0, rSo (eSl eInt) Sr28 Ar28_0 cr28_0 ((haltReads a0 a1).1), rBlk q27 55 [.int .i64 (a0.1), .int .i64 (a0.2.1), .int .i64 (a0.2.2.1), .slice Ar26_3 (a0.2.2.2.length) cr26_3], rSo (eSl eInt) Sr25 Ar25_0 cr25_0 ((haltReads a0 a1).1), rO eMulti Sr24 [.int .i64 (a0.1), .int .i64 (a0.2.1), .int .i64 (a0.2.2.1), .slice Ar24_3 (a0.2.2.2.length) cr24_3] a0, rBlk q21 48 [.int .i64 (a0.1), .int .i64 (a0.2.1), .int .i64 (a0.2.2.1), .slice Az0_3 (a0.2.2.2.length) cz0_3]]) _ := HH137
    refine st_call HE134 (wt0 rfl) rfl rfl rfl en_32 rfl rfl (mark_Multi_h (Foot [rO eMulti Sr26 [.int .i64 (a0.1), .int .i64 (a0.2.1), .int .i64 (a0.2.2.1), .slice Ar26_3 (a0.2.2.2.length) cr26_3] a0]) [.int .i64 (a0.1), .int .i64 (a0.2.1), .int .i64 (a0.2.2.1), .slice Ar26_3 (a0.2.2.2.length) cr26_3] a0 _ 1 _ HH138.focus (by omega) (by omega)) fun e w' hr => ?_
    obtain ⟨Sr32, rfl, hbr32⟩ := hr
    have HH139 := HH138.back hbr32
    clear hbr32
    have HH140 : Held Nob w (rO eMulti Sr32 [.int .i64 (a0.1), .int .i64 (a0.2.1), .int .i64 (a0.2.2.1), .slice Ar26_3 (a0.2.2.2.length) cr26_3] (mv_Multi a0 1) :: [rO eMulti Sr30 [.int .i64 (a0.1), .int .i64 (a0.2.1), .int .i64 (a0.2.2.1), .slice Ar30_3 (a0.2.2.2.length) cr30_3] a0, rSo (eSl eInt) Sr28 Ar28_0 cr28_0 ((haltReads a0 a1).1), rBlk q27 55 [.int .i64 (a0.1), .int .i64 (a0.2.1), .int .i64 (a0.2.2.1), .slice Ar26_3 (a0.2.2.2.length) cr26_3], rSo (eSl eInt) Sr25 Ar25_0 cr25_0 ((haltReads a0 a1).1), rO eMulti Sr24 [.int .i64 (a0.1), .int .i64 (a0.2.1), .int .i64 (a0.2.2.1), .slice Ar24_3 (a0.2.2.2.length) cr24_3] a0, rBlk q21 48 [.int .i64 (a0.1), .int .i64 (a0.2.1), .int .i64 (a0.2.2.1), .slice Az0_3 (a0.2.2.2.length) cz0_3]]) _ := HH139
    refine ⟨_, rfl, fun a_141 HE142 => hK136 _ _ ?_⟩
    refine pl_x HE142 HH140 (wt0 rfl) (x_assign rfl) rfl rfl fun a_143 HE144 => ?_
    refine wpList_nil ?_
    clear a_129 HE130 a_131 HE132 HH123 HH137 HH138 HH139 a_133 HE134 a_141 HE142 hK136 K_135
    refine nrm ?_
    refine wp_seq ?_
    refine wp_seq ?_
    refine rg ?_
    refine pl_x HE144 HH140 (wt0 rfl) (x_move rfl) rfl rfl fun a_145 HE146 => ?_
    refine pl_x HE146 HH140 (wt0 rfl) (x_lss rfl rfl) rfl rfl fun a_147 HE148 => ?_
    refine pl_x HE148 HH140 (wt0 rfl) (x_move rfl) rfl rfl fun a_149 HE150 => ?_
    by_cases hc33 : (1 + (cv_Multi a0 : Int)) < 0
    · refine pl_no HE150 (wtF HE150 rfl rfl rfl (decide_eq_true hc33)) rfl rfl fun a_151 HE152 => ?_
      refine pl_no HE152 (wtF HE152 rfl rfl rfl (decide_eq_true hc33)) rfl rfl fun a_153 HE154 => ?_
      refine pl_no HE154 (wtF HE154 rfl rfl rfl (decide_eq_true hc33)) rfl rfl fun a_155 HE156 => ?_
      refine pl_no HE156 (wtF HE156 rfl rfl rfl (decide_eq_true hc33)) rfl rfl fun a_157 HE158 => ?_
      refine pl_x HE158 HH140 (wt0 rfl) (x_pickT rfl (decide_eq_true hc33) rfl) rfl rfl fun a_159 HE160 => ?_
      refine pl_x HE160 HH140 (wt0 rfl) (x_move rfl) rfl rfl fun a_161 HE162 => ?_
      refine pl_no HE162 (wtF HE162 rfl rfl rfl rfl) rfl rfl fun a_163 HE164 => ?_
      refine pl_no HE164 (wtF HE164 rfl rfl rfl rfl) rfl rfl fun a_165 HE166 => ?_
      refine pl_no HE166 (wtF HE166 rfl rfl rfl rfl) rfl rfl fun a_167 HE168 => ?_
      refine pl_x HE168 HH140 (wt0 rfl) (x_pickT rfl rfl rfl) rfl rfl fun a_169 HE170 => ?_
      refine wpList_nil ?_
      clear a_143 HE144 a_145 HE146 a_147 HE148 a_149 HE150 a_151 HE152 a_153 HE154 a_155 HE156 a_157 HE158 a_159 HE160 a_161 HE162 a_163 HE164 a_165 HE166 a_167 HE168
      refine nrm ?_
      refine cndT HE170 rfl rfl ?_
      refine wp_seq ?_
      refine rg ?_
      refine pl_x HE170 HH140 (wt0 rfl) (x_assign rfl) rfl rfl fun a_171 HE172 => ?_
      refine wpList_nil ?_
      clear a_169 HE170
      refine nrm ?_
      refine wp_ret ?_
      refine (thn_ret ?_)
      refine ret1 HE172 rfl (rv_tmp rfl) ?_
      have hF : true = false := by
        first | rfl | (exfalso; omega)
      exact ⟨by first | (rw [hF] <;> rfl) | rfl | (rw [hF]; simp only [Ending.returned.injEq, Value.slice.injEq, true_and, and_true]; first | omega | (simp; done)) | (rw [hF]; simp; omega), HH140.below⟩
    · refine pl_x HE150 HH140 (wtT HE150 rfl rfl rfl (decide_eq_false hc33)) (x_move rfl) rfl rfl fun a_173 HE174 => ?_
      refine pl_x HE174 HH140 (wtT HE174 rfl rfl rfl (decide_eq_false hc33)) (x_move rfl) rfl rfl fun a_175 HE176 => ?_
      refine pl fun K_177 hK178 => ?_
      refine st_call HE176 (wtT HE176 rfl rfl rfl (decide_eq_false hc33)) rfl rfl rfl en_30 rfl rfl (eq_LL_c _ _ _ _ ((haltReads a0 a1).1) ((haltReads a0 a1).1) _ (HH140.sl (i := 2) rfl) (HH140.sl (i := 4) rfl)) fun e w' hr => ?_
      obtain ⟨rfl, hbr34⟩ := hr
      have HH179 := HH140.on hbr34
      clear hbr34
      refine ⟨_, rfl, fun a_180 HE181 => hK178 _ _ ?_⟩
      refine pl_x HE181 HH179 (wtT HE181 rfl rfl rfl (decide_eq_false hc33)) (x_not rfl) rfl rfl fun a_182 HE183 => ?_
      refine pl_x HE183 HH179 (wt0 rfl) (x_pickF rfl (decide_eq_false hc33) rfl) rfl rfl fun a_184 HE185 => ?_
      refine pl_x HE185 HH179 (wt0 rfl) (x_move rfl) rfl rfl fun a_186 HE187 => ?_
      refine pl_x HE187 HH179 (wtT HE187 rfl rfl rfl (not_f (eq_LL_refl _))) (x_move rfl) rfl rfl fun a_188 HE189 => ?_
      refine pl_x HE189 HH179 (wtT HE189 rfl rfl rfl (not_f (eq_LL_refl _))) (x_move rfl) rfl rfl fun a_190 HE191 => ?_
      refine pl_x HE191 HH179 (wtT HE191 rfl rfl rfl (not_f (eq_LL_refl _))) (x_neq rfl rfl) rfl rfl fun a_192 HE193 => ?_
      refine pl_x HE193 HH179 (wt0 rfl) (x_pickF rfl (not_f (eq_LL_refl _)) rfl) rfl rfl fun a_194 HE195 => ?_
      refine wpList_nil ?_
      clear a_143 HE144 a_145 HE146 a_147 HE148 a_149 HE150 a_173 HE174 HH140 a_175 HE176 a_180 HE181 a_182 HE183 a_184 HE185 a_186 HE187 a_188 HE189 a_190 HE191 a_192 HE193 hK178 K_177
      refine nrm ?_
      refine cndF HE195 rfl (bne_f rfl) ?_
      refine wp_skip ?_
      refine nrm ?_
      refine wp_seq ?_
      refine rg ?_
      refine pl_x HE195 HH179 (wt0 rfl) (x_assign rfl) rfl rfl fun a_196 HE197 => ?_
      refine wpList_nil ?_
      clear a_194 HE195
      refine nrm ?_
      refine wp_seq ?_
      refine rg ?_
      refine pl_x HE197 HH179 (wt0 rfl) (x_move rfl) rfl rfl fun a_198 HE199 => ?_
      refine pl_x HE199 HH179 (wt0 rfl) (x_move rfl) rfl rfl fun a_200 HE201 => ?_
      refine pl fun K_202 hK203 => ?_
      refine st_call HE201 (wt0 rfl) rfl rfl rfl en_33 rfl rfl (mark_LL_c _ _ ((haltReads a0 a1).1) 1 _ _ (so_of_o (HH179.get (i := 2) rfl)) (HH179.lt (i := 2) rfl) (by omega) (by omega)) fun e w' hr => ?_
      obtain ⟨rfl, hsr35, hcr35⟩ := hr
      have HH204 := HH179.mut (i := 2) rfl hcr35 (rSo (eSl eInt) Sr28 Ar28_0 cr28_0 (mk_LL ((haltReads a0 a1).1) 1)) (oSl hsr35) (fun b hb => .inl hb)
      clear hsr35 hcr35
      refine ⟨_, rfl, fun a_205 HE206 => hK203 _ _ ?_⟩
      refine pl_x HE206 HH204 (wt0 rfl) (x_assign rfl) rfl rfl fun a_207 HE208 => ?_
      refine wpList_nil ?_
      clear a_196 HE197 a_198 HE199 HH179 a_200 HE201 a_205 HE206 hK203 K_202
      refine nrm ?_
      refine wp_seq ?_
      refine rg ?_
      refine pl_x HE208 HH204 (wt0 rfl) (x_assign rfl) rfl rfl fun a_209 HE210 => ?_
      refine wpList_nil ?_
      clear a_207 HE208
      refine nrm ?_
      refine wp_seq ?_
      refine rg ?_
      refine pl_x HE210 HH204 (wt0 rfl) (x_move rfl) rfl rfl fun a_211 HE212 => ?_
      refine pl_x HE212 HH204 (wt0 rfl) (x_move rfl) rfl rfl fun a_213 HE214 => ?_
      refine pl fun K_215 hK216 => ?_
      refine st_call HE214 (wt0 rfl) rfl rfl rfl en_34 rfl rfl (held_LL_c _ _ ((haltReads a0 a1).1) 1 _ (HH204.sl (i := 2) rfl) (by omega) (by omega)) fun e w' hr => ?_
      obtain ⟨rfl, hbr36⟩ := hr
      have HH217 := HH204.on hbr36
      clear hbr36
      refine ⟨_, rfl, fun a_218 HE219 => hK216 _ _ ?_⟩
      refine pl_x HE219 HH217 (wt0 rfl) (x_assign rfl) rfl rfl fun a_220 HE221 => ?_
      refine wpList_nil ?_
      clear a_209 HE210 a_211 HE212 HH204 a_213 HE214 a_218 HE219 hK216 K_215
      refine nrm ?_
      refine wp_seq ?_
      refine wp_seq ?_
      refine rg ?_
      refine pl_x HE221 HH217 (wt0 rfl) (x_move rfl) rfl rfl fun a_222 HE223 => ?_
      refine pl_x HE223 HH217 (wt0 rfl) (x_lss rfl rfl) rfl rfl fun a_224 HE225 => ?_
      refine wpList_nil ?_
      clear a_220 HE221 a_222 HE223
      refine nrm ?_
      refine cnd_d HE225 rfl (fun hc37 => ?_) (fun hc37 => ?_)
      · refine wp_seq ?_
        refine rg ?_
        refine pl_x HE225 HH217 (wt0 rfl) (x_assign rfl) rfl rfl fun a_226 HE227 => ?_
        refine wpList_nil ?_
        clear a_224 HE225
        refine nrm ?_
        refine wp_ret ?_
        refine (thn_ret ?_)
        refine ret1 HE227 rfl (rv_tmp rfl) ?_
        have hF : true = false := by
          first | rfl | (exfalso; omega)
        exact ⟨by first | (rw [hF] <;> rfl) | rfl | (rw [hF]; simp only [Ending.returned.injEq, Value.slice.injEq, true_and, and_true]; first | omega | (simp; done)) | (rw [hF]; simp; omega), HH217.below⟩
      · refine wp_skip ?_
        refine nrm ?_
        refine wp_seq ?_
        refine wp_seq ?_
        refine rg ?_
        refine pl_x HE225 HH217 (wt0 rfl) (x_move rfl) rfl rfl fun a_228 HE229 => ?_
        refine pl_x HE229 HH217 (wt0 rfl) (x_move rfl) rfl rfl fun a_230 HE231 => ?_
        refine pl_x HE231 HH217 (wt0 rfl) (x_neq rfl rfl) rfl rfl fun a_232 HE233 => ?_
        refine wpList_nil ?_
        clear a_224 HE225 a_228 HE229 a_230 HE231
        refine nrm ?_
        refine cndF HE233 rfl (bne_f rfl) ?_
        refine wp_skip ?_
        refine nrm ?_
        refine wp_seq ?_
        refine rg ?_
        refine pl_x HE233 HH217 (wt0 rfl) (x_loadN (cs := [.int .i64 (a0.1), .int .i64 (a0.2.1), .int .i64 (a0.2.2.1), .slice Az0_3 (a0.2.2.2.length) cz0_3]) tv_48 rfl rfl (c_blkN 6 rfl)) rfl rfl fun a_234 HE235 => ?_
        refine pl fun K_236 hK237 => ?_
        refine st_call HE235 (wt0 rfl) rfl rfl rfl en_28 rfl rfl (to_Multi [.int .i64 (a0.1), .int .i64 (a0.2.1), .int .i64 (a0.2.2.1), .slice Az0_3 (a0.2.2.2.length) cz0_3] a0 _ (HH217.oldR H0) (by omega)) fun e w' hr => ?_
        obtain ⟨esr38, rfl, hor38, hbr38⟩ := hr
        have hr := eMulti.read hor38
        obtain ⟨Sr38, HH238⟩ := HH217.newO hbr38 hor38
        obtain ⟨Ar38_3, cr38_3, rfl, gr38_0, gr38_1, gr38_2, gr38_3⟩ := shape_Multi hr
        clear hbr38 hor38 gr38_0 gr38_1 gr38_2 gr38_3
        refine ⟨_, rfl, fun a_239 HE240 => hK237 _ _ ?_⟩
        refine pl_x HE240 HH238 (wt0 rfl) (x_move rfl) rfl rfl fun a_241 HE242 => ?_
        refine pl fun K_243 hK244 => ?_
        refine st_call HE242 (wt0 rfl) rfl rfl rfl en_29 rfl rfl (impl_HaltingReads [.int .i64 (a0.1), .int .i64 (a0.2.1), .int .i64 (a0.2.2.1), .slice Ar38_3 (a0.2.2.2.length) cr38_3] a0 a1 _ (HH238.rd (i := 0) rfl)) fun e w' hr => ?_
        obtain ⟨Ar39_0, cr39_0, rfl, hor39_0, hbr39⟩ := hr
        obtain ⟨Sr39, HH245⟩ := HH238.newS hbr39 hor39_0
        refine ⟨_, rfl, fun a_246 HE247 => hK244 _ _ ?_⟩
        refine pl_x HE247 HH245 (wt0 rfl) (x_move rfl) rfl rfl fun a_248 HE249 => ?_
        refine pl_x HE249 HH245 (wt0 rfl) (x_extract rfl rfl) rfl rfl fun a_250 HE251 => ?_
        refine pl_x HE251 HH245 (wt0 rfl) (x_extract rfl rfl) rfl rfl fun a_252 HE253 => ?_
        refine pl_x HE253 HH245 (wt0 rfl) (x_assign rfl) rfl rfl fun a_254 HE255 => ?_
        refine pl_x HE255 HH245 (wt0 rfl) (x_assign rfl) rfl rfl fun a_256 HE257 => ?_
        refine wpList_nil ?_
        clear a_232 HE233 HH217 a_234 HE235 a_239 HE240 K_236 hK237 HH238 a_241 HE242 a_246 HE247 a_248 HE249 a_250 HE251 a_252 HE253 a_254 HE255 hK244 K_243
        refine nrm ?_
        refine wp_seq ?_
        refine wp_seq ?_
        refine rg ?_
        refine pl_x HE257 HH245 (wt0 rfl) (x_move rfl) rfl rfl fun a_258 HE259 => ?_
        refine pl_x HE259 HH245 (wt0 rfl) (x_move rfl) rfl rfl fun a_260 HE261 => ?_
        refine pl fun K_262 hK263 => ?_
        refine st_call HE261 (wt0 rfl) rfl rfl rfl en_30 rfl rfl (eq_LL_c _ _ _ _ ((haltReads a0 a1).1) ((haltReads a0 a1).1) _ (HH245.sl (i := 0) rfl) (HH245.sl (i := 6) rfl)) fun e w' hr => ?_
        obtain ⟨rfl, hbr40⟩ := hr
        have HH264 := HH245.on hbr40
        clear hbr40
        refine ⟨_, rfl, fun a_265 HE266 => hK263 _ _ ?_⟩
        refine pl_x HE266 HH264 (wt0 rfl) (x_not rfl) rfl rfl fun a_267 HE268 => ?_
        refine pl_x HE268 HH264 (wt0 rfl) (x_move rfl) rfl rfl fun a_269 HE270 => ?_
        refine pl_x HE270 HH264 (wtT HE270 rfl rfl rfl (not_f (eq_LL_refl _))) (x_move rfl) rfl rfl fun a_271 HE272 => ?_
        refine pl_x HE272 HH264 (wtT HE272 rfl rfl rfl (not_f (eq_LL_refl _))) (x_move rfl) rfl rfl fun a_273 HE274 => ?_
        refine pl_x HE274 HH264 (wtT HE274 rfl rfl rfl (not_f (eq_LL_refl _))) (x_neq rfl rfl) rfl rfl fun a_275 HE276 => ?_
        refine pl_x HE276 HH264 (wt0 rfl) (x_pickF rfl (not_f (eq_LL_refl _)) rfl) rfl rfl fun a_277 HE278 => ?_
        refine wpList_nil ?_
        clear a_256 HE257 a_258 HE259 HH245 a_260 HE261 a_265 HE266 a_267 HE268 a_269 HE270 a_271 HE272 a_273 HE274 a_275 HE276 hK263 K_262
        refine nrm ?_
        refine cndF HE278 rfl (bne_f rfl) ?_
        refine wp_skip ?_
        refine nrm ?_
        refine wp_seq ?_
        refine rg ?_
        refine pl_x HE278 HH264 (wt0 rfl) (x_assign rfl) rfl rfl fun a_279 HE280 => ?_
        refine wpList_nil ?_
        clear a_277 HE278
        refine nrm ?_
        refine wp_seq ?_
        refine rg ?_
        refine pl_x HE280 HH264 (wt0 rfl) (x_move rfl) rfl rfl fun a_281 HE282 => ?_
        refine pl_x HE282 HH264 (wt0 rfl) (x_move rfl) rfl rfl fun a_283 HE284 => ?_
        refine pl fun K_285 hK286 => ?_
        refine st_call HE284 (wt0 rfl) rfl rfl rfl en_34 rfl rfl (held_LL_c _ _ ((haltReads a0 a1).1) 1 _ (HH264.sl (i := 4) rfl) (by omega) (by omega)) fun e w' hr => ?_
        obtain ⟨rfl, hbr41⟩ := hr
        have HH287 := HH264.on hbr41
        clear hbr41
        refine ⟨_, rfl, fun a_288 HE289 => hK286 _ _ ?_⟩
        refine pl_x HE289 HH287 (wt0 rfl) (x_assign rfl) rfl rfl fun a_290 HE291 => ?_
        refine wpList_nil ?_
        clear a_279 HE280 a_281 HE282 HH264 a_283 HE284 a_288 HE289 hK286 K_285
        refine nrm ?_
        refine wp_seq ?_
        refine wp_seq ?_
        refine rg ?_
        refine pl_x HE291 HH287 (wt0 rfl) (x_move rfl) rfl rfl fun a_292 HE293 => ?_
        refine pl_x HE293 HH287 (wt0 rfl) (x_lss rfl rfl) rfl rfl fun a_294 HE295 => ?_
        refine wpList_nil ?_
        clear a_290 HE291 a_292 HE293
        refine nrm ?_
        refine cndF HE295 rfl (decide_eq_false hc37) ?_
        refine wp_skip ?_
        refine nrm ?_
        refine wp_seq ?_
        refine wp_seq ?_
        refine rg ?_
        refine pl_x HE295 HH287 (wt0 rfl) (x_move rfl) rfl rfl fun a_296 HE297 => ?_
        refine pl_x HE297 HH287 (wt0 rfl) (x_move rfl) rfl rfl fun a_298 HE299 => ?_
        refine pl_x HE299 HH287 (wt0 rfl) (x_neq rfl rfl) rfl rfl fun a_300 HE301 => ?_
        refine wpList_nil ?_
        clear a_294 HE295 a_296 HE297 a_298 HE299
        refine nrm ?_
        refine cndF HE301 rfl (bne_f rfl) ?_
        refine wp_skip ?_
        refine nrm ?_
        refine wp_seq ?_
        refine rg ?_
        refine pl_x HE301 HH287 (wt0 rfl) (x_assign rfl) rfl rfl fun a_302 HE303 => ?_
        refine wpList_nil ?_
        clear a_300 HE301
        refine nrm ?_
        refine wp_ret ?_
        refine ret1 HE303 rfl (rv_tmp rfl) ?_
        have hF : true = true := by
          first | rfl | (exfalso; omega)
        exact ⟨by first | (rw [hF] <;> rfl) | rfl | (rw [hF]; simp only [Ending.returned.injEq, Value.slice.injEq, true_and, and_true]; first | omega | (simp; done)) | (rw [hF]; simp; omega), HH287.below⟩

end Go.Proofs.Ythfihlfjphiihaa
