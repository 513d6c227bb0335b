/- What the proof of FnExactStepProgram needs: contracts of the functions that it reaches, each once. -/
import Derived.Test.YtfcajgbehecfbaaProg
import Derived.Test.YtfcajgbehecfbaaQMem
import Derived.Test.YtfcajgbehecfbaaQOpen
import Derived.Test.YtfcajgbehecfbaaLStepPrograma
import Derived.WalkKit
import Derived.WalkSpells
import Derived.Below
import Derived.LoopTactic
import Derived.Outline
import Derived.Deep.QuietTactic
import Derived.BigQuiet
import Derived.Deep.LoopGhost
import Derived.Handy
import Derived.Lib.Hide
import Derived.Shelf.Abstract
import Derived.StillTailTactics
import Derived.OwnWalk
import Derived.Maps.AppendAt
import Derived.RegionTactic
import Derived.Deep.RegionHeld3
import Derived.IntWalk
import Derived.Deep.Upon
import Derived.Laws.OwnMore
import Derived.Maps.AppendAt
import Derived.Lib.SliceRun
import Derived.Lib.AppendZeros
namespace Go.Proofs.Ytfcajgbehecfbaa
open Go.RowKit

set_option maxRecDepth 100000 in
set_option maxHeartbeats 4000000 in
theorem spec_l07Step (A0 : Option Addr) (c0 : Nat) (a0 : (List tInstr)) (p1 o1 : Nat) (es1 : List Value) (a1 : tStore) (w : World) (h0 : Sl eInstr w (Old w) A0 c0 a0) (h1 : eStore.R w (Old w) es1 a1) (hq1 : ∀ j v, es1[j]? = some v → w.cell? ⟨p1, o1 + j, none⟩ = some v) (s0 : validProg a0 = true) (s1 : storeOf a0 a1 = true) (s2 : a1.1 < (a0.length : Int)) :
    Calls Try.prog 122 #[.slice A0 a0.length c0, .pointer (some ⟨p1, o1, none⟩)] w fun e w' => ∃ (es0' : List Value), e = .returned (.tuple #[.agg es0'.toArray, .bool (stepS2 a0 a1).2]) ∧ eStore.O w' (Fr w w') es0' (stepS2 a0 a1).1 ∧ Below w.heap.size w w' := by
  have l0 := h0.len
  have H1 := h1
  obtain ⟨Az1_1, cz1_1, rfl, gz1_0, gz1_1⟩ := shape_Store h1
  have jz1_0 := gz1_0; unfold I64 at jz1_0
  have lz1_1 := gz1_1.len
  obtain ⟨v0, v1, v2, v3⟩ := storeOf_facts s1
  have HH1 := Held.start Nob w
  refine enter (n := 62) Try.func122 rfl rfl rfl fun a_2 HE3 => ?_
  refine wp_seq ?_
  refine rg ?_
  refine pl fun K_4 hK5 => ?_
  refine st_alloc HE3 HH1 tv_43 (wt0 rfl) rfl fun q21 a_6 w' HE7 HH8 => hK5 _ _ ?_
  refine pl_x HE7 HH8 (wt0 rfl) (x_assign rfl) rfl rfl fun a_9 HE10 => ?_
  refine wpList_nil ?_
  clear a_2 HE3 HH1 a_6 HE7 hK5 K_4
  refine nrm ?_
  refine wp_seq ?_
  refine rg ?_
  refine pl_x HE10 HH8 (wt0 rfl) (x_move rfl) rfl rfl fun a_11 HE12 => ?_
  refine pl_x HE12 HH8 (wt0 rfl) (x_move rfl) rfl rfl fun a_13 HE14 => ?_
  refine pl_x HE14 HH8 (wt0 rfl) (x_nilCheck rfl) rfl rfl fun a_15 HE16 => ?_
  refine pl_x HE16 HH8 (wt0 rfl) (x_fieldAddr fa_43_0 rfl) rfl rfl fun a_17 HE18 => ?_
  refine pl_x HE18 HH8 (wt0 rfl) (x_load1 tv_2 rfl (c_old (hq1 0 _ rfl))) rfl rfl fun a_19 HE20 => ?_
  have ke22 : (a1.1).toNat < a0.length := by omega
  obtain ⟨be22, fe22, ese22, Ae22, Re22, De22⟩ := el_old h0 ke22
  obtain ⟨e22, xe22⟩ : ∃ x, x = a0[(a1.1).toNat] := ⟨_, rfl⟩
  rw [← xe22] at Re22
  have Qe22 := Re22
  obtain ⟨rfl, ge22_0, ge22_1, ge22_2, ge22_3⟩ := shape_Instr Re22
  have je22_0 := ge22_0; unfold I64 at je22_0
  have je22_1 := ge22_1; unfold I64 at je22_1
  have je22_2 := ge22_2; unfold I64 at je22_2
  have je22_3 := ge22_3; unfold I64 at je22_3
  obtain ⟨re221, re222⟩ := validProg_reg s0 e22 (by rw [xe22]; exact List.getElem_mem _)
  refine pl_x HE20 HH8 (wt0 rfl) (x_indexAddr ts_46 rfl rfl Ae22 (by omega) ke22) rfl rfl fun a_21 HE22 => ?_
  refine pl_x HE22 HH8 (wt0 rfl) (x_loadN (cs := [.int .i64 (e22.1), .int .i64 (e22.2.1), .int .i64 (e22.2.2.1), .int .i64 (e22.2.2.2)]) tv_111 rfl rfl (c_oldN De22)) rfl rfl fun a_23 HE24 => ?_
  refine pl fun K_25 hK26 => ?_
  refine st_alloc HE24 HH8 tv_111 (wt0 rfl) rfl fun q23 a_27 w' HE28 HH29 => hK26 _ _ ?_
  refine pl fun K_30 hK31 => ?_
  refine st_store (vs := [.int .i64 (e22.1), .int .i64 (e22.2.1), .int .i64 (e22.2.2.1), .int .i64 (e22.2.2.2)]) 0 HE28 HH29 tv_111 rfl rfl rfl rfl rfl rfl (by simp [Value.oneCell']) (wt0 rfl) fun w' HH32 => hK31 _ _ ?_
  refine wpList_nil ?_
  clear a_9 HE10 a_11 HE12 a_13 HE14 a_15 HE16 a_17 HE18 a_19 HE20 a_21 HE22 a_23 HE24 HH8 K_25 hK26 HH29 hK31 K_30
  refine nrm ?_
  refine wp_seq ?_
  refine wp_join (fun a w' => ∃ (q25 : Nat), ∃ (Ar24_0 : Option Addr), ∃ (cr24_0 : Nat), ∃ (Sr24 : Nat → Prop), Env 62 [(4, .pointer (some ⟨q21, 0, none⟩)), (6, .pointer (some ⟨q23, 0, none⟩)), (7, .pointer (some ⟨q25, 0, none⟩))] a ∧ Held Nob w [rBlk q25 43 [.int .i64 (e22.2.2.1), .slice Ar24_0 (a1.2.length) cr24_0], rSo eInt Sr24 Ar24_0 cr24_0 a1.2, rBlk q23 111 [.int .i64 (e22.1), .int .i64 (e22.2.1), .int .i64 (e22.2.2.1), .int .i64 (e22.2.2.2)], rBlk q21 43 [.int .i64 (0), .slice none (0) 0]] w') ?_ ?_
  · refine dr_start (Held Nob w [rBlk q23 111 [.int .i64 (e22.1), .int .i64 (e22.2.1), .int .i64 (e22.2.2.1), .int .i64 (e22.2.2.2)], rBlk q21 43 [.int .i64 (0), .slice none (0) 0]]) 10 #[false, false, false, false, false, false, false, false, false, false] hmix rfl rfl HH32 (fun _ h => h.sel [0, 1] (by decide) rfl) fun w' HH33 => ?_
    have HS34 := HH33
    refine dr_take (i := 0) (ls' := #[true, false, false, false, false, false, false, false, false, false]) HE28 HS34 rfl (by kernel_rfl) (by kernel_rfl) (by kernel_rfl) (fun _ _ _ h => h) rfl (wt0 rfl) (x_fieldAddr fa_111_2 rfl) rfl rfl fun a_35 HE36 => ?_
    refine dr_take (i := 1) (ls' := #[true, true, false, false, false, false, false, false, false, false]) HE36 HS34 rfl (by kernel_rfl) (by kernel_rfl) (by kernel_rfl) (fun _ _ _ h => h) rfl (wt0 rfl) (x_load1 tv_2 rfl (c_blk 0 rfl rfl)) rfl rfl fun a_37 HE38 => ?_
    refine dr_take (i := 2) (ls' := #[true, true, true, false, false, false, false, false, false, false]) HE38 HS34 rfl (by kernel_rfl) (by kernel_rfl) (by kernel_rfl) (fun _ _ _ h => h) rfl (wt0 rfl) (x_move rfl) rfl rfl fun a_39 HE40 => ?_
    refine dr_take (i := 3) (ls' := #[true, true, true, true, false, false, false, false, false, false]) HE40 HS34 rfl (by kernel_rfl) (by kernel_rfl) (by kernel_rfl) (fun _ _ _ h => h) rfl (wt0 rfl) (x_nilCheck rfl) rfl rfl fun a_41 HE42 => ?_
    refine dr_take (i := 4) (ls' := #[true, true, true, true, true, false, false, false, false, false]) HE42 HS34 rfl (by kernel_rfl) (by kernel_rfl) (by kernel_rfl) (fun _ _ _ h => h) rfl (wt0 rfl) (x_fieldAddr fa_43_1 rfl) rfl rfl fun a_43 HE44 => ?_
    refine dr_take (i := 5) (ls' := #[true, true, true, true, true, true, false, false, false, false]) HE44 HS34 rfl (by kernel_rfl) (by kernel_rfl) (by kernel_rfl) (fun _ _ _ h => h) rfl (wt0 rfl) (x_load1 tv_31 rfl (c_old (hq1 1 _ rfl))) rfl rfl fun a_45 HE46 => ?_
    refine dr_two (i := 6) (j := 8) (ls' := #[true, true, true, true, true, true, true, false, false, false]) (ls'' := #[true, true, true, true, true, true, false, false, true, false]) rfl rfl (by kernel_rfl) rfl rfl (fun K_47 hK48 => ?_) (fun K_47 hK48 => ?_)
    · refine st_call HE46 (wt0 rfl) rfl rfl rfl en_90 rfl rfl (spec_l00Own _ _ a1.2 _ (HH33.old gz1_1) (by omega)) fun e w' hr => ?_
      obtain ⟨Ar24_0, cr24_0, rfl, hor24_0, hbr24⟩ := hr
      obtain ⟨Sr24, HH49⟩ := HH33.newS hbr24 hor24_0
      refine ⟨_, rfl, fun a_50 HE51 => hK48 _ _ (by exact HH49.sel [1, 2] (by decide) rfl) ?_⟩
      have HS52 := HH49.sel [1, 2] (by decide) rfl
      refine dr_take (i := 7) (ls' := #[true, true, true, true, true, true, true, true, false, false]) HE51 HS52 rfl (by kernel_rfl) (by kernel_rfl) (by kernel_rfl) (fun _ _ _ h => h) rfl (wt0 rfl) (show XS _ _ _ _ (.agg #[.int .i64 (e22.2.2.1), .slice Ar24_0 (a1.2.length) cr24_0]) from x_build (vs := [(0, .int .i64 (e22.2.2.1)), (1, .slice Ar24_0 (a1.2.length) cr24_0)]) tb_43 rfl (by simp [Value.oneCell'])) rfl rfl fun a_53 HE54 => ?_
      refine dr_one (i := 8) (ls' := #[true, true, true, true, true, true, true, true, true, false]) rfl (by kernel_rfl) rfl fun K_55 hK56 => ?_
      refine st_alloc HE54 HH49 tv_43 (wt0 rfl) rfl fun q25 a_57 w' HE58 HH59 => hK56 _ _ (by exact HH59.sel [2, 3] (by decide) rfl) ?_
      have HS60 := HH59.sel [2, 3] (by decide) rfl
      refine dr_one (i := 9) (ls' := #[true, true, true, true, true, true, true, true, true, true]) rfl (by kernel_rfl) rfl fun K_61 hK62 => ?_
      refine st_store (vs := [.int .i64 (e22.2.2.1), .slice Ar24_0 (a1.2.length) cr24_0]) 0 HE58 HH59 tv_43 rfl rfl rfl rfl rfl rfl (by simp [Value.oneCell']) (wt0 rfl) fun w' HH63 => hK62 _ _ (by exact HH63.sel [2, 3] (by decide) rfl) ?_
      have HS64 := HH63.sel [2, 3] (by decide) rfl
      refine dr_done (by kernel_rfl) ?_
      clear HH32 a_27 HE28 a_35 HE36 a_37 HE38 a_39 HE40 a_41 HE42 a_43 HE44 HH33 a_45 HE46 HS34 a_50 HE51 K_47 hK48 a_53 HE54 HH49 HS52 K_55 hK56 HH59 HS60 hK62 K_61
      exact nrm ⟨_, _, _, _, HE58.sub ⟨rfl, rfl, rfl, trivial⟩, HH63.sel [0, 1, 2, 3] (by decide) rfl⟩
    · refine st_alloc HE46 HH33 tv_43 (wt0 rfl) rfl fun q26 a_65 w' HE66 HH67 => hK48 _ _ (by exact HH67.sel [1, 2] (by decide) rfl) ?_
      have HS68 := HH67.sel [1, 2] (by decide) rfl
      refine dr_one (i := 6) (ls' := #[true, true, true, true, true, true, true, false, true, false]) rfl (by kernel_rfl) rfl fun K_69 hK70 => ?_
      refine st_call HE66 (wt0 rfl) rfl rfl rfl en_90 rfl rfl (spec_l00Own _ _ a1.2 _ (HH67.old gz1_1) (by omega)) fun e w' hr => ?_
      obtain ⟨Ar27_0, cr27_0, rfl, hor27_0, hbr27⟩ := hr
      obtain ⟨Sr27, HH71⟩ := HH67.newS hbr27 hor27_0
      refine ⟨_, rfl, fun a_72 HE73 => hK70 _ _ (by exact HH71.sel [2, 3] (by decide) rfl) ?_⟩
      have HS74 := HH71.sel [2, 3] (by decide) rfl
      refine dr_take (i := 7) (ls' := #[true, true, true, true, true, true, true, true, true, false]) HE73 HS74 rfl (by kernel_rfl) (by kernel_rfl) (by kernel_rfl) (fun _ _ _ h => h) rfl (wt0 rfl) (show XS _ _ _ _ (.agg #[.int .i64 (e22.2.2.1), .slice Ar27_0 (a1.2.length) cr27_0]) from x_build (vs := [(0, .int .i64 (e22.2.2.1)), (1, .slice Ar27_0 (a1.2.length) cr27_0)]) tb_43 rfl (by simp [Value.oneCell'])) rfl rfl fun a_75 HE76 => ?_
      refine dr_one (i := 9) (ls' := #[true, true, true, true, true, true, true, true, true, true]) rfl (by kernel_rfl) rfl fun K_77 hK78 => ?_
      refine st_store (vs := [.int .i64 (e22.2.2.1), .slice Ar27_0 (a1.2.length) cr27_0]) 1 HE76 HH71 tv_43 rfl rfl rfl rfl rfl rfl (by simp [Value.oneCell']) (wt0 rfl) fun w' HH79 => hK78 _ _ (by exact HH79.sel [2, 3] (by decide) rfl) ?_
      have HS80 := HH79.sel [2, 3] (by decide) rfl
      refine dr_done (by kernel_rfl) ?_
      clear HH32 a_27 HE28 a_35 HE36 a_37 HE38 a_39 HE40 a_41 HE42 a_43 HE44 a_45 HE46 HH33 HS34 K_47 hK48 HH67 a_65 HE66 HS68 a_72 HE73 K_69 hK70 HH71 HS74 hK78 K_77
      exact nrm ⟨_, _, _, _, HE76.sub ⟨rfl, rfl, rfl, trivial⟩, HH79.sel [1, 0, 2, 3] (by decide) rfl⟩
  · rintro a_81 w' ⟨q25, Ar24_0, cr24_0, Sr24, HE82, HH83⟩
    refine nrm ?_
    refine wp_seq ?_
    refine wp_seq ?_
    refine rg ?_
    refine pl_x HE82 HH83 (wt0 rfl) (x_fieldAddr fa_111_0 rfl) rfl rfl fun a_84 HE85 => ?_
    refine pl_x HE85 HH83 (wt0 rfl) (x_load1 tv_2 rfl (c_blk 2 rfl rfl)) rfl rfl fun a_86 HE87 => ?_
    refine pl_x HE87 HH83 (wt0 rfl) (x_eql rfl rfl) rfl rfl fun a_88 HE89 => ?_
    refine wpList_nil ?_
    clear a_27 HE28 HH32 a_81 HE82 a_84 HE85 a_86 HE87
    refine nrm ?_
    refine cnd_e HE89 rfl (fun hc28 => ?_) (fun hc28 => ?_)
    · refine wp_seq ?_
      refine rg ?_
      refine pl_x HE89 HH83 (wt0 rfl) (x_fieldAddr fa_43_1 rfl) rfl rfl fun a_90 HE91 => ?_
      refine pl_x HE91 HH83 (wt0 rfl) (x_load1 tv_31 rfl (c_blk 0 rfl rfl)) rfl rfl fun a_92 HE93 => ?_
      refine pl_x HE93 HH83 (wt0 rfl) (x_fieldAddr fa_111_1 rfl) rfl rfl fun a_94 HE95 => ?_
      refine pl_x HE95 HH83 (wt0 rfl) (x_load1 tv_2 rfl (c_blk 2 rfl rfl)) rfl rfl fun a_96 HE97 => ?_
      have ke29 : (e22.2.1).toNat < a1.2.length := by omega
      obtain ⟨be29, fe29, rfl⟩ := el_own HH83 (i := 1) rfl ke29
      refine pl_x HE97 HH83 (wt0 rfl) (x_indexAddr ts_31 rfl rfl rfl (by omega) ke29) rfl rfl fun a_98 HE99 => ?_
      obtain ⟨y30, xy30⟩ : ∃ y, y = a1.2[(e22.2.1).toNat]'(by first | exact ke29 | (simp only [List.length_set]; exact ke29)) := ⟨_, rfl⟩
      have iy30 : I64 y30 := by rw [xy30]; exact i_ownI HH83 1 rfl _
      have jy30 := iy30; unfold I64 at jy30
      have by30 := allW_mem v3 y30 (by rw [xy30]; exact List.getElem_mem _)
      refine pl_x HE99 HH83 (wt0 rfl) (x_load1 tv_2 rfl (c_ownV 1 rfl (by first | exact ke29 | (simp only [List.length_set]; exact ke29)) xy30.symm)) rfl rfl fun a_100 HE101 => ?_
      refine pl_x HE101 HH83 (wt0 rfl) (x_add rfl rfl (by exact ⟨by omega, by omega⟩)) rfl rfl fun a_102 HE103 => ?_
      have ke31 : (e22.2.1).toNat < a1.2.length := by omega
      refine pl_x HE103 HH83 (wt0 rfl) (x_indexAddr ts_31 rfl rfl rfl (by omega) ke31) rfl rfl fun a_104 HE105 => ?_
      refine pl fun K_106 hK107 => ?_
      refine st_storeI 1 HE105 HH83 tv_2 rfl rfl rfl (by first | exact ke31 | (simp only [List.length_set]; exact ke31)) (by exact ⟨by omega, by omega⟩) (wt0 rfl) fun w' HH108 => hK107 _ _ ?_
      refine wpList_nil ?_
      clear a_88 HE89 a_90 HE91 a_92 HE93 a_94 HE95 a_96 HE97 a_98 HE99 a_100 HE101 a_102 HE103 HH83 hK107 K_106
      refine nrm ?_
      refine wp_seq ?_
      refine dr_start (Held Nob w [rBlk q25 43 [.int .i64 (e22.2.2.1), .slice (some ⟨be29, fe29, none⟩) (a1.2.length) cr24_0], rSo eInt Sr24 (some ⟨be29, fe29, none⟩) cr24_0 (a1.2.set ((e22.2.1).toNat) (y30 + 1)), rBlk q23 111 [.int .i64 (e22.1), .int .i64 (e22.2.1), .int .i64 (e22.2.2.1), .int .i64 (e22.2.2.2)]]) 10 #[false, false, false, false, false, false, false, false, false, false] hmix rfl rfl HH108 (fun _ h => h.sel [0, 1, 2] (by decide) rfl) fun w' HH109 => ?_
      have HS110 := HH109.sel [0, 1, 2] (by decide) rfl
      refine dr_take (i := 0) (ls' := #[true, false, false, false, false, false, false, false, false, false]) HE105 HS110 rfl (by kernel_rfl) (by kernel_rfl) (by kernel_rfl) (fun _ _ _ h => h) rfl (wt0 rfl) (x_loadN (cs := [.int .i64 (e22.2.2.1), .slice (some ⟨be29, fe29, none⟩) (a1.2.length) cr24_0]) tv_43 rfl rfl (c_blkN 0 rfl)) rfl rfl fun a_111 HE112 => ?_
      refine dr_take (i := 1) (ls' := #[true, true, false, false, false, false, false, false, false, false]) HE112 HS110 rfl (by kernel_rfl) (by kernel_rfl) (by kernel_rfl) (fun _ _ _ h => h) rfl (wt0 rfl) (x_fieldAddr fa_43_1 rfl) rfl rfl fun a_113 HE114 => ?_
      refine dr_take (i := 2) (ls' := #[true, true, true, false, false, false, false, false, false, false]) HE114 HS110 rfl (by kernel_rfl) (by kernel_rfl) (by kernel_rfl) (fun _ _ _ h => h) rfl (wt0 rfl) (x_load1 tv_31 rfl (c_blk 0 rfl rfl)) rfl rfl fun a_115 HE116 => ?_
      refine dr_take (i := 3) (ls' := #[true, true, true, true, false, false, false, false, false, false]) HE116 HS110 rfl (by kernel_rfl) (by kernel_rfl) (by kernel_rfl) (fun _ _ _ h => h) rfl (wt0 rfl) (x_fieldAddr fa_111_1 rfl) rfl rfl fun a_117 HE118 => ?_
      refine dr_take (i := 4) (ls' := #[true, true, true, true, true, false, false, false, false, false]) HE118 HS110 rfl (by kernel_rfl) (by kernel_rfl) (by kernel_rfl) (fun _ _ _ h => h) rfl (wt0 rfl) (x_load1 tv_2 rfl (c_blk 2 rfl rfl)) rfl rfl fun a_119 HE120 => ?_
      have ke32 : (e22.2.1).toNat < a1.2.length := by omega
      refine dr_take (i := 5) (ls' := #[true, true, true, true, true, true, false, false, false, false]) HE120 HS110 rfl (by kernel_rfl) (by kernel_rfl) (by kernel_rfl) (fun _ _ _ h => h) rfl (wt0 rfl) (x_indexAddr ts_31 rfl rfl rfl (by omega) ke32) rfl rfl fun a_121 HE122 => ?_
      refine dr_take (i := 6) (ls' := #[true, true, true, true, true, true, true, false, false, false]) HE122 HS110 rfl (by kernel_rfl) (by kernel_rfl) (by kernel_rfl) (fun _ _ _ h => h) rfl (wt0 rfl) (x_load1 tv_2 rfl (c_ownV (y := (y30 + 1)) 1 rfl (by first | exact ke32 | (simp only [List.length_set]; exact ke32)) (by simp))) rfl rfl fun a_123 HE124 => ?_
      refine dr_take (i := 7) (ls' := #[true, true, true, true, true, true, true, true, false, false]) HE124 HS110 rfl (by kernel_rfl) (by kernel_rfl) (by kernel_rfl) (fun _ _ _ h => h) rfl (wt0 rfl) (x_leq rfl rfl) rfl rfl fun a_125 HE126 => ?_
      refine dr_one (i := 8) (ls' := #[true, true, true, true, true, true, true, true, true, false]) rfl (by kernel_rfl) rfl fun K_127 hK128 => ?_
      refine st_store (vs := [.int .i64 (e22.2.2.1), .slice (some ⟨be29, fe29, none⟩) (a1.2.length) cr24_0]) 3 HE126 HH109 tv_43 rfl rfl rfl rfl rfl rfl (by simp [Value.oneCell']) (wt0 rfl) fun w' HH129 => hK128 _ _ (by exact HH129.sel [0, 1, 2] (by decide) rfl) ?_
      have HS130 := HH129.sel [0, 1, 2] (by decide) rfl
      refine dr_take (i := 9) (ls' := #[true, true, true, true, true, true, true, true, true, true]) HE126 HS130 rfl (by kernel_rfl) (by kernel_rfl) (by kernel_rfl) (fun _ _ _ h => h) rfl (wt0 rfl) (x_assign rfl) rfl rfl fun a_131 HE132 => ?_
      refine dr_done (by kernel_rfl) ?_
      clear HH108 a_104 HE105 a_111 HE112 a_113 HE114 a_115 HE116 a_117 HE118 a_119 HE120 a_121 HE122 a_123 HE124 HH109 HS110 a_125 HE126 hK128 K_127
      refine nrm ?_
      refine wp_ret ?_
      refine (thn_ret ?_)
      refine ret2 HE132 rfl (rv_cell rfl (tv_43.loadN (cs := [.int .i64 (e22.2.2.1), .slice (some ⟨be29, fe29, none⟩) (a1.2.length) cr24_0]) rfl (c_blkN 3 rfl _ HH129))) (rv_tmp rfl) ?_
      have HH133 := HH129.sel [1, 0, 2, 3] (by decide) rfl
      have HH134 := HH133.relen (n := a1.2.length) (by simp)
      have HH135 := HH134.pairF (E := eInt) (c1 := [.int .i64 (e22.2.2.1)]) (x := e22.2.2.1) (oI (by exact ⟨by omega, by omega⟩))
      obtain ⟨S33, HH136⟩ : ∃ S, Held Nob w (rO eStore S [.int .i64 (e22.2.2.1), .slice (some ⟨be29, fe29, none⟩) (a1.2.length) cr24_0] (e22.2.2.1, (a1.2.set ((e22.2.1).toNat) (y30 + 1))) :: _) _ := ⟨_, HH135⟩
      have hF : (stepS2 a0 a1) = ((e22.2.2.1, (a1.2.set ((e22.2.1).toNat) (y30 + 1))), decide ((y30 + 1) ≤ 1000000)) := by
        grind [stepS2, stepS]
      exact ⟨_, by rw [hF] <;> rfl, by rw [hF]; exact (HH136.o (i := 0) rfl), HH136.below⟩
    · refine wp_skip ?_
      refine nrm ?_
      refine wp_seq ?_
      refine wp_seq ?_
      refine rg ?_
      refine pl_x HE89 HH83 (wt0 rfl) (x_fieldAddr fa_43_1 rfl) rfl rfl fun a_137 HE138 => ?_
      refine pl_x HE138 HH83 (wt0 rfl) (x_load1 tv_31 rfl (c_blk 0 rfl rfl)) rfl rfl fun a_139 HE140 => ?_
      refine pl_x HE140 HH83 (wt0 rfl) (x_fieldAddr fa_111_1 rfl) rfl rfl fun a_141 HE142 => ?_
      refine pl_x HE142 HH83 (wt0 rfl) (x_load1 tv_2 rfl (c_blk 2 rfl rfl)) rfl rfl fun a_143 HE144 => ?_
      have ke34 : (e22.2.1).toNat < a1.2.length := by omega
      obtain ⟨be34, fe34, rfl⟩ := el_own HH83 (i := 1) rfl ke34
      refine pl_x HE144 HH83 (wt0 rfl) (x_indexAddr ts_31 rfl rfl rfl (by omega) ke34) rfl rfl fun a_145 HE146 => ?_
      obtain ⟨y35, xy35⟩ : ∃ y, y = a1.2[(e22.2.1).toNat]'(by first | exact ke34 | (simp only [List.length_set]; exact ke34)) := ⟨_, rfl⟩
      have iy35 : I64 y35 := by rw [xy35]; exact i_ownI HH83 1 rfl _
      have jy35 := iy35; unfold I64 at jy35
      have by35 := allW_mem v3 y35 (by rw [xy35]; exact List.getElem_mem _)
      refine pl_x HE146 HH83 (wt0 rfl) (x_load1 tv_2 rfl (c_ownV 1 rfl (by first | exact ke34 | (simp only [List.length_set]; exact ke34)) xy35.symm)) rfl rfl fun a_147 HE148 => ?_
      refine pl_x HE148 HH83 (wt0 rfl) (x_eql rfl rfl) rfl rfl fun a_149 HE150 => ?_
      refine wpList_nil ?_
      clear a_88 HE89 a_137 HE138 a_139 HE140 a_141 HE142 a_143 HE144 a_145 HE146 a_147 HE148
      refine nrm ?_
      refine cnd_e HE150 rfl (fun hc36 => ?_) (fun hc36 => ?_)
      · refine wp_seq ?_
        refine rg ?_
        refine pl_x HE150 HH83 (wt0 rfl) (x_fieldAddr fa_111_3 rfl) rfl rfl fun a_151 HE152 => ?_
        refine pl_x HE152 HH83 (wt0 rfl) (x_load1 tv_2 rfl (c_blk 2 rfl rfl)) rfl rfl fun a_153 HE154 => ?_
        refine pl_x HE154 HH83 (wt0 rfl) (x_fieldAddr fa_43_0 rfl) rfl rfl fun a_155 HE156 => ?_
        refine pl fun K_157 hK158 => ?_
        refine st_store (vs := [.int .i64 (e22.2.2.2)]) 0 HE156 HH83 tv_2 rfl rfl rfl rfl rfl rfl (by simp [Value.oneCell']) (wt0 rfl) fun w' HH159 => hK158 _ _ ?_
        refine wpList_nil ?_
        clear a_149 HE150 a_151 HE152 a_153 HE154 HH83 hK158 K_157
        refine nrm ?_
        refine wp_seq ?_
        refine rg ?_
        refine pl_x HE156 HH159 (wt0 rfl) (x_loadN (cs := [.int .i64 (e22.2.2.2), .slice (some ⟨be34, fe34, none⟩) (a1.2.length) cr24_0]) tv_43 rfl rfl (c_blkN 0 rfl)) rfl rfl fun a_160 HE161 => ?_
        refine pl fun K_162 hK163 => ?_
        refine st_store (vs := [.int .i64 (e22.2.2.2), .slice (some ⟨be34, fe34, none⟩) (a1.2.length) cr24_0]) 3 HE161 HH159 tv_43 rfl rfl rfl rfl rfl rfl (by simp [Value.oneCell']) (wt0 rfl) fun w' HH164 => hK163 _ _ ?_
        refine pl_x HE161 HH164 (wt0 rfl) (x_assign rfl) rfl rfl fun a_165 HE166 => ?_
        refine wpList_nil ?_
        clear a_155 HE156 HH159 a_160 HE161 hK163 K_162
        refine nrm ?_
        refine wp_ret ?_
        refine (thn_ret ?_)
        refine ret2 HE166 rfl (rv_cell rfl (tv_43.loadN (cs := [.int .i64 (e22.2.2.2), .slice (some ⟨be34, fe34, none⟩) (a1.2.length) cr24_0]) rfl (c_blkN 3 rfl _ HH164))) (rv_tmp rfl) ?_
        have HH167 := HH164.sel [1, 0, 2, 3] (by decide) rfl
        have HH168 := HH167.pairF (E := eInt) (c1 := [.int .i64 (e22.2.2.2)]) (x := e22.2.2.2) (oI (by exact ⟨by omega, by omega⟩))
        obtain ⟨S37, HH169⟩ : ∃ S, Held Nob w (rO eStore S [.int .i64 (e22.2.2.2), .slice (some ⟨be34, fe34, none⟩) (a1.2.length) cr24_0] (e22.2.2.2, a1.2) :: _) _ := ⟨_, HH168⟩
        have hF : (stepS2 a0 a1) = ((e22.2.2.2, a1.2), true) := by
          grind [stepS2, stepS]
        exact ⟨_, by rw [hF] <;> rfl, by rw [hF]; exact (HH169.o (i := 0) rfl), HH169.below⟩
      · refine wp_skip ?_
        refine nrm ?_
        refine wp_seq ?_
        refine rg ?_
        refine pl_x HE150 HH83 (wt0 rfl) (x_fieldAddr fa_43_1 rfl) rfl rfl fun a_170 HE171 => ?_
        refine pl_x HE171 HH83 (wt0 rfl) (x_load1 tv_31 rfl (c_blk 0 rfl rfl)) rfl rfl fun a_172 HE173 => ?_
        refine pl_x HE173 HH83 (wt0 rfl) (x_fieldAddr fa_111_1 rfl) rfl rfl fun a_174 HE175 => ?_
        refine pl_x HE175 HH83 (wt0 rfl) (x_load1 tv_2 rfl (c_blk 2 rfl rfl)) rfl rfl fun a_176 HE177 => ?_
        have ke38 : (e22.2.1).toNat < a1.2.length := by omega
        refine pl_x HE177 HH83 (wt0 rfl) (x_indexAddr ts_31 rfl rfl rfl (by omega) ke38) rfl rfl fun a_178 HE179 => ?_
        obtain ⟨y39, xy39⟩ : ∃ y, y = a1.2[(e22.2.1).toNat]'(by first | exact ke38 | (simp only [List.length_set]; exact ke38)) := ⟨_, rfl⟩
        have iy39 : I64 y39 := by rw [xy39]; exact i_ownI HH83 1 rfl _
        have jy39 := iy39; unfold I64 at jy39
        have by39 := allW_mem v3 y39 (by rw [xy39]; exact List.getElem_mem _)
        refine pl_x HE179 HH83 (wt0 rfl) (x_load1 tv_2 rfl (c_ownV 1 rfl (by first | exact ke38 | (simp only [List.length_set]; exact ke38)) xy39.symm)) rfl rfl fun a_180 HE181 => ?_
        refine pl_x HE181 HH83 (wt0 rfl) (x_sub rfl rfl (by exact ⟨by omega, by omega⟩)) rfl rfl fun a_182 HE183 => ?_
        have ke40 : (e22.2.1).toNat < a1.2.length := by omega
        refine pl_x HE183 HH83 (wt0 rfl) (x_indexAddr ts_31 rfl rfl rfl (by omega) ke40) rfl rfl fun a_184 HE185 => ?_
        refine pl fun K_186 hK187 => ?_
        refine st_storeI 1 HE185 HH83 tv_2 rfl rfl rfl (by first | exact ke40 | (simp only [List.length_set]; exact ke40)) (by exact ⟨by omega, by omega⟩) (wt0 rfl) fun w' HH188 => hK187 _ _ ?_
        refine wpList_nil ?_
        clear a_149 HE150 a_170 HE171 a_172 HE173 a_174 HE175 a_176 HE177 a_178 HE179 a_180 HE181 a_182 HE183 HH83 hK187 K_186
        refine nrm ?_
        refine wp_seq ?_
        refine rg ?_
        refine pl_x HE185 HH188 (wt0 rfl) (x_loadN (cs := [.int .i64 (e22.2.2.1), .slice (some ⟨be34, fe34, none⟩) (a1.2.length) cr24_0]) tv_43 rfl rfl (c_blkN 0 rfl)) rfl rfl fun a_189 HE190 => ?_
        refine pl fun K_191 hK192 => ?_
        refine st_store (vs := [.int .i64 (e22.2.2.1), .slice (some ⟨be34, fe34, none⟩) (a1.2.length) cr24_0]) 3 HE190 HH188 tv_43 rfl rfl rfl rfl rfl rfl (by simp [Value.oneCell']) (wt0 rfl) fun w' HH193 => hK192 _ _ ?_
        refine pl_x HE190 HH193 (wt0 rfl) (x_assign rfl) rfl rfl fun a_194 HE195 => ?_
        refine wpList_nil ?_
        clear a_184 HE185 HH188 a_189 HE190 hK192 K_191
        refine nrm ?_
        refine wp_ret ?_
        refine ret2 HE195 rfl (rv_cell rfl (tv_43.loadN (cs := [.int .i64 (e22.2.2.1), .slice (some ⟨be34, fe34, none⟩) (a1.2.length) cr24_0]) rfl (c_blkN 3 rfl _ HH193))) (rv_tmp rfl) ?_
        have HH196 := HH193.sel [1, 0, 2, 3] (by decide) rfl
        have HH197 := HH196.relen (n := a1.2.length) (by simp)
        have HH198 := HH197.pairF (E := eInt) (c1 := [.int .i64 (e22.2.2.1)]) (x := e22.2.2.1) (oI (by exact ⟨by omega, by omega⟩))
        obtain ⟨S41, HH199⟩ : ∃ S, Held Nob w (rO eStore S [.int .i64 (e22.2.2.1), .slice (some ⟨be34, fe34, none⟩) (a1.2.length) cr24_0] (e22.2.2.1, (a1.2.set ((e22.2.1).toNat) (y39 - 1))) :: _) _ := ⟨_, HH198⟩
        have hF : (stepS2 a0 a1) = ((e22.2.2.1, (a1.2.set ((e22.2.1).toNat) (y39 - 1))), true) := by
          grind [stepS2, stepS]
        exact ⟨_, by rw [hF] <;> rfl, by rw [hF]; exact (HH199.o (i := 0) rfl), HH199.below⟩

set_option maxRecDepth 100000 in
set_option maxHeartbeats 4000000 in
theorem spec_StepProgram (A0 : Option Addr) (c0 : Nat) (a0 : (List tInstr)) (es1 : List Value) (a1 : tStore) (w : World) (h0 : Sl eInstr w (Old w) A0 c0 a0) (h1 : eStore.R w (Old w) es1 a1) :
    Calls Try.prog 58 #[.slice A0 a0.length c0, .agg es1.toArray] w fun e w' => ∃ (es0' : List Value), e = .returned (.tuple #[.agg es0'.toArray, .int .i64 (stepProg a0 a1).2]) ∧ eStore.O w' (Fr w w') es0' (stepProg a0 a1).1 ∧ Below w.heap.size w w' := by
  have l0 := h0.len
  have H1 := h1
  obtain ⟨Az1_1, cz1_1, rfl, gz1_0, gz1_1⟩ := shape_Store h1
  have jz1_0 := gz1_0; unfold I64 at jz1_0
  have lz1_1 := gz1_1.len
  have HH1 := Held.start Nob w
  refine enter (n := 30) Try.func58 rfl rfl rfl fun a_2 HE3 => ?_
  refine wp_seq ?_
  refine rg ?_
  refine pl fun K_4 hK5 => ?_
  refine st_box (cs := [.int .i64 (a1.1), .slice Az1_1 (a1.2.length) cz1_1]) HE3 HH1 rfl rfl (wt0 rfl) rfl fun q21 a_6 w' HE7 HH8 => hK5 _ _ ?_
  refine pl fun K_9 hK10 => ?_
  refine st_alloc HE7 HH8 tv_43 (wt0 rfl) rfl fun q22 a_11 w' HE12 HH13 => hK10 _ _ ?_
  refine pl_x HE12 HH13 (wt0 rfl) (x_assign rfl) rfl rfl fun a_14 HE15 => ?_
  refine wpList_nil ?_
  clear a_2 HE3 HH1 K_4 hK5 a_6 HE7 HH8 a_11 HE12 hK10 K_9
  refine nrm ?_
  refine wp_seq ?_
  refine rg ?_
  refine pl_x HE15 HH13 (wt0 rfl) (x_move rfl) rfl rfl fun a_16 HE17 => ?_
  refine pl fun K_18 hK19 => ?_
  refine st_call HE17 (wt0 rfl) rfl rfl rfl en_120 rfl rfl (spec_l07Ask _ _ a0 _ _ _ a1 _ (HH13.old h0) (HH13.oldR H1) (c_blkN 1 rfl _ HH13)) fun e w' hr => ?_
  obtain ⟨rfl, hbr23⟩ := hr
  have HH20 := HH13.on hbr23
  refine ⟨_, rfl, fun a_21 HE22 => hK19 _ _ ?_⟩
  refine pl_x HE22 HH20 (wt0 rfl) (x_assign rfl) rfl rfl fun a_23 HE24 => ?_
  refine wpList_nil ?_
  clear a_14 HE15 HH13 a_16 HE17 a_21 HE22 hK19 K_18
  refine nrm ?_
  refine wp_seq ?_
  refine wp_seq ?_
  refine rg ?_
  refine pl_x HE24 HH20 (wt0 rfl) (x_move rfl) rfl rfl fun a_25 HE26 => ?_
  refine pl_x HE26 HH20 (wt0 rfl) (x_eql rfl rfl) rfl rfl fun a_27 HE28 => ?_
  refine pl_x HE28 HH20 (wt0 rfl) (x_move rfl) rfl rfl fun a_29 HE30 => ?_
  by_cases hc24 : (askS a0 a1) = 0
  · have hV := askS_ok hc24
    obtain ⟨v0, v1, v2, v3⟩ := storeOf_facts (validStore_of hV)
    refine pl_x HE30 HH20 (wtT HE30 rfl rfl rfl (beq_t hc24)) (x_move rfl) rfl rfl fun a_31 HE32 => ?_
    refine pl fun K_33 hK34 => ?_
    refine st_call HE32 (wtT HE32 rfl rfl rfl (beq_t hc24)) rfl rfl rfl en_121 rfl rfl (spec_l07Halts _ _ a0 _ _ _ a1 _ (HH20.old h0) (HH20.oldR H1) (c_blkN 1 rfl _ HH20)) fun e w' hr => ?_
    obtain ⟨rfl, rfl⟩ := hr
    refine ⟨_, rfl, fun a_35 HE36 => hK34 _ _ ?_⟩
    refine pl_x HE36 HH20 (wt0 rfl) (x_pickT rfl (beq_t hc24) rfl) rfl rfl fun a_37 HE38 => ?_
    refine wpList_nil ?_
    clear a_23 HE24 a_25 HE26 a_27 HE28 a_29 HE30 a_31 HE32 a_35 HE36 hK34 K_33
    refine nrm ?_
    refine cnd_b HE38 rfl (fun hc26 => ?_) (fun hc26 => ?_)
    · refine rg ?_
      refine pl_x HE38 HH20 (wt0 rfl) (x_assign rfl) rfl rfl fun a_39 HE40 => ?_
      refine wpList_nil ?_
      clear a_37 HE38
      refine nrm ?_
      refine wp_seq ?_
      refine wp_seq ?_
      refine rg ?_
      refine pl_x HE40 HH20 (wt0 rfl) (x_move rfl) rfl rfl fun a_41 HE42 => ?_
      refine pl_x HE42 HH20 (wt0 rfl) (x_neq rfl rfl) rfl rfl fun a_43 HE44 => ?_
      refine wpList_nil ?_
      clear a_39 HE40 a_41 HE42
      refine nrm ?_
      refine cnd_ne HE44 rfl (fun hc27 => ?_) (fun hc27 => ?_)
      · refine wp_seq ?_
        refine rg ?_
        refine pl_x HE44 HH20 (wt0 rfl) (show XS _ _ _ _ (.agg #[.int .i64 (0), .slice none (0) 0]) from x_build (vs := []) tb_43 rfl (by simp [Value.oneCell'])) rfl rfl fun a_45 HE46 => ?_
        refine pl_x HE46 HH20 (wt0 rfl) (x_move rfl) rfl rfl fun a_47 HE48 => ?_
        refine pl fun K_49 hK50 => ?_
        refine st_store (vs := [.int .i64 (0), .slice none (0) 0]) 0 HE48 HH20 tv_43 rfl rfl rfl rfl rfl rfl (by simp [Value.oneCell']) (wt0 rfl) fun w' HH51 => hK50 _ _ ?_
        refine pl_x HE48 HH51 (wt0 rfl) (x_assign rfl) rfl rfl fun a_52 HE53 => ?_
        refine wpList_nil ?_
        clear a_43 HE44 a_45 HE46 HH20 a_47 HE48 hK50 K_49
        refine nrm ?_
        refine wp_ret ?_
        refine (thn_ret ?_)
        refine ret2 HE53 rfl (rv_cell rfl (tv_43.loadN (cs := [.int .i64 (0), .slice none (0) 0]) rfl (c_blkN 0 rfl _ HH51))) (rv_tmp rfl) ?_
        have HH54 := HH51.flatO (E := eStore) (cs := [.int .i64 (0), .slice none (0) 0]) (x := (0, [])) (fun _ => (oPrN (oI (by exact ⟨by omega, by omega⟩)) (oSl (So.nil (Nat.zero_le _)))))
        have hF : (stepProg a0 a1) = ((0, []), 6) := by
          first | (simp [stepProg, hc24, hc26, hc27]; done) | grind [stepProg, askS, haltsS, stepS2]
        exact ⟨_, by rw [hF] <;> rfl, by rw [hF]; exact (HH54.o (i := 0) rfl), HH54.below⟩
      · refine wp_skip ?_
        refine nrm ?_
        refine wp_seq ?_
        refine rg ?_
        refine pl_x HE44 HH20 (wt0 rfl) (x_move rfl) rfl rfl fun a_55 HE56 => ?_
        refine pl fun K_57 hK58 => ?_
        refine st_call HE56 (wt0 rfl) rfl rfl rfl en_122 rfl rfl (spec_l07Step _ _ a0 _ _ _ a1 _ (HH20.old h0) (HH20.oldR H1) (c_blkN 1 rfl _ HH20) (by first | exact s0 | exact validStore_prog ‹_›) (by first | assumption | exact validStore_of ‹_›) (by omega)) fun e w' hr => ?_
        obtain ⟨esr28_0, rfl, hor28_0, hbr28⟩ := hr
        have hr := eStore.read hor28_0
        obtain ⟨Sr28, HH59⟩ := HH20.newO hbr28 hor28_0
        obtain ⟨Ar28_0_1, cr28_0_1, rfl, gr28_0_0, gr28_0_1⟩ := shape_Store hr
        have jr28_0_0 := gr28_0_0; unfold I64 at jr28_0_0
        have HH60 := HH59.unF rfl
        refine ⟨_, rfl, fun a_61 HE62 => hK58 _ _ ?_⟩
        refine pl_x HE62 HH60 (wt0 rfl) (x_move rfl) rfl rfl fun a_63 HE64 => ?_
        refine pl_x HE64 HH60 (wt0 rfl) (x_extract rfl rfl) rfl rfl fun a_65 HE66 => ?_
        refine pl_x HE66 HH60 (wt0 rfl) (x_extract rfl rfl) rfl rfl fun a_67 HE68 => ?_
        refine pl fun K_69 hK70 => ?_
        refine st_alloc HE68 HH60 tv_43 (wt0 rfl) rfl fun q29 a_71 w' HE72 HH73 => hK70 _ _ ?_
        refine pl fun K_74 hK75 => ?_
        refine st_store (vs := [.int .i64 ((stepS2 a0 a1).1.1), .slice Ar28_0_1 ((stepS2 a0 a1).1.2.length) cr28_0_1]) 0 HE72 HH73 tv_43 rfl rfl rfl rfl rfl rfl (by simp [Value.oneCell']) (wt0 rfl) fun w' HH76 => hK75 _ _ ?_
        refine pl_x HE72 HH76 (wt0 rfl) (x_assign rfl) rfl rfl fun a_77 HE78 => ?_
        refine wpList_nil ?_
        clear a_43 HE44 HH20 HH59 a_55 HE56 a_61 HE62 a_63 HE64 a_65 HE66 K_57 hK58 a_67 HE68 HH60 K_69 hK70 HH73 a_71 HE72 hK75 K_74
        refine nrm ?_
        refine wp_seq ?_
        refine wp_seq ?_
        refine rg ?_
        refine pl_x HE78 HH76 (wt0 rfl) (x_move rfl) rfl rfl fun a_79 HE80 => ?_
        refine pl_x HE80 HH76 (wt0 rfl) (x_not rfl) rfl rfl fun a_81 HE82 => ?_
        refine wpList_nil ?_
        clear a_77 HE78 a_79 HE80
        refine nrm ?_
        refine cnd_nb HE82 rfl (fun hc30 => ?_) (fun hc30 => ?_)
        · refine wp_seq ?_
          refine rg ?_
          refine pl_x HE82 HH76 (wt0 rfl) (show XS _ _ _ _ (.agg #[.int .i64 (0), .slice none (0) 0]) from x_build (vs := []) tb_43 rfl (by simp [Value.oneCell'])) rfl rfl fun a_83 HE84 => ?_
          refine pl fun K_85 hK86 => ?_
          refine st_store (vs := [.int .i64 (0), .slice none (0) 0]) 2 HE84 HH76 tv_43 rfl rfl rfl rfl rfl rfl (by simp [Value.oneCell']) (wt0 rfl) fun w' HH87 => hK86 _ _ ?_
          refine pl_x HE84 HH87 (wt0 rfl) (x_assign rfl) rfl rfl fun a_88 HE89 => ?_
          refine wpList_nil ?_
          clear a_81 HE82 HH76 a_83 HE84 hK86 K_85
          refine nrm ?_
          refine wp_ret ?_
          refine (thn_ret ?_)
          refine ret2 HE89 rfl (rv_cell rfl (tv_43.loadN (cs := [.int .i64 (0), .slice none (0) 0]) rfl (c_blkN 2 rfl _ HH87))) (rv_tmp rfl) ?_
          have HH90 := HH87.flatO (E := eStore) (cs := [.int .i64 (0), .slice none (0) 0]) (x := (0, [])) (fun _ => (oPrN (oI (by exact ⟨by omega, by omega⟩)) (oSl (So.nil (Nat.zero_le _)))))
          have hF : (stepProg a0 a1) = ((0, []), 5) := by
            first | (simp [stepProg, hc24, hc26, hc27, hc30]; done) | grind [stepProg, askS, haltsS, stepS2]
          exact ⟨_, by rw [hF] <;> rfl, by rw [hF]; exact (HH90.o (i := 0) rfl), HH90.below⟩
        · refine wp_skip ?_
          refine nrm ?_
          refine wp_seq ?_
          refine rg ?_
          refine pl_x HE82 HH76 (wt0 rfl) (x_loadN (cs := [.int .i64 ((stepS2 a0 a1).1.1), .slice Ar28_0_1 ((stepS2 a0 a1).1.2.length) cr28_0_1]) tv_43 rfl rfl (c_blkN 0 rfl)) rfl rfl fun a_91 HE92 => ?_
          refine pl fun K_93 hK94 => ?_
          refine st_store (vs := [.int .i64 ((stepS2 a0 a1).1.1), .slice Ar28_0_1 ((stepS2 a0 a1).1.2.length) cr28_0_1]) 2 HE92 HH76 tv_43 rfl rfl rfl rfl rfl rfl (by simp [Value.oneCell']) (wt0 rfl) fun w' HH95 => hK94 _ _ ?_
          refine pl_x HE92 HH95 (wt0 rfl) (x_assign rfl) rfl rfl fun a_96 HE97 => ?_
          refine wpList_nil ?_
          clear a_81 HE82 HH76 a_91 HE92 hK94 K_93
          refine nrm ?_
          refine wp_ret ?_
          refine ret2 HE97 rfl (rv_cell rfl (tv_43.loadN (cs := [.int .i64 ((stepS2 a0 a1).1.1), .slice Ar28_0_1 ((stepS2 a0 a1).1.2.length) cr28_0_1]) rfl (c_blkN 2 rfl _ HH95))) (rv_tmp rfl) ?_
          have HH98 := HH95.sel [1, 0, 2, 3] (by decide) rfl
          have HH99 := HH98.pairF (E := eInt) (c1 := [.int .i64 ((stepS2 a0 a1).1.1)]) (x := (stepS2 a0 a1).1.1) (oI (by exact ⟨by omega, by omega⟩))
          obtain ⟨S31, HH100⟩ : ∃ S, Held Nob w (rO eStore S [.int .i64 ((stepS2 a0 a1).1.1), .slice Ar28_0_1 ((stepS2 a0 a1).1.2.length) cr28_0_1] ((stepS2 a0 a1).1) :: _) _ := ⟨_, HH99⟩
          have hF : (stepProg a0 a1) = ((stepS2 a0 a1).1, 0) := by
            first | (simp [stepProg, hc24, hc26, hc27, hc30]; done) | grind [stepProg, askS, haltsS, stepS2]
          exact ⟨_, by rw [hF] <;> rfl, by rw [hF]; exact (HH100.o (i := 0) rfl), HH100.below⟩
    · have hN : a1.1 < (a0.length : Int) := by unfold haltsS at hc26; simp at hc26; omega
      refine wp_skip ?_
      refine nrm ?_
      refine wp_seq ?_
      refine wp_seq ?_
      refine rg ?_
      refine pl_x HE38 HH20 (wt0 rfl) (x_move rfl) rfl rfl fun a_101 HE102 => ?_
      refine pl_x HE102 HH20 (wt0 rfl) (x_neq rfl rfl) rfl rfl fun a_103 HE104 => ?_
      refine wpList_nil ?_
      clear a_37 HE38 a_101 HE102
      refine nrm ?_
      refine cndF HE104 rfl (bne_f hc24) ?_
      refine wp_skip ?_
      refine nrm ?_
      refine wp_seq ?_
      refine rg ?_
      refine pl_x HE104 HH20 (wt0 rfl) (x_move rfl) rfl rfl fun a_105 HE106 => ?_
      refine pl fun K_107 hK108 => ?_
      refine st_call HE106 (wt0 rfl) rfl rfl rfl en_122 rfl rfl (spec_l07Step _ _ a0 _ _ _ a1 _ (HH20.old h0) (HH20.oldR H1) (c_blkN 1 rfl _ HH20) (by first | exact s0 | exact validStore_prog ‹_›) (by first | assumption | exact validStore_of ‹_›) (by omega)) fun e w' hr => ?_
      obtain ⟨esr32_0, rfl, hor32_0, hbr32⟩ := hr
      have hr := eStore.read hor32_0
      obtain ⟨Sr32, HH109⟩ := HH20.newO hbr32 hor32_0
      obtain ⟨Ar32_0_1, cr32_0_1, rfl, gr32_0_0, gr32_0_1⟩ := shape_Store hr
      have jr32_0_0 := gr32_0_0; unfold I64 at jr32_0_0
      have HH110 := HH109.unF rfl
      refine ⟨_, rfl, fun a_111 HE112 => hK108 _ _ ?_⟩
      refine pl_x HE112 HH110 (wt0 rfl) (x_move rfl) rfl rfl fun a_113 HE114 => ?_
      refine pl_x HE114 HH110 (wt0 rfl) (x_extract rfl rfl) rfl rfl fun a_115 HE116 => ?_
      refine pl_x HE116 HH110 (wt0 rfl) (x_extract rfl rfl) rfl rfl fun a_117 HE118 => ?_
      refine pl fun K_119 hK120 => ?_
      refine st_alloc HE118 HH110 tv_43 (wt0 rfl) rfl fun q33 a_121 w' HE122 HH123 => hK120 _ _ ?_
      refine pl fun K_124 hK125 => ?_
      refine st_store (vs := [.int .i64 ((stepS2 a0 a1).1.1), .slice Ar32_0_1 ((stepS2 a0 a1).1.2.length) cr32_0_1]) 0 HE122 HH123 tv_43 rfl rfl rfl rfl rfl rfl (by simp [Value.oneCell']) (wt0 rfl) fun w' HH126 => hK125 _ _ ?_
      refine pl_x HE122 HH126 (wt0 rfl) (x_assign rfl) rfl rfl fun a_127 HE128 => ?_
      refine wpList_nil ?_
      clear a_103 HE104 HH20 HH109 a_105 HE106 a_111 HE112 a_113 HE114 a_115 HE116 K_107 hK108 a_117 HE118 HH110 K_119 hK120 HH123 a_121 HE122 hK125 K_124
      refine nrm ?_
      refine wp_seq ?_
      refine wp_seq ?_
      refine rg ?_
      refine pl_x HE128 HH126 (wt0 rfl) (x_move rfl) rfl rfl fun a_129 HE130 => ?_
      refine pl_x HE130 HH126 (wt0 rfl) (x_not rfl) rfl rfl fun a_131 HE132 => ?_
      refine wpList_nil ?_
      clear a_127 HE128 a_129 HE130
      refine nrm ?_
      refine cnd_nb HE132 rfl (fun hc34 => ?_) (fun hc34 => ?_)
      · refine wp_seq ?_
        refine rg ?_
        refine pl_x HE132 HH126 (wt0 rfl) (show XS _ _ _ _ (.agg #[.int .i64 (0), .slice none (0) 0]) from x_build (vs := []) tb_43 rfl (by simp [Value.oneCell'])) rfl rfl fun a_133 HE134 => ?_
        refine pl fun K_135 hK136 => ?_
        refine st_store (vs := [.int .i64 (0), .slice none (0) 0]) 2 HE134 HH126 tv_43 rfl rfl rfl rfl rfl rfl (by simp [Value.oneCell']) (wt0 rfl) fun w' HH137 => hK136 _ _ ?_
        refine pl_x HE134 HH137 (wt0 rfl) (x_assign rfl) rfl rfl fun a_138 HE139 => ?_
        refine wpList_nil ?_
        clear a_131 HE132 HH126 a_133 HE134 hK136 K_135
        refine nrm ?_
        refine wp_ret ?_
        refine (thn_ret ?_)
        refine ret2 HE139 rfl (rv_cell rfl (tv_43.loadN (cs := [.int .i64 (0), .slice none (0) 0]) rfl (c_blkN 2 rfl _ HH137))) (rv_tmp rfl) ?_
        have HH140 := HH137.flatO (E := eStore) (cs := [.int .i64 (0), .slice none (0) 0]) (x := (0, [])) (fun _ => (oPrN (oI (by exact ⟨by omega, by omega⟩)) (oSl (So.nil (Nat.zero_le _)))))
        have hF : (stepProg a0 a1) = ((0, []), 5) := by
          first | (simp [stepProg, hc24, hc26, hc34]; done) | grind [stepProg, askS, haltsS, stepS2]
        exact ⟨_, by rw [hF] <;> rfl, by rw [hF]; exact (HH140.o (i := 0) rfl), HH140.below⟩
      · refine wp_skip ?_
        refine nrm ?_
        refine wp_seq ?_
        refine rg ?_
        refine pl_x HE132 HH126 (wt0 rfl) (x_loadN (cs := [.int .i64 ((stepS2 a0 a1).1.1), .slice Ar32_0_1 ((stepS2 a0 a1).1.2.length) cr32_0_1]) tv_43 rfl rfl (c_blkN 0 rfl)) rfl rfl fun a_141 HE142 => ?_
        refine pl fun K_143 hK144 => ?_
        refine st_store (vs := [.int .i64 ((stepS2 a0 a1).1.1), .slice Ar32_0_1 ((stepS2 a0 a1).1.2.length) cr32_0_1]) 2 HE142 HH126 tv_43 rfl rfl rfl rfl rfl rfl (by simp [Value.oneCell']) (wt0 rfl) fun w' HH145 => hK144 _ _ ?_
        refine pl_x HE142 HH145 (wt0 rfl) (x_assign rfl) rfl rfl fun a_146 HE147 => ?_
        refine wpList_nil ?_
        clear a_131 HE132 HH126 a_141 HE142 hK144 K_143
        refine nrm ?_
        refine wp_ret ?_
        refine ret2 HE147 rfl (rv_cell rfl (tv_43.loadN (cs := [.int .i64 ((stepS2 a0 a1).1.1), .slice Ar32_0_1 ((stepS2 a0 a1).1.2.length) cr32_0_1]) rfl (c_blkN 2 rfl _ HH145))) (rv_tmp rfl) ?_
        have HH148 := HH145.sel [1, 0, 2, 3] (by decide) rfl
        have HH149 := HH148.pairF (E := eInt) (c1 := [.int .i64 ((stepS2 a0 a1).1.1)]) (x := (stepS2 a0 a1).1.1) (oI (by exact ⟨by omega, by omega⟩))
        obtain ⟨S35, HH150⟩ : ∃ S, Held Nob w (rO eStore S [.int .i64 ((stepS2 a0 a1).1.1), .slice Ar32_0_1 ((stepS2 a0 a1).1.2.length) cr32_0_1] ((stepS2 a0 a1).1) :: _) _ := ⟨_, HH149⟩
        have hF : (stepProg a0 a1) = ((stepS2 a0 a1).1, 0) := by
          first | (simp [stepProg, hc24, hc26, hc34]; done) | grind [stepProg, askS, haltsS, stepS2]
        exact ⟨_, by rw [hF] <;> rfl, by rw [hF]; exact (HH150.o (i := 0) rfl), HH150.below⟩
  · refine pl_no HE30 (wtF HE30 rfl rfl rfl (beq_f hc24)) rfl rfl fun a_151 HE152 => ?_
    refine pl_no HE152 (wtF HE152 rfl rfl rfl (beq_f hc24)) rfl rfl fun a_153 HE154 => ?_
    refine pl_x HE154 HH20 (wt0 rfl) (x_pickF rfl (beq_f hc24) rfl) rfl rfl fun a_155 HE156 => ?_
    refine wpList_nil ?_
    clear a_23 HE24 a_25 HE26 a_27 HE28 a_29 HE30 a_151 HE152 a_153 HE154
    refine nrm ?_
    refine cndF HE156 rfl rfl ?_
    refine wp_skip ?_
    refine nrm ?_
    refine wp_seq ?_
    refine wp_seq ?_
    refine rg ?_
    refine pl_x HE156 HH20 (wt0 rfl) (x_move rfl) rfl rfl fun a_157 HE158 => ?_
    refine pl_x HE158 HH20 (wt0 rfl) (x_neq rfl rfl) rfl rfl fun a_159 HE160 => ?_
    refine wpList_nil ?_
    clear a_155 HE156 a_157 HE158
    refine nrm ?_
    refine cndT HE160 rfl (bne_t hc24) ?_
    refine wp_seq ?_
    refine rg ?_
    refine pl_x HE160 HH20 (wt0 rfl) (show XS _ _ _ _ (.agg #[.int .i64 (0), .slice none (0) 0]) from x_build (vs := []) tb_43 rfl (by simp [Value.oneCell'])) rfl rfl fun a_161 HE162 => ?_
    refine pl_x HE162 HH20 (wt0 rfl) (x_move rfl) rfl rfl fun a_163 HE164 => ?_
    refine pl fun K_165 hK166 => ?_
    refine st_store (vs := [.int .i64 (0), .slice none (0) 0]) 0 HE164 HH20 tv_43 rfl rfl rfl rfl rfl rfl (by simp [Value.oneCell']) (wt0 rfl) fun w' HH167 => hK166 _ _ ?_
    refine pl_x HE164 HH167 (wt0 rfl) (x_assign rfl) rfl rfl fun a_168 HE169 => ?_
    refine wpList_nil ?_
    clear a_159 HE160 a_161 HE162 HH20 a_163 HE164 hK166 K_165
    refine nrm ?_
    refine wp_ret ?_
    refine (thn_ret ?_)
    refine ret2 HE169 rfl (rv_cell rfl (tv_43.loadN (cs := [.int .i64 (0), .slice none (0) 0]) rfl (c_blkN 0 rfl _ HH167))) (rv_tmp rfl) ?_
    have HH170 := HH167.flatO (E := eStore) (cs := [.int .i64 (0), .slice none (0) 0]) (x := (0, [])) (fun _ => (oPrN (oI (by exact ⟨by omega, by omega⟩)) (oSl (So.nil (Nat.zero_le _)))))
    have hF : (stepProg a0 a1) = ((0, []), (askS a0 a1)) := by
      first | (simp [stepProg, hc24]; done) | grind [stepProg, askS, haltsS, stepS2]
    exact ⟨_, by rw [hF] <;> rfl, by rw [hF]; exact (HH170.o (i := 0) rfl), HH170.below⟩

theorem ct_cost_SInstr (xs : List tInstr) : ct_SInstr xs ≤ 4 * cost_SInstr xs := by
  have := cntL_const ct_Instr 4 xs fun _ => rfl
  unfold ct_SInstr cost_SInstr; omega

theorem cv_cost_Store (x : tStore) : cv_Store x ≤ 4 * cost_Store x := by
  have h1 := ct_cost_L x.2
  unfold cv_Store cost_Store; omega

theorem cv_Store_24 {x : tStore} (h : x.2.length ≤ 24) : (cv_Store x : Int) ≤ 1000000000 := by
  have h1 := cntL_const ct_i 1 x.2 fun _ => rfl
  unfold cv_Store ct_L; omega

theorem stepS_len (p : List tInstr) (x : tStore) : (stepS p x).2.2.length = x.2.length := by
  unfold stepS; grind

theorem stepProg_ct (p : List tInstr) (x : tStore) : (cv_Store (stepProg p x).1 : Int) ≤ 1000000000 := by
  refine cv_Store_24 ?_
  unfold stepProg
  split
  · rename_i h
    have h1 := (storeOf_facts (validStore_of h)).2.2.1
    have h2 := stepS_len p x
    split
    · simp
    · split
      · simp only; omega
      · simp
  · simp

set_option maxRecDepth 100000 in
set_option maxHeartbeats 4000000 in
theorem law_StepProgram (A0 : Option Addr) (c0 : Nat) (a0 : (List tInstr)) (es1 : List Value) (a1 : tStore) (w : World) (h0 : Sl eInstr w (Old w) A0 c0 a0) (h1 : eStore.R w (Old w) es1 a1) :
    Calls Try.prog 11 #[.slice A0 a0.length c0, .agg es1.toArray] w fun e w' => e = .returned (.bool true) ∧ Below w.heap.size w w' := by
  have l0 := h0.len
  have H1 := h1
  obtain ⟨Az1_1, cz1_1, rfl, gz1_0, gz1_1⟩ := shape_Store h1
  have jz1_0 := gz1_0; unfold I64 at jz1_0
  have lz1_1 := gz1_1.len
  have m0 := ct_cost_SInstr a0
  have m1 := cv_cost_Store a1
  have n0 : (cv_Store (stepProg a0 a1).1 : Int) ≤ 1000000000 := stepProg_ct a0 a1
  have HH1 := Held.start Nob w
  refine enter (n := 119) Try.func11 rfl rfl rfl fun a_2 HE3 => ?_
  refine wp_seq ?_
  refine rg ?_
  refine pl fun K_4 hK5 => ?_
  refine st_box (cs := [.int .i64 (a1.1), .slice Az1_1 (a1.2.length) cz1_1]) HE3 HH1 rfl rfl (wt0 rfl) rfl fun q21 a_6 w' HE7 HH8 => hK5 _ _ ?_
  refine pl_x HE7 HH8 (wt0 rfl) (x_assign rfl) rfl rfl fun a_9 HE10 => ?_
  refine wpList_nil ?_
  clear a_2 HE3 HH1 a_6 HE7 hK5 K_4
  refine nrm ?_
  refine wp_seq ?_
  refine rg ?_
  refine pl_x HE10 HH8 (wt0 rfl) (x_assign rfl) rfl rfl fun a_11 HE12 => ?_
  refine wpList_nil ?_
  clear a_9 HE10
  refine nrm ?_
  refine wp_seq ?_
  refine rg ?_
  refine pl_x HE12 HH8 (wt0 rfl) (x_move rfl) rfl rfl fun a_13 HE14 => ?_
  refine pl_x HE14 HH8 (wt0 rfl) (x_move rfl) rfl rfl fun a_15 HE16 => ?_
  refine pl fun K_17 hK18 => ?_
  refine st_call HE16 (wt0 rfl) rfl rfl rfl en_27 rfl rfl (sz_InstrS _ _ a0 1048576 _ (HH8.old h0) (by omega) (by omega)) fun e w' hr => ?_
  obtain ⟨rfl, hbr22⟩ := hr
  have HH19 := HH8.on hbr22
  clear hbr22
  refine ⟨_, rfl, fun a_20 HE21 => hK18 _ _ ?_⟩
  refine pl_x HE21 HH19 (wt0 rfl) (x_assign rfl) rfl rfl fun a_22 HE23 => ?_
  refine wpList_nil ?_
  clear a_11 HE12 a_13 HE14 HH8 a_15 HE16 a_20 HE21 hK18 K_17
  refine nrm ?_
  refine wp_seq ?_
  refine wp_seq ?_
  refine rg ?_
  refine pl_x HE23 HH19 (wt0 rfl) (x_move rfl) rfl rfl fun a_24 HE25 => ?_
  refine pl_x HE25 HH19 (wt0 rfl) (x_lss rfl rfl) rfl rfl fun a_26 HE27 => ?_
  refine wpList_nil ?_
  clear a_22 HE23 a_24 HE25
  refine nrm ?_
  refine cnd_d HE27 rfl (fun hc23 => ?_) (fun hc23 => ?_)
  · refine wp_seq ?_
    refine rg ?_
    refine pl_x HE27 HH19 (wt0 rfl) (x_assign rfl) rfl rfl fun a_28 HE29 => ?_
    refine wpList_nil ?_
    clear a_26 HE27
    refine nrm ?_
    refine wp_ret ?_
    refine (thn_ret ?_)
    refine ret1 HE29 rfl (rv_tmp rfl) ?_
    have hF : true = true := by
      first | rfl | (exfalso; omega)
    exact ⟨by rw [hF] <;> rfl, HH19.below⟩
  · have zr22 := left_ok hc23
    refine wp_skip ?_
    refine nrm ?_
    refine wp_seq ?_
    refine rg ?_
    refine pl_x HE27 HH19 (wt0 rfl) (x_loadN (cs := [.int .i64 (a1.1), .slice Az1_1 (a1.2.length) cz1_1]) tv_79 rfl rfl (c_blkN 0 rfl)) rfl rfl fun a_30 HE31 => ?_
    refine pl_x HE31 HH19 (wt0 rfl) (x_move rfl) rfl rfl fun a_32 HE33 => ?_
    refine pl fun K_34 hK35 => ?_
    refine st_call HE33 (wt0 rfl) rfl rfl rfl en_57 rfl rfl (sz_Store [.int .i64 (a1.1), .slice Az1_1 (a1.2.length) cz1_1] a1 (left 1048576 (cost_SInstr a0)) _ (HH19.oldR H1) (by omega) (by omega)) fun e w' hr => ?_
    obtain ⟨rfl, hbr24⟩ := hr
    have HH36 := HH19.on hbr24
    clear hbr24
    refine ⟨_, rfl, fun a_37 HE38 => hK35 _ _ ?_⟩
    refine pl_x HE38 HH36 (wt0 rfl) (x_assign rfl) rfl rfl fun a_39 HE40 => ?_
    refine wpList_nil ?_
    clear a_26 HE27 a_30 HE31 HH19 a_32 HE33 a_37 HE38 hK35 K_34
    refine nrm ?_
    refine wp_seq ?_
    refine wp_seq ?_
    refine rg ?_
    refine pl_x HE40 HH36 (wt0 rfl) (x_move rfl) rfl rfl fun a_41 HE42 => ?_
    refine pl_x HE42 HH36 (wt0 rfl) (x_lss rfl rfl) rfl rfl fun a_43 HE44 => ?_
    refine wpList_nil ?_
    clear a_39 HE40 a_41 HE42
    refine nrm ?_
    refine cnd_d HE44 rfl (fun hc25 => ?_) (fun hc25 => ?_)
    · refine wp_seq ?_
      refine rg ?_
      refine pl_x HE44 HH36 (wt0 rfl) (x_assign rfl) rfl rfl fun a_45 HE46 => ?_
      refine wpList_nil ?_
      clear a_43 HE44
      refine nrm ?_
      refine wp_ret ?_
      refine (thn_ret ?_)
      refine ret1 HE46 rfl (rv_tmp rfl) ?_
      have hF : true = true := by
        first | rfl | (exfalso; omega)
      exact ⟨by rw [hF] <;> rfl, HH36.below⟩
    · have zr24 := left_ok hc25
      refine wp_skip ?_
      refine nrm ?_
      refine wp_seq ?_
      refine wp_join (fun a w' => ∃ (q29 : Nat), ∃ (Ar28_0_1 : Option Addr), ∃ (cr28_0_1 : Nat), ∃ (Sr28 : Nat → Prop), ∃ (Sr27 : Nat → Prop), ∃ (Ar27_1 : Option Addr), ∃ (cr27_1 : Nat), ∃ (Sr26 : Nat → Prop), ∃ (Ar26 : Option Addr), ∃ (cr26 : Nat), Env 119 [(0, .slice A0 (a0.length) c0), (3, .pointer (some ⟨q21, 0, none⟩)), (6, .pointer (some ⟨q29, 0, none⟩)), (7, .int .i64 ((stepProg a0 a1).2))] a ∧ Held Nob w [rBlk q29 43 [.int .i64 ((stepProg a0 a1).1.1), .slice Ar28_0_1 ((stepProg a0 a1).1.2.length) cr28_0_1], rO eStore Sr28 [.int .i64 ((stepProg a0 a1).1.1), .slice Ar28_0_1 ((stepProg a0 a1).1.2.length) cr28_0_1] ((stepProg a0 a1).1), rO eStore Sr27 [.int .i64 (a1.1), .slice Ar27_1 (a1.2.length) cr27_1] a1, rSo eInstr Sr26 Ar26 cr26 a0, rBlk q21 79 [.int .i64 (a1.1), .slice Az1_1 (a1.2.length) cz1_1]] w') ?_ ?_
      · refine dr_start (Held Nob w [rBlk q21 79 [.int .i64 (a1.1), .slice Az1_1 (a1.2.length) cz1_1]]) 11 #[false, false, false, false, false, false, false, false, false, false, false] hmix rfl rfl HH36 (fun _ h => h.sel [0] (by decide) rfl) fun w' HH47 => ?_
        have HS48 := HH47
        refine dr_take (i := 0) (ls' := #[true, false, false, false, false, false, false, false, false, false, false]) HE44 HS48 rfl (by kernel_rfl) (by kernel_rfl) (by kernel_rfl) (fun _ _ _ h => h) rfl (wt0 rfl) (x_move rfl) rfl rfl fun a_49 HE50 => ?_
        refine dr_take (i := 2) (ls' := #[true, false, true, false, false, false, false, false, false, false, false]) HE50 HS48 rfl (by kernel_rfl) (by kernel_rfl) (by kernel_rfl) (fun _ _ _ h => h) rfl (wt0 rfl) (x_loadN (cs := [.int .i64 (a1.1), .slice Az1_1 (a1.2.length) cz1_1]) tv_79 rfl rfl (c_blkN 0 rfl)) rfl rfl fun a_51 HE52 => ?_
        refine dr_two (i := 1) (j := 8) (ls' := #[true, true, true, false, false, false, false, false, false, false, false]) (ls'' := #[true, false, true, false, false, false, false, false, true, false, false]) rfl rfl (by kernel_rfl) rfl rfl (fun K_53 hK54 => ?_) (fun K_53 hK54 => ?_)
        · refine st_call HE52 (wt0 rfl) rfl rfl rfl en_29 rfl rfl (to_InstrS _ _ a0 _ (HH47.old h0) (by omega)) fun e w' hr => ?_
          obtain ⟨Ar26, cr26, rfl, hor26, hbr26⟩ := hr
          obtain ⟨Sr26, HH55⟩ := HH47.newS hbr26 hor26
          clear hbr26 hor26
          refine ⟨_, rfl, fun a_56 HE57 => hK54 _ _ (by exact HH55.sel [1] (by decide) rfl) ?_⟩
          have HS58 := HH55.sel [1] (by decide) rfl
          refine dr_two (i := 3) (j := 8) (ls' := #[true, true, true, true, false, false, false, false, false, false, false]) (ls'' := #[true, true, true, false, false, false, false, false, true, false, false]) rfl rfl (by kernel_rfl) rfl rfl (fun K_59 hK60 => ?_) (fun K_59 hK60 => ?_)
          · refine st_call HE57 (wt0 rfl) rfl rfl rfl en_59 rfl rfl (to_Store [.int .i64 (a1.1), .slice Az1_1 (a1.2.length) cz1_1] a1 _ (HH55.oldR H1) (by omega)) fun e w' hr => ?_
            obtain ⟨esr27, rfl, hor27, hbr27⟩ := hr
            have hr := eStore.read hor27
            obtain ⟨Sr27, HH61⟩ := HH55.newO hbr27 hor27
            obtain ⟨Ar27_1, cr27_1, rfl, gr27_0, gr27_1⟩ := shape_Store hr
            clear hbr27 hor27 gr27_0 gr27_1
            refine ⟨_, rfl, fun a_62 HE63 => hK60 _ _ (by exact HH61.sel [2] (by decide) rfl) ?_⟩
            have HS64 := HH61.sel [2] (by decide) rfl
            refine dr_two (i := 4) (j := 8) (ls' := #[true, true, true, true, true, false, false, false, false, false, false]) (ls'' := #[true, true, true, true, false, false, false, false, true, false, false]) rfl rfl (by kernel_rfl) rfl rfl (fun K_65 hK66 => ?_) (fun K_65 hK66 => ?_)
            · refine st_call HE63 (wt0 rfl) rfl rfl rfl en_58 rfl rfl (spec_StepProgram _ _ a0 [.int .i64 (a1.1), .slice Ar27_1 (a1.2.length) cr27_1] a1 _ (HH61.sl (i := 1) rfl) (HH61.rd (i := 0) rfl)) fun e w' hr => ?_
              obtain ⟨esr28_0, rfl, hor28_0, hbr28⟩ := hr
              have hr := eStore.read hor28_0
              obtain ⟨Sr28, HH67⟩ := HH61.newO hbr28 hor28_0
              obtain ⟨Ar28_0_1, cr28_0_1, rfl, gr28_0_0, gr28_0_1⟩ := shape_Store hr
              have jr28_0_0 := gr28_0_0; unfold I64 at jr28_0_0
              refine ⟨_, rfl, fun a_68 HE69 => hK66 _ _ (by exact HH67.sel [3] (by decide) rfl) ?_⟩
              have HS70 := HH67.sel [3] (by decide) rfl
              refine dr_take (i := 5) (ls' := #[true, true, true, true, true, true, false, false, false, false, false]) HE69 HS70 rfl (by kernel_rfl) (by kernel_rfl) (by kernel_rfl) (fun _ _ _ h => h) rfl (wt0 rfl) (x_move rfl) rfl rfl fun a_71 HE72 => ?_
              refine dr_take (i := 6) (ls' := #[true, true, true, true, true, true, true, false, false, false, false]) HE72 HS70 rfl (by kernel_rfl) (by kernel_rfl) (by kernel_rfl) (fun _ _ _ h => h) rfl (wt0 rfl) (x_extract rfl rfl) rfl rfl fun a_73 HE74 => ?_
              refine dr_take (i := 7) (ls' := #[true, true, true, true, true, true, true, true, false, false, false]) HE74 HS70 rfl (by kernel_rfl) (by kernel_rfl) (by kernel_rfl) (fun _ _ _ h => h) rfl (wt0 rfl) (x_extract rfl rfl) rfl rfl fun a_75 HE76 => ?_
              refine dr_one (i := 8) (ls' := #[true, true, true, true, true, true, true, true, true, false, false]) rfl (by kernel_rfl) rfl fun K_77 hK78 => ?_
              refine st_alloc HE76 HH67 tv_43 (wt0 rfl) rfl fun q29 a_79 w' HE80 HH81 => hK78 _ _ (by exact HH81.sel [4] (by decide) rfl) ?_
              have HS82 := HH81.sel [4] (by decide) rfl
              refine dr_one (i := 9) (ls' := #[true, true, true, true, true, true, true, true, true, true, false]) rfl (by kernel_rfl) rfl fun K_83 hK84 => ?_
              refine st_store (vs := [.int .i64 ((stepProg a0 a1).1.1), .slice Ar28_0_1 ((stepProg a0 a1).1.2.length) cr28_0_1]) 0 HE80 HH81 tv_43 rfl rfl rfl rfl rfl rfl (by simp [Value.oneCell']) (wt0 rfl) fun w' HH85 => hK84 _ _ (by exact HH85.sel [4] (by decide) rfl) ?_
              have HS86 := HH85.sel [4] (by decide) rfl
              refine dr_take (i := 10) (ls' := #[true, true, true, true, true, true, true, true, true, true, true]) HE80 HS86 rfl (by kernel_rfl) (by kernel_rfl) (by kernel_rfl) (fun _ _ _ h => h) rfl (wt0 rfl) (x_assign rfl) rfl rfl fun a_87 HE88 => ?_
              refine dr_done (by kernel_rfl) ?_
              clear HH36 a_43 HE44 a_49 HE50 HH47 a_51 HE52 HS48 K_53 hK54 HH55 a_56 HE57 HS58 K_59 hK60 HH61 a_62 HE63 HS64 a_68 HE69 a_71 HE72 a_73 HE74 K_65 hK66 a_75 HE76 HH67 HS70 K_77 hK78 HH81 HS82 a_79 HE80 hK84 K_83
              exact nrm ⟨_, _, _, _, _, _, _, _, _, _, HE88.sub ⟨rfl, rfl, rfl, rfl, trivial⟩, HH85.sel [0, 1, 2, 3, 4] (by decide) rfl⟩
            · refine st_alloc HE63 HH61 tv_43 (wt0 rfl) rfl fun q30 a_89 w' HE90 HH91 => hK66 _ _ (by exact HH91.sel [3] (by decide) rfl) ?_
              have HS92 := HH91.sel [3] (by decide) rfl
              refine dr_one (i := 4) (ls' := #[true, true, true, true, true, false, false, false, true, false, false]) rfl (by kernel_rfl) rfl fun K_93 hK94 => ?_
              refine st_call HE90 (wt0 rfl) rfl rfl rfl en_58 rfl rfl (spec_StepProgram _ _ a0 [.int .i64 (a1.1), .slice Ar27_1 (a1.2.length) cr27_1] a1 _ (HH91.sl (i := 2) rfl) (HH91.rd (i := 1) rfl)) fun e w' hr => ?_
              obtain ⟨esr31_0, rfl, hor31_0, hbr31⟩ := hr
              have hr := eStore.read hor31_0
              obtain ⟨Sr31, HH95⟩ := HH91.newO hbr31 hor31_0
              obtain ⟨Ar31_0_1, cr31_0_1, rfl, gr31_0_0, gr31_0_1⟩ := shape_Store hr
              have jr31_0_0 := gr31_0_0; unfold I64 at jr31_0_0
              refine ⟨_, rfl, fun a_96 HE97 => hK94 _ _ (by exact HH95.sel [4] (by decide) rfl) ?_⟩
              have HS98 := HH95.sel [4] (by decide) rfl
              refine dr_take (i := 5) (ls' := #[true, true, true, true, true, true, false, false, true, false, false]) HE97 HS98 rfl (by kernel_rfl) (by kernel_rfl) (by kernel_rfl) (fun _ _ _ h => h) rfl (wt0 rfl) (x_move rfl) rfl rfl fun a_99 HE100 => ?_
              refine dr_take (i := 6) (ls' := #[true, true, true, true, true, true, true, false, true, false, false]) HE100 HS98 rfl (by kernel_rfl) (by kernel_rfl) (by kernel_rfl) (fun _ _ _ h => h) rfl (wt0 rfl) (x_extract rfl rfl) rfl rfl fun a_101 HE102 => ?_
              refine dr_take (i := 7) (ls' := #[true, true, true, true, true, true, true, true, true, false, false]) HE102 HS98 rfl (by kernel_rfl) (by kernel_rfl) (by kernel_rfl) (fun _ _ _ h => h) rfl (wt0 rfl) (x_extract rfl rfl) rfl rfl fun a_103 HE104 => ?_
              refine dr_one (i := 9) (ls' := #[true, true, true, true, true, true, true, true, true, true, false]) rfl (by kernel_rfl) rfl fun K_105 hK106 => ?_
              refine st_store (vs := [.int .i64 ((stepProg a0 a1).1.1), .slice Ar31_0_1 ((stepProg a0 a1).1.2.length) cr31_0_1]) 1 HE104 HH95 tv_43 rfl rfl rfl rfl rfl rfl (by simp [Value.oneCell']) (wt0 rfl) fun w' HH107 => hK106 _ _ (by exact HH107.sel [4] (by decide) rfl) ?_
              have HS108 := HH107.sel [4] (by decide) rfl
              refine dr_take (i := 10) (ls' := #[true, true, true, true, true, true, true, true, true, true, true]) HE104 HS108 rfl (by kernel_rfl) (by kernel_rfl) (by kernel_rfl) (fun _ _ _ h => h) rfl (wt0 rfl) (x_assign rfl) rfl rfl fun a_109 HE110 => ?_
              refine dr_done (by kernel_rfl) ?_
              clear HH36 a_43 HE44 a_49 HE50 HH47 a_51 HE52 HS48 K_53 hK54 HH55 a_56 HE57 HS58 K_59 hK60 a_62 HE63 HH61 HS64 K_65 hK66 HH91 a_89 HE90 HS92 a_96 HE97 a_99 HE100 a_101 HE102 K_93 hK94 HH95 HS98 a_103 HE104 hK106 K_105
              exact nrm ⟨_, _, _, _, _, _, _, _, _, _, HE110.sub ⟨rfl, rfl, rfl, rfl, trivial⟩, HH107.sel [1, 0, 2, 3, 4] (by decide) rfl⟩
          · refine st_alloc HE57 HH55 tv_43 (wt0 rfl) rfl fun q32 a_111 w' HE112 HH113 => hK60 _ _ (by exact HH113.sel [2] (by decide) rfl) ?_
            have HS114 := HH113.sel [2] (by decide) rfl
            refine dr_one (i := 3) (ls' := #[true, true, true, true, false, false, false, false, true, false, false]) rfl (by kernel_rfl) rfl fun K_115 hK116 => ?_
            refine st_call HE112 (wt0 rfl) rfl rfl rfl en_59 rfl rfl (to_Store [.int .i64 (a1.1), .slice Az1_1 (a1.2.length) cz1_1] a1 _ (HH113.oldR H1) (by omega)) fun e w' hr => ?_
            obtain ⟨esr33, rfl, hor33, hbr33⟩ := hr
            have hr := eStore.read hor33
            obtain ⟨Sr33, HH117⟩ := HH113.newO hbr33 hor33
            obtain ⟨Ar33_1, cr33_1, rfl, gr33_0, gr33_1⟩ := shape_Store hr
            clear hbr33 hor33 gr33_0 gr33_1
            refine ⟨_, rfl, fun a_118 HE119 => hK116 _ _ (by exact HH117.sel [3] (by decide) rfl) ?_⟩
            have HS120 := HH117.sel [3] (by decide) rfl
            refine dr_one (i := 4) (ls' := #[true, true, true, true, true, false, false, false, true, false, false]) rfl (by kernel_rfl) rfl fun K_121 hK122 => ?_
            refine st_call HE119 (wt0 rfl) rfl rfl rfl en_58 rfl rfl (spec_StepProgram _ _ a0 [.int .i64 (a1.1), .slice Ar33_1 (a1.2.length) cr33_1] a1 _ (HH117.sl (i := 2) rfl) (HH117.rd (i := 0) rfl)) fun e w' hr => ?_
            obtain ⟨esr34_0, rfl, hor34_0, hbr34⟩ := hr
            have hr := eStore.read hor34_0
            obtain ⟨Sr34, HH123⟩ := HH117.newO hbr34 hor34_0
            obtain ⟨Ar34_0_1, cr34_0_1, rfl, gr34_0_0, gr34_0_1⟩ := shape_Store hr
            have jr34_0_0 := gr34_0_0; unfold I64 at jr34_0_0
            refine ⟨_, rfl, fun a_124 HE125 => hK122 _ _ (by exact HH123.sel [4] (by decide) rfl) ?_⟩
            have HS126 := HH123.sel [4] (by decide) rfl
            refine dr_take (i := 5) (ls' := #[true, true, true, true, true, true, false, false, true, false, false]) HE125 HS126 rfl (by kernel_rfl) (by kernel_rfl) (by kernel_rfl) (fun _ _ _ h => h) rfl (wt0 rfl) (x_move rfl) rfl rfl fun a_127 HE128 => ?_
            refine dr_take (i := 6) (ls' := #[true, true, true, true, true, true, true, false, true, false, false]) HE128 HS126 rfl (by kernel_rfl) (by kernel_rfl) (by kernel_rfl) (fun _ _ _ h => h) rfl (wt0 rfl) (x_extract rfl rfl) rfl rfl fun a_129 HE130 => ?_
            refine dr_take (i := 7) (ls' := #[true, true, true, true, true, true, true, true, true, false, false]) HE130 HS126 rfl (by kernel_rfl) (by kernel_rfl) (by kernel_rfl) (fun _ _ _ h => h) rfl (wt0 rfl) (x_extract rfl rfl) rfl rfl fun a_131 HE132 => ?_
            refine dr_one (i := 9) (ls' := #[true, true, true, true, true, true, true, true, true, true, false]) rfl (by kernel_rfl) rfl fun K_133 hK134 => ?_
            refine st_store (vs := [.int .i64 ((stepProg a0 a1).1.1), .slice Ar34_0_1 ((stepProg a0 a1).1.2.length) cr34_0_1]) 2 HE132 HH123 tv_43 rfl rfl rfl rfl rfl rfl (by simp [Value.oneCell']) (wt0 rfl) fun w' HH135 => hK134 _ _ (by exact HH135.sel [4] (by decide) rfl) ?_
            have HS136 := HH135.sel [4] (by decide) rfl
            refine dr_take (i := 10) (ls' := #[true, true, true, true, true, true, true, true, true, true, true]) HE132 HS136 rfl (by kernel_rfl) (by kernel_rfl) (by kernel_rfl) (fun _ _ _ h => h) rfl (wt0 rfl) (x_assign rfl) rfl rfl fun a_137 HE138 => ?_
            refine dr_done (by kernel_rfl) ?_
            clear HH36 a_43 HE44 a_49 HE50 HH47 a_51 HE52 HS48 K_53 hK54 a_56 HE57 HH55 HS58 K_59 hK60 HH113 a_111 HE112 HS114 K_115 hK116 HH117 a_118 HE119 HS120 a_124 HE125 a_127 HE128 a_129 HE130 K_121 hK122 HH123 HS126 a_131 HE132 hK134 K_133
            exact nrm ⟨_, _, _, _, _, _, _, _, _, _, HE138.sub ⟨rfl, rfl, rfl, rfl, trivial⟩, HH135.sel [2, 0, 1, 3, 4] (by decide) rfl⟩
        · refine st_alloc HE52 HH47 tv_43 (wt0 rfl) rfl fun q35 a_139 w' HE140 HH141 => hK54 _ _ (by exact HH141.sel [1] (by decide) rfl) ?_
          have HS142 := HH141.sel [1] (by decide) rfl
          refine dr_one (i := 1) (ls' := #[true, true, true, false, false, false, false, false, true, false, false]) rfl (by kernel_rfl) rfl fun K_143 hK144 => ?_
          refine st_call HE140 (wt0 rfl) rfl rfl rfl en_29 rfl rfl (to_InstrS _ _ a0 _ (HH141.old h0) (by omega)) fun e w' hr => ?_
          obtain ⟨Ar36, cr36, rfl, hor36, hbr36⟩ := hr
          obtain ⟨Sr36, HH145⟩ := HH141.newS hbr36 hor36
          clear hbr36 hor36
          refine ⟨_, rfl, fun a_146 HE147 => hK144 _ _ (by exact HH145.sel [2] (by decide) rfl) ?_⟩
          have HS148 := HH145.sel [2] (by decide) rfl
          refine dr_one (i := 3) (ls' := #[true, true, true, true, false, false, false, false, true, false, false]) rfl (by kernel_rfl) rfl fun K_149 hK150 => ?_
          refine st_call HE147 (wt0 rfl) rfl rfl rfl en_59 rfl rfl (to_Store [.int .i64 (a1.1), .slice Az1_1 (a1.2.length) cz1_1] a1 _ (HH145.oldR H1) (by omega)) fun e w' hr => ?_
          obtain ⟨esr37, rfl, hor37, hbr37⟩ := hr
          have hr := eStore.read hor37
          obtain ⟨Sr37, HH151⟩ := HH145.newO hbr37 hor37
          obtain ⟨Ar37_1, cr37_1, rfl, gr37_0, gr37_1⟩ := shape_Store hr
          clear hbr37 hor37 gr37_0 gr37_1
          refine ⟨_, rfl, fun a_152 HE153 => hK150 _ _ (by exact HH151.sel [3] (by decide) rfl) ?_⟩
          have HS154 := HH151.sel [3] (by decide) rfl
          refine dr_one (i := 4) (ls' := #[true, true, true, true, true, false, false, false, true, false, false]) rfl (by kernel_rfl) rfl fun K_155 hK156 => ?_
          refine st_call HE153 (wt0 rfl) rfl rfl rfl en_58 rfl rfl (spec_StepProgram _ _ a0 [.int .i64 (a1.1), .slice Ar37_1 (a1.2.length) cr37_1] a1 _ (HH151.sl (i := 1) rfl) (HH151.rd (i := 0) rfl)) fun e w' hr => ?_
          obtain ⟨esr38_0, rfl, hor38_0, hbr38⟩ := hr
          have hr := eStore.read hor38_0
          obtain ⟨Sr38, HH157⟩ := HH151.newO hbr38 hor38_0
          obtain ⟨Ar38_0_1, cr38_0_1, rfl, gr38_0_0, gr38_0_1⟩ := shape_Store hr
          have jr38_0_0 := gr38_0_0; unfold I64 at jr38_0_0
          refine ⟨_, rfl, fun a_158 HE159 => hK156 _ _ (by exact HH157.sel [4] (by decide) rfl) ?_⟩
          have HS160 := HH157.sel [4] (by decide) rfl
          refine dr_take (i := 5) (ls' := #[true, true, true, true, true, true, false, false, true, false, false]) HE159 HS160 rfl (by kernel_rfl) (by kernel_rfl) (by kernel_rfl) (fun _ _ _ h => h) rfl (wt0 rfl) (x_move rfl) rfl rfl fun a_161 HE162 => ?_
          refine dr_take (i := 6) (ls' := #[true, true, true, true, true, true, true, false, true, false, false]) HE162 HS160 rfl (by kernel_rfl) (by kernel_rfl) (by kernel_rfl) (fun _ _ _ h => h) rfl (wt0 rfl) (x_extract rfl rfl) rfl rfl fun a_163 HE164 => ?_
          refine dr_take (i := 7) (ls' := #[true, true, true, true, true, true, true, true, true, false, false]) HE164 HS160 rfl (by kernel_rfl) (by kernel_rfl) (by kernel_rfl) (fun _ _ _ h => h) rfl (wt0 rfl) (x_extract rfl rfl) rfl rfl fun a_165 HE166 => ?_
          refine dr_one (i := 9) (ls' := #[true, true, true, true, true, true, true, true, true, true, false]) rfl (by kernel_rfl) rfl fun K_167 hK168 => ?_
          refine st_store (vs := [.int .i64 ((stepProg a0 a1).1.1), .slice Ar38_0_1 ((stepProg a0 a1).1.2.length) cr38_0_1]) 3 HE166 HH157 tv_43 rfl rfl rfl rfl rfl rfl (by simp [Value.oneCell']) (wt0 rfl) fun w' HH169 => hK168 _ _ (by exact HH169.sel [4] (by decide) rfl) ?_
          have HS170 := HH169.sel [4] (by decide) rfl
          refine dr_take (i := 10) (ls' := #[true, true, true, true, true, true, true, true, true, true, true]) HE166 HS170 rfl (by kernel_rfl) (by kernel_rfl) (by kernel_rfl) (fun _ _ _ h => h) rfl (wt0 rfl) (x_assign rfl) rfl rfl fun a_171 HE172 => ?_
          refine dr_done (by kernel_rfl) ?_
          clear HH36 a_43 HE44 a_49 HE50 a_51 HE52 HH47 HS48 K_53 hK54 HH141 a_139 HE140 HS142 K_143 hK144 HH145 a_146 HE147 HS148 K_149 hK150 HH151 a_152 HE153 HS154 a_158 HE159 a_161 HE162 a_163 HE164 K_155 hK156 HH157 HS160 a_165 HE166 hK168 K_167
          exact nrm ⟨_, _, _, _, _, _, _, _, _, _, HE172.sub ⟨rfl, rfl, rfl, rfl, trivial⟩, HH169.sel [3, 0, 1, 2, 4] (by decide) rfl⟩
      · rintro a_173 w' ⟨q29, Ar28_0_1, cr28_0_1, Sr28, Sr27, Ar27_1, cr27_1, Sr26, Ar26, cr26, HE174, HH175⟩
        refine nrm ?_
        refine wp_seq ?_
        refine rg ?_
        refine pl_x HE174 HH175 (wt0 rfl) (x_move rfl) rfl rfl fun a_176 HE177 => ?_
        refine pl fun K_178 hK179 => ?_
        refine st_call HE177 (wt0 rfl) rfl rfl rfl en_29 rfl rfl (to_InstrS _ _ a0 _ (HH175.old h0) (by omega)) fun e w' hr => ?_
        obtain ⟨Ar39, cr39, rfl, hor39, hbr39⟩ := hr
        obtain ⟨Sr39, HH180⟩ := HH175.newS hbr39 hor39
        clear hbr39 hor39
        refine ⟨_, rfl, fun a_181 HE182 => hK179 _ _ ?_⟩
        refine pl_x HE182 HH180 (wt0 rfl) (x_assign rfl) rfl rfl fun a_183 HE184 => ?_
        refine wpList_nil ?_
        clear a_43 HE44 HH36 a_173 HE174 HH175 a_176 HE177 a_181 HE182 hK179 K_178
        refine nrm ?_
        refine wp_seq ?_
        refine rg ?_
        refine pl_x HE184 HH180 (wt0 rfl) (x_loadN (cs := [.int .i64 (a1.1), .slice Az1_1 (a1.2.length) cz1_1]) tv_79 rfl rfl (c_blkN 5 rfl)) rfl rfl fun a_185 HE186 => ?_
        refine pl fun K_187 hK188 => ?_
        refine st_call HE186 (wt0 rfl) rfl rfl rfl en_59 rfl rfl (to_Store [.int .i64 (a1.1), .slice Az1_1 (a1.2.length) cz1_1] a1 _ (HH180.oldR H1) (by omega)) fun e w' hr => ?_
        obtain ⟨esr40, rfl, hor40, hbr40⟩ := hr
        have hr := eStore.read hor40
        obtain ⟨Sr40, HH189⟩ := HH180.newO hbr40 hor40
        obtain ⟨Ar40_1, cr40_1, rfl, gr40_0, gr40_1⟩ := shape_Store hr
        clear hbr40 hor40 gr40_0 gr40_1
        refine ⟨_, rfl, fun a_190 HE191 => hK188 _ _ ?_⟩
        refine pl fun K_192 hK193 => ?_
        refine st_alloc HE191 HH189 tv_43 (wt0 rfl) rfl fun q41 a_194 w' HE195 HH196 => hK193 _ _ ?_
        refine pl fun K_197 hK198 => ?_
        refine st_store (vs := [.int .i64 (a1.1), .slice Ar40_1 (a1.2.length) cr40_1]) 0 HE195 HH196 tv_43 rfl rfl rfl rfl rfl rfl (by simp [Value.oneCell']) (wt0 rfl) fun w' HH199 => hK198 _ _ ?_
        refine wpList_nil ?_
        clear a_183 HE184 HH180 a_185 HE186 K_187 hK188 a_190 HE191 HH189 K_192 hK193 HH196 hK198 K_197
        refine nrm ?_
        refine wp_seq ?_
        refine rg ?_
        refine pl_x HE195 HH199 (wt0 rfl) (x_move rfl) rfl rfl fun a_200 HE201 => ?_
        refine pl_x HE201 HH199 (wt0 rfl) (x_loadN (cs := [.int .i64 (a1.1), .slice Ar40_1 (a1.2.length) cr40_1]) tv_43 rfl rfl (c_blkN 0 rfl)) rfl rfl fun a_202 HE203 => ?_
        refine pl fun K_204 hK205 => ?_
        refine st_call HE203 (wt0 rfl) rfl rfl rfl en_60 rfl rfl (impl_StepProgram _ _ a0 [.int .i64 (a1.1), .slice Ar40_1 (a1.2.length) cr40_1] a1 _ (HH199.sl (i := 2) rfl) (HH199.rd (i := 1) rfl)) fun e w' hr => ?_
        obtain ⟨esr42_0, rfl, hor42_0, hbr42⟩ := hr
        have hr := eStore.read hor42_0
        obtain ⟨Sr42, HH206⟩ := HH199.newO hbr42 hor42_0
        obtain ⟨Ar42_0_1, cr42_0_1, rfl, gr42_0_0, gr42_0_1⟩ := shape_Store hr
        have jr42_0_0 := gr42_0_0; unfold I64 at jr42_0_0
        refine ⟨_, rfl, fun a_207 HE208 => hK205 _ _ ?_⟩
        refine pl_x HE208 HH206 (wt0 rfl) (x_move rfl) rfl rfl fun a_209 HE210 => ?_
        refine pl_x HE210 HH206 (wt0 rfl) (x_extract rfl rfl) rfl rfl fun a_211 HE212 => ?_
        refine pl_x HE212 HH206 (wt0 rfl) (x_extract rfl rfl) rfl rfl fun a_213 HE214 => ?_
        refine pl fun K_215 hK216 => ?_
        refine st_alloc HE214 HH206 tv_43 (wt0 rfl) rfl fun q43 a_217 w' HE218 HH219 => hK216 _ _ ?_
        refine pl fun K_220 hK221 => ?_
        refine st_store (vs := [.int .i64 ((stepProg a0 a1).1.1), .slice Ar42_0_1 ((stepProg a0 a1).1.2.length) cr42_0_1]) 0 HE218 HH219 tv_43 rfl rfl rfl rfl rfl rfl (by simp [Value.oneCell']) (wt0 rfl) fun w' HH222 => hK221 _ _ ?_
        refine pl_x HE218 HH222 (wt0 rfl) (x_assign rfl) rfl rfl fun a_223 HE224 => ?_
        refine wpList_nil ?_
        clear a_194 HE195 a_200 HE201 HH199 a_202 HE203 a_207 HE208 a_209 HE210 a_211 HE212 K_204 hK205 a_213 HE214 HH206 K_215 hK216 HH219 a_217 HE218 hK221 K_220
        refine nrm ?_
        refine wp_seq ?_
        refine wp_seq ?_
        refine rg ?_
        refine pl_x HE224 HH222 (wt0 rfl) (x_loadN (cs := [.int .i64 ((stepProg a0 a1).1.1), .slice Ar42_0_1 ((stepProg a0 a1).1.2.length) cr42_0_1]) tv_43 rfl rfl (c_blkN 0 rfl)) rfl rfl fun a_225 HE226 => ?_
        refine pl_x HE226 HH222 (wt0 rfl) (x_loadN (cs := [.int .i64 ((stepProg a0 a1).1.1), .slice Ar28_0_1 ((stepProg a0 a1).1.2.length) cr28_0_1]) tv_43 rfl rfl (c_blkN 5 rfl)) rfl rfl fun a_227 HE228 => ?_
        refine pl fun K_229 hK230 => ?_
        refine st_call HE228 (wt0 rfl) rfl rfl rfl en_31 rfl rfl (eq_Store_c [.int .i64 ((stepProg a0 a1).1.1), .slice Ar42_0_1 ((stepProg a0 a1).1.2.length) cr42_0_1] [.int .i64 ((stepProg a0 a1).1.1), .slice Ar28_0_1 ((stepProg a0 a1).1.2.length) cr28_0_1] ((stepProg a0 a1).1) ((stepProg a0 a1).1) _ (HH222.rd (i := 1) rfl) (HH222.rd (i := 6) rfl)) fun e w' hr => ?_
        obtain ⟨rfl, hbr44⟩ := hr
        have HH231 := HH222.on hbr44
        clear hbr44
        refine ⟨_, rfl, fun a_232 HE233 => hK230 _ _ ?_⟩
        refine pl_x HE233 HH231 (wt0 rfl) (x_not rfl) rfl rfl fun a_234 HE235 => ?_
        refine pl_x HE235 HH231 (wt0 rfl) (x_move rfl) rfl rfl fun a_236 HE237 => ?_
        refine pl_x HE237 HH231 (wtT HE237 rfl rfl rfl (not_f (eq_Store_refl _))) (x_move rfl) rfl rfl fun a_238 HE239 => ?_
        refine pl_x HE239 HH231 (wtT HE239 rfl rfl rfl (not_f (eq_Store_refl _))) (x_move rfl) rfl rfl fun a_240 HE241 => ?_
        refine pl_x HE241 HH231 (wtT HE241 rfl rfl rfl (not_f (eq_Store_refl _))) (x_neq rfl rfl) rfl rfl fun a_242 HE243 => ?_
        refine pl_x HE243 HH231 (wt0 rfl) (x_pickF rfl (not_f (eq_Store_refl _)) rfl) rfl rfl fun a_244 HE245 => ?_
        refine wpList_nil ?_
        clear a_223 HE224 a_225 HE226 HH222 a_227 HE228 a_232 HE233 a_234 HE235 a_236 HE237 a_238 HE239 a_240 HE241 a_242 HE243 hK230 K_229
        refine nrm ?_
        refine cndF HE245 rfl (bne_f rfl) ?_
        refine wp_skip ?_
        refine nrm ?_
        refine wp_seq ?_
        refine wp_seq ?_
        refine rg ?_
        refine pl_x HE245 HH231 (wt0 rfl) (x_move rfl) rfl rfl fun a_246 HE247 => ?_
        refine pl_x HE247 HH231 (wt0 rfl) (x_move rfl) rfl rfl fun a_248 HE249 => ?_
        refine pl fun K_250 hK251 => ?_
        refine st_call HE249 (wt0 rfl) rfl rfl rfl en_29 rfl rfl (to_InstrS _ _ a0 _ (HH231.old h0) (by omega)) fun e w' hr => ?_
        obtain ⟨Ar45, cr45, rfl, hor45, hbr45⟩ := hr
        obtain ⟨Sr45, HH252⟩ := HH231.newS hbr45 hor45
        clear hbr45 hor45
        refine ⟨_, rfl, fun a_253 HE254 => hK251 _ _ ?_⟩
        refine pl fun K_255 hK256 => ?_
        refine st_call HE254 (wt0 rfl) rfl rfl rfl en_32 rfl rfl (eq_SInstr_c _ _ _ _ a0 a0 _ (HH252.sl (i := 5) rfl) (HH252.sl (i := 0) rfl)) fun e w' hr => ?_
        obtain ⟨rfl, hbr46⟩ := hr
        have HH257 := HH252.on hbr46
        clear hbr46
        refine ⟨_, rfl, fun a_258 HE259 => hK256 _ _ ?_⟩
        refine pl_x HE259 HH257 (wt0 rfl) (x_not rfl) rfl rfl fun a_260 HE261 => ?_
        refine wpList_nil ?_
        clear a_244 HE245 a_246 HE247 HH231 a_248 HE249 K_250 hK251 HH252 a_253 HE254 a_258 HE259 hK256 K_255
        refine nrm ?_
        refine cndF HE261 rfl (not_f (eq_SInstr_refl _)) ?_
        refine wp_skip ?_
        refine nrm ?_
        refine wp_seq ?_
        refine wp_seq ?_
        refine dr_start (Held Nob w [rSo eInstr Sr45 Ar45 cr45 a0, rBlk q43 43 [.int .i64 ((stepProg a0 a1).1.1), .slice Ar42_0_1 ((stepProg a0 a1).1.2.length) cr42_0_1], rO eStore Sr42 [.int .i64 ((stepProg a0 a1).1.1), .slice Ar42_0_1 ((stepProg a0 a1).1.2.length) cr42_0_1] ((stepProg a0 a1).1), rBlk q41 43 [.int .i64 (a1.1), .slice Ar40_1 (a1.2.length) cr40_1], rO eStore Sr40 [.int .i64 (a1.1), .slice Ar40_1 (a1.2.length) cr40_1] a1, rSo eInstr Sr39 Ar39 cr39 a0, rBlk q29 43 [.int .i64 ((stepProg a0 a1).1.1), .slice Ar28_0_1 ((stepProg a0 a1).1.2.length) cr28_0_1], rO eStore Sr28 [.int .i64 ((stepProg a0 a1).1.1), .slice Ar28_0_1 ((stepProg a0 a1).1.2.length) cr28_0_1] ((stepProg a0 a1).1), rO eStore Sr27 [.int .i64 (a1.1), .slice Ar27_1 (a1.2.length) cr27_1] a1, rSo eInstr Sr26 Ar26 cr26 a0, rBlk q21 79 [.int .i64 (a1.1), .slice Az1_1 (a1.2.length) cz1_1]]) 5 #[false, false, false, false, false] hmix rfl rfl HH257 (fun _ h => h.sel [0, 1, 2, 3, 4, 5, 6, 7, 8, 9, 10] (by decide) rfl) fun w' HH262 => ?_
        have HS263 := HH262
        refine dr_take (i := 0) (ls' := #[true, false, false, false, false]) HE261 HS263 rfl (by kernel_rfl) (by kernel_rfl) (by kernel_rfl) (fun _ _ _ h => h) rfl (wt0 rfl) (x_loadN (cs := [.int .i64 (a1.1), .slice Ar40_1 (a1.2.length) cr40_1]) tv_43 rfl rfl (c_blkN 3 rfl)) rfl rfl fun a_264 HE265 => ?_
        refine dr_take (i := 1) (ls' := #[true, true, false, false, false]) HE265 HS263 rfl (by kernel_rfl) (by kernel_rfl) (by kernel_rfl) (fun _ _ _ h => h) rfl (wt0 rfl) (x_loadN (cs := [.int .i64 (a1.1), .slice Az1_1 (a1.2.length) cz1_1]) tv_79 rfl rfl (c_blkN 10 rfl)) rfl rfl fun a_266 HE267 => ?_
        refine dr_one (i := 2) (ls' := #[true, true, true, false, false]) rfl (by kernel_rfl) rfl fun K_268 hK269 => ?_
        refine st_call HE267 (wt0 rfl) rfl rfl rfl en_59 rfl rfl (to_Store [.int .i64 (a1.1), .slice Az1_1 (a1.2.length) cz1_1] a1 _ (HH262.oldR H1) (by omega)) fun e w' hr => ?_
        obtain ⟨esr47, rfl, hor47, hbr47⟩ := hr
        have hr := eStore.read hor47
        obtain ⟨Sr47, HH270⟩ := HH262.newO hbr47 hor47
        obtain ⟨Ar47_1, cr47_1, rfl, gr47_0, gr47_1⟩ := shape_Store hr
        clear hbr47 hor47 gr47_0 gr47_1
        refine ⟨_, rfl, fun a_271 HE272 => hK269 _ _ (by exact HH270.sel [1, 2, 3, 4, 5, 6, 7, 8, 9, 10, 11] (by decide) rfl) ?_⟩
        have HS273 := HH270.sel [1, 2, 3, 4, 5, 6, 7, 8, 9, 10, 11] (by decide) rfl
        refine dr_one (i := 3) (ls' := #[true, true, true, true, false]) rfl (by kernel_rfl) rfl fun K_274 hK275 => ?_
        refine st_call HE272 (wt0 rfl) rfl rfl rfl en_31 rfl rfl (eq_Store_c [.int .i64 (a1.1), .slice Ar40_1 (a1.2.length) cr40_1] [.int .i64 (a1.1), .slice Ar47_1 (a1.2.length) cr47_1] a1 a1 _ (HH270.rd (i := 5) rfl) (HH270.rd (i := 0) rfl)) fun e w' hr => ?_
        obtain ⟨rfl, hbr48⟩ := hr
        have HH276 := HH270.on hbr48
        clear hbr48
        refine ⟨_, rfl, fun a_277 HE278 => hK275 _ _ (by exact HH276.sel [1, 2, 3, 4, 5, 6, 7, 8, 9, 10, 11] (by decide) rfl) ?_⟩
        have HS279 := HH276.sel [1, 2, 3, 4, 5, 6, 7, 8, 9, 10, 11] (by decide) rfl
        refine dr_take (i := 4) (ls' := #[true, true, true, true, true]) HE278 HS279 rfl (by kernel_rfl) (by kernel_rfl) (by kernel_rfl) (fun _ _ _ h => h) rfl (wt0 rfl) (x_not rfl) rfl rfl fun a_280 HE281 => ?_
        refine dr_done (by kernel_rfl) ?_
        clear HH257 a_260 HE261 a_264 HE265 HH262 a_266 HE267 HS263 K_268 hK269 HH270 a_271 HE272 HS273 a_277 HE278 hK275 K_274
        refine nrm ?_
        refine cndF HE281 rfl (not_f (eq_Store_refl _)) ?_
        refine wp_skip ?_
        refine nrm ?_
        refine wp_seq ?_
        refine rg ?_
        refine pl_x HE281 HH276 (wt0 rfl) (x_assign rfl) rfl rfl fun a_282 HE283 => ?_
        refine wpList_nil ?_
        clear a_280 HE281
        refine nrm ?_
        refine wp_seq ?_
        refine rg ?_
        refine pl_x HE283 HH276 (wt0 rfl) (x_move rfl) rfl rfl fun a_284 HE285 => ?_
        refine pl_x HE285 HH276 (wt0 rfl) (x_move rfl) rfl rfl fun a_286 HE287 => ?_
        refine pl fun K_288 hK289 => ?_
        refine st_call HE287 (wt0 rfl) rfl rfl rfl en_33 rfl rfl (mark_SInstr_c _ _ a0 1 _ _ (so_of_o (HH276.get (i := 6) rfl)) (HH276.lt (i := 6) rfl) (by omega) (by omega)) fun e w' hr => ?_
        obtain ⟨rfl, hsr49, hcr49⟩ := hr
        have HH290 := HH276.mut (i := 6) rfl hcr49 (rSo eInstr Sr39 Ar39 cr39 (mk_SInstr a0 1)) (oSl hsr49) (fun b hb => .inl hb)
        clear hsr49 hcr49
        refine ⟨_, rfl, fun a_291 HE292 => hK289 _ _ ?_⟩
        refine pl_x HE292 HH290 (wt0 rfl) (x_assign rfl) rfl rfl fun a_293 HE294 => ?_
        refine wpList_nil ?_
        clear a_282 HE283 a_284 HE285 HH276 a_286 HE287 a_291 HE292 hK289 K_288
        refine nrm ?_
        refine wp_seq ?_
        refine rg ?_
        refine pl_x HE294 HH290 (wt0 rfl) (x_loadN (cs := [.int .i64 (a1.1), .slice Ar40_1 (a1.2.length) cr40_1]) tv_43 rfl rfl (c_blkN 4 rfl)) rfl rfl fun a_295 HE296 => ?_
        refine pl_x HE296 HH290 (wt0 rfl) (x_move rfl) rfl rfl fun a_297 HE298 => ?_
        refine pl fun K_299 hK300 => ?_
        refine st_call HE298 (wt0 rfl) rfl rfl rfl en_35 rfl rfl (mark_Store_c [.int .i64 (a1.1), .slice Ar40_1 (a1.2.length) cr40_1] a1 (1 + (ct_SInstr a0 : Int)) _ _ (HH290.get (i := 5) rfl) (HH290.lt (i := 5) rfl) (by omega) (by omega)) fun e w' hr => ?_
        obtain ⟨rfl, hsr50, hcr50⟩ := hr
        have HH301 := HH290.mut (i := 5) rfl hcr50 (rO eStore Sr40 [.int .i64 (a1.1), .slice Ar40_1 (a1.2.length) cr40_1] (mv_Store a1 (1 + (ct_SInstr a0 : Int)))) hsr50 (fun b hb => .inl hb)
        clear hsr50 hcr50
        refine ⟨_, rfl, fun a_302 HE303 => hK300 _ _ ?_⟩
        refine pl_x HE303 HH301 (wt0 rfl) (x_assign rfl) rfl rfl fun a_304 HE305 => ?_
        refine wpList_nil ?_
        clear a_293 HE294 a_295 HE296 HH290 a_297 HE298 a_302 HE303 hK300 K_299
        refine nrm ?_
        refine wp_seq ?_
        refine wp_seq ?_
        refine rg ?_
        refine pl_x HE305 HH301 (wt0 rfl) (x_move rfl) rfl rfl fun a_306 HE307 => ?_
        refine pl_x HE307 HH301 (wt0 rfl) (x_lss rfl rfl) rfl rfl fun a_308 HE309 => ?_
        refine pl_x HE309 HH301 (wt0 rfl) (x_move rfl) rfl rfl fun a_310 HE311 => ?_
        by_cases hc51 : ((1 + (ct_SInstr a0 : Int)) + (cv_Store a1 : Int)) < 0
        · refine pl_no HE311 (wtF HE311 rfl rfl rfl (decide_eq_true hc51)) rfl rfl fun a_312 HE313 => ?_
          refine pl_no HE313 (wtF HE313 rfl rfl rfl (decide_eq_true hc51)) rfl rfl fun a_314 HE315 => ?_
          refine pl_no HE315 (wtF HE315 rfl rfl rfl (decide_eq_true hc51)) rfl rfl fun a_316 HE317 => ?_
          refine pl_no HE317 (wtF HE317 rfl rfl rfl (decide_eq_true hc51)) rfl rfl fun a_318 HE319 => ?_
          refine pl_x HE319 HH301 (wt0 rfl) (x_pickT rfl (decide_eq_true hc51) rfl) rfl rfl fun a_320 HE321 => ?_
          refine pl_x HE321 HH301 (wt0 rfl) (x_move rfl) rfl rfl fun a_322 HE323 => ?_
          refine pl_no HE323 (wtF HE323 rfl rfl rfl rfl) rfl rfl fun a_324 HE325 => ?_
          refine pl_no HE325 (wtF HE325 rfl rfl rfl rfl) rfl rfl fun a_326 HE327 => ?_
          refine pl_no HE327 (wtF HE327 rfl rfl rfl rfl) rfl rfl fun a_328 HE329 => ?_
          refine pl_x HE329 HH301 (wt0 rfl) (x_pickT rfl rfl rfl) rfl rfl fun a_330 HE331 => ?_
          refine wpList_nil ?_
          clear a_304 HE305 a_306 HE307 a_308 HE309 a_310 HE311 a_312 HE313 a_314 HE315 a_316 HE317 a_318 HE319 a_320 HE321 a_322 HE323 a_324 HE325 a_326 HE327 a_328 HE329
          refine nrm ?_
          refine cndT HE331 rfl rfl ?_
          refine wp_seq ?_
          refine rg ?_
          refine pl_x HE331 HH301 (wt0 rfl) (x_assign rfl) rfl rfl fun a_332 HE333 => ?_
          refine wpList_nil ?_
          clear a_330 HE331
          refine nrm ?_
          refine wp_ret ?_
          refine (thn_ret ?_)
          refine ret1 HE333 rfl (rv_tmp rfl) ?_
          have hF : true = false := by
            first | rfl | (exfalso; omega)
          exact ⟨by rw [hF] <;> rfl, HH301.below⟩
        · refine pl_x HE311 HH301 (wtT HE311 rfl rfl rfl (decide_eq_false hc51)) (x_loadN (cs := [.int .i64 ((stepProg a0 a1).1.1), .slice Ar42_0_1 ((stepProg a0 a1).1.2.length) cr42_0_1]) tv_43 rfl rfl (c_blkN 2 rfl)) rfl rfl fun a_334 HE335 => ?_
          refine pl_x HE335 HH301 (wtT HE335 rfl rfl rfl (decide_eq_false hc51)) (x_loadN (cs := [.int .i64 ((stepProg a0 a1).1.1), .slice Ar28_0_1 ((stepProg a0 a1).1.2.length) cr28_0_1]) tv_43 rfl rfl (c_blkN 7 rfl)) rfl rfl fun a_336 HE337 => ?_
          refine pl fun K_338 hK339 => ?_
          refine st_call HE337 (wtT HE337 rfl rfl rfl (decide_eq_false hc51)) rfl rfl rfl en_31 rfl rfl (eq_Store_c [.int .i64 ((stepProg a0 a1).1.1), .slice Ar42_0_1 ((stepProg a0 a1).1.2.length) cr42_0_1] [.int .i64 ((stepProg a0 a1).1.1), .slice Ar28_0_1 ((stepProg a0 a1).1.2.length) cr28_0_1] ((stepProg a0 a1).1) ((stepProg a0 a1).1) _ (HH301.rd (i := 3) rfl) (HH301.rd (i := 8) rfl)) fun e w' hr => ?_
          obtain ⟨rfl, hbr52⟩ := hr
          have HH340 := HH301.on hbr52
          clear hbr52
          refine ⟨_, rfl, fun a_341 HE342 => hK339 _ _ ?_⟩
          refine pl_x HE342 HH340 (wtT HE342 rfl rfl rfl (decide_eq_false hc51)) (x_not rfl) rfl rfl fun a_343 HE344 => ?_
          refine pl_x HE344 HH340 (wt0 rfl) (x_pickF rfl (decide_eq_false hc51) rfl) rfl rfl fun a_345 HE346 => ?_
          refine pl_x HE346 HH340 (wt0 rfl) (x_move rfl) rfl rfl fun a_347 HE348 => ?_
          refine pl_x HE348 HH340 (wtT HE348 rfl rfl rfl (not_f (eq_Store_refl _))) (x_move rfl) rfl rfl fun a_349 HE350 => ?_
          refine pl_x HE350 HH340 (wtT HE350 rfl rfl rfl (not_f (eq_Store_refl _))) (x_move rfl) rfl rfl fun a_351 HE352 => ?_
          refine pl_x HE352 HH340 (wtT HE352 rfl rfl rfl (not_f (eq_Store_refl _))) (x_neq rfl rfl) rfl rfl fun a_353 HE354 => ?_
          refine pl_x HE354 HH340 (wt0 rfl) (x_pickF rfl (not_f (eq_Store_refl _)) rfl) rfl rfl fun a_355 HE356 => ?_
          refine wpList_nil ?_
          clear a_304 HE305 a_306 HE307 a_308 HE309 a_310 HE311 a_334 HE335 HH301 a_336 HE337 a_341 HE342 a_343 HE344 a_345 HE346 a_347 HE348 a_349 HE350 a_351 HE352 a_353 HE354 hK339 K_338
          refine nrm ?_
          refine cndF HE356 rfl (bne_f rfl) ?_
          refine wp_skip ?_
          refine nrm ?_
          refine wp_seq ?_
          refine rg ?_
          refine pl_x HE356 HH340 (wt0 rfl) (x_assign rfl) rfl rfl fun a_357 HE358 => ?_
          refine wpList_nil ?_
          clear a_355 HE356
          refine nrm ?_
          refine wp_seq ?_
          refine rg ?_
          refine pl_x HE358 HH340 (wt0 rfl) (x_loadN (cs := [.int .i64 ((stepProg a0 a1).1.1), .slice Ar42_0_1 ((stepProg a0 a1).1.2.length) cr42_0_1]) tv_43 rfl rfl (c_blkN 2 rfl)) rfl rfl fun a_359 HE360 => ?_
          refine pl_x HE360 HH340 (wt0 rfl) (x_move rfl) rfl rfl fun a_361 HE362 => ?_
          refine pl fun K_363 hK364 => ?_
          refine st_call HE362 (wt0 rfl) rfl rfl rfl en_35 rfl rfl (mark_Store_c [.int .i64 ((stepProg a0 a1).1.1), .slice Ar42_0_1 ((stepProg a0 a1).1.2.length) cr42_0_1] ((stepProg a0 a1).1) 1 _ _ (HH340.get (i := 3) rfl) (HH340.lt (i := 3) rfl) (by omega) (by omega)) fun e w' hr => ?_
          obtain ⟨rfl, hsr53, hcr53⟩ := hr
          have HH365 := HH340.mut (i := 3) rfl hcr53 (rO eStore Sr42 [.int .i64 ((stepProg a0 a1).1.1), .slice Ar42_0_1 ((stepProg a0 a1).1.2.length) cr42_0_1] (mv_Store ((stepProg a0 a1).1) 1)) hsr53 (fun b hb => .inl hb)
          clear hsr53 hcr53
          refine ⟨_, rfl, fun a_366 HE367 => hK364 _ _ ?_⟩
          refine pl_x HE367 HH365 (wt0 rfl) (x_assign rfl) rfl rfl fun a_368 HE369 => ?_
          refine wpList_nil ?_
          clear a_357 HE358 a_359 HE360 HH340 a_361 HE362 a_366 HE367 hK364 K_363
          refine nrm ?_
          refine wp_seq ?_
          refine rg ?_
          refine pl_x HE369 HH365 (wt0 rfl) (x_assign rfl) rfl rfl fun a_370 HE371 => ?_
          refine wpList_nil ?_
          clear a_368 HE369
          refine nrm ?_
          refine wp_seq ?_
          refine rg ?_
          refine pl_x HE371 HH365 (wt0 rfl) (x_loadN (cs := [.int .i64 ((stepProg a0 a1).1.1), .slice Ar42_0_1 ((stepProg a0 a1).1.2.length) cr42_0_1]) tv_43 rfl rfl (c_blkN 2 rfl)) rfl rfl fun a_372 HE373 => ?_
          refine pl_x HE373 HH365 (wt0 rfl) (x_move rfl) rfl rfl fun a_374 HE375 => ?_
          refine pl fun K_376 hK377 => ?_
          refine st_call HE375 (wt0 rfl) rfl rfl rfl en_36 rfl rfl (held_Store_c [.int .i64 ((stepProg a0 a1).1.1), .slice Ar42_0_1 ((stepProg a0 a1).1.2.length) cr42_0_1] ((stepProg a0 a1).1) 1 _ (HH365.rd (i := 3) rfl) (by omega) (by omega)) fun e w' hr => ?_
          obtain ⟨rfl, hbr54⟩ := hr
          have HH378 := HH365.on hbr54
          clear hbr54
          refine ⟨_, rfl, fun a_379 HE380 => hK377 _ _ ?_⟩
          refine pl_x HE380 HH378 (wt0 rfl) (x_assign rfl) rfl rfl fun a_381 HE382 => ?_
          refine wpList_nil ?_
          clear a_370 HE371 a_372 HE373 HH365 a_374 HE375 a_379 HE380 hK377 K_376
          refine nrm ?_
          refine wp_seq ?_
          refine wp_seq ?_
          refine rg ?_
          refine pl_x HE382 HH378 (wt0 rfl) (x_move rfl) rfl rfl fun a_383 HE384 => ?_
          refine pl_x HE384 HH378 (wt0 rfl) (x_lss rfl rfl) rfl rfl fun a_385 HE386 => ?_
          refine wpList_nil ?_
          clear a_381 HE382 a_383 HE384
          refine nrm ?_
          refine cnd_d HE386 rfl (fun hc55 => ?_) (fun hc55 => ?_)
          · refine wp_seq ?_
            refine rg ?_
            refine pl_x HE386 HH378 (wt0 rfl) (x_assign rfl) rfl rfl fun a_387 HE388 => ?_
            refine wpList_nil ?_
            clear a_385 HE386
            refine nrm ?_
            refine wp_ret ?_
            refine (thn_ret ?_)
            refine ret1 HE388 rfl (rv_tmp rfl) ?_
            have hF : true = false := by
              first | rfl | (exfalso; omega)
            exact ⟨by rw [hF] <;> rfl, HH378.below⟩
          · refine wp_skip ?_
            refine nrm ?_
            refine wp_seq ?_
            refine wp_seq ?_
            refine rg ?_
            refine pl_x HE386 HH378 (wt0 rfl) (x_move rfl) rfl rfl fun a_389 HE390 => ?_
            refine pl_x HE390 HH378 (wt0 rfl) (x_move rfl) rfl rfl fun a_391 HE392 => ?_
            refine pl_x HE392 HH378 (wt0 rfl) (x_neq rfl rfl) rfl rfl fun a_393 HE394 => ?_
            refine wpList_nil ?_
            clear a_385 HE386 a_389 HE390 a_391 HE392
            refine nrm ?_
            refine cndF HE394 rfl (bne_f rfl) ?_
            refine wp_skip ?_
            refine nrm ?_
            refine wp_seq ?_
            refine wp_join (fun a w' => ∃ (q59 : Nat), ∃ (Ar58_0_1 : Option Addr), ∃ (cr58_0_1 : Nat), ∃ (Sr58 : Nat → Prop), ∃ (Sr57 : Nat → Prop), ∃ (Ar57_1 : Option Addr), ∃ (cr57_1 : Nat), ∃ (Sr56 : Nat → Prop), ∃ (Ar56 : Option Addr), ∃ (cr56 : Nat), Env 119 [(6, .pointer (some ⟨q29, 0, none⟩)), (7, .int .i64 ((stepProg a0 a1).2)), (10, .pointer (some ⟨q43, 0, none⟩)), (13, .int .i64 ((1 + (cv_Store ((stepProg a0 a1).1) : Int)))), (15, .pointer (some ⟨q59, 0, none⟩)), (16, .int .i64 ((stepProg a0 a1).2))] a ∧ Held Nob w [rBlk q59 43 [.int .i64 ((stepProg a0 a1).1.1), .slice Ar58_0_1 ((stepProg a0 a1).1.2.length) cr58_0_1], rO eStore Sr58 [.int .i64 ((stepProg a0 a1).1.1), .slice Ar58_0_1 ((stepProg a0 a1).1.2.length) cr58_0_1] ((stepProg a0 a1).1), rO eStore Sr57 [.int .i64 (a1.1), .slice Ar57_1 (a1.2.length) cr57_1] a1, rSo eInstr Sr56 Ar56 cr56 a0, rO eStore Sr47 [.int .i64 (a1.1), .slice Ar47_1 (a1.2.length) cr47_1] a1, rSo eInstr Sr45 Ar45 cr45 a0, rBlk q43 43 [.int .i64 ((stepProg a0 a1).1.1), .slice Ar42_0_1 ((stepProg a0 a1).1.2.length) cr42_0_1], rO eStore Sr42 [.int .i64 ((stepProg a0 a1).1.1), .slice Ar42_0_1 ((stepProg a0 a1).1.2.length) cr42_0_1] (mv_Store ((stepProg a0 a1).1) 1), rBlk q41 43 [.int .i64 (a1.1), .slice Ar40_1 (a1.2.length) cr40_1], rO eStore Sr40 [.int .i64 (a1.1), .slice Ar40_1 (a1.2.length) cr40_1] (mv_Store a1 (1 + (ct_SInstr a0 : Int))), rSo eInstr Sr39 Ar39 cr39 (mk_SInstr a0 1), rBlk q29 43 [.int .i64 ((stepProg a0 a1).1.1), .slice Ar28_0_1 ((stepProg a0 a1).1.2.length) cr28_0_1], rO eStore Sr28 [.int .i64 ((stepProg a0 a1).1.1), .slice Ar28_0_1 ((stepProg a0 a1).1.2.length) cr28_0_1] ((stepProg a0 a1).1), rO eStore Sr27 [.int .i64 (a1.1), .slice Ar27_1 (a1.2.length) cr27_1] a1, rSo eInstr Sr26 Ar26 cr26 a0, rBlk q21 79 [.int .i64 (a1.1), .slice Az1_1 (a1.2.length) cz1_1]] w') ?_ ?_
            · refine dr_start (Held Nob w [rO eStore Sr47 [.int .i64 (a1.1), .slice Ar47_1 (a1.2.length) cr47_1] a1, rSo eInstr Sr45 Ar45 cr45 a0, rBlk q43 43 [.int .i64 ((stepProg a0 a1).1.1), .slice Ar42_0_1 ((stepProg a0 a1).1.2.length) cr42_0_1], rO eStore Sr42 [.int .i64 ((stepProg a0 a1).1.1), .slice Ar42_0_1 ((stepProg a0 a1).1.2.length) cr42_0_1] (mv_Store ((stepProg a0 a1).1) 1), rBlk q41 43 [.int .i64 (a1.1), .slice Ar40_1 (a1.2.length) cr40_1], rO eStore Sr40 [.int .i64 (a1.1), .slice Ar40_1 (a1.2.length) cr40_1] (mv_Store a1 (1 + (ct_SInstr a0 : Int))), rSo eInstr Sr39 Ar39 cr39 (mk_SInstr a0 1), rBlk q29 43 [.int .i64 ((stepProg a0 a1).1.1), .slice Ar28_0_1 ((stepProg a0 a1).1.2.length) cr28_0_1], rO eStore Sr28 [.int .i64 ((stepProg a0 a1).1.1), .slice Ar28_0_1 ((stepProg a0 a1).1.2.length) cr28_0_1] ((stepProg a0 a1).1), rO eStore Sr27 [.int .i64 (a1.1), .slice Ar27_1 (a1.2.length) cr27_1] a1, rSo eInstr Sr26 Ar26 cr26 a0, rBlk q21 79 [.int .i64 (a1.1), .slice Az1_1 (a1.2.length) cz1_1]]) 11 #[false, false, false, false, false, false, false, false, false, false, false] hmix rfl rfl HH378 (fun _ h => h.sel [0, 1, 2, 3, 4, 5, 6, 7, 8, 9, 10, 11] (by decide) rfl) fun w' HH395 => ?_
              have HS396 := HH395
              refine dr_take (i := 0) (ls' := #[true, false, false, false, false, false, false, false, false, false, false]) HE394 HS396 rfl (by kernel_rfl) (by kernel_rfl) (by kernel_rfl) (fun _ _ _ h => h) rfl (wt0 rfl) (x_move rfl) rfl rfl fun a_397 HE398 => ?_
              refine dr_take (i := 2) (ls' := #[true, false, true, false, false, false, false, false, false, false, false]) HE398 HS396 rfl (by kernel_rfl) (by kernel_rfl) (by kernel_rfl) (fun _ _ _ h => h) rfl (wt0 rfl) (x_loadN (cs := [.int .i64 (a1.1), .slice Az1_1 (a1.2.length) cz1_1]) tv_79 rfl rfl (c_blkN 11 rfl)) rfl rfl fun a_399 HE400 => ?_
              refine dr_two (i := 1) (j := 8) (ls' := #[true, true, true, false, false, false, false, false, false, false, false]) (ls'' := #[true, false, true, false, false, false, false, false, true, false, false]) rfl rfl (by kernel_rfl) rfl rfl (fun K_401 hK402 => ?_) (fun K_401 hK402 => ?_)
              · refine st_call HE400 (wt0 rfl) rfl rfl rfl en_29 rfl rfl (to_InstrS _ _ a0 _ (HH395.old h0) (by omega)) fun e w' hr => ?_
                obtain ⟨Ar56, cr56, rfl, hor56, hbr56⟩ := hr
                obtain ⟨Sr56, HH403⟩ := HH395.newS hbr56 hor56
                clear hbr56 hor56
                refine ⟨_, rfl, fun a_404 HE405 => hK402 _ _ (by exact HH403.sel [1, 2, 3, 4, 5, 6, 7, 8, 9, 10, 11, 12] (by decide) rfl) ?_⟩
                have HS406 := HH403.sel [1, 2, 3, 4, 5, 6, 7, 8, 9, 10, 11, 12] (by decide) rfl
                refine dr_two (i := 3) (j := 8) (ls' := #[true, true, true, true, false, false, false, false, false, false, false]) (ls'' := #[true, true, true, false, false, false, false, false, true, false, false]) rfl rfl (by kernel_rfl) rfl rfl (fun K_407 hK408 => ?_) (fun K_407 hK408 => ?_)
                · refine st_call HE405 (wt0 rfl) rfl rfl rfl en_59 rfl rfl (to_Store [.int .i64 (a1.1), .slice Az1_1 (a1.2.length) cz1_1] a1 _ (HH403.oldR H1) (by omega)) fun e w' hr => ?_
                  obtain ⟨esr57, rfl, hor57, hbr57⟩ := hr
                  have hr := eStore.read hor57
                  obtain ⟨Sr57, HH409⟩ := HH403.newO hbr57 hor57
                  obtain ⟨Ar57_1, cr57_1, rfl, gr57_0, gr57_1⟩ := shape_Store hr
                  clear hbr57 hor57 gr57_0 gr57_1
                  refine ⟨_, rfl, fun a_410 HE411 => hK408 _ _ (by exact HH409.sel [2, 3, 4, 5, 6, 7, 8, 9, 10, 11, 12, 13] (by decide) rfl) ?_⟩
                  have HS412 := HH409.sel [2, 3, 4, 5, 6, 7, 8, 9, 10, 11, 12, 13] (by decide) rfl
                  refine dr_two (i := 4) (j := 8) (ls' := #[true, true, true, true, true, false, false, false, false, false, false]) (ls'' := #[true, true, true, true, false, false, false, false, true, false, false]) rfl rfl (by kernel_rfl) rfl rfl (fun K_413 hK414 => ?_) (fun K_413 hK414 => ?_)
                  · refine st_call HE411 (wt0 rfl) rfl rfl rfl en_60 rfl rfl (impl_StepProgram _ _ a0 [.int .i64 (a1.1), .slice Ar57_1 (a1.2.length) cr57_1] a1 _ (HH409.sl (i := 1) rfl) (HH409.rd (i := 0) rfl)) fun e w' hr => ?_
                    obtain ⟨esr58_0, rfl, hor58_0, hbr58⟩ := hr
                    have hr := eStore.read hor58_0
                    obtain ⟨Sr58, HH415⟩ := HH409.newO hbr58 hor58_0
                    obtain ⟨Ar58_0_1, cr58_0_1, rfl, gr58_0_0, gr58_0_1⟩ := shape_Store hr
                    have jr58_0_0 := gr58_0_0; unfold I64 at jr58_0_0
                    refine ⟨_, rfl, fun a_416 HE417 => hK414 _ _ (by exact HH415.sel [3, 4, 5, 6, 7, 8, 9, 10, 11, 12, 13, 14] (by decide) rfl) ?_⟩
                    have HS418 := HH415.sel [3, 4, 5, 6, 7, 8, 9, 10, 11, 12, 13, 14] (by decide) rfl
                    refine dr_take (i := 5) (ls' := #[true, true, true, true, true, true, false, false, false, false, false]) HE417 HS418 rfl (by kernel_rfl) (by kernel_rfl) (by kernel_rfl) (fun _ _ _ h => h) rfl (wt0 rfl) (x_move rfl) rfl rfl fun a_419 HE420 => ?_
                    refine dr_take (i := 6) (ls' := #[true, true, true, true, true, true, true, false, false, false, false]) HE420 HS418 rfl (by kernel_rfl) (by kernel_rfl) (by kernel_rfl) (fun _ _ _ h => h) rfl (wt0 rfl) (x_extract rfl rfl) rfl rfl fun a_421 HE422 => ?_
                    refine dr_take (i := 7) (ls' := #[true, true, true, true, true, true, true, true, false, false, false]) HE422 HS418 rfl (by kernel_rfl) (by kernel_rfl) (by kernel_rfl) (fun _ _ _ h => h) rfl (wt0 rfl) (x_extract rfl rfl) rfl rfl fun a_423 HE424 => ?_
                    refine dr_one (i := 8) (ls' := #[true, true, true, true, true, true, true, true, true, false, false]) rfl (by kernel_rfl) rfl fun K_425 hK426 => ?_
                    refine st_alloc HE424 HH415 tv_43 (wt0 rfl) rfl fun q59 a_427 w' HE428 HH429 => hK426 _ _ (by exact HH429.sel [4, 5, 6, 7, 8, 9, 10, 11, 12, 13, 14, 15] (by decide) rfl) ?_
                    have HS430 := HH429.sel [4, 5, 6, 7, 8, 9, 10, 11, 12, 13, 14, 15] (by decide) rfl
                    refine dr_one (i := 9) (ls' := #[true, true, true, true, true, true, true, true, true, true, false]) rfl (by kernel_rfl) rfl fun K_431 hK432 => ?_
                    refine st_store (vs := [.int .i64 ((stepProg a0 a1).1.1), .slice Ar58_0_1 ((stepProg a0 a1).1.2.length) cr58_0_1]) 0 HE428 HH429 tv_43 rfl rfl rfl rfl rfl rfl (by simp [Value.oneCell']) (wt0 rfl) fun w' HH433 => hK432 _ _ (by exact HH433.sel [4, 5, 6, 7, 8, 9, 10, 11, 12, 13, 14, 15] (by decide) rfl) ?_
                    have HS434 := HH433.sel [4, 5, 6, 7, 8, 9, 10, 11, 12, 13, 14, 15] (by decide) rfl
                    refine dr_take (i := 10) (ls' := #[true, true, true, true, true, true, true, true, true, true, true]) HE428 HS434 rfl (by kernel_rfl) (by kernel_rfl) (by kernel_rfl) (fun _ _ _ h => h) rfl (wt0 rfl) (x_assign rfl) rfl rfl fun a_435 HE436 => ?_
                    refine dr_done (by kernel_rfl) ?_
                    clear HH378 HS279 a_393 HE394 a_397 HE398 HH395 a_399 HE400 HS396 K_401 hK402 HH403 a_404 HE405 HS406 K_407 hK408 HH409 a_410 HE411 HS412 a_416 HE417 a_419 HE420 a_421 HE422 K_413 hK414 a_423 HE424 HH415 HS418 K_425 hK426 HH429 HS430 a_427 HE428 hK432 K_431
                    exact nrm ⟨_, _, _, _, _, _, _, _, _, _, HE436.sub ⟨rfl, rfl, rfl, rfl, rfl, rfl, trivial⟩, HH433.sel [0, 1, 2, 3, 4, 5, 6, 7, 8, 9, 10, 11, 12, 13, 14, 15] (by decide) rfl⟩
                  · refine st_alloc HE411 HH409 tv_43 (wt0 rfl) rfl fun q60 a_437 w' HE438 HH439 => hK414 _ _ (by exact HH439.sel [3, 4, 5, 6, 7, 8, 9, 10, 11, 12, 13, 14] (by decide) rfl) ?_
                    have HS440 := HH439.sel [3, 4, 5, 6, 7, 8, 9, 10, 11, 12, 13, 14] (by decide) rfl
                    refine dr_one (i := 4) (ls' := #[true, true, true, true, true, false, false, false, true, false, false]) rfl (by kernel_rfl) rfl fun K_441 hK442 => ?_
                    refine st_call HE438 (wt0 rfl) rfl rfl rfl en_60 rfl rfl (impl_StepProgram _ _ a0 [.int .i64 (a1.1), .slice Ar57_1 (a1.2.length) cr57_1] a1 _ (HH439.sl (i := 2) rfl) (HH439.rd (i := 1) rfl)) fun e w' hr => ?_
                    obtain ⟨esr61_0, rfl, hor61_0, hbr61⟩ := hr
                    have hr := eStore.read hor61_0
                    obtain ⟨Sr61, HH443⟩ := HH439.newO hbr61 hor61_0
                    obtain ⟨Ar61_0_1, cr61_0_1, rfl, gr61_0_0, gr61_0_1⟩ := shape_Store hr
                    have jr61_0_0 := gr61_0_0; unfold I64 at jr61_0_0
                    refine ⟨_, rfl, fun a_444 HE445 => hK442 _ _ (by exact HH443.sel [4, 5, 6, 7, 8, 9, 10, 11, 12, 13, 14, 15] (by decide) rfl) ?_⟩
                    have HS446 := HH443.sel [4, 5, 6, 7, 8, 9, 10, 11, 12, 13, 14, 15] (by decide) rfl
                    refine dr_take (i := 5) (ls' := #[true, true, true, true, true, true, false, false, true, false, false]) HE445 HS446 rfl (by kernel_rfl) (by kernel_rfl) (by kernel_rfl) (fun _ _ _ h => h) rfl (wt0 rfl) (x_move rfl) rfl rfl fun a_447 HE448 => ?_
                    refine dr_take (i := 6) (ls' := #[true, true, true, true, true, true, true, false, true, false, false]) HE448 HS446 rfl (by kernel_rfl) (by kernel_rfl) (by kernel_rfl) (fun _ _ _ h => h) rfl (wt0 rfl) (x_extract rfl rfl) rfl rfl fun a_449 HE450 => ?_
                    refine dr_take (i := 7) (ls' := #[true, true, true, true, true, true, true, true, true, false, false]) HE450 HS446 rfl (by kernel_rfl) (by kernel_rfl) (by kernel_rfl) (fun _ _ _ h => h) rfl (wt0 rfl) (x_extract rfl rfl) rfl rfl fun a_451 HE452 => ?_
                    refine dr_one (i := 9) (ls' := #[true, true, true, true, true, true, true, true, true, true, false]) rfl (by kernel_rfl) rfl fun K_453 hK454 => ?_
                    refine st_store (vs := [.int .i64 ((stepProg a0 a1).1.1), .slice Ar61_0_1 ((stepProg a0 a1).1.2.length) cr61_0_1]) 1 HE452 HH443 tv_43 rfl rfl rfl rfl rfl rfl (by simp [Value.oneCell']) (wt0 rfl) fun w' HH455 => hK454 _ _ (by exact HH455.sel [4, 5, 6, 7, 8, 9, 10, 11, 12, 13, 14, 15] (by decide) rfl) ?_
                    have HS456 := HH455.sel [4, 5, 6, 7, 8, 9, 10, 11, 12, 13, 14, 15] (by decide) rfl
                    refine dr_take (i := 10) (ls' := #[true, true, true, true, true, true, true, true, true, true, true]) HE452 HS456 rfl (by kernel_rfl) (by kernel_rfl) (by kernel_rfl) (fun _ _ _ h => h) rfl (wt0 rfl) (x_assign rfl) rfl rfl fun a_457 HE458 => ?_
                    refine dr_done (by kernel_rfl) ?_
                    clear HH378 HS279 a_393 HE394 a_397 HE398 HH395 a_399 HE400 HS396 K_401 hK402 HH403 a_404 HE405 HS406 K_407 hK408 a_410 HE411 HH409 HS412 K_413 hK414 HH439 a_437 HE438 HS440 a_444 HE445 a_447 HE448 a_449 HE450 K_441 hK442 HH443 HS446 a_451 HE452 hK454 K_453
                    exact nrm ⟨_, _, _, _, _, _, _, _, _, _, HE458.sub ⟨rfl, rfl, rfl, rfl, rfl, rfl, trivial⟩, HH455.sel [1, 0, 2, 3, 4, 5, 6, 7, 8, 9, 10, 11, 12, 13, 14, 15] (by decide) rfl⟩
                · refine st_alloc HE405 HH403 tv_43 (wt0 rfl) rfl fun q62 a_459 w' HE460 HH461 => hK408 _ _ (by exact HH461.sel [2, 3, 4, 5, 6, 7, 8, 9, 10, 11, 12, 13] (by decide) rfl) ?_
                  have HS462 := HH461.sel [2, 3, 4, 5, 6, 7, 8, 9, 10, 11, 12, 13] (by decide) rfl
                  refine dr_one (i := 3) (ls' := #[true, true, true, true, false, false, false, false, true, false, false]) rfl (by kernel_rfl) rfl fun K_463 hK464 => ?_
                  refine st_call HE460 (wt0 rfl) rfl rfl rfl en_59 rfl rfl (to_Store [.int .i64 (a1.1), .slice Az1_1 (a1.2.length) cz1_1] a1 _ (HH461.oldR H1) (by omega)) fun e w' hr => ?_
                  obtain ⟨esr63, rfl, hor63, hbr63⟩ := hr
                  have hr := eStore.read hor63
                  obtain ⟨Sr63, HH465⟩ := HH461.newO hbr63 hor63
                  obtain ⟨Ar63_1, cr63_1, rfl, gr63_0, gr63_1⟩ := shape_Store hr
                  clear hbr63 hor63 gr63_0 gr63_1
                  refine ⟨_, rfl, fun a_466 HE467 => hK464 _ _ (by exact HH465.sel [3, 4, 5, 6, 7, 8, 9, 10, 11, 12, 13, 14] (by decide) rfl) ?_⟩
                  have HS468 := HH465.sel [3, 4, 5, 6, 7, 8, 9, 10, 11, 12, 13, 14] (by decide) rfl
                  refine dr_one (i := 4) (ls' := #[true, true, true, true, true, false, false, false, true, false, false]) rfl (by kernel_rfl) rfl fun K_469 hK470 => ?_
                  refine st_call HE467 (wt0 rfl) rfl rfl rfl en_60 rfl rfl (impl_StepProgram _ _ a0 [.int .i64 (a1.1), .slice Ar63_1 (a1.2.length) cr63_1] a1 _ (HH465.sl (i := 2) rfl) (HH465.rd (i := 0) rfl)) fun e w' hr => ?_
                  obtain ⟨esr64_0, rfl, hor64_0, hbr64⟩ := hr
                  have hr := eStore.read hor64_0
                  obtain ⟨Sr64, HH471⟩ := HH465.newO hbr64 hor64_0
                  obtain ⟨Ar64_0_1, cr64_0_1, rfl, gr64_0_0, gr64_0_1⟩ := shape_Store hr
                  have jr64_0_0 := gr64_0_0; unfold I64 at jr64_0_0
                  refine ⟨_, rfl, fun a_472 HE473 => hK470 _ _ (by exact HH471.sel [4, 5, 6, 7, 8, 9, 10, 11, 12, 13, 14, 15] (by decide) rfl) ?_⟩
                  have HS474 := HH471.sel [4, 5, 6, 7, 8, 9, 10, 11, 12, 13, 14, 15] (by decide) rfl
                  refine dr_take (i := 5) (ls' := #[true, true, true, true, true, true, false, false, true, false, false]) HE473 HS474 rfl (by kernel_rfl) (by kernel_rfl) (by kernel_rfl) (fun _ _ _ h => h) rfl (wt0 rfl) (x_move rfl) rfl rfl fun a_475 HE476 => ?_
                  refine dr_take (i := 6) (ls' := #[true, true, true, true, true, true, true, false, true, false, false]) HE476 HS474 rfl (by kernel_rfl) (by kernel_rfl) (by kernel_rfl) (fun _ _ _ h => h) rfl (wt0 rfl) (x_extract rfl rfl) rfl rfl fun a_477 HE478 => ?_
                  refine dr_take (i := 7) (ls' := #[true, true, true, true, true, true, true, true, true, false, false]) HE478 HS474 rfl (by kernel_rfl) (by kernel_rfl) (by kernel_rfl) (fun _ _ _ h => h) rfl (wt0 rfl) (x_extract rfl rfl) rfl rfl fun a_479 HE480 => ?_
                  refine dr_one (i := 9) (ls' := #[true, true, true, true, true, true, true, true, true, true, false]) rfl (by kernel_rfl) rfl fun K_481 hK482 => ?_
                  refine st_store (vs := [.int .i64 ((stepProg a0 a1).1.1), .slice Ar64_0_1 ((stepProg a0 a1).1.2.length) cr64_0_1]) 2 HE480 HH471 tv_43 rfl rfl rfl rfl rfl rfl (by simp [Value.oneCell']) (wt0 rfl) fun w' HH483 => hK482 _ _ (by exact HH483.sel [4, 5, 6, 7, 8, 9, 10, 11, 12, 13, 14, 15] (by decide) rfl) ?_
                  have HS484 := HH483.sel [4, 5, 6, 7, 8, 9, 10, 11, 12, 13, 14, 15] (by decide) rfl
                  refine dr_take (i := 10) (ls' := #[true, true, true, true, true, true, true, true, true, true, true]) HE480 HS484 rfl (by kernel_rfl) (by kernel_rfl) (by kernel_rfl) (fun _ _ _ h => h) rfl (wt0 rfl) (x_assign rfl) rfl rfl fun a_485 HE486 => ?_
                  refine dr_done (by kernel_rfl) ?_
                  clear HH378 HS279 a_393 HE394 a_397 HE398 HH395 a_399 HE400 HS396 K_401 hK402 a_404 HE405 HH403 HS406 K_407 hK408 HH461 a_459 HE460 HS462 K_463 hK464 HH465 a_466 HE467 HS468 a_472 HE473 a_475 HE476 a_477 HE478 K_469 hK470 HH471 HS474 a_479 HE480 hK482 K_481
                  exact nrm ⟨_, _, _, _, _, _, _, _, _, _, HE486.sub ⟨rfl, rfl, rfl, rfl, rfl, rfl, trivial⟩, HH483.sel [2, 0, 1, 3, 4, 5, 6, 7, 8, 9, 10, 11, 12, 13, 14, 15] (by decide) rfl⟩
              · refine st_alloc HE400 HH395 tv_43 (wt0 rfl) rfl fun q65 a_487 w' HE488 HH489 => hK402 _ _ (by exact HH489.sel [1, 2, 3, 4, 5, 6, 7, 8, 9, 10, 11, 12] (by decide) rfl) ?_
                have HS490 := HH489.sel [1, 2, 3, 4, 5, 6, 7, 8, 9, 10, 11, 12] (by decide) rfl
                refine dr_one (i := 1) (ls' := #[true, true, true, false, false, false, false, false, true, false, false]) rfl (by kernel_rfl) rfl fun K_491 hK492 => ?_
                refine st_call HE488 (wt0 rfl) rfl rfl rfl en_29 rfl rfl (to_InstrS _ _ a0 _ (HH489.old h0) (by omega)) fun e w' hr => ?_
                obtain ⟨Ar66, cr66, rfl, hor66, hbr66⟩ := hr
                obtain ⟨Sr66, HH493⟩ := HH489.newS hbr66 hor66
                clear hbr66 hor66
                refine ⟨_, rfl, fun a_494 HE495 => hK492 _ _ (by exact HH493.sel [2, 3, 4, 5, 6, 7, 8, 9, 10, 11, 12, 13] (by decide) rfl) ?_⟩
                have HS496 := HH493.sel [2, 3, 4, 5, 6, 7, 8, 9, 10, 11, 12, 13] (by decide) rfl
                refine dr_one (i := 3) (ls' := #[true, true, true, true, false, false, false, false, true, false, false]) rfl (by kernel_rfl) rfl fun K_497 hK498 => ?_
                refine st_call HE495 (wt0 rfl) rfl rfl rfl en_59 rfl rfl (to_Store [.int .i64 (a1.1), .slice Az1_1 (a1.2.length) cz1_1] a1 _ (HH493.oldR H1) (by omega)) fun e w' hr => ?_
                obtain ⟨esr67, rfl, hor67, hbr67⟩ := hr
                have hr := eStore.read hor67
                obtain ⟨Sr67, HH499⟩ := HH493.newO hbr67 hor67
                obtain ⟨Ar67_1, cr67_1, rfl, gr67_0, gr67_1⟩ := shape_Store hr
                clear hbr67 hor67 gr67_0 gr67_1
                refine ⟨_, rfl, fun a_500 HE501 => hK498 _ _ (by exact HH499.sel [3, 4, 5, 6, 7, 8, 9, 10, 11, 12, 13, 14] (by decide) rfl) ?_⟩
                have HS502 := HH499.sel [3, 4, 5, 6, 7, 8, 9, 10, 11, 12, 13, 14] (by decide) rfl
                refine dr_one (i := 4) (ls' := #[true, true, true, true, true, false, false, false, true, false, false]) rfl (by kernel_rfl) rfl fun K_503 hK504 => ?_
                refine st_call HE501 (wt0 rfl) rfl rfl rfl en_60 rfl rfl (impl_StepProgram _ _ a0 [.int .i64 (a1.1), .slice Ar67_1 (a1.2.length) cr67_1] a1 _ (HH499.sl (i := 1) rfl) (HH499.rd (i := 0) rfl)) fun e w' hr => ?_
                obtain ⟨esr68_0, rfl, hor68_0, hbr68⟩ := hr
                have hr := eStore.read hor68_0
                obtain ⟨Sr68, HH505⟩ := HH499.newO hbr68 hor68_0
                obtain ⟨Ar68_0_1, cr68_0_1, rfl, gr68_0_0, gr68_0_1⟩ := shape_Store hr
                have jr68_0_0 := gr68_0_0; unfold I64 at jr68_0_0
                refine ⟨_, rfl, fun a_506 HE507 => hK504 _ _ (by exact HH505.sel [4, 5, 6, 7, 8, 9, 10, 11, 12, 13, 14, 15] (by decide) rfl) ?_⟩
                have HS508 := HH505.sel [4, 5, 6, 7, 8, 9, 10, 11, 12, 13, 14, 15] (by decide) rfl
                refine dr_take (i := 5) (ls' := #[true, true, true, true, true, true, false, false, true, false, false]) HE507 HS508 rfl (by kernel_rfl) (by kernel_rfl) (by kernel_rfl) (fun _ _ _ h => h) rfl (wt0 rfl) (x_move rfl) rfl rfl fun a_509 HE510 => ?_
                refine dr_take (i := 6) (ls' := #[true, true, true, true, true, true, true, false, true, false, false]) HE510 HS508 rfl (by kernel_rfl) (by kernel_rfl) (by kernel_rfl) (fun _ _ _ h => h) rfl (wt0 rfl) (x_extract rfl rfl) rfl rfl fun a_511 HE512 => ?_
                refine dr_take (i := 7) (ls' := #[true, true, true, true, true, true, true, true, true, false, false]) HE512 HS508 rfl (by kernel_rfl) (by kernel_rfl) (by kernel_rfl) (fun _ _ _ h => h) rfl (wt0 rfl) (x_extract rfl rfl) rfl rfl fun a_513 HE514 => ?_
                refine dr_one (i := 9) (ls' := #[true, true, true, true, true, true, true, true, true, true, false]) rfl (by kernel_rfl) rfl fun K_515 hK516 => ?_
                refine st_store (vs := [.int .i64 ((stepProg a0 a1).1.1), .slice Ar68_0_1 ((stepProg a0 a1).1.2.length) cr68_0_1]) 3 HE514 HH505 tv_43 rfl rfl rfl rfl rfl rfl (by simp [Value.oneCell']) (wt0 rfl) fun w' HH517 => hK516 _ _ (by exact HH517.sel [4, 5, 6, 7, 8, 9, 10, 11, 12, 13, 14, 15] (by decide) rfl) ?_
                have HS518 := HH517.sel [4, 5, 6, 7, 8, 9, 10, 11, 12, 13, 14, 15] (by decide) rfl
                refine dr_take (i := 10) (ls' := #[true, true, true, true, true, true, true, true, true, true, true]) HE514 HS518 rfl (by kernel_rfl) (by kernel_rfl) (by kernel_rfl) (fun _ _ _ h => h) rfl (wt0 rfl) (x_assign rfl) rfl rfl fun a_519 HE520 => ?_
                refine dr_done (by kernel_rfl) ?_
                clear HH378 HS279 a_393 HE394 a_397 HE398 a_399 HE400 HH395 HS396 K_401 hK402 HH489 a_487 HE488 HS490 K_491 hK492 HH493 a_494 HE495 HS496 K_497 hK498 HH499 a_500 HE501 HS502 a_506 HE507 a_509 HE510 a_511 HE512 K_503 hK504 HH505 HS508 a_513 HE514 hK516 K_515
                exact nrm ⟨_, _, _, _, _, _, _, _, _, _, HE520.sub ⟨rfl, rfl, rfl, rfl, rfl, rfl, trivial⟩, HH517.sel [3, 0, 1, 2, 4, 5, 6, 7, 8, 9, 10, 11, 12, 13, 14, 15] (by decide) rfl⟩
            · rintro a_521 w' ⟨q59, Ar58_0_1, cr58_0_1, Sr58, Sr57, Ar57_1, cr57_1, Sr56, Ar56, cr56, HE522, HH523⟩
              refine nrm ?_
              refine wp_seq ?_
              refine wp_seq ?_
              refine rg ?_
              refine pl_x HE522 HH523 (wt0 rfl) (x_loadN (cs := [.int .i64 ((stepProg a0 a1).1.1), .slice Ar58_0_1 ((stepProg a0 a1).1.2.length) cr58_0_1]) tv_43 rfl rfl (c_blkN 0 rfl)) rfl rfl fun a_524 HE525 => ?_
              refine pl_x HE525 HH523 (wt0 rfl) (x_loadN (cs := [.int .i64 ((stepProg a0 a1).1.1), .slice Ar28_0_1 ((stepProg a0 a1).1.2.length) cr28_0_1]) tv_43 rfl rfl (c_blkN 11 rfl)) rfl rfl fun a_526 HE527 => ?_
              refine pl fun K_528 hK529 => ?_
              refine st_call HE527 (wt0 rfl) rfl rfl rfl en_31 rfl rfl (eq_Store_c [.int .i64 ((stepProg a0 a1).1.1), .slice Ar58_0_1 ((stepProg a0 a1).1.2.length) cr58_0_1] [.int .i64 ((stepProg a0 a1).1.1), .slice Ar28_0_1 ((stepProg a0 a1).1.2.length) cr28_0_1] ((stepProg a0 a1).1) ((stepProg a0 a1).1) _ (HH523.rd (i := 1) rfl) (HH523.rd (i := 12) rfl)) fun e w' hr => ?_
              obtain ⟨rfl, hbr69⟩ := hr
              have HH530 := HH523.on hbr69
              clear hbr69
              refine ⟨_, rfl, fun a_531 HE532 => hK529 _ _ ?_⟩
              refine pl_x HE532 HH530 (wt0 rfl) (x_not rfl) rfl rfl fun a_533 HE534 => ?_
              refine pl_x HE534 HH530 (wt0 rfl) (x_move rfl) rfl rfl fun a_535 HE536 => ?_
              refine pl_x HE536 HH530 (wtT HE536 rfl rfl rfl (not_f (eq_Store_refl _))) (x_move rfl) rfl rfl fun a_537 HE538 => ?_
              refine pl_x HE538 HH530 (wtT HE538 rfl rfl rfl (not_f (eq_Store_refl _))) (x_move rfl) rfl rfl fun a_539 HE540 => ?_
              refine pl_x HE540 HH530 (wtT HE540 rfl rfl rfl (not_f (eq_Store_refl _))) (x_neq rfl rfl) rfl rfl fun a_541 HE542 => ?_
              refine pl_x HE542 HH530 (wt0 rfl) (x_pickF rfl (not_f (eq_Store_refl _)) rfl) rfl rfl fun a_543 HE544 => ?_
              refine wpList_nil ?_
              clear a_393 HE394 HH378 a_521 HE522 a_524 HE525 HH523 a_526 HE527 a_531 HE532 a_533 HE534 a_535 HE536 a_537 HE538 a_539 HE540 a_541 HE542 hK529 K_528
              refine nrm ?_
              refine cndF HE544 rfl (bne_f rfl) ?_
              refine wp_skip ?_
              refine nrm ?_
              refine wp_seq ?_
              refine rg ?_
              refine pl_x HE544 HH530 (wt0 rfl) (x_assign rfl) rfl rfl fun a_545 HE546 => ?_
              refine wpList_nil ?_
              clear a_543 HE544
              refine nrm ?_
              refine wp_seq ?_
              refine rg ?_
              refine pl_x HE546 HH530 (wt0 rfl) (x_loadN (cs := [.int .i64 ((stepProg a0 a1).1.1), .slice Ar42_0_1 ((stepProg a0 a1).1.2.length) cr42_0_1]) tv_43 rfl rfl (c_blkN 6 rfl)) rfl rfl fun a_547 HE548 => ?_
              refine pl_x HE548 HH530 (wt0 rfl) (x_move rfl) rfl rfl fun a_549 HE550 => ?_
              refine pl fun K_551 hK552 => ?_
              refine st_call HE550 (wt0 rfl) rfl rfl rfl en_36 rfl rfl (held_Store_c [.int .i64 ((stepProg a0 a1).1.1), .slice Ar42_0_1 ((stepProg a0 a1).1.2.length) cr42_0_1] ((stepProg a0 a1).1) 1 _ (HH530.rd (i := 7) rfl) (by omega) (by omega)) fun e w' hr => ?_
              obtain ⟨rfl, hbr70⟩ := hr
              have HH553 := HH530.on hbr70
              clear hbr70
              refine ⟨_, rfl, fun a_554 HE555 => hK552 _ _ ?_⟩
              refine pl_x HE555 HH553 (wt0 rfl) (x_assign rfl) rfl rfl fun a_556 HE557 => ?_
              refine wpList_nil ?_
              clear a_545 HE546 a_547 HE548 HH530 a_549 HE550 a_554 HE555 hK552 K_551
              refine nrm ?_
              refine wp_seq ?_
              refine wp_seq ?_
              refine rg ?_
              refine pl_x HE557 HH553 (wt0 rfl) (x_move rfl) rfl rfl fun a_558 HE559 => ?_
              refine pl_x HE559 HH553 (wt0 rfl) (x_lss rfl rfl) rfl rfl fun a_560 HE561 => ?_
              refine wpList_nil ?_
              clear a_556 HE557 a_558 HE559
              refine nrm ?_
              refine cndF HE561 rfl (decide_eq_false hc55) ?_
              refine wp_skip ?_
              refine nrm ?_
              refine wp_seq ?_
              refine wp_seq ?_
              refine rg ?_
              refine pl_x HE561 HH553 (wt0 rfl) (x_move rfl) rfl rfl fun a_562 HE563 => ?_
              refine pl_x HE563 HH553 (wt0 rfl) (x_move rfl) rfl rfl fun a_564 HE565 => ?_
              refine pl_x HE565 HH553 (wt0 rfl) (x_neq rfl rfl) rfl rfl fun a_566 HE567 => ?_
              refine wpList_nil ?_
              clear a_560 HE561 a_562 HE563 a_564 HE565
              refine nrm ?_
              refine cndF HE567 rfl (bne_f rfl) ?_
              refine wp_skip ?_
              refine nrm ?_
              refine wp_seq ?_
              refine rg ?_
              refine pl_x HE567 HH553 (wt0 rfl) (x_assign rfl) rfl rfl fun a_568 HE569 => ?_
              refine wpList_nil ?_
              clear a_566 HE567
              refine nrm ?_
              refine wp_ret ?_
              refine ret1 HE569 rfl (rv_tmp rfl) ?_
              have hF : true = true := by
                first | rfl | (exfalso; omega)
              exact ⟨by rw [hF] <;> rfl, HH553.below⟩

end Go.Proofs.Ytfcajgbehecfbaa
