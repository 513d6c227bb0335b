/- What the proof of FnExactRunProgram needs: contracts of the functions that it reaches, each once. -/
import Derived.Test.YtfcajgbehecfbaaProg
import Derived.Test.YtfcajgbehecfbaaQMem
import Derived.Test.YtfcajgbehecfbaaQOpen
import Derived.Test.YtfcajgbehecfbaaLRunPrograma
import Derived.WalkKit
import Derived.WalkSpells
import Derived.Below
import Derived.LoopTactic
import Derived.Outline
import Derived.Deep.QuietTactic
import Derived.BigQuiet
import Derived.Deep.LoopGhost
import Derived.Handy
import Derived.Lib.Hide
import Derived.Shelf.Abstract
import Derived.StillTailTactics
import Derived.OwnWalk
import Derived.Maps.AppendAt
import Derived.RegionTactic
import Derived.Deep.RegionHeld3
import Derived.IntWalk
import Derived.Deep.Upon
import Derived.Laws.OwnMore
import Derived.Maps.AppendAt
import Derived.Lib.SliceRun
import Derived.Lib.AppendZeros
namespace Go.Proofs.Ytfcajgbehecfbaa
open Go.RowKit

set_option maxRecDepth 100000 in
set_option maxHeartbeats 4000000 in
theorem spec_l07Step (A0 : Option Addr) (c0 : Nat) (a0 : (List tInstr)) (p1 o1 : Nat) (es1 : List Value) (a1 : tStore) (w : World) (h0 : Sl eInstr w (Old w) A0 c0 a0) (h1 : eStore.R w (Old w) es1 a1) (hq1 : ∀ j v, es1[j]? = some v → w.cell? ⟨p1, o1 + j, none⟩ = some v) (s0 : validProg a0 = true) (s1 : storeOf a0 a1 = true) (s2 : a1.1 < (a0.length : Int)) :
    Calls Try.prog 122 #[.slice A0 a0.length c0, .pointer (some ⟨p1, o1, none⟩)] w fun e w' => ∃ (es0' : List Value), e = .returned (.tuple #[.agg es0'.toArray, .bool (stepS2 a0 a1).2]) ∧ eStore.O w' (Fr w w') es0' (stepS2 a0 a1).1 ∧ Below w.heap.size w w' := by
  have l0 := h0.len
  have H1 := h1
  obtain ⟨Az1_1, cz1_1, rfl, gz1_0, gz1_1⟩ := shape_Store h1
  have jz1_0 := gz1_0; unfold I64 at jz1_0
  have lz1_1 := gz1_1.len
  obtain ⟨v0, v1, v2, v3⟩ := storeOf_facts s1
  have HH1 := Held.start Nob w
  refine enter (n := 62) Try.func122 rfl rfl rfl fun a_2 HE3 => ?_
  refine wp_seq ?_
  refine rg ?_
  refine pl fun K_4 hK5 => ?_
  refine st_alloc HE3 HH1 tv_43 (wt0 rfl) rfl fun q21 a_6 w' HE7 HH8 => hK5 _ _ ?_
  refine pl_x HE7 HH8 (wt0 rfl) (x_assign rfl) rfl rfl fun a_9 HE10 => ?_
  refine wpList_nil ?_
  clear a_2 HE3 HH1 a_6 HE7 hK5 K_4
  refine nrm ?_
  refine wp_seq ?_
  refine rg ?_
  refine pl_x HE10 HH8 (wt0 rfl) (x_move rfl) rfl rfl fun a_11 HE12 => ?_
  refine pl_x HE12 HH8 (wt0 rfl) (x_move rfl) rfl rfl fun a_13 HE14 => ?_
  refine pl_x HE14 HH8 (wt0 rfl) (x_nilCheck rfl) rfl rfl fun a_15 HE16 => ?_
  refine pl_x HE16 HH8 (wt0 rfl) (x_fieldAddr fa_43_0 rfl) rfl rfl fun a_17 HE18 => ?_
  refine pl_x HE18 HH8 (wt0 rfl) (x_load1 tv_2 rfl (c_old (hq1 0 _ rfl))) rfl rfl fun a_19 HE20 => ?_
  have ke22 : (a1.1).toNat < a0.length := by omega
  obtain ⟨be22, fe22, ese22, Ae22, Re22, De22⟩ := el_old h0 ke22
  obtain ⟨e22, xe22⟩ : ∃ x, x = a0[(a1.1).toNat] := ⟨_, rfl⟩
  rw [← xe22] at Re22
  have Qe22 := Re22
  obtain ⟨rfl, ge22_0, ge22_1, ge22_2, ge22_3⟩ := shape_Instr Re22
  have je22_0 := ge22_0; unfold I64 at je22_0
  have je22_1 := ge22_1; unfold I64 at je22_1
  have je22_2 := ge22_2; unfold I64 at je22_2
  have je22_3 := ge22_3; unfold I64 at je22_3
  obtain ⟨re221, re222⟩ := validProg_reg s0 e22 (by rw [xe22]; exact List.getElem_mem _)
  refine pl_x HE20 HH8 (wt0 rfl) (x_indexAddr ts_46 rfl rfl Ae22 (by omega) ke22) rfl rfl fun a_21 HE22 => ?_
  refine pl_x HE22 HH8 (wt0 rfl) (x_loadN (cs := [.int .i64 (e22.1), .int .i64 (e22.2.1), .int .i64 (e22.2.2.1), .int .i64 (e22.2.2.2)]) tv_111 rfl rfl (c_oldN De22)) rfl rfl fun a_23 HE24 => ?_
  refine pl fun K_25 hK26 => ?_
  refine st_alloc HE24 HH8 tv_111 (wt0 rfl) rfl fun q23 a_27 w' HE28 HH29 => hK26 _ _ ?_
  refine pl fun K_30 hK31 => ?_
  refine st_store (vs := [.int .i64 (e22.1), .int .i64 (e22.2.1), .int .i64 (e22.2.2.1), .int .i64 (e22.2.2.2)]) 0 HE28 HH29 tv_111 rfl rfl rfl rfl rfl rfl (by simp [Value.oneCell']) (wt0 rfl) fun w' HH32 => hK31 _ _ ?_
  refine wpList_nil ?_
  clear a_9 HE10 a_11 HE12 a_13 HE14 a_15 HE16 a_17 HE18 a_19 HE20 a_21 HE22 a_23 HE24 HH8 K_25 hK26 HH29 hK31 K_30
  refine nrm ?_
  refine wp_seq ?_
  refine wp_join (fun a w' => ∃ (q25 : Nat), ∃ (Ar24_0 : Option Addr), ∃ (cr24_0 : Nat), ∃ (Sr24 : Nat → Prop), Env 62 [(4, .pointer (some ⟨q21, 0, none⟩)), (6, .pointer (some ⟨q23, 0, none⟩)), (7, .pointer (some ⟨q25, 0, none⟩))] a ∧ Held Nob w [rBlk q25 43 [.int .i64 (e22.2.2.1), .slice Ar24_0 (a1.2.length) cr24_0], rSo eInt Sr24 Ar24_0 cr24_0 a1.2, rBlk q23 111 [.int .i64 (e22.1), .int .i64 (e22.2.1), .int .i64 (e22.2.2.1), .int .i64 (e22.2.2.2)], rBlk q21 43 [.int .i64 (0), .slice none (0) 0]] w') ?_ ?_
  · refine dr_start (Held Nob w [rBlk q23 111 [.int .i64 (e22.1), .int .i64 (e22.2.1), .int .i64 (e22.2.2.1), .int .i64 (e22.2.2.2)], rBlk q21 43 [.int .i64 (0), .slice none (0) 0]]) 10 #[false, false, false, false, false, false, false, false, false, false] hmix rfl rfl HH32 (fun _ h => h.sel [0, 1] (by decide) rfl) fun w' HH33 => ?_
    have HS34 := HH33
    refine dr_take (i := 0) (ls' := #[true, false, false, false, false, false, false, false, false, false]) HE28 HS34 rfl (by kernel_rfl) (by kernel_rfl) (by kernel_rfl) (fun _ _ _ h => h) rfl (wt0 rfl) (x_fieldAddr fa_111_2 rfl) rfl rfl fun a_35 HE36 => ?_
    refine dr_take (i := 1) (ls' := #[true, true, false, false, false, false, false, false, false, false]) HE36 HS34 rfl (by kernel_rfl) (by kernel_rfl) (by kernel_rfl) (fun _ _ _ h => h) rfl (wt0 rfl) (x_load1 tv_2 rfl (c_blk 0 rfl rfl)) rfl rfl fun a_37 HE38 => ?_
    refine dr_take (i := 2) (ls' := #[true, true, true, false, false, false, false, false, false, false]) HE38 HS34 rfl (by kernel_rfl) (by kernel_rfl) (by kernel_rfl) (fun _ _ _ h => h) rfl (wt0 rfl) (x_move rfl) rfl rfl fun a_39 HE40 => ?_
    refine dr_take (i := 3) (ls' := #[true, true, true, true, false, false, false, false, false, false]) HE40 HS34 rfl (by kernel_rfl) (by kernel_rfl) (by kernel_rfl) (fun _ _ _ h => h) rfl (wt0 rfl) (x_nilCheck rfl) rfl rfl fun a_41 HE42 => ?_
    refine dr_take (i := 4) (ls' := #[true, true, true, true, true, false, false, false, false, false]) HE42 HS34 rfl (by kernel_rfl) (by kernel_rfl) (by kernel_rfl) (fun _ _ _ h => h) rfl (wt0 rfl) (x_fieldAddr fa_43_1 rfl) rfl rfl fun a_43 HE44 => ?_
    refine dr_take (i := 5) (ls' := #[true, true, true, true, true, true, false, false, false, false]) HE44 HS34 rfl (by kernel_rfl) (by kernel_rfl) (by kernel_rfl) (fun _ _ _ h => h) rfl (wt0 rfl) (x_load1 tv_31 rfl (c_old (hq1 1 _ rfl))) rfl rfl fun a_45 HE46 => ?_
    refine dr_two (i := 6) (j := 8) (ls' := #[true, true, true, true, true, true, true, false, false, false]) (ls'' := #[true, true, true, true, true, true, false, false, true, false]) rfl rfl (by kernel_rfl) rfl rfl (fun K_47 hK48 => ?_) (fun K_47 hK48 => ?_)
    · refine st_call HE46 (wt0 rfl) rfl rfl rfl en_90 rfl rfl (spec_l00Own _ _ a1.2 _ (HH33.old gz1_1) (by omega)) fun e w' hr => ?_
      obtain ⟨Ar24_0, cr24_0, rfl, hor24_0, hbr24⟩ := hr
      obtain ⟨Sr24, HH49⟩ := HH33.newS hbr24 hor24_0
      refine ⟨_, rfl, fun a_50 HE51 => hK48 _ _ (by exact HH49.sel [1, 2] (by decide) rfl) ?_⟩
      have HS52 := HH49.sel [1, 2] (by decide) rfl
      refine dr_take (i := 7) (ls' := #[true, true, true, true, true, true, true, true, false, false]) HE51 HS52 rfl (by kernel_rfl) (by kernel_rfl) (by kernel_rfl) (fun _ _ _ h => h) rfl (wt0 rfl) (show XS _ _ _ _ (.agg #[.int .i64 (e22.2.2.1), .slice Ar24_0 (a1.2.length) cr24_0]) from x_build (vs := [(0, .int .i64 (e22.2.2.1)), (1, .slice Ar24_0 (a1.2.length) cr24_0)]) tb_43 rfl (by simp [Value.oneCell'])) rfl rfl fun a_53 HE54 => ?_
      refine dr_one (i := 8) (ls' := #[true, true, true, true, true, true, true, true, true, false]) rfl (by kernel_rfl) rfl fun K_55 hK56 => ?_
      refine st_alloc HE54 HH49 tv_43 (wt0 rfl) rfl fun q25 a_57 w' HE58 HH59 => hK56 _ _ (by exact HH59.sel [2, 3] (by decide) rfl) ?_
      have HS60 := HH59.sel [2, 3] (by decide) rfl
      refine dr_one (i := 9) (ls' := #[true, true, true, true, true, true, true, true, true, true]) rfl (by kernel_rfl) rfl fun K_61 hK62 => ?_
      refine st_store (vs := [.int .i64 (e22.2.2.1), .slice Ar24_0 (a1.2.length) cr24_0]) 0 HE58 HH59 tv_43 rfl rfl rfl rfl rfl rfl (by simp [Value.oneCell']) (wt0 rfl) fun w' HH63 => hK62 _ _ (by exact HH63.sel [2, 3] (by decide) rfl) ?_
      have HS64 := HH63.sel [2, 3] (by decide) rfl
      refine dr_done (by kernel_rfl) ?_
      clear HH32 a_27 HE28 a_35 HE36 a_37 HE38 a_39 HE40 a_41 HE42 a_43 HE44 HH33 a_45 HE46 HS34 a_50 HE51 K_47 hK48 a_53 HE54 HH49 HS52 K_55 hK56 HH59 HS60 hK62 K_61
      exact nrm ⟨_, _, _, _, HE58.sub ⟨rfl, rfl, rfl, trivial⟩, HH63.sel [0, 1, 2, 3] (by decide) rfl⟩
    · refine st_alloc HE46 HH33 tv_43 (wt0 rfl) rfl fun q26 a_65 w' HE66 HH67 => hK48 _ _ (by exact HH67.sel [1, 2] (by decide) rfl) ?_
      have HS68 := HH67.sel [1, 2] (by decide) rfl
      refine dr_one (i := 6) (ls' := #[true, true, true, true, true, true, true, false, true, false]) rfl (by kernel_rfl) rfl fun K_69 hK70 => ?_
      refine st_call HE66 (wt0 rfl) rfl rfl rfl en_90 rfl rfl (spec_l00Own _ _ a1.2 _ (HH67.old gz1_1) (by omega)) fun e w' hr => ?_
      obtain ⟨Ar27_0, cr27_0, rfl, hor27_0, hbr27⟩ := hr
      obtain ⟨Sr27, HH71⟩ := HH67.newS hbr27 hor27_0
      refine ⟨_, rfl, fun a_72 HE73 => hK70 _ _ (by exact HH71.sel [2, 3] (by decide) rfl) ?_⟩
      have HS74 := HH71.sel [2, 3] (by decide) rfl
      refine dr_take (i := 7) (ls' := #[true, true, true, true, true, true, true, true, true, false]) HE73 HS74 rfl (by kernel_rfl) (by kernel_rfl) (by kernel_rfl) (fun _ _ _ h => h) rfl (wt0 rfl) (show XS _ _ _ _ (.agg #[.int .i64 (e22.2.2.1), .slice Ar27_0 (a1.2.length) cr27_0]) from x_build (vs := [(0, .int .i64 (e22.2.2.1)), (1, .slice Ar27_0 (a1.2.length) cr27_0)]) tb_43 rfl (by simp [Value.oneCell'])) rfl rfl fun a_75 HE76 => ?_
      refine dr_one (i := 9) (ls' := #[true, true, true, true, true, true, true, true, true, true]) rfl (by kernel_rfl) rfl fun K_77 hK78 => ?_
      refine st_store (vs := [.int .i64 (e22.2.2.1), .slice Ar27_0 (a1.2.length) cr27_0]) 1 HE76 HH71 tv_43 rfl rfl rfl rfl rfl rfl (by simp [Value.oneCell']) (wt0 rfl) fun w' HH79 => hK78 _ _ (by exact HH79.sel [2, 3] (by decide) rfl) ?_
      have HS80 := HH79.sel [2, 3] (by decide) rfl
      refine dr_done (by kernel_rfl) ?_
      clear HH32 a_27 HE28 a_35 HE36 a_37 HE38 a_39 HE40 a_41 HE42 a_43 HE44 a_45 HE46 HH33 HS34 K_47 hK48 HH67 a_65 HE66 HS68 a_72 HE73 K_69 hK70 HH71 HS74 hK78 K_77
      exact nrm ⟨_, _, _, _, HE76.sub ⟨rfl, rfl, rfl, trivial⟩, HH79.sel [1, 0, 2, 3] (by decide) rfl⟩
  · rintro a_81 w' ⟨q25, Ar24_0, cr24_0, Sr24, HE82, HH83⟩
    refine nrm ?_
    refine wp_seq ?_
    refine wp_seq ?_
    refine rg ?_
    refine pl_x HE82 HH83 (wt0 rfl) (x_fieldAddr fa_111_0 rfl) rfl rfl fun a_84 HE85 => ?_
    refine pl_x HE85 HH83 (wt0 rfl) (x_load1 tv_2 rfl (c_blk 2 rfl rfl)) rfl rfl fun a_86 HE87 => ?_
    refine pl_x HE87 HH83 (wt0 rfl) (x_eql rfl rfl) rfl rfl fun a_88 HE89 => ?_
    refine wpList_nil ?_
    clear a_27 HE28 HH32 a_81 HE82 a_84 HE85 a_86 HE87
    refine nrm ?_
    refine cnd_e HE89 rfl (fun hc28 => ?_) (fun hc28 => ?_)
    · refine wp_seq ?_
      refine rg ?_
      refine pl_x HE89 HH83 (wt0 rfl) (x_fieldAddr fa_43_1 rfl) rfl rfl fun a_90 HE91 => ?_
      refine pl_x HE91 HH83 (wt0 rfl) (x_load1 tv_31 rfl (c_blk 0 rfl rfl)) rfl rfl fun a_92 HE93 => ?_
      refine pl_x HE93 HH83 (wt0 rfl) (x_fieldAddr fa_111_1 rfl) rfl rfl fun a_94 HE95 => ?_
      refine pl_x HE95 HH83 (wt0 rfl) (x_load1 tv_2 rfl (c_blk 2 rfl rfl)) rfl rfl fun a_96 HE97 => ?_
      have ke29 : (e22.2.1).toNat < a1.2.length := by omega
      obtain ⟨be29, fe29, rfl⟩ := el_own HH83 (i := 1) rfl ke29
      refine pl_x HE97 HH83 (wt0 rfl) (x_indexAddr ts_31 rfl rfl rfl (by omega) ke29) rfl rfl fun a_98 HE99 => ?_
      obtain ⟨y30, xy30⟩ : ∃ y, y = a1.2[(e22.2.1).toNat]'(by first | exact ke29 | (simp only [List.length_set]; exact ke29) | omega | (simp only [List.length_set]; omega) | (simp; omega)) := ⟨_, rfl⟩
      have iy30 : I64 y30 := by rw [xy30]; exact i_ownI HH83 1 rfl _
      have jy30 := iy30; unfold I64 at jy30
      have by30 := allW_mem v3 y30 (by rw [xy30]; exact List.getElem_mem _)
      refine pl_x HE99 HH83 (wt0 rfl) (x_load1 tv_2 rfl (c_ownV 1 rfl (by first | exact ke29 | (simp only [List.length_set]; exact ke29) | omega | (simp only [List.length_set]; omega) | (simp; omega)) xy30.symm)) rfl rfl fun a_100 HE101 => ?_
      refine pl_x HE101 HH83 (wt0 rfl) (x_add rfl rfl (by exact ⟨by omega, by omega⟩)) rfl rfl fun a_102 HE103 => ?_
      have ke31 : (e22.2.1).toNat < a1.2.length := by omega
      refine pl_x HE103 HH83 (wt0 rfl) (x_indexAddr ts_31 rfl rfl rfl (by omega) ke31) rfl rfl fun a_104 HE105 => ?_
      refine pl fun K_106 hK107 => ?_
      refine st_storeI 1 HE105 HH83 tv_2 rfl rfl rfl (by first | exact ke31 | (simp only [List.length_set]; exact ke31) | omega | (simp only [List.length_set]; omega) | (simp; omega)) (by exact ⟨by omega, by omega⟩) (wt0 rfl) fun w' HH108 => hK107 _ _ ?_
      refine wpList_nil ?_
      clear a_88 HE89 a_90 HE91 a_92 HE93 a_94 HE95 a_96 HE97 a_98 HE99 a_100 HE101 a_102 HE103 HH83 hK107 K_106
      refine nrm ?_
      refine wp_seq ?_
      refine dr_start (Held Nob w [rBlk q25 43 [.int .i64 (e22.2.2.1), .slice (some ⟨be29, fe29, none⟩) (a1.2.length) cr24_0], rSo eInt Sr24 (some ⟨be29, fe29, none⟩) cr24_0 (a1.2.set ((e22.2.1).toNat) (y30 + 1)), rBlk q23 111 [.int .i64 (e22.1), .int .i64 (e22.2.1), .int .i64 (e22.2.2.1), .int .i64 (e22.2.2.2)]]) 10 #[false, false, false, false, false, false, false, false, false, false] hmix rfl rfl HH108 (fun _ h => h.sel [0, 1, 2] (by decide) rfl) fun w' HH109 => ?_
      have HS110 := HH109.sel [0, 1, 2] (by decide) rfl
      refine dr_take (i := 0) (ls' := #[true, false, false, false, false, false, false, false, false, false]) HE105 HS110 rfl (by kernel_rfl) (by kernel_rfl) (by kernel_rfl) (fun _ _ _ h => h) rfl (wt0 rfl) (x_loadN (cs := [.int .i64 (e22.2.2.1), .slice (some ⟨be29, fe29, none⟩) (a1.2.length) cr24_0]) tv_43 rfl rfl (c_blkN 0 rfl)) rfl rfl fun a_111 HE112 => ?_
      refine dr_take (i := 1) (ls' := #[true, true, false, false, false, false, false, false, false, false]) HE112 HS110 rfl (by kernel_rfl) (by kernel_rfl) (by kernel_rfl) (fun _ _ _ h => h) rfl (wt0 rfl) (x_fieldAddr fa_43_1 rfl) rfl rfl fun a_113 HE114 => ?_
      refine dr_take (i := 2) (ls' := #[true, true, true, false, false, false, false, false, false, false]) HE114 HS110 rfl (by kernel_rfl) (by kernel_rfl) (by kernel_rfl) (fun _ _ _ h => h) rfl (wt0 rfl) (x_load1 tv_31 rfl (c_blk 0 rfl rfl)) rfl rfl fun a_115 HE116 => ?_
      refine dr_take (i := 3) (ls' := #[true, true, true, true, false, false, false, false, false, false]) HE116 HS110 rfl (by kernel_rfl) (by kernel_rfl) (by kernel_rfl) (fun _ _ _ h => h) rfl (wt0 rfl) (x_fieldAddr fa_111_1 rfl) rfl rfl fun a_117 HE118 => ?_
      refine dr_take (i := 4) (ls' := #[true, true, true, true, true, false, false, false, false, false]) HE118 HS110 rfl (by kernel_rfl) (by kernel_rfl) (by kernel_rfl) (fun _ _ _ h => h) rfl (wt0 rfl) (x_load1 tv_2 rfl (c_blk 2 rfl rfl)) rfl rfl fun a_119 HE120 => ?_
      have ke32 : (e22.2.1).toNat < a1.2.length := by omega
      refine dr_take (i := 5) (ls' := #[true, true, true, true, true, true, false, false, false, false]) HE120 HS110 rfl (by kernel_rfl) (by kernel_rfl) (by kernel_rfl) (fun _ _ _ h => h) rfl (wt0 rfl) (x_indexAddr ts_31 rfl rfl rfl (by omega) ke32) rfl rfl fun a_121 HE122 => ?_
      refine dr_take (i := 6) (ls' := #[true, true, true, true, true, true, true, false, false, false]) HE122 HS110 rfl (by kernel_rfl) (by kernel_rfl) (by kernel_rfl) (fun _ _ _ h => h) rfl (wt0 rfl) (x_load1 tv_2 rfl (c_ownV (y := (y30 + 1)) 1 rfl (by first | exact ke32 | (simp only [List.length_set]; exact ke32) | omega | (simp only [List.length_set]; omega) | (simp; omega)) (by simp))) rfl rfl fun a_123 HE124 => ?_
      refine dr_take (i := 7) (ls' := #[true, true, true, true, true, true, true, true, false, false]) HE124 HS110 rfl (by kernel_rfl) (by kernel_rfl) (by kernel_rfl) (fun _ _ _ h => h) rfl (wt0 rfl) (x_leq rfl rfl) rfl rfl fun a_125 HE126 => ?_
      refine dr_one (i := 8) (ls' := #[true, true, true, true, true, true, true, true, true, false]) rfl (by kernel_rfl) rfl fun K_127 hK128 => ?_
      refine st_store (vs := [.int .i64 (e22.2.2.1), .slice (some ⟨be29, fe29, none⟩) (a1.2.length) cr24_0]) 3 HE126 HH109 tv_43 rfl rfl rfl rfl rfl rfl (by simp [Value.oneCell']) (wt0 rfl) fun w' HH129 => hK128 _ _ (by exact HH129.sel [0, 1, 2] (by decide) rfl) ?_
      have HS130 := HH129.sel [0, 1, 2] (by decide) rfl
      refine dr_take (i := 9) (ls' := #[true, true, true, true, true, true, true, true, true, true]) HE126 HS130 rfl (by kernel_rfl) (by kernel_rfl) (by kernel_rfl) (fun _ _ _ h => h) rfl (wt0 rfl) (x_assign rfl) rfl rfl fun a_131 HE132 => ?_
      refine dr_done (by kernel_rfl) ?_
      clear HH108 a_104 HE105 a_111 HE112 a_113 HE114 a_115 HE116 a_117 HE118 a_119 HE120 a_121 HE122 a_123 HE124 HH109 HS110 a_125 HE126 hK128 K_127
      refine nrm ?_
      refine wp_ret ?_
      refine (thn_ret ?_)
      refine ret2 HE132 rfl (rv_cell rfl (tv_43.loadN (cs := [.int .i64 (e22.2.2.1), .slice (some ⟨be29, fe29, none⟩) (a1.2.length) cr24_0]) rfl (c_blkN 3 rfl _ HH129))) (rv_tmp rfl) ?_
      have HH133 := HH129.sel [1, 0, 2, 3] (by decide) rfl
      have HH134 := HH133.relen (n := a1.2.length) (by first | (simp; done) | (simp; omega))
      have HH135 := HH134.pairF (E := eInt) (c1 := [.int .i64 (e22.2.2.1)]) (x := e22.2.2.1) (oI (by exact ⟨by omega, by omega⟩))
      obtain ⟨S33, HH136⟩ : ∃ S, Held Nob w (rO eStore S [.int .i64 (e22.2.2.1), .slice (some ⟨be29, fe29, none⟩) (a1.2.length) cr24_0] (e22.2.2.1, (a1.2.set ((e22.2.1).toNat) (y30 + 1))) :: _) _ := ⟨_, HH135⟩
      have hF : (stepS2 a0 a1) = ((e22.2.2.1, (a1.2.set ((e22.2.1).toNat) (y30 + 1))), decide ((y30 + 1) ≤ 1000000)) := by
        grind [stepS2, stepS]
      exact ⟨_, by rw [hF] <;> rfl, by rw [hF]; exact (HH136.o (i := 0) rfl), HH136.below⟩
    · refine wp_skip ?_
      refine nrm ?_
      refine wp_seq ?_
      refine wp_seq ?_
      refine rg ?_
      refine pl_x HE89 HH83 (wt0 rfl) (x_fieldAddr fa_43_1 rfl) rfl rfl fun a_137 HE138 => ?_
      refine pl_x HE138 HH83 (wt0 rfl) (x_load1 tv_31 rfl (c_blk 0 rfl rfl)) rfl rfl fun a_139 HE140 => ?_
      refine pl_x HE140 HH83 (wt0 rfl) (x_fieldAddr fa_111_1 rfl) rfl rfl fun a_141 HE142 => ?_
      refine pl_x HE142 HH83 (wt0 rfl) (x_load1 tv_2 rfl (c_blk 2 rfl rfl)) rfl rfl fun a_143 HE144 => ?_
      have ke34 : (e22.2.1).toNat < a1.2.length := by omega
      obtain ⟨be34, fe34, rfl⟩ := el_own HH83 (i := 1) rfl ke34
      refine pl_x HE144 HH83 (wt0 rfl) (x_indexAddr ts_31 rfl rfl rfl (by omega) ke34) rfl rfl fun a_145 HE146 => ?_
      obtain ⟨y35, xy35⟩ : ∃ y, y = a1.2[(e22.2.1).toNat]'(by first | exact ke34 | (simp only [List.length_set]; exact ke34) | omega | (simp only [List.length_set]; omega) | (simp; omega)) := ⟨_, rfl⟩
      have iy35 : I64 y35 := by rw [xy35]; exact i_ownI HH83 1 rfl _
      have jy35 := iy35; unfold I64 at jy35
      have by35 := allW_mem v3 y35 (by rw [xy35]; exact List.getElem_mem _)
      refine pl_x HE146 HH83 (wt0 rfl) (x_load1 tv_2 rfl (c_ownV 1 rfl (by first | exact ke34 | (simp only [List.length_set]; exact ke34) | omega | (simp only [List.length_set]; omega) | (simp; omega)) xy35.symm)) rfl rfl fun a_147 HE148 => ?_
      refine pl_x HE148 HH83 (wt0 rfl) (x_eql rfl rfl) rfl rfl fun a_149 HE150 => ?_
      refine wpList_nil ?_
      clear a_88 HE89 a_137 HE138 a_139 HE140 a_141 HE142 a_143 HE144 a_145 HE146 a_147 HE148
      refine nrm ?_
      refine cnd_e HE150 rfl (fun hc36 => ?_) (fun hc36 => ?_)
      · refine wp_seq ?_
        refine rg ?_
        refine pl_x HE150 HH83 (wt0 rfl) (x_fieldAddr fa_111_3 rfl) rfl rfl fun a_151 HE152 => ?_
        refine pl_x HE152 HH83 (wt0 rfl) (x_load1 tv_2 rfl (c_blk 2 rfl rfl)) rfl rfl fun a_153 HE154 => ?_
        refine pl_x HE154 HH83 (wt0 rfl) (x_fieldAddr fa_43_0 rfl) rfl rfl fun a_155 HE156 => ?_
        refine pl fun K_157 hK158 => ?_
        refine st_store (vs := [.int .i64 (e22.2.2.2)]) 0 HE156 HH83 tv_2 rfl rfl rfl rfl rfl rfl (by simp [Value.oneCell']) (wt0 rfl) fun w' HH159 => hK158 _ _ ?_
        refine wpList_nil ?_
        clear a_149 HE150 a_151 HE152 a_153 HE154 HH83 hK158 K_157
        refine nrm ?_
        refine wp_seq ?_
        refine rg ?_
        refine pl_x HE156 HH159 (wt0 rfl) (x_loadN (cs := [.int .i64 (e22.2.2.2), .slice (some ⟨be34, fe34, none⟩) (a1.2.length) cr24_0]) tv_43 rfl rfl (c_blkN 0 rfl)) rfl rfl fun a_160 HE161 => ?_
        refine pl fun K_162 hK163 => ?_
        refine st_store (vs := [.int .i64 (e22.2.2.2), .slice (some ⟨be34, fe34, none⟩) (a1.2.length) cr24_0]) 3 HE161 HH159 tv_43 rfl rfl rfl rfl rfl rfl (by simp [Value.oneCell']) (wt0 rfl) fun w' HH164 => hK163 _ _ ?_
        refine pl_x HE161 HH164 (wt0 rfl) (x_assign rfl) rfl rfl fun a_165 HE166 => ?_
        refine wpList_nil ?_
        clear a_155 HE156 HH159 a_160 HE161 hK163 K_162
        refine nrm ?_
        refine wp_ret ?_
        refine (thn_ret ?_)
        refine ret2 HE166 rfl (rv_cell rfl (tv_43.loadN (cs := [.int .i64 (e22.2.2.2), .slice (some ⟨be34, fe34, none⟩) (a1.2.length) cr24_0]) rfl (c_blkN 3 rfl _ HH164))) (rv_tmp rfl) ?_
        have HH167 := HH164.sel [1, 0, 2, 3] (by decide) rfl
        have HH168 := HH167.pairF (E := eInt) (c1 := [.int .i64 (e22.2.2.2)]) (x := e22.2.2.2) (oI (by exact ⟨by omega, by omega⟩))
        obtain ⟨S37, HH169⟩ : ∃ S, Held Nob w (rO eStore S [.int .i64 (e22.2.2.2), .slice (some ⟨be34, fe34, none⟩) (a1.2.length) cr24_0] (e22.2.2.2, a1.2) :: _) _ := ⟨_, HH168⟩
        have hF : (stepS2 a0 a1) = ((e22.2.2.2, a1.2), true) := by
          grind [stepS2, stepS]
        exact ⟨_, by rw [hF] <;> rfl, by rw [hF]; exact (HH169.o (i := 0) rfl), HH169.below⟩
      · refine wp_skip ?_
        refine nrm ?_
        refine wp_seq ?_
        refine rg ?_
        refine pl_x HE150 HH83 (wt0 rfl) (x_fieldAddr fa_43_1 rfl) rfl rfl fun a_170 HE171 => ?_
        refine pl_x HE171 HH83 (wt0 rfl) (x_load1 tv_31 rfl (c_blk 0 rfl rfl)) rfl rfl fun a_172 HE173 => ?_
        refine pl_x HE173 HH83 (wt0 rfl) (x_fieldAddr fa_111_1 rfl) rfl rfl fun a_174 HE175 => ?_
        refine pl_x HE175 HH83 (wt0 rfl) (x_load1 tv_2 rfl (c_blk 2 rfl rfl)) rfl rfl fun a_176 HE177 => ?_
        have ke38 : (e22.2.1).toNat < a1.2.length := by omega
        refine pl_x HE177 HH83 (wt0 rfl) (x_indexAddr ts_31 rfl rfl rfl (by omega) ke38) rfl rfl fun a_178 HE179 => ?_
        obtain ⟨y39, xy39⟩ : ∃ y, y = a1.2[(e22.2.1).toNat]'(by first | exact ke38 | (simp only [List.length_set]; exact ke38) | omega | (simp only [List.length_set]; omega) | (simp; omega)) := ⟨_, rfl⟩
        have iy39 : I64 y39 := by rw [xy39]; exact i_ownI HH83 1 rfl _
        have jy39 := iy39; unfold I64 at jy39
        have by39 := allW_mem v3 y39 (by rw [xy39]; exact List.getElem_mem _)
        refine pl_x HE179 HH83 (wt0 rfl) (x_load1 tv_2 rfl (c_ownV 1 rfl (by first | exact ke38 | (simp only [List.length_set]; exact ke38) | omega | (simp only [List.length_set]; omega) | (simp; omega)) xy39.symm)) rfl rfl fun a_180 HE181 => ?_
        refine pl_x HE181 HH83 (wt0 rfl) (x_sub rfl rfl (by exact ⟨by omega, by omega⟩)) rfl rfl fun a_182 HE183 => ?_
        have ke40 : (e22.2.1).toNat < a1.2.length := by omega
        refine pl_x HE183 HH83 (wt0 rfl) (x_indexAddr ts_31 rfl rfl rfl (by omega) ke40) rfl rfl fun a_184 HE185 => ?_
        refine pl fun K_186 hK187 => ?_
        refine st_storeI 1 HE185 HH83 tv_2 rfl rfl rfl (by first | exact ke40 | (simp only [List.length_set]; exact ke40) | omega | (simp only [List.length_set]; omega) | (simp; omega)) (by exact ⟨by omega, by omega⟩) (wt0 rfl) fun w' HH188 => hK187 _ _ ?_
        refine wpList_nil ?_
        clear a_149 HE150 a_170 HE171 a_172 HE173 a_174 HE175 a_176 HE177 a_178 HE179 a_180 HE181 a_182 HE183 HH83 hK187 K_186
        refine nrm ?_
        refine wp_seq ?_
        refine rg ?_
        refine pl_x HE185 HH188 (wt0 rfl) (x_loadN (cs := [.int .i64 (e22.2.2.1), .slice (some ⟨be34, fe34, none⟩) (a1.2.length) cr24_0]) tv_43 rfl rfl (c_blkN 0 rfl)) rfl rfl fun a_189 HE190 => ?_
        refine pl fun K_191 hK192 => ?_
        refine st_store (vs := [.int .i64 (e22.2.2.1), .slice (some ⟨be34, fe34, none⟩) (a1.2.length) cr24_0]) 3 HE190 HH188 tv_43 rfl rfl rfl rfl rfl rfl (by simp [Value.oneCell']) (wt0 rfl) fun w' HH193 => hK192 _ _ ?_
        refine pl_x HE190 HH193 (wt0 rfl) (x_assign rfl) rfl rfl fun a_194 HE195 => ?_
        refine wpList_nil ?_
        clear a_184 HE185 HH188 a_189 HE190 hK192 K_191
        refine nrm ?_
        refine wp_ret ?_
        refine ret2 HE195 rfl (rv_cell rfl (tv_43.loadN (cs := [.int .i64 (e22.2.2.1), .slice (some ⟨be34, fe34, none⟩) (a1.2.length) cr24_0]) rfl (c_blkN 3 rfl _ HH193))) (rv_tmp rfl) ?_
        have HH196 := HH193.sel [1, 0, 2, 3] (by decide) rfl
        have HH197 := HH196.relen (n := a1.2.length) (by first | (simp; done) | (simp; omega))
        have HH198 := HH197.pairF (E := eInt) (c1 := [.int .i64 (e22.2.2.1)]) (x := e22.2.2.1) (oI (by exact ⟨by omega, by omega⟩))
        obtain ⟨S41, HH199⟩ : ∃ S, Held Nob w (rO eStore S [.int .i64 (e22.2.2.1), .slice (some ⟨be34, fe34, none⟩) (a1.2.length) cr24_0] (e22.2.2.1, (a1.2.set ((e22.2.1).toNat) (y39 - 1))) :: _) _ := ⟨_, HH198⟩
        have hF : (stepS2 a0 a1) = ((e22.2.2.1, (a1.2.set ((e22.2.1).toNat) (y39 - 1))), true) := by
          grind [stepS2, stepS]
        exact ⟨_, by rw [hF] <;> rfl, by rw [hF]; exact (HH199.o (i := 0) rfl), HH199.below⟩

set_option maxRecDepth 100000 in
set_option maxHeartbeats 4000000 in
theorem impl_RunProgram1 (es0 : List Value) (a0 : tStore) (w : World) (h0 : eStore.R w (Old w) es0 a0) :
    Calls Try.prog 140 #[.agg es0.toArray] w fun e w' => e = .returned (.tuple #[]) ∧ Below w.heap.size w w' := by
  have H0 := h0
  obtain ⟨Az0_1, cz0_1, rfl, gz0_0, gz0_1⟩ := shape_Store h0
  have jz0_0 := gz0_0; unfold I64 at jz0_0
  have lz0_1 := gz0_1.len
  have HH1 := Held.start Nob w
  refine enter (n := 2) Try.func140 rfl rfl rfl fun a_2 HE3 => ?_
  refine rg ?_
  refine pl fun K_4 hK5 => ?_
  refine st_box (cs := [.int .i64 (a0.1), .slice Az0_1 (a0.2.length) cz0_1]) HE3 HH1 rfl rfl (wt0 rfl) rfl fun q21 a_6 w' HE7 HH8 => hK5 _ _ ?_
  refine wpList_nil ?_
  clear a_2 HE3 HH1 hK5 K_4
  refine fin0 HE7 rfl ?_
  exact ⟨rfl, HH8.below⟩

set_option maxRecDepth 100000 in
set_option maxHeartbeats 4000000 in
theorem impl_runStore (M : Nat → Prop) (A0 : Option Addr) (c0 : Nat) (a0 : (List tInstr)) (p1 : Nat) (es1 : List Value) (a1 : tStore) (S1 : Nat → Prop) (a2 : Int) (w : World) (HM : Held M w [rBlk p1 43 es1, rO eStore S1 es1 a1] w) (h0 : Sl eInstr w (Out M w) A0 c0 a0) (s0 : validProg a0 = true) (s1 : storeOf a0 a1 = true) (s2 : 0 ≤ a2 ∧ a2 ≤ 20000) :
    Calls Try.prog 139 #[.slice A0 a0.length c0, .pointer (some ⟨p1, 0, none⟩), .int .i64 a2, .func (.func 140) #[] #[]] w fun e w' => ∃ (es1' : List Value) (S1' : Nat → Prop), e = .returned (.tuple #[.int .i64 (runS a0 a1 a2).1, .bool (runS a0 a1 a2).2.1, .int .i64 (runS a0 a1 a2).2.2.1]) ∧ Held M w [rBlk p1 43 es1', rO eStore S1' es1' (runS a0 a1 a2).2.2.2] w' := by
  have l0 := h0.len
  have HH1 := HM
  have R1 := HH1.rd (i := 1) rfl
  obtain ⟨Az1_1, cz1_1, rfl, gz1_0, gz1_1⟩ := shape_Store R1
  have jz1_0 := gz1_0; unfold I64 at jz1_0
  have lz1_1 := gz1_1.len
  clear R1
  have HH2 := HH1.sel [1, 0] (by decide) rfl
  have HH3 := HH2.unF rfl
  refine enter (n := 43) Try.func139 rfl rfl rfl fun a_4 HE5 => ?_
  refine wp_seq ?_
  refine rg ?_
  refine pl_x HE5 HH3 (wt0 rfl) (x_assign rfl) rfl rfl fun a_6 HE7 => ?_
  refine pl_x HE7 HH3 (wt0 rfl) (x_assign rfl) rfl rfl fun a_8 HE9 => ?_
  refine pl_x HE9 HH3 (wt0 rfl) (x_assign rfl) rfl rfl fun a_10 HE11 => ?_
  refine wpList_nil ?_
  clear HH1 HH2 a_4 HE5 a_6 HE7 a_8 HE9
  refine nrm ?_
  refine wp_seq ?_
  refine rg ?_
  refine pl_x HE11 HH3 (wt0 rfl) (x_assign rfl) rfl rfl fun a_12 HE13 => ?_
  refine wpList_nil ?_
  clear a_10 HE11
  refine nrm ?_
  refine wp_block ?_
  refine lp (fun m a w' => ∃ (k : Nat) (y : tStore) (A_1_1 : Option Addr) (c_1_1 : Nat) (S_1_1 : Nat → Prop), m = (a2 - (k : Int)).toNat ∧ Env 43 [(11, .int .i64 (k : Int)), (0, .slice A0 (a0.length) c0), (1, .pointer (some ⟨p1, 0, none⟩)), (2, .int .i64 (a2)), (3, .func (.func 140) #[] #[])] a ∧ Held M w [rSo eInt S_1_1 A_1_1 c_1_1 y.2, rBlk p1 43 [.int .i64 y.1, .slice A_1_1 (List.length y.2) c_1_1]] w' ∧ ((k : Int) ≤ a2) ∧ (storeOf a0 y = true) ∧ (runS a0 a1 a2 = runF a0 (a2 - k).toNat y k)) ((a2 - ((0) : Int)).toNat) ?_ ?_
  · exact ⟨0, a1, Az1_1, cz1_1, S1, rfl, HE13.sub ⟨(lkI rfl (by first | rfl | omega | (simp []; done))), rfl, rfl, rfl, rfl, trivial⟩, (HH3.sel [0, 1] (by decide) rfl), (by first | omega | assumption | (simp; done) | simp_all), (by exact s1), (by unfold runS; simp)⟩
  · rintro m a_14 w' ⟨k, y, A_1_1, c_1_1, S_1_1, rfl, HE15, HH16, p21_0, p21_1, p21_2⟩
    obtain ⟨v0, v1, v2, v3⟩ := storeOf_facts p21_1
    refine wp_seq ?_
    refine wp_block ?_
    refine wp_seq ?_
    refine rg ?_
    refine pl_x HE15 HH16 (wt0 rfl) (x_move rfl) rfl rfl fun a_17 HE18 => ?_
    refine pl_x HE18 HH16 (wt0 rfl) (x_move rfl) rfl rfl fun a_19 HE20 => ?_
    refine pl_x HE20 HH16 (wt0 rfl) (x_nilCheck rfl) rfl rfl fun a_21 HE22 => ?_
    refine pl_x HE22 HH16 (wt0 rfl) (x_loadN (cs := [.int .i64 (y.1), .slice A_1_1 ((List.length y.2)) c_1_1]) tv_43 rfl rfl (c_blkN 1 rfl)) rfl rfl fun a_23 HE24 => ?_
    refine pl fun K_25 hK26 => ?_
    refine st_call HE24 (wt0 rfl) rfl rfl rfl en_140 rfl rfl (impl_RunProgram1 [.int .i64 (y.1), .slice A_1_1 ((List.length y.2)) c_1_1] y _ (rep_Store (x := y) (by exact ⟨by omega, by omega⟩) (HH16.sl (i := 0) rfl))) fun e w' hr => ?_
    obtain ⟨rfl, hbr22⟩ := hr
    have HH27 := HH16.on hbr22
    refine ⟨_, rfl, fun a_28 HE29 => hK26 _ _ ?_⟩
    refine wpList_nil ?_
    clear a_12 HE13 HH3 a_14 HE15 a_17 HE18 a_19 HE20 a_21 HE22 HH16 a_23 HE24 hK26 K_25
    refine nrm ?_
    refine wp_seq ?_
    refine wp_seq ?_
    refine dr_start (Held M w [rSo eInt S_1_1 A_1_1 c_1_1 y.2, rBlk p1 43 [.int .i64 (y.1), .slice A_1_1 ((List.length y.2)) c_1_1]]) 12 #[false, false, false, false, false, false, false, false, false, false, false, false] hmix rfl rfl HH27 (fun _ h => h.sel [0, 1] (by decide) rfl) fun w' HH30 => ?_
    have HS31 := HH30
    refine dr_take (i := 0) (ls' := #[true, false, false, false, false, false, false, false, false, false, false, false]) HE29 HS31 rfl (by kernel_rfl) (by kernel_rfl) (by kernel_rfl) (fun _ _ _ h => h) rfl (wt0 rfl) (x_move rfl) rfl rfl fun a_32 HE33 => ?_
    refine dr_take (i := 1) (ls' := #[true, true, false, false, false, false, false, false, false, false, false, false]) HE33 HS31 rfl (by kernel_rfl) (by kernel_rfl) (by kernel_rfl) (fun _ _ _ h => h) rfl (wt0 rfl) (x_nilCheck rfl) rfl rfl fun a_34 HE35 => ?_
    refine dr_take (i := 2) (ls' := #[true, true, true, false, false, false, false, false, false, false, false, false]) HE35 HS31 rfl (by kernel_rfl) (by kernel_rfl) (by kernel_rfl) (fun _ _ _ h => h) rfl (wt0 rfl) (x_fieldAddr fa_43_0 rfl) rfl rfl fun a_36 HE37 => ?_
    refine dr_take (i := 3) (ls' := #[true, true, true, true, false, false, false, false, false, false, false, false]) HE37 HS31 rfl (by kernel_rfl) (by kernel_rfl) (by kernel_rfl) (fun _ _ _ h => h) rfl (wt0 rfl) (x_load1 tv_2 rfl (c_blk 1 rfl rfl)) rfl rfl fun a_38 HE39 => ?_
    refine dr_take (i := 4) (ls' := #[true, true, true, true, true, false, false, false, false, false, false, false]) HE39 HS31 rfl (by kernel_rfl) (by kernel_rfl) (by kernel_rfl) (fun _ _ _ h => h) rfl (wt0 rfl) (x_move rfl) rfl rfl fun a_40 HE41 => ?_
    refine dr_one (i := 5) (ls' := #[true, true, true, true, true, true, false, false, false, false, false, false]) rfl (by kernel_rfl) rfl fun K_42 hK43 => ?_
    refine st_call HE41 (wt0 rfl) rfl rfl rfl en_124 rfl rfl (impl_size_Instr _ _ _ _) fun e w' hr => ?_
    obtain ⟨rfl, rfl⟩ := hr
    refine ⟨_, rfl, fun a_44 HE45 => hK43 _ _ (by exact HH30.sel [0, 1] (by decide) rfl) ?_⟩
    have HS46 := HH30.sel [0, 1] (by decide) rfl
    refine dr_take (i := 6) (ls' := #[true, true, true, true, true, true, true, false, false, false, false, false]) HE45 HS46 rfl (by kernel_rfl) (by kernel_rfl) (by kernel_rfl) (fun _ _ _ h => h) rfl (wt0 rfl) (x_eql rfl rfl) rfl rfl fun a_47 HE48 => ?_
    refine dr_take (i := 7) (ls' := #[true, true, true, true, true, true, true, true, false, false, false, false]) HE48 HS46 rfl (by kernel_rfl) (by kernel_rfl) (by kernel_rfl) (fun _ _ _ h => h) rfl (wt0 rfl) (x_move rfl) rfl rfl fun a_49 HE50 => ?_
    by_cases hc24 : y.1 = (a0.length : Int)
    · refine dr_takeNo (i := 8) (ls' := #[true, true, true, true, true, true, true, true, true, false, false, false]) HE50 HS46 rfl (by kernel_rfl) (by kernel_rfl) (by kernel_rfl) (fun _ _ _ h => h) rfl (wtF HE50 rfl rfl rfl (beq_t hc24)) rfl rfl fun a_51 HE52 => ?_
      refine dr_takeNo (i := 9) (ls' := #[true, true, true, true, true, true, true, true, true, true, false, false]) HE52 HS46 rfl (by kernel_rfl) (by kernel_rfl) (by kernel_rfl) (fun _ _ _ h => h) rfl (wtF HE52 rfl rfl rfl (beq_t hc24)) rfl rfl fun a_53 HE54 => ?_
      refine dr_takeNo (i := 10) (ls' := #[true, true, true, true, true, true, true, true, true, true, true, false]) HE54 HS46 rfl (by kernel_rfl) (by kernel_rfl) (by kernel_rfl) (fun _ _ _ h => h) rfl (wtF HE54 rfl rfl rfl (beq_t hc24)) rfl rfl fun a_55 HE56 => ?_
      refine dr_take (i := 11) (ls' := #[true, true, true, true, true, true, true, true, true, true, true, true]) HE56 HS46 rfl (by kernel_rfl) (by kernel_rfl) (by kernel_rfl) (fun _ _ _ h => h) rfl (wt0 rfl) (x_pickT rfl (beq_t hc24) rfl) rfl rfl fun a_57 HE58 => ?_
      refine dr_done (by kernel_rfl) ?_
      clear HH27 a_28 HE29 a_32 HE33 a_34 HE35 a_36 HE37 a_38 HE39 a_40 HE41 HS31 a_44 HE45 a_47 HE48 a_49 HE50 a_51 HE52 a_53 HE54 a_55 HE56 hK43 K_42
      refine nrm ?_
      refine cndT HE58 rfl rfl ?_
      refine wp_seq ?_
      refine dr_start (Held M w [rSo eInt S_1_1 A_1_1 c_1_1 y.2, rBlk p1 43 [.int .i64 (y.1), .slice A_1_1 ((List.length y.2)) c_1_1]]) 11 #[false, false, false, false, false, false, false, false, false, false, false] hmix rfl rfl HH30 (fun _ h => h.sel [0, 1] (by decide) rfl) fun w' HH59 => ?_
      have HS60 := HH59
      refine dr_take (i := 0) (ls' := #[true, false, false, false, false, false, false, false, false, false, false]) HE58 HS60 rfl (by kernel_rfl) (by kernel_rfl) (by kernel_rfl) (fun _ _ _ h => h) rfl (wt0 rfl) (x_move rfl) rfl rfl fun a_61 HE62 => ?_
      refine dr_take (i := 1) (ls' := #[true, true, false, false, false, false, false, false, false, false, false]) HE62 HS60 rfl (by kernel_rfl) (by kernel_rfl) (by kernel_rfl) (fun _ _ _ h => h) rfl (wt0 rfl) (x_move rfl) rfl rfl fun a_63 HE64 => ?_
      refine dr_take (i := 2) (ls' := #[true, true, true, false, false, false, false, false, false, false, false]) HE64 HS60 rfl (by kernel_rfl) (by kernel_rfl) (by kernel_rfl) (fun _ _ _ h => h) rfl (wt0 rfl) (x_nilCheck rfl) rfl rfl fun a_65 HE66 => ?_
      refine dr_take (i := 3) (ls' := #[true, true, true, true, false, false, false, false, false, false, false]) HE66 HS60 rfl (by kernel_rfl) (by kernel_rfl) (by kernel_rfl) (fun _ _ _ h => h) rfl (wt0 rfl) (x_fieldAddr fa_43_0 rfl) rfl rfl fun a_67 HE68 => ?_
      refine dr_take (i := 4) (ls' := #[true, true, true, true, true, false, false, false, false, false, false]) HE68 HS60 rfl (by kernel_rfl) (by kernel_rfl) (by kernel_rfl) (fun _ _ _ h => h) rfl (wt0 rfl) (x_load1 tv_2 rfl (c_blk 1 rfl rfl)) rfl rfl fun a_69 HE70 => ?_
      refine dr_take (i := 5) (ls' := #[true, true, true, true, true, true, false, false, false, false, false]) HE70 HS60 rfl (by kernel_rfl) (by kernel_rfl) (by kernel_rfl) (fun _ _ _ h => h) rfl (wt0 rfl) (x_move rfl) rfl rfl fun a_71 HE72 => ?_
      refine dr_one (i := 6) (ls' := #[true, true, true, true, true, true, true, false, false, false, false]) rfl (by kernel_rfl) rfl fun K_73 hK74 => ?_
      refine st_call HE72 (wt0 rfl) rfl rfl rfl en_124 rfl rfl (impl_size_Instr _ _ _ _) fun e w' hr => ?_
      obtain ⟨rfl, rfl⟩ := hr
      refine ⟨_, rfl, fun a_75 HE76 => hK74 _ _ (by exact HH59.sel [0, 1] (by decide) rfl) ?_⟩
      have HS77 := HH59.sel [0, 1] (by decide) rfl
      refine dr_take (i := 7) (ls' := #[true, true, true, true, true, true, true, true, false, false, false]) HE76 HS77 rfl (by kernel_rfl) (by kernel_rfl) (by kernel_rfl) (fun _ _ _ h => h) rfl (wt0 rfl) (x_eql rfl rfl) rfl rfl fun a_78 HE79 => ?_
      refine dr_take (i := 8) (ls' := #[true, true, true, true, true, true, true, true, true, false, false]) HE79 HS77 rfl (by kernel_rfl) (by kernel_rfl) (by kernel_rfl) (fun _ _ _ h => h) rfl (wt0 rfl) (x_assign rfl) rfl rfl fun a_80 HE81 => ?_
      refine dr_take (i := 9) (ls' := #[true, true, true, true, true, true, true, true, true, true, false]) HE81 HS77 rfl (by kernel_rfl) (by kernel_rfl) (by kernel_rfl) (fun _ _ _ h => h) rfl (wt0 rfl) (x_assign rfl) rfl rfl fun a_82 HE83 => ?_
      refine dr_take (i := 10) (ls' := #[true, true, true, true, true, true, true, true, true, true, true]) HE83 HS77 rfl (by kernel_rfl) (by kernel_rfl) (by kernel_rfl) (fun _ _ _ h => h) rfl (wt0 rfl) (x_assign rfl) rfl rfl fun a_84 HE85 => ?_
      refine dr_done (by kernel_rfl) ?_
      clear HH30 HS46 a_57 HE58 a_61 HE62 a_63 HE64 a_65 HE66 a_67 HE68 a_69 HE70 a_71 HE72 HS60 a_75 HE76 a_78 HE79 a_80 HE81 a_82 HE83 hK74 K_73
      refine nrm ?_
      refine wp_ret ?_
      refine (thn_ret (blk_ret (thn_ret (thn_ret (blk_ret ?_)))))
      refine ret3 HE85 rfl (rv_tmp rfl) (rv_tmp rfl) (rv_tmp rfl) ?_
      have HH86 := HH59.pairF (E := eInt) (c1 := [.int .i64 (y.1)]) (x := y.1) (oI (by exact ⟨by omega, by omega⟩))
      obtain ⟨S26, HH87⟩ : ∃ S, Held M w (rO eStore S [.int .i64 (y.1), .slice A_1_1 ((List.length y.2)) c_1_1] y :: _) _ := ⟨_, HH86⟩
      have hF : (runS a0 a1 a2) = ((k : Int), (y.1 == (a0.length : Int)), 0, y) := by
        rw [p21_2, runF_eq]; grind
      exact ⟨_, _, by rw [hF] <;> rfl, by rw [hF]; exact HH87.sel [1, 0] (by decide) rfl⟩
    · refine dr_take (i := 8) (ls' := #[true, true, true, true, true, true, true, true, true, false, false, false]) HE50 HS46 rfl (by kernel_rfl) (by kernel_rfl) (by kernel_rfl) (fun _ _ _ h => h) rfl (wtT HE50 rfl rfl rfl (beq_f hc24)) (x_move rfl) rfl rfl fun a_88 HE89 => ?_
      refine dr_take (i := 9) (ls' := #[true, true, true, true, true, true, true, true, true, true, false, false]) HE89 HS46 rfl (by kernel_rfl) (by kernel_rfl) (by kernel_rfl) (fun _ _ _ h => h) rfl (wtT HE89 rfl rfl rfl (beq_f hc24)) (x_move rfl) rfl rfl fun a_90 HE91 => ?_
      refine dr_take (i := 10) (ls' := #[true, true, true, true, true, true, true, true, true, true, true, false]) HE91 HS46 rfl (by kernel_rfl) (by kernel_rfl) (by kernel_rfl) (fun _ _ _ h => h) rfl (wtT HE91 rfl rfl rfl (beq_f hc24)) (x_eql rfl rfl) rfl rfl fun a_92 HE93 => ?_
      refine dr_take (i := 11) (ls' := #[true, true, true, true, true, true, true, true, true, true, true, true]) HE93 HS46 rfl (by kernel_rfl) (by kernel_rfl) (by kernel_rfl) (fun _ _ _ h => h) rfl (wt0 rfl) (x_pickF rfl (beq_f hc24) rfl) rfl rfl fun a_94 HE95 => ?_
      refine dr_done (by kernel_rfl) ?_
      clear HH27 a_28 HE29 a_32 HE33 a_34 HE35 a_36 HE37 a_38 HE39 a_40 HE41 HS31 a_44 HE45 a_47 HE48 a_49 HE50 a_88 HE89 a_90 HE91 a_92 HE93 hK43 K_42
      refine nrm ?_
      refine cnd_e HE95 rfl (fun hc27 => ?_) (fun hc27 => ?_)
      · refine wp_seq ?_
        refine dr_start (Held M w [rSo eInt S_1_1 A_1_1 c_1_1 y.2, rBlk p1 43 [.int .i64 (y.1), .slice A_1_1 ((List.length y.2)) c_1_1]]) 11 #[false, false, false, false, false, false, false, false, false, false, false] hmix rfl rfl HH30 (fun _ h => h.sel [0, 1] (by decide) rfl) fun w' HH96 => ?_
        have HS97 := HH96
        refine dr_take (i := 0) (ls' := #[true, false, false, false, false, false, false, false, false, false, false]) HE95 HS97 rfl (by kernel_rfl) (by kernel_rfl) (by kernel_rfl) (fun _ _ _ h => h) rfl (wt0 rfl) (x_move rfl) rfl rfl fun a_98 HE99 => ?_
        refine dr_take (i := 1) (ls' := #[true, true, false, false, false, false, false, false, false, false, false]) HE99 HS97 rfl (by kernel_rfl) (by kernel_rfl) (by kernel_rfl) (fun _ _ _ h => h) rfl (wt0 rfl) (x_move rfl) rfl rfl fun a_100 HE101 => ?_
        refine dr_take (i := 2) (ls' := #[true, true, true, false, false, false, false, false, false, false, false]) HE101 HS97 rfl (by kernel_rfl) (by kernel_rfl) (by kernel_rfl) (fun _ _ _ h => h) rfl (wt0 rfl) (x_nilCheck rfl) rfl rfl fun a_102 HE103 => ?_
        refine dr_take (i := 3) (ls' := #[true, true, true, true, false, false, false, false, false, false, false]) HE103 HS97 rfl (by kernel_rfl) (by kernel_rfl) (by kernel_rfl) (fun _ _ _ h => h) rfl (wt0 rfl) (x_fieldAddr fa_43_0 rfl) rfl rfl fun a_104 HE105 => ?_
        refine dr_take (i := 4) (ls' := #[true, true, true, true, true, false, false, false, false, false, false]) HE105 HS97 rfl (by kernel_rfl) (by kernel_rfl) (by kernel_rfl) (fun _ _ _ h => h) rfl (wt0 rfl) (x_load1 tv_2 rfl (c_blk 1 rfl rfl)) rfl rfl fun a_106 HE107 => ?_
        refine dr_take (i := 5) (ls' := #[true, true, true, true, true, true, false, false, false, false, false]) HE107 HS97 rfl (by kernel_rfl) (by kernel_rfl) (by kernel_rfl) (fun _ _ _ h => h) rfl (wt0 rfl) (x_move rfl) rfl rfl fun a_108 HE109 => ?_
        refine dr_one (i := 6) (ls' := #[true, true, true, true, true, true, true, false, false, false, false]) rfl (by kernel_rfl) rfl fun K_110 hK111 => ?_
        refine st_call HE109 (wt0 rfl) rfl rfl rfl en_124 rfl rfl (impl_size_Instr _ _ _ _) fun e w' hr => ?_
        obtain ⟨rfl, rfl⟩ := hr
        refine ⟨_, rfl, fun a_112 HE113 => hK111 _ _ (by exact HH96.sel [0, 1] (by decide) rfl) ?_⟩
        have HS114 := HH96.sel [0, 1] (by decide) rfl
        refine dr_take (i := 7) (ls' := #[true, true, true, true, true, true, true, true, false, false, false]) HE113 HS114 rfl (by kernel_rfl) (by kernel_rfl) (by kernel_rfl) (fun _ _ _ h => h) rfl (wt0 rfl) (x_eql rfl rfl) rfl rfl fun a_115 HE116 => ?_
        refine dr_take (i := 8) (ls' := #[true, true, true, true, true, true, true, true, true, false, false]) HE116 HS114 rfl (by kernel_rfl) (by kernel_rfl) (by kernel_rfl) (fun _ _ _ h => h) rfl (wt0 rfl) (x_assign rfl) rfl rfl fun a_117 HE118 => ?_
        refine dr_take (i := 9) (ls' := #[true, true, true, true, true, true, true, true, true, true, false]) HE118 HS114 rfl (by kernel_rfl) (by kernel_rfl) (by kernel_rfl) (fun _ _ _ h => h) rfl (wt0 rfl) (x_assign rfl) rfl rfl fun a_119 HE120 => ?_
        refine dr_take (i := 10) (ls' := #[true, true, true, true, true, true, true, true, true, true, true]) HE120 HS114 rfl (by kernel_rfl) (by kernel_rfl) (by kernel_rfl) (fun _ _ _ h => h) rfl (wt0 rfl) (x_assign rfl) rfl rfl fun a_121 HE122 => ?_
        refine dr_done (by kernel_rfl) ?_
        clear HH30 HS46 a_94 HE95 a_98 HE99 a_100 HE101 a_102 HE103 a_104 HE105 a_106 HE107 a_108 HE109 HS97 a_112 HE113 a_115 HE116 a_117 HE118 a_119 HE120 hK111 K_110
        refine nrm ?_
        refine wp_ret ?_
        refine (thn_ret (blk_ret (thn_ret (thn_ret (blk_ret ?_)))))
        refine ret3 HE122 rfl (rv_tmp rfl) (rv_tmp rfl) (rv_tmp rfl) ?_
        have HH123 := HH96.pairF (E := eInt) (c1 := [.int .i64 (y.1)]) (x := y.1) (oI (by exact ⟨by omega, by omega⟩))
        obtain ⟨S29, HH124⟩ : ∃ S, Held M w (rO eStore S [.int .i64 (y.1), .slice A_1_1 ((List.length y.2)) c_1_1] y :: _) _ := ⟨_, HH123⟩
        have hF : (runS a0 a1 a2) = ((k : Int), (y.1 == (a0.length : Int)), 0, y) := by
          rw [p21_2, runF_eq]; grind
        exact ⟨_, _, by rw [hF] <;> rfl, by rw [hF]; exact HH124.sel [1, 0] (by decide) rfl⟩
      · refine wp_skip ?_
        refine nrm ?_
        refine wp_seq ?_
        refine rg ?_
        refine pl_x HE95 HH30 (wt0 rfl) (x_move rfl) rfl rfl fun a_125 HE126 => ?_
        refine pl_x HE126 HH30 (wt0 rfl) (x_move rfl) rfl rfl fun a_127 HE128 => ?_
        refine pl fun K_129 hK130 => ?_
        have HH131 := HH30.pairF (E := eInt) (c1 := [.int .i64 (y.1)]) (x := y.1) (oI (by exact ⟨by omega, by omega⟩))
        obtain ⟨S30, HH132⟩ : ∃ S, Held M w (rO eStore S [.int .i64 (y.1), .slice A_1_1 ((List.length y.2)) c_1_1] y :: _) _ := ⟨_, HH131⟩
        have HH133 := HH132.sel [1, 0] (by decide) rfl
        have HH134 : Held M w ([rBlk p1 43 [.int .i64 (y.1), .slice A_1_1 ((List.length y.2)) c_1_1], rO eStore S30 [.int .i64 (y.1), .slice A_1_1 ((List.length y.2)) c_1_1] y] ++ []) _ := HH133
        refine st_call HE128 (wt0 rfl) rfl rfl rfl en_126 rfl rfl (impl_stepStore (Foot [rBlk p1 43 [.int .i64 (y.1), .slice A_1_1 ((List.length y.2)) c_1_1], rO eStore S30 [.int .i64 (y.1), .slice A_1_1 ((List.length y.2)) c_1_1] y]) _ _ a0 _ _ y _ _ HH134.focus (HH134.lendM h0) (by first | exact s0 | exact validStore_prog ‹_›) (by first | assumption | exact validStore_of ‹_›) (by omega)) fun e w' hr => ?_
        obtain ⟨esr31_0, Sr31_0, rfl, hbr31⟩ := hr
        have HH135 := HH134.back hbr31
        clear hbr31
        have Rr31 := HH135.rd (i := 1) rfl
        obtain ⟨Ar31_0_1, cr31_0_1, rfl, gr31_0_0, gr31_0_1⟩ := shape_Store Rr31
        clear Rr31
        have jr31_0_0 := gr31_0_0; unfold I64 at jr31_0_0
        have HH136 : Held M w ([rBlk p1 43 [.int .i64 ((stepS a0 y).2.1), .slice Ar31_0_1 ((stepS a0 y).2.2.length) cr31_0_1], rO eStore Sr31_0 [.int .i64 ((stepS a0 y).2.1), .slice Ar31_0_1 ((stepS a0 y).2.2.length) cr31_0_1] ((stepS a0 y).2)] ++ []) _ := HH135
        have HH137 := HH136.sel [1, 0] (by decide) rfl
        have HH138 := HH137.unF rfl
        refine ⟨_, rfl, fun a_139 HE140 => hK130 _ _ ?_⟩
        refine pl_x HE140 HH138 (wt0 rfl) (x_not rfl) rfl rfl fun a_141 HE142 => ?_
        refine wpList_nil ?_
        clear a_94 HE95 a_125 HE126 HH30 HH131 HH132 HH133 HH134 HH135 HH136 HH137 a_127 HE128 a_139 HE140 hK130 K_129
        refine nrm ?_
        refine cnd_nb HE142 rfl (fun hc32 => ?_) (fun hc32 => ?_)
        · refine wp_seq ?_
          refine rg ?_
          refine pl_x HE142 HH138 (wt0 rfl) (x_assign rfl) rfl rfl fun a_143 HE144 => ?_
          refine pl_x HE144 HH138 (wt0 rfl) (x_assign rfl) rfl rfl fun a_145 HE146 => ?_
          refine pl_x HE146 HH138 (wt0 rfl) (x_assign rfl) rfl rfl fun a_147 HE148 => ?_
          refine wpList_nil ?_
          clear a_141 HE142 a_143 HE144 a_145 HE146
          refine nrm ?_
          refine wp_ret ?_
          refine (blk_ret (thn_ret (thn_ret (blk_ret ?_))))
          refine ret3 HE148 rfl (rv_tmp rfl) (rv_tmp rfl) (rv_tmp rfl) ?_
          have HH149 := HH138.pairF (E := eInt) (c1 := [.int .i64 ((stepS a0 y).2.1)]) (x := (stepS a0 y).2.1) (oI (by exact ⟨by omega, by omega⟩))
          obtain ⟨S33, HH150⟩ : ∃ S, Held M w (rO eStore S [.int .i64 ((stepS a0 y).2.1), .slice Ar31_0_1 ((stepS a0 y).2.2.length) cr31_0_1] ((stepS a0 y).2) :: _) _ := ⟨_, HH149⟩
          have hF : (runS a0 a1 a2) = (0, false, 5, (stepS a0 y).2) := by
            rw [p21_2, runF_eq]; grind
          exact ⟨_, _, by rw [hF] <;> rfl, by rw [hF]; exact HH150.sel [1, 0] (by decide) rfl⟩
        · refine wp_skip ?_
          refine blk_n ?_
          refine nrm ?_
          refine rg ?_
          refine pl_x HE142 HH138 (wt0 rfl) (x_move rfl) rfl rfl fun a_151 HE152 => ?_
          refine pl_x HE152 HH138 (wt0 rfl) (x_add rfl rfl (by exact ⟨by omega, by omega⟩)) rfl rfl fun a_153 HE154 => ?_
          refine pl_x HE154 HH138 (wt0 rfl) (x_assign rfl) rfl rfl fun a_155 HE156 => ?_
          refine wpList_nil ?_
          clear a_141 HE142 a_151 HE152 a_153 HE154
          have E34 : ((stepS a0 y).2).2 = (stepS a0 y).2.2 := by
            first | rfl | simp
          exact nrm ⟨(a2 - ((k + 1) : Int)).toNat, (by omega), k + 1, (stepS a0 y).2, Ar31_0_1, cr31_0_1, Sr31_0, rfl, HE156.sub ⟨(lkI rfl (by first | rfl | omega | (simp [p21_0, p21_1, p21_2, hc24, hc27, hc32]; done))), rfl, rfl, rfl, rfl, trivial⟩, ((HH138.sel [0, 1] (by decide) rfl).to (by first | rfl | (rw [E34]; done) | (rw [E34]; rfl) | (simp only [E34]; done) | (simp only [E34]; rfl))), (by first | omega | assumption | (simp; done) | simp_all), (by exact storeOf_step s0 p21_1 (by omega) hc32), (by rw [p21_2, runF_step (g := (a2 - ((k + 1 : Nat) : Int)).toNat) (by omega) (by omega) hc32]; simp)⟩

set_option maxRecDepth 100000 in
set_option maxHeartbeats 4000000 in
theorem impl_RunProgram (A0 : Option Addr) (c0 : Nat) (a0 : (List tInstr)) (es1 : List Value) (a1 : tStore) (a2 : Int) (w : World) (h0 : Sl eInstr w (Old w) A0 c0 a0) (h1 : eStore.R w (Old w) es1 a1) :
    Calls Try.prog 66 #[.slice A0 a0.length c0, .agg es1.toArray, .int .i64 a2] w fun e w' => ∃ (es0' : List Value), e = .returned (.tuple #[.agg es0'.toArray, .int .i64 (runProg a0 a1 a2).2.1, .bool (runProg a0 a1 a2).2.2.1, .int .i64 (runProg a0 a1 a2).2.2.2]) ∧ eStore.O w' (Fr w w') es0' (runProg a0 a1 a2).1 ∧ Below w.heap.size w w' := by
  have l0 := h0.len
  have H1 := h1
  obtain ⟨Az1_1, cz1_1, rfl, gz1_0, gz1_1⟩ := shape_Store h1
  have jz1_0 := gz1_0; unfold I64 at jz1_0
  have lz1_1 := gz1_1.len
  have HH1 := Held.start Nob w
  refine enter (n := 39) Try.func66 rfl rfl rfl fun a_2 HE3 => ?_
  refine wp_seq ?_
  refine rg ?_
  refine pl fun K_4 hK5 => ?_
  refine st_box (cs := [.int .i64 (a1.1), .slice Az1_1 (a1.2.length) cz1_1]) HE3 HH1 rfl rfl (wt0 rfl) rfl fun q21 a_6 w' HE7 HH8 => hK5 _ _ ?_
  refine pl fun K_9 hK10 => ?_
  refine st_alloc HE7 HH8 tv_43 (wt0 rfl) rfl fun q22 a_11 w' HE12 HH13 => hK10 _ _ ?_
  refine pl_x HE12 HH13 (wt0 rfl) (x_assign rfl) rfl rfl fun a_14 HE15 => ?_
  refine pl_x HE15 HH13 (wt0 rfl) (x_assign rfl) rfl rfl fun a_16 HE17 => ?_
  refine pl_x HE17 HH13 (wt0 rfl) (x_assign rfl) rfl rfl fun a_18 HE19 => ?_
  refine wpList_nil ?_
  clear a_2 HE3 HH1 K_4 hK5 a_6 HE7 HH8 a_11 HE12 a_14 HE15 a_16 HE17 hK10 K_9
  refine nrm ?_
  refine wp_seq ?_
  refine wp_seq ?_
  refine rg ?_
  refine pl_x HE19 HH13 (wt0 rfl) (x_move rfl) rfl rfl fun a_20 HE21 => ?_
  refine pl_x HE21 HH13 (wt0 rfl) (x_loadN (cs := [.int .i64 (a1.1), .slice Az1_1 (a1.2.length) cz1_1]) tv_43 rfl rfl (c_blkN 1 rfl)) rfl rfl fun a_22 HE23 => ?_
  refine pl fun K_24 hK25 => ?_
  refine st_call HE23 (wt0 rfl) rfl rfl rfl en_123 rfl rfl (impl_ValidStore _ _ a0 [.int .i64 (a1.1), .slice Az1_1 (a1.2.length) cz1_1] a1 _ (HH13.old h0) (HH13.oldR H1)) fun e w' hr => ?_
  obtain ⟨rfl, hbr23⟩ := hr
  have HH26 := HH13.on hbr23
  refine ⟨_, rfl, fun a_27 HE28 => hK25 _ _ ?_⟩
  refine pl_x HE28 HH26 (wt0 rfl) (x_not rfl) rfl rfl fun a_29 HE30 => ?_
  refine wpList_nil ?_
  clear a_18 HE19 a_20 HE21 HH13 a_22 HE23 a_27 HE28 hK25 K_24
  refine nrm ?_
  refine cnd_nb HE30 rfl (fun hc24 => ?_) (fun hc24 => ?_)
  · refine wp_seq ?_
    refine rg ?_
    refine pl_x HE30 HH26 (wt0 rfl) (show XS _ _ _ _ (.agg #[.int .i64 (0), .slice none (0) 0]) from x_build (vs := []) tb_43 rfl (by simp [Value.oneCell'])) rfl rfl fun a_31 HE32 => ?_
    refine pl fun K_33 hK34 => ?_
    refine st_store (vs := [.int .i64 (0), .slice none (0) 0]) 0 HE32 HH26 tv_43 rfl rfl rfl rfl rfl rfl (by simp [Value.oneCell']) (wt0 rfl) fun w' HH35 => hK34 _ _ ?_
    refine pl_x HE32 HH35 (wt0 rfl) (x_assign rfl) rfl rfl fun a_36 HE37 => ?_
    refine pl_x HE37 HH35 (wt0 rfl) (x_assign rfl) rfl rfl fun a_38 HE39 => ?_
    refine pl_x HE39 HH35 (wt0 rfl) (x_assign rfl) rfl rfl fun a_40 HE41 => ?_
    refine wpList_nil ?_
    clear a_29 HE30 HH26 a_31 HE32 a_36 HE37 a_38 HE39 hK34 K_33
    refine nrm ?_
    refine wp_ret ?_
    refine (thn_ret ?_)
    refine ret4 HE41 rfl (rv_cell rfl (tv_43.loadN (cs := [.int .i64 (0), .slice none (0) 0]) rfl (c_blkN 0 rfl _ HH35))) (rv_tmp rfl) (rv_tmp rfl) (rv_tmp rfl) ?_
    have HH42 := HH35.flatO (E := eStore) (cs := [.int .i64 (0), .slice none (0) 0]) (x := (0, [])) (fun _ => (oPrN (oI (by exact ⟨by omega, by omega⟩)) (oSl (So.nil (Nat.zero_le _)))))
    have hF : (runProg a0 a1 a2) = ((0, []), 0, false, 1) := by
      first | (simp [runProg, hc24]; done) | grind [runProg]
    exact ⟨_, by rw [hF] <;> rfl, by rw [hF]; exact (HH42.o (i := 0) rfl), HH42.below⟩
  · obtain ⟨v0, v1, v2, v3⟩ := storeOf_facts (validStore_of hc24)
    refine wp_skip ?_
    refine nrm ?_
    refine wp_seq ?_
    refine wp_seq ?_
    refine rg ?_
    refine pl_x HE30 HH26 (wt0 rfl) (x_move rfl) rfl rfl fun a_43 HE44 => ?_
    refine pl fun K_45 hK46 => ?_
    refine st_call HE44 (wt0 rfl) rfl rfl rfl en_129 rfl rfl (impl_budgetOk a2 _ ) fun e w' hr => ?_
    obtain ⟨rfl, rfl⟩ := hr
    refine ⟨_, rfl, fun a_47 HE48 => hK46 _ _ ?_⟩
    refine pl_x HE48 HH26 (wt0 rfl) (x_not rfl) rfl rfl fun a_49 HE50 => ?_
    refine wpList_nil ?_
    clear a_29 HE30 a_43 HE44 a_47 HE48 hK46 K_45
    refine nrm ?_
    refine cnd_nb HE50 rfl (fun hc26 => ?_) (fun hc26 => ?_)
    · refine wp_seq ?_
      refine rg ?_
      refine pl_x HE50 HH26 (wt0 rfl) (show XS _ _ _ _ (.agg #[.int .i64 (0), .slice none (0) 0]) from x_build (vs := []) tb_43 rfl (by simp [Value.oneCell'])) rfl rfl fun a_51 HE52 => ?_
      refine pl fun K_53 hK54 => ?_
      refine st_store (vs := [.int .i64 (0), .slice none (0) 0]) 0 HE52 HH26 tv_43 rfl rfl rfl rfl rfl rfl (by simp [Value.oneCell']) (wt0 rfl) fun w' HH55 => hK54 _ _ ?_
      refine pl_x HE52 HH55 (wt0 rfl) (x_assign rfl) rfl rfl fun a_56 HE57 => ?_
      refine pl_x HE57 HH55 (wt0 rfl) (x_assign rfl) rfl rfl fun a_58 HE59 => ?_
      refine pl_x HE59 HH55 (wt0 rfl) (x_assign rfl) rfl rfl fun a_60 HE61 => ?_
      refine wpList_nil ?_
      clear a_49 HE50 HH26 a_51 HE52 a_56 HE57 a_58 HE59 hK54 K_53
      refine nrm ?_
      refine wp_ret ?_
      refine (thn_ret ?_)
      refine ret4 HE61 rfl (rv_cell rfl (tv_43.loadN (cs := [.int .i64 (0), .slice none (0) 0]) rfl (c_blkN 0 rfl _ HH55))) (rv_tmp rfl) (rv_tmp rfl) (rv_tmp rfl) ?_
      have HH62 := HH55.flatO (E := eStore) (cs := [.int .i64 (0), .slice none (0) 0]) (x := (0, [])) (fun _ => (oPrN (oI (by exact ⟨by omega, by omega⟩)) (oSl (So.nil (Nat.zero_le _)))))
      have hF : (runProg a0 a1 a2) = ((0, []), 0, false, 2) := by
        first | (simp [runProg, hc24, hc26]; done) | grind [runProg]
      exact ⟨_, by rw [hF] <;> rfl, by rw [hF]; exact (HH62.o (i := 0) rfl), HH62.below⟩
    · have hBu := budgetB_le hc26
      refine wp_skip ?_
      refine nrm ?_
      refine wp_seq ?_
      refine rg ?_
      refine pl_x HE50 HH26 (wt0 rfl) (x_loadN (cs := [.int .i64 (a1.1), .slice Az1_1 (a1.2.length) cz1_1]) tv_43 rfl rfl (c_blkN 1 rfl)) rfl rfl fun a_63 HE64 => ?_
      refine pl fun K_65 hK66 => ?_
      refine st_call HE64 (wt0 rfl) rfl rfl rfl en_125 rfl rfl (impl_copyStore [.int .i64 (a1.1), .slice Az1_1 (a1.2.length) cz1_1] a1 _ (HH26.oldR H1) (by omega)) fun e w' hr => ?_
      obtain ⟨esr27_0, rfl, hor27_0, hbr27⟩ := hr
      have hr := eStore.read hor27_0
      obtain ⟨Sr27, HH67⟩ := HH26.newO hbr27 hor27_0
      obtain ⟨Ar27_0_1, cr27_0_1, rfl, gr27_0_0, gr27_0_1⟩ := shape_Store hr
      have jr27_0_0 := gr27_0_0; unfold I64 at jr27_0_0
      have HH68 := HH67.unF rfl
      refine ⟨_, rfl, fun a_69 HE70 => hK66 _ _ ?_⟩
      refine pl fun K_71 hK72 => ?_
      refine st_alloc HE70 HH68 tv_43 (wt0 rfl) rfl fun q28 a_73 w' HE74 HH75 => hK72 _ _ ?_
      refine pl fun K_76 hK77 => ?_
      refine st_store (vs := [.int .i64 (a1.1), .slice Ar27_0_1 (a1.2.length) cr27_0_1]) 0 HE74 HH75 tv_43 rfl rfl rfl rfl rfl rfl (by simp [Value.oneCell']) (wt0 rfl) fun w' HH78 => hK77 _ _ ?_
      refine wpList_nil ?_
      clear a_49 HE50 HH26 HH67 a_63 HE64 K_65 hK66 a_69 HE70 HH68 K_71 hK72 HH75 hK77 K_76
      refine nrm ?_
      refine wp_seq ?_
      refine rg ?_
      refine pl_x HE74 HH78 (wt0 rfl) (x_move rfl) rfl rfl fun a_79 HE80 => ?_
      refine pl_x HE80 HH78 (wt0 rfl) (x_move rfl) rfl rfl fun a_81 HE82 => ?_
      refine pl fun K_83 hK84 => ?_
      have HH85 := HH78.sel [1, 0, 2, 3] (by decide) rfl
      have HH86 := HH85.pairF (E := eInt) (c1 := [.int .i64 (a1.1)]) (x := a1.1) (oI (by exact ⟨by omega, by omega⟩))
      obtain ⟨S29, HH87⟩ : ∃ S, Held Nob w (rO eStore S [.int .i64 (a1.1), .slice Ar27_0_1 (a1.2.length) cr27_0_1] a1 :: _) _ := ⟨_, HH86⟩
      have HH88 := HH87.sel [1, 0, 2, 3] (by decide) rfl
      have HH89 : Held Nob w ([rBlk q28 43 [.int .i64 (a1.1), .slice Ar27_0_1 (a1.2.length) cr27_0_1], rO eStore S29 [.int .i64 (a1.1), .slice Ar27_0_1 (a1.2.length) cr27_0_1] a1] ++ [rBlk q22 43 [.int .i64 (0), .slice none (0) 0], rBlk q21 43 [.int .i64 (a1.1), .slice Az1_1 (a1.2.length) cz1_1]]) _ := HH88
      refine st_call HE82 (wt0 rfl) rfl rfl rfl en_139 rfl rfl (impl_runStore (Foot [rBlk q28 43 [.int .i64 (a1.1), .slice Ar27_0_1 (a1.2.length) cr27_0_1], rO eStore S29 [.int .i64 (a1.1), .slice Ar27_0_1 (a1.2.length) cr27_0_1] a1]) _ _ a0 _ _ a1 _ a2 _ HH89.focus (HH89.lend h0) (by exact validStore_prog ‹_›) (by exact validStore_of ‹_›) (by omega)) fun e w' hr => ?_
      obtain ⟨esr30_0, Sr30_0, rfl, hbr30⟩ := hr
      have HH90 := HH89.back hbr30
      clear hbr30
      have Rr30 := HH90.rd (i := 1) rfl
      obtain ⟨Ar30_0_1, cr30_0_1, rfl, gr30_0_0, gr30_0_1⟩ := shape_Store Rr30
      clear Rr30
      have jr30_0_0 := gr30_0_0; unfold I64 at jr30_0_0
      have HH91 : Held Nob w ([rBlk q28 43 [.int .i64 ((runS a0 a1 a2).2.2.2.1), .slice Ar30_0_1 ((runS a0 a1 a2).2.2.2.2.length) cr30_0_1], rO eStore Sr30_0 [.int .i64 ((runS a0 a1 a2).2.2.2.1), .slice Ar30_0_1 ((runS a0 a1 a2).2.2.2.2.length) cr30_0_1] ((runS a0 a1 a2).2.2.2)] ++ [rBlk q22 43 [.int .i64 (0), .slice none (0) 0], rBlk q21 43 [.int .i64 (a1.1), .slice Az1_1 (a1.2.length) cz1_1]]) _ := HH90
      have HH92 := HH91.sel [1, 0, 2, 3] (by decide) rfl
      have HH93 := HH92.unF rfl
      refine ⟨_, rfl, fun a_94 HE95 => hK84 _ _ ?_⟩
      refine pl_x HE95 HH93 (wt0 rfl) (x_move rfl) rfl rfl fun a_96 HE97 => ?_
      refine pl_x HE97 HH93 (wt0 rfl) (x_extract rfl rfl) rfl rfl fun a_98 HE99 => ?_
      refine pl_x HE99 HH93 (wt0 rfl) (x_extract rfl rfl) rfl rfl fun a_100 HE101 => ?_
      refine pl_x HE101 HH93 (wt0 rfl) (x_extract rfl rfl) rfl rfl fun a_102 HE103 => ?_
      refine pl_x HE103 HH93 (wt0 rfl) (x_assign rfl) rfl rfl fun a_104 HE105 => ?_
      refine pl_x HE105 HH93 (wt0 rfl) (x_assign rfl) rfl rfl fun a_106 HE107 => ?_
      refine pl_x HE107 HH93 (wt0 rfl) (x_assign rfl) rfl rfl fun a_108 HE109 => ?_
      refine wpList_nil ?_
      clear a_73 HE74 a_79 HE80 HH78 HH85 HH86 HH87 HH88 HH89 HH90 HH91 HH92 a_81 HE82 a_94 HE95 a_96 HE97 a_98 HE99 a_100 HE101 a_102 HE103 a_104 HE105 a_106 HE107 hK84 K_83
      refine nrm ?_
      refine wp_seq ?_
      refine wp_seq ?_
      refine rg ?_
      refine pl_x HE109 HH93 (wt0 rfl) (x_move rfl) rfl rfl fun a_110 HE111 => ?_
      refine pl_x HE111 HH93 (wt0 rfl) (x_neq rfl rfl) rfl rfl fun a_112 HE113 => ?_
      refine wpList_nil ?_
      clear a_108 HE109 a_110 HE111
      refine nrm ?_
      refine cnd_ne HE113 rfl (fun hc31 => ?_) (fun hc31 => ?_)
      · refine wp_seq ?_
        refine rg ?_
        refine pl_x HE113 HH93 (wt0 rfl) (show XS _ _ _ _ (.agg #[.int .i64 (0), .slice none (0) 0]) from x_build (vs := []) tb_43 rfl (by simp [Value.oneCell'])) rfl rfl fun a_114 HE115 => ?_
        refine pl_x HE115 HH93 (wt0 rfl) (x_move rfl) rfl rfl fun a_116 HE117 => ?_
        refine pl fun K_118 hK119 => ?_
        refine st_store (vs := [.int .i64 (0), .slice none (0) 0]) 2 HE117 HH93 tv_43 rfl rfl rfl rfl rfl rfl (by simp [Value.oneCell']) (wt0 rfl) fun w' HH120 => hK119 _ _ ?_
        refine pl_x HE117 HH120 (wt0 rfl) (x_assign rfl) rfl rfl fun a_121 HE122 => ?_
        refine pl_x HE122 HH120 (wt0 rfl) (x_assign rfl) rfl rfl fun a_123 HE124 => ?_
        refine pl_x HE124 HH120 (wt0 rfl) (x_assign rfl) rfl rfl fun a_125 HE126 => ?_
        refine wpList_nil ?_
        clear a_112 HE113 a_114 HE115 HH93 a_116 HE117 a_121 HE122 a_123 HE124 hK119 K_118
        refine nrm ?_
        refine wp_ret ?_
        refine (thn_ret ?_)
        refine ret4 HE126 rfl (rv_cell rfl (tv_43.loadN (cs := [.int .i64 (0), .slice none (0) 0]) rfl (c_blkN 2 rfl _ HH120))) (rv_tmp rfl) (rv_tmp rfl) (rv_tmp rfl) ?_
        have HH127 := HH120.flatO (E := eStore) (cs := [.int .i64 (0), .slice none (0) 0]) (x := (0, [])) (fun _ => (oPrN (oI (by exact ⟨by omega, by omega⟩)) (oSl (So.nil (Nat.zero_le _)))))
        have hF : (runProg a0 a1 a2) = ((0, []), 0, false, (runS a0 a1 a2).2.2.1) := by
          first | (simp [runProg, hc24, hc26, hc31]; done) | grind [runProg]
        exact ⟨_, by rw [hF] <;> rfl, by rw [hF]; exact (HH127.o (i := 0) rfl), HH127.below⟩
      · refine wp_skip ?_
        refine nrm ?_
        refine wp_seq ?_
        refine rg ?_
        refine pl_x HE113 HH93 (wt0 rfl) (x_loadN (cs := [.int .i64 ((runS a0 a1 a2).2.2.2.1), .slice Ar30_0_1 ((runS a0 a1 a2).2.2.2.2.length) cr30_0_1]) tv_43 rfl rfl (c_blkN 1 rfl)) rfl rfl fun a_128 HE129 => ?_
        refine pl_x HE129 HH93 (wt0 rfl) (x_move rfl) rfl rfl fun a_130 HE131 => ?_
        refine pl_x HE131 HH93 (wt0 rfl) (x_move rfl) rfl rfl fun a_132 HE133 => ?_
        refine pl fun K_134 hK135 => ?_
        refine st_store (vs := [.int .i64 ((runS a0 a1 a2).2.2.2.1), .slice Ar30_0_1 ((runS a0 a1 a2).2.2.2.2.length) cr30_0_1]) 2 HE133 HH93 tv_43 rfl rfl rfl rfl rfl rfl (by simp [Value.oneCell']) (wt0 rfl) fun w' HH136 => hK135 _ _ ?_
        refine pl_x HE133 HH136 (wt0 rfl) (x_assign rfl) rfl rfl fun a_137 HE138 => ?_
        refine pl_x HE138 HH136 (wt0 rfl) (x_assign rfl) rfl rfl fun a_139 HE140 => ?_
        refine pl_x HE140 HH136 (wt0 rfl) (x_assign rfl) rfl rfl fun a_141 HE142 => ?_
        refine wpList_nil ?_
        clear a_112 HE113 a_128 HE129 a_130 HE131 HH93 a_132 HE133 a_137 HE138 a_139 HE140 hK135 K_134
        refine nrm ?_
        refine wp_ret ?_
        refine ret4 HE142 rfl (rv_cell rfl (tv_43.loadN (cs := [.int .i64 ((runS a0 a1 a2).2.2.2.1), .slice Ar30_0_1 ((runS a0 a1 a2).2.2.2.2.length) cr30_0_1]) rfl (c_blkN 2 rfl _ HH136))) (rv_tmp rfl) (rv_tmp rfl) (rv_tmp rfl) ?_
        have HH143 := HH136.pairF (E := eInt) (c1 := [.int .i64 ((runS a0 a1 a2).2.2.2.1)]) (x := (runS a0 a1 a2).2.2.2.1) (oI (by exact ⟨by omega, by omega⟩))
        obtain ⟨S32, HH144⟩ : ∃ S, Held Nob w (rO eStore S [.int .i64 ((runS a0 a1 a2).2.2.2.1), .slice Ar30_0_1 ((runS a0 a1 a2).2.2.2.2.length) cr30_0_1] ((runS a0 a1 a2).2.2.2) :: _) _ := ⟨_, HH143⟩
        have hF : (runProg a0 a1 a2) = ((runS a0 a1 a2).2.2.2, (runS a0 a1 a2).1, (runS a0 a1 a2).2.1, 0) := by
          first | (simp [runProg, hc24, hc26, hc31]; done) | grind [runProg]
        exact ⟨_, by rw [hF] <;> rfl, by rw [hF]; exact (HH144.o (i := 0) rfl), HH144.below⟩

set_option maxRecDepth 100000 in
set_option maxHeartbeats 4000000 in
theorem spec_l07Run (A0 : Option Addr) (c0 : Nat) (a0 : (List tInstr)) (es1 : List Value) (a1 : tStore) (a2 : Int) (w : World) (h0 : Sl eInstr w (Old w) A0 c0 a0) (h1 : eStore.R w (Old w) es1 a1) (s0 : validProg a0 = true) (s1 : storeOf a0 a1 = true) (s2 : 0 ≤ a2 ∧ a2 ≤ 20000) :
    Calls Try.prog 138 #[.slice A0 a0.length c0, .agg es1.toArray, .int .i64 a2] w fun e w' => ∃ (es0' : List Value), e = .returned (.tuple #[.agg es0'.toArray, .int .i64 (run2 a0 a1 a2).2.1, .bool (run2 a0 a1 a2).2.2.1, .bool (run2 a0 a1 a2).2.2.2]) ∧ eStore.O w' (Fr w w') es0' (run2 a0 a1 a2).1 ∧ Below w.heap.size w w' := by
  have l0 := h0.len
  have H1 := h1
  obtain ⟨Az1_1, cz1_1, rfl, gz1_0, gz1_1⟩ := shape_Store h1
  have jz1_0 := gz1_0; unfold I64 at jz1_0
  have lz1_1 := gz1_1.len
  obtain ⟨u0, u1, u2, u3⟩ := storeOf_facts s1
  have HH1 := Held.start Nob w
  refine enter (n := 42) Try.func138 rfl rfl rfl fun a_2 HE3 => ?_
  refine wp_seq ?_
  refine rg ?_
  refine pl fun K_4 hK5 => ?_
  refine st_box (cs := [.int .i64 (a1.1), .slice Az1_1 (a1.2.length) cz1_1]) HE3 HH1 rfl rfl (wt0 rfl) rfl fun q21 a_6 w' HE7 HH8 => hK5 _ _ ?_
  refine pl fun K_9 hK10 => ?_
  refine st_alloc HE7 HH8 tv_43 (wt0 rfl) rfl fun q22 a_11 w' HE12 HH13 => hK10 _ _ ?_
  refine pl_x HE12 HH13 (wt0 rfl) (x_assign rfl) rfl rfl fun a_14 HE15 => ?_
  refine pl_x HE15 HH13 (wt0 rfl) (x_assign rfl) rfl rfl fun a_16 HE17 => ?_
  refine pl_x HE17 HH13 (wt0 rfl) (x_assign rfl) rfl rfl fun a_18 HE19 => ?_
  refine wpList_nil ?_
  clear a_2 HE3 HH1 K_4 hK5 a_6 HE7 HH8 a_11 HE12 a_14 HE15 a_16 HE17 hK10 K_9
  refine nrm ?_
  refine wp_seq ?_
  refine wp_join (fun a w' => ∃ (q24 : Nat), ∃ (Ar23_0 : Option Addr), ∃ (cr23_0 : Nat), ∃ (Sr23 : Nat → Prop), Env 42 [(0, .slice A0 (a0.length) c0), (2, .int .i64 (a2)), (6, .pointer (some ⟨q22, 0, none⟩)), (10, .pointer (some ⟨q24, 0, none⟩))] a ∧ Held Nob w [rBlk q24 43 [.int .i64 (a1.1), .slice Ar23_0 (a1.2.length) cr23_0], rSo eInt Sr23 Ar23_0 cr23_0 a1.2, rBlk q22 43 [.int .i64 (0), .slice none (0) 0], rBlk q21 43 [.int .i64 (a1.1), .slice Az1_1 (a1.2.length) cz1_1]] w') ?_ ?_
  · refine dr_start (Held Nob w [rBlk q22 43 [.int .i64 (0), .slice none (0) 0], rBlk q21 43 [.int .i64 (a1.1), .slice Az1_1 (a1.2.length) cz1_1]]) 8 #[false, false, false, false, false, false, false, false] hmix rfl rfl HH13 (fun _ h => h.sel [0, 1] (by decide) rfl) fun w' HH20 => ?_
    have HS21 := HH20
    refine dr_take (i := 0) (ls' := #[true, false, false, false, false, false, false, false]) HE19 HS21 rfl (by kernel_rfl) (by kernel_rfl) (by kernel_rfl) (fun _ _ _ h => h) rfl (wt0 rfl) (x_fieldAddr fa_43_0 rfl) rfl rfl fun a_22 HE23 => ?_
    refine dr_take (i := 1) (ls' := #[true, true, false, false, false, false, false, false]) HE23 HS21 rfl (by kernel_rfl) (by kernel_rfl) (by kernel_rfl) (fun _ _ _ h => h) rfl (wt0 rfl) (x_load1 tv_2 rfl (c_blk 1 rfl rfl)) rfl rfl fun a_24 HE25 => ?_
    refine dr_take (i := 2) (ls' := #[true, true, true, false, false, false, false, false]) HE25 HS21 rfl (by kernel_rfl) (by kernel_rfl) (by kernel_rfl) (fun _ _ _ h => h) rfl (wt0 rfl) (x_fieldAddr fa_43_1 rfl) rfl rfl fun a_26 HE27 => ?_
    refine dr_take (i := 3) (ls' := #[true, true, true, true, false, false, false, false]) HE27 HS21 rfl (by kernel_rfl) (by kernel_rfl) (by kernel_rfl) (fun _ _ _ h => h) rfl (wt0 rfl) (x_load1 tv_31 rfl (c_blk 1 rfl rfl)) rfl rfl fun a_28 HE29 => ?_
    refine dr_two (i := 4) (j := 6) (ls' := #[true, true, true, true, true, false, false, false]) (ls'' := #[true, true, true, true, false, false, true, false]) rfl rfl (by kernel_rfl) rfl rfl (fun K_30 hK31 => ?_) (fun K_30 hK31 => ?_)
    · refine st_call HE29 (wt0 rfl) rfl rfl rfl en_90 rfl rfl (spec_l00Own _ _ a1.2 _ (HH20.old gz1_1) (by omega)) fun e w' hr => ?_
      obtain ⟨Ar23_0, cr23_0, rfl, hor23_0, hbr23⟩ := hr
      obtain ⟨Sr23, HH32⟩ := HH20.newS hbr23 hor23_0
      refine ⟨_, rfl, fun a_33 HE34 => hK31 _ _ (by exact HH32.sel [1, 2] (by decide) rfl) ?_⟩
      have HS35 := HH32.sel [1, 2] (by decide) rfl
      refine dr_take (i := 5) (ls' := #[true, true, true, true, true, true, false, false]) HE34 HS35 rfl (by kernel_rfl) (by kernel_rfl) (by kernel_rfl) (fun _ _ _ h => h) rfl (wt0 rfl) (show XS _ _ _ _ (.agg #[.int .i64 (a1.1), .slice Ar23_0 (a1.2.length) cr23_0]) from x_build (vs := [(0, .int .i64 (a1.1)), (1, .slice Ar23_0 (a1.2.length) cr23_0)]) tb_43 rfl (by simp [Value.oneCell'])) rfl rfl fun a_36 HE37 => ?_
      refine dr_one (i := 6) (ls' := #[true, true, true, true, true, true, true, false]) rfl (by kernel_rfl) rfl fun K_38 hK39 => ?_
      refine st_alloc HE37 HH32 tv_43 (wt0 rfl) rfl fun q24 a_40 w' HE41 HH42 => hK39 _ _ (by exact HH42.sel [2, 3] (by decide) rfl) ?_
      have HS43 := HH42.sel [2, 3] (by decide) rfl
      refine dr_one (i := 7) (ls' := #[true, true, true, true, true, true, true, true]) rfl (by kernel_rfl) rfl fun K_44 hK45 => ?_
      refine st_store (vs := [.int .i64 (a1.1), .slice Ar23_0 (a1.2.length) cr23_0]) 0 HE41 HH42 tv_43 rfl rfl rfl rfl rfl rfl (by simp [Value.oneCell']) (wt0 rfl) fun w' HH46 => hK45 _ _ (by exact HH46.sel [2, 3] (by decide) rfl) ?_
      have HS47 := HH46.sel [2, 3] (by decide) rfl
      refine dr_done (by kernel_rfl) ?_
      clear HH13 a_18 HE19 a_22 HE23 a_24 HE25 a_26 HE27 HH20 a_28 HE29 HS21 a_33 HE34 K_30 hK31 a_36 HE37 HH32 HS35 K_38 hK39 HH42 HS43 hK45 K_44
      exact nrm ⟨_, _, _, _, HE41.sub ⟨rfl, rfl, rfl, rfl, trivial⟩, HH46.sel [0, 1, 2, 3] (by decide) rfl⟩
    · refine st_alloc HE29 HH20 tv_43 (wt0 rfl) rfl fun q25 a_48 w' HE49 HH50 => hK31 _ _ (by exact HH50.sel [1, 2] (by decide) rfl) ?_
      have HS51 := HH50.sel [1, 2] (by decide) rfl
      refine dr_one (i := 4) (ls' := #[true, true, true, true, true, false, true, false]) rfl (by kernel_rfl) rfl fun K_52 hK53 => ?_
      refine st_call HE49 (wt0 rfl) rfl rfl rfl en_90 rfl rfl (spec_l00Own _ _ a1.2 _ (HH50.old gz1_1) (by omega)) fun e w' hr => ?_
      obtain ⟨Ar26_0, cr26_0, rfl, hor26_0, hbr26⟩ := hr
      obtain ⟨Sr26, HH54⟩ := HH50.newS hbr26 hor26_0
      refine ⟨_, rfl, fun a_55 HE56 => hK53 _ _ (by exact HH54.sel [2, 3] (by decide) rfl) ?_⟩
      have HS57 := HH54.sel [2, 3] (by decide) rfl
      refine dr_take (i := 5) (ls' := #[true, true, true, true, true, true, true, false]) HE56 HS57 rfl (by kernel_rfl) (by kernel_rfl) (by kernel_rfl) (fun _ _ _ h => h) rfl (wt0 rfl) (show XS _ _ _ _ (.agg #[.int .i64 (a1.1), .slice Ar26_0 (a1.2.length) cr26_0]) from x_build (vs := [(0, .int .i64 (a1.1)), (1, .slice Ar26_0 (a1.2.length) cr26_0)]) tb_43 rfl (by simp [Value.oneCell'])) rfl rfl fun a_58 HE59 => ?_
      refine dr_one (i := 7) (ls' := #[true, true, true, true, true, true, true, true]) rfl (by kernel_rfl) rfl fun K_60 hK61 => ?_
      refine st_store (vs := [.int .i64 (a1.1), .slice Ar26_0 (a1.2.length) cr26_0]) 1 HE59 HH54 tv_43 rfl rfl rfl rfl rfl rfl (by simp [Value.oneCell']) (wt0 rfl) fun w' HH62 => hK61 _ _ (by exact HH62.sel [2, 3] (by decide) rfl) ?_
      have HS63 := HH62.sel [2, 3] (by decide) rfl
      refine dr_done (by kernel_rfl) ?_
      clear HH13 a_18 HE19 a_22 HE23 a_24 HE25 a_26 HE27 a_28 HE29 HH20 HS21 K_30 hK31 HH50 a_48 HE49 HS51 a_55 HE56 K_52 hK53 HH54 HS57 hK61 K_60
      exact nrm ⟨_, _, _, _, HE59.sub ⟨rfl, rfl, rfl, rfl, trivial⟩, HH62.sel [1, 0, 2, 3] (by decide) rfl⟩
  · rintro a_64 w' ⟨q24, Ar23_0, cr23_0, Sr23, HE65, HH66⟩
    refine nrm ?_
    refine wp_seq ?_
    refine wp_seq ?_
    refine rg ?_
    refine pl_x HE65 HH66 (wt0 rfl) (x_assign rfl) rfl rfl fun a_67 HE68 => ?_
    refine wpList_nil ?_
    clear a_18 HE19 HH13 a_64 HE65
    refine nrm ?_
    refine wp_block ?_
    refine lp (fun m a w' => ∃ (k : Nat) (y : tStore) (A_10_1 : Option Addr) (c_10_1 : Nat) (S_10_1 : Nat → Prop), m = (a2 - (k : Int)).toNat ∧ Env 42 [(11, .int .i64 (k : Int)), (0, .slice A0 (a0.length) c0), (2, .int .i64 (a2)), (6, .pointer (some ⟨q22, 0, none⟩)), (10, .pointer (some ⟨q24, 0, none⟩))] a ∧ Held Nob w [rSo eInt S_10_1 A_10_1 c_10_1 y.2, rBlk q24 43 [.int .i64 y.1, .slice A_10_1 (List.length y.2) c_10_1], rBlk q22 43 [.int .i64 (0), .slice none (0) 0], rBlk q21 43 [.int .i64 (a1.1), .slice Az1_1 (a1.2.length) cz1_1]] w' ∧ ((k : Int) ≤ a2) ∧ (storeOf a0 y = true) ∧ (runS a0 a1 a2 = runF a0 (a2 - k).toNat y k)) ((a2 - ((0) : Int)).toNat) ?_ ?_
    · exact ⟨0, a1, Ar23_0, cr23_0, Sr23, rfl, HE68.sub ⟨(lkI rfl (by first | rfl | omega | (simp []; done))), rfl, rfl, rfl, rfl, trivial⟩, (HH66.sel [1, 0, 2, 3] (by decide) rfl), (by first | omega | assumption | (simp; done) | simp_all), (by exact s1), (by unfold runS; simp)⟩
    · rintro m a_69 w' ⟨k, y, A_10_1, c_10_1, S_10_1, rfl, HE70, HH71, p27_0, p27_1, p27_2⟩
      obtain ⟨v0, v1, v2, v3⟩ := storeOf_facts p27_1
      refine wp_seq ?_
      refine wp_seq ?_
      refine rg ?_
      refine pl_x HE70 HH71 (wt0 rfl) (x_move rfl) rfl rfl fun a_72 HE73 => ?_
      refine pl_x HE73 HH71 (wt0 rfl) (x_move rfl) rfl rfl fun a_74 HE75 => ?_
      refine pl_x HE75 HH71 (wt0 rfl) (x_lss rfl rfl) rfl rfl fun a_76 HE77 => ?_
      refine wpList_nil ?_
      clear a_67 HE68 HH66 a_69 HE70 a_72 HE73 a_74 HE75
      refine nrm ?_
      refine cnd_d HE77 rfl (fun hc28 => ?_) (fun hc28 => ?_)
      · refine wp_skip ?_
        refine nrm ?_
        refine wp_seq ?_
        refine wp_block ?_
        refine wp_seq ?_
        refine wp_seq ?_
        refine rg ?_
        refine pl_x HE77 HH71 (wt0 rfl) (x_move rfl) rfl rfl fun a_78 HE79 => ?_
        refine pl fun K_80 hK81 => ?_
        refine st_call HE79 (wt0 rfl) rfl rfl rfl en_121 rfl rfl (spec_l07Halts _ _ a0 _ _ _ y _ (HH71.old h0) (rep_Store (x := y) (by exact ⟨by omega, by omega⟩) (HH71.sl (i := 0) rfl)) (c_blkN 1 rfl _ HH71)) fun e w' hr => ?_
        obtain ⟨rfl, rfl⟩ := hr
        refine ⟨_, rfl, fun a_82 HE83 => hK81 _ _ ?_⟩
        refine wpList_nil ?_
        clear a_76 HE77 a_78 HE79 hK81 K_80
        refine nrm ?_
        refine cnd_b HE83 rfl (fun hc30 => ?_) (fun hc30 => ?_)
        · refine wp_seq ?_
          refine rg ?_
          refine pl_x HE83 HH71 (wt0 rfl) (x_loadN (cs := [.int .i64 (y.1), .slice A_10_1 ((List.length y.2)) c_10_1]) tv_43 rfl rfl (c_blkN 1 rfl)) rfl rfl fun a_84 HE85 => ?_
          refine pl_x HE85 HH71 (wt0 rfl) (x_move rfl) rfl rfl fun a_86 HE87 => ?_
          refine pl fun K_88 hK89 => ?_
          refine st_store (vs := [.int .i64 (y.1), .slice A_10_1 ((List.length y.2)) c_10_1]) 2 HE87 HH71 tv_43 rfl rfl rfl rfl rfl rfl (by simp [Value.oneCell']) (wt0 rfl) fun w' HH90 => hK89 _ _ ?_
          refine pl_x HE87 HH90 (wt0 rfl) (x_assign rfl) rfl rfl fun a_91 HE92 => ?_
          refine pl_x HE92 HH90 (wt0 rfl) (x_assign rfl) rfl rfl fun a_93 HE94 => ?_
          refine pl_x HE94 HH90 (wt0 rfl) (x_assign rfl) rfl rfl fun a_95 HE96 => ?_
          refine wpList_nil ?_
          clear a_82 HE83 a_84 HE85 HH71 a_86 HE87 a_91 HE92 a_93 HE94 hK89 K_88
          refine nrm ?_
          refine wp_ret ?_
          refine (thn_ret (blk_ret (thn_ret (thn_ret (blk_ret (thn_ret ?_))))))
          refine ret4 HE96 rfl (rv_cell rfl (tv_43.loadN (cs := [.int .i64 (y.1), .slice A_10_1 ((List.length y.2)) c_10_1]) rfl (c_blkN 2 rfl _ HH90))) (rv_tmp rfl) (rv_tmp rfl) (rv_tmp rfl) ?_
          have HH97 := HH90.pairF (E := eInt) (c1 := [.int .i64 (y.1)]) (x := y.1) (oI (by exact ⟨by omega, by omega⟩))
          obtain ⟨S31, HH98⟩ : ∃ S, Held Nob w (rO eStore S [.int .i64 (y.1), .slice A_10_1 ((List.length y.2)) c_10_1] y :: _) _ := ⟨_, HH97⟩
          have hF : (run2 a0 a1 a2) = (y, (k : Int), true, true) := by
            unfold run2; rw [p27_2, runF_eq]; grind [haltsS, stepS2]
          exact ⟨_, by rw [hF] <;> rfl, by rw [hF]; exact (HH98.o (i := 0) rfl), HH98.below⟩
        · have hN : y.1 < (a0.length : Int) := by unfold haltsS at hc30; simp at hc30; omega
          refine wp_skip ?_
          refine nrm ?_
          refine wp_seq ?_
          refine rg ?_
          refine pl_x HE83 HH71 (wt0 rfl) (x_move rfl) rfl rfl fun a_99 HE100 => ?_
          refine pl fun K_101 hK102 => ?_
          refine st_call HE100 (wt0 rfl) rfl rfl rfl en_122 rfl rfl (spec_l07Step _ _ a0 _ _ _ y _ (HH71.old h0) (rep_Store (x := y) (by exact ⟨by omega, by omega⟩) (HH71.sl (i := 0) rfl)) (c_blkN 1 rfl _ HH71) (by first | exact s0 | exact validStore_prog ‹_›) (by first | assumption | exact validStore_of ‹_›) (by omega)) fun e w' hr => ?_
          obtain ⟨esr32_0, rfl, hor32_0, hbr32⟩ := hr
          have hr := eStore.read hor32_0
          obtain ⟨Sr32, HH103⟩ := HH71.newO hbr32 hor32_0
          obtain ⟨Ar32_0_1, cr32_0_1, rfl, gr32_0_0, gr32_0_1⟩ := shape_Store hr
          have jr32_0_0 := gr32_0_0; unfold I64 at jr32_0_0
          have HH104 := HH103.unF rfl
          refine ⟨_, rfl, fun a_105 HE106 => hK102 _ _ ?_⟩
          refine pl_x HE106 HH104 (wt0 rfl) (x_move rfl) rfl rfl fun a_107 HE108 => ?_
          refine pl_x HE108 HH104 (wt0 rfl) (x_extract rfl rfl) rfl rfl fun a_109 HE110 => ?_
          refine pl_x HE110 HH104 (wt0 rfl) (x_extract rfl rfl) rfl rfl fun a_111 HE112 => ?_
          refine pl fun K_113 hK114 => ?_
          refine st_alloc HE112 HH104 tv_43 (wt0 rfl) rfl fun q33 a_115 w' HE116 HH117 => hK114 _ _ ?_
          refine pl fun K_118 hK119 => ?_
          refine st_store (vs := [.int .i64 ((stepS2 a0 y).1.1), .slice Ar32_0_1 ((stepS2 a0 y).1.2.length) cr32_0_1]) 0 HE116 HH117 tv_43 rfl rfl rfl rfl rfl rfl (by simp [Value.oneCell']) (wt0 rfl) fun w' HH120 => hK119 _ _ ?_
          refine pl_x HE116 HH120 (wt0 rfl) (x_assign rfl) rfl rfl fun a_121 HE122 => ?_
          refine wpList_nil ?_
          clear a_82 HE83 HH71 HH103 a_99 HE100 a_105 HE106 a_107 HE108 a_109 HE110 K_101 hK102 a_111 HE112 HH104 K_113 hK114 HH117 a_115 HE116 hK119 K_118
          refine nrm ?_
          refine wp_seq ?_
          refine wp_seq ?_
          refine rg ?_
          refine pl_x HE122 HH120 (wt0 rfl) (x_move rfl) rfl rfl fun a_123 HE124 => ?_
          refine pl_x HE124 HH120 (wt0 rfl) (x_not rfl) rfl rfl fun a_125 HE126 => ?_
          refine wpList_nil ?_
          clear a_121 HE122 a_123 HE124
          refine nrm ?_
          refine cnd_nb HE126 rfl (fun hc34 => ?_) (fun hc34 => ?_)
          · refine wp_seq ?_
            refine rg ?_
            refine pl_x HE126 HH120 (wt0 rfl) (show XS _ _ _ _ (.agg #[.int .i64 (0), .slice none (0) 0]) from x_build (vs := []) tb_43 rfl (by simp [Value.oneCell'])) rfl rfl fun a_127 HE128 => ?_
            refine pl fun K_129 hK130 => ?_
            refine st_store (vs := [.int .i64 (0), .slice none (0) 0]) 4 HE128 HH120 tv_43 rfl rfl rfl rfl rfl rfl (by simp [Value.oneCell']) (wt0 rfl) fun w' HH131 => hK130 _ _ ?_
            refine pl_x HE128 HH131 (wt0 rfl) (x_assign rfl) rfl rfl fun a_132 HE133 => ?_
            refine pl_x HE133 HH131 (wt0 rfl) (x_assign rfl) rfl rfl fun a_134 HE135 => ?_
            refine pl_x HE135 HH131 (wt0 rfl) (x_assign rfl) rfl rfl fun a_136 HE137 => ?_
            refine wpList_nil ?_
            clear a_125 HE126 HH120 a_127 HE128 a_132 HE133 a_134 HE135 hK130 K_129
            refine nrm ?_
            refine wp_ret ?_
            refine (thn_ret (blk_ret (thn_ret (thn_ret (blk_ret (thn_ret ?_))))))
            refine ret4 HE137 rfl (rv_cell rfl (tv_43.loadN (cs := [.int .i64 (0), .slice none (0) 0]) rfl (c_blkN 4 rfl _ HH131))) (rv_tmp rfl) (rv_tmp rfl) (rv_tmp rfl) ?_
            have HH138 := HH131.flatO (E := eStore) (cs := [.int .i64 (0), .slice none (0) 0]) (x := (0, [])) (fun _ => (oPrN (oI (by exact ⟨by omega, by omega⟩)) (oSl (So.nil (Nat.zero_le _)))))
            have hF : (run2 a0 a1 a2) = ((0, []), 0, false, false) := by
              unfold run2; rw [p27_2, runF_eq]; grind [haltsS, stepS2]
            exact ⟨_, by rw [hF] <;> rfl, by rw [hF]; exact (HH138.o (i := 0) rfl), HH138.below⟩
          · refine wp_skip ?_
            refine nrm ?_
            refine rg ?_
            refine pl_x HE126 HH120 (wt0 rfl) (x_loadN (cs := [.int .i64 ((stepS2 a0 y).1.1), .slice Ar32_0_1 ((stepS2 a0 y).1.2.length) cr32_0_1]) tv_43 rfl rfl (c_blkN 0 rfl)) rfl rfl fun a_139 HE140 => ?_
            refine pl fun K_141 hK142 => ?_
            refine st_store (vs := [.int .i64 ((stepS2 a0 y).1.1), .slice Ar32_0_1 ((stepS2 a0 y).1.2.length) cr32_0_1]) 3 HE140 HH120 tv_43 rfl rfl rfl rfl rfl rfl (by simp [Value.oneCell']) (wt0 rfl) fun w' HH143 => hK142 _ _ ?_
            refine wpList_nil ?_
            clear a_125 HE126 HH120 hK142 K_141
            refine blk_n ?_
            refine nrm ?_
            refine rg ?_
            refine pl_x HE140 HH143 (wt0 rfl) (x_move rfl) rfl rfl fun a_144 HE145 => ?_
            refine pl_x HE145 HH143 (wt0 rfl) (x_add rfl rfl (by exact ⟨by omega, by omega⟩)) rfl rfl fun a_146 HE147 => ?_
            refine pl_x HE147 HH143 (wt0 rfl) (x_assign rfl) rfl rfl fun a_148 HE149 => ?_
            refine wpList_nil ?_
            clear a_139 HE140 a_144 HE145 a_146 HE147
            have E35 : ((stepS a0 y).2).2 = (stepS2 a0 y).1.2 := by
              first | rfl | simp
            have E36 : ((stepS a0 y).2).1 = (stepS2 a0 y).1.1 := by first | rfl | omega | (simp [p27_0, p27_1, p27_2, hc28, hc30, hc34]; done)
            exact nrm ⟨(a2 - ((k + 1) : Int)).toNat, (by omega), k + 1, (stepS a0 y).2, Ar32_0_1, cr32_0_1, Sr32, rfl, HE149.sub ⟨(lkI rfl (by first | rfl | omega | (simp [p27_0, p27_1, p27_2, hc28, hc30, hc34]; done))), rfl, rfl, rfl, rfl, trivial⟩, ((HH143.sel [1, 3, 4, 5] (by decide) rfl).to (by first | rfl | (rw [E35, E36]; done) | (rw [E35, E36]; rfl) | (simp only [E35, E36]; done) | (simp only [E35, E36]; rfl))), (by first | omega | assumption | (simp; done) | simp_all), (by exact storeOf_step s0 p27_1 (by omega) hc34), (by rw [p27_2, runF_step (g := (a2 - ((k + 1 : Nat) : Int)).toNat) (by omega) (by omega) hc34]; simp)⟩
      · refine wp_exit ?_
        refine (thn_exit (thn_exit (blk_hit ?_)))
        refine nrm ?_
        refine wp_seq ?_
        refine dr_start (Held Nob w [rSo eInt S_10_1 A_10_1 c_10_1 y.2, rBlk q24 43 [.int .i64 (y.1), .slice A_10_1 ((List.length y.2)) c_10_1], rBlk q21 43 [.int .i64 (a1.1), .slice Az1_1 (a1.2.length) cz1_1]]) 8 #[false, false, false, false, false, false, false, false] hmix rfl rfl HH71 (fun _ h => h.sel [0, 1, 3] (by decide) rfl) fun w' HH150 => ?_
        have HS151 := HH150.sel [0, 1, 3] (by decide) rfl
        refine dr_take (i := 0) (ls' := #[true, false, false, false, false, false, false, false]) HE77 HS151 rfl (by kernel_rfl) (by kernel_rfl) (by kernel_rfl) (fun _ _ _ h => h) rfl (wt0 rfl) (x_loadN (cs := [.int .i64 (y.1), .slice A_10_1 ((List.length y.2)) c_10_1]) tv_43 rfl rfl (c_blkN 1 rfl)) rfl rfl fun a_152 HE153 => ?_
        refine dr_take (i := 1) (ls' := #[true, true, false, false, false, false, false, false]) HE153 HS151 rfl (by kernel_rfl) (by kernel_rfl) (by kernel_rfl) (fun _ _ _ h => h) rfl (wt0 rfl) (x_move rfl) rfl rfl fun a_154 HE155 => ?_
        refine dr_take (i := 2) (ls' := #[true, true, true, false, false, false, false, false]) HE155 HS151 rfl (by kernel_rfl) (by kernel_rfl) (by kernel_rfl) (fun _ _ _ h => h) rfl (wt0 rfl) (x_move rfl) rfl rfl fun a_156 HE157 => ?_
        refine dr_one (i := 3) (ls' := #[true, true, true, true, false, false, false, false]) rfl (by kernel_rfl) rfl fun K_158 hK159 => ?_
        refine st_call HE157 (wt0 rfl) rfl rfl rfl en_121 rfl rfl (spec_l07Halts _ _ a0 _ _ _ y _ (HH150.old h0) (rep_Store (x := y) (by exact ⟨by omega, by omega⟩) (HH150.sl (i := 0) rfl)) (c_blkN 1 rfl _ HH150)) fun e w' hr => ?_
        obtain ⟨rfl, rfl⟩ := hr
        refine ⟨_, rfl, fun a_160 HE161 => hK159 _ _ (by exact HH150.sel [0, 1, 3] (by decide) rfl) ?_⟩
        have HS162 := HH150.sel [0, 1, 3] (by decide) rfl
        refine dr_one (i := 4) (ls' := #[true, true, true, true, true, false, false, false]) rfl (by kernel_rfl) rfl fun K_163 hK164 => ?_
        refine st_store (vs := [.int .i64 (y.1), .slice A_10_1 ((List.length y.2)) c_10_1]) 2 HE161 HH150 tv_43 rfl rfl rfl rfl rfl rfl (by simp [Value.oneCell']) (wt0 rfl) fun w' HH165 => hK164 _ _ (by exact HH165.sel [0, 1, 3] (by decide) rfl) ?_
        have HS166 := HH165.sel [0, 1, 3] (by decide) rfl
        refine dr_take (i := 5) (ls' := #[true, true, true, true, true, true, false, false]) HE161 HS166 rfl (by kernel_rfl) (by kernel_rfl) (by kernel_rfl) (fun _ _ _ h => h) rfl (wt0 rfl) (x_assign rfl) rfl rfl fun a_167 HE168 => ?_
        refine dr_take (i := 6) (ls' := #[true, true, true, true, true, true, true, false]) HE168 HS166 rfl (by kernel_rfl) (by kernel_rfl) (by kernel_rfl) (fun _ _ _ h => h) rfl (wt0 rfl) (x_assign rfl) rfl rfl fun a_169 HE170 => ?_
        refine dr_take (i := 7) (ls' := #[true, true, true, true, true, true, true, true]) HE170 HS166 rfl (by kernel_rfl) (by kernel_rfl) (by kernel_rfl) (fun _ _ _ h => h) rfl (wt0 rfl) (x_assign rfl) rfl rfl fun a_171 HE172 => ?_
        refine dr_done (by kernel_rfl) ?_
        clear HH71 a_76 HE77 a_152 HE153 a_154 HE155 a_156 HE157 HS151 K_158 hK159 HH150 HS162 a_160 HE161 a_167 HE168 a_169 HE170 hK164 K_163
        refine nrm ?_
        refine wp_ret ?_
        refine ret4 HE172 rfl (rv_cell rfl (tv_43.loadN (cs := [.int .i64 (y.1), .slice A_10_1 ((List.length y.2)) c_10_1]) rfl (c_blkN 2 rfl _ HH165))) (rv_tmp rfl) (rv_tmp rfl) (rv_tmp rfl) ?_
        have HH173 := HH165.pairF (E := eInt) (c1 := [.int .i64 (y.1)]) (x := y.1) (oI (by exact ⟨by omega, by omega⟩))
        obtain ⟨S38, HH174⟩ : ∃ S, Held Nob w (rO eStore S [.int .i64 (y.1), .slice A_10_1 ((List.length y.2)) c_10_1] y :: _) _ := ⟨_, HH173⟩
        have hF : (run2 a0 a1 a2) = (y, a2, (haltsS a0 y), true) := by
          unfold run2; rw [p27_2, runF_eq]; grind [haltsS, stepS2]
        exact ⟨_, by rw [hF] <;> rfl, by rw [hF]; exact (HH174.o (i := 0) rfl), HH174.below⟩

set_option maxRecDepth 100000 in
set_option maxHeartbeats 4000000 in
theorem spec_RunProgram (A0 : Option Addr) (c0 : Nat) (a0 : (List tInstr)) (es1 : List Value) (a1 : tStore) (a2 : Int) (w : World) (h0 : Sl eInstr w (Old w) A0 c0 a0) (h1 : eStore.R w (Old w) es1 a1) :
    Calls Try.prog 65 #[.slice A0 a0.length c0, .agg es1.toArray, .int .i64 a2] w fun e w' => ∃ (es0' : List Value), e = .returned (.tuple #[.agg es0'.toArray, .int .i64 (runProg a0 a1 a2).2.1, .bool (runProg a0 a1 a2).2.2.1, .int .i64 (runProg a0 a1 a2).2.2.2]) ∧ eStore.O w' (Fr w w') es0' (runProg a0 a1 a2).1 ∧ Below w.heap.size w w' := by
  have l0 := h0.len
  have H1 := h1
  obtain ⟨Az1_1, cz1_1, rfl, gz1_0, gz1_1⟩ := shape_Store h1
  have jz1_0 := gz1_0; unfold I64 at jz1_0
  have lz1_1 := gz1_1.len
  have HH1 := Held.start Nob w
  refine enter (n := 43) Try.func65 rfl rfl rfl fun a_2 HE3 => ?_
  refine wp_seq ?_
  refine rg ?_
  refine pl fun K_4 hK5 => ?_
  refine st_box (cs := [.int .i64 (a1.1), .slice Az1_1 (a1.2.length) cz1_1]) HE3 HH1 rfl rfl (wt0 rfl) rfl fun q21 a_6 w' HE7 HH8 => hK5 _ _ ?_
  refine pl fun K_9 hK10 => ?_
  refine st_alloc HE7 HH8 tv_43 (wt0 rfl) rfl fun q22 a_11 w' HE12 HH13 => hK10 _ _ ?_
  refine pl_x HE12 HH13 (wt0 rfl) (x_assign rfl) rfl rfl fun a_14 HE15 => ?_
  refine pl_x HE15 HH13 (wt0 rfl) (x_assign rfl) rfl rfl fun a_16 HE17 => ?_
  refine pl_x HE17 HH13 (wt0 rfl) (x_assign rfl) rfl rfl fun a_18 HE19 => ?_
  refine wpList_nil ?_
  clear a_2 HE3 HH1 K_4 hK5 a_6 HE7 HH8 a_11 HE12 a_14 HE15 a_16 HE17 hK10 K_9
  refine nrm ?_
  refine wp_seq ?_
  refine rg ?_
  refine pl_x HE19 HH13 (wt0 rfl) (x_move rfl) rfl rfl fun a_20 HE21 => ?_
  refine pl fun K_22 hK23 => ?_
  refine st_call HE21 (wt0 rfl) rfl rfl rfl en_120 rfl rfl (spec_l07Ask _ _ a0 _ _ _ a1 _ (HH13.old h0) (HH13.oldR H1) (c_blkN 1 rfl _ HH13)) fun e w' hr => ?_
  obtain ⟨rfl, hbr23⟩ := hr
  have HH24 := HH13.on hbr23
  refine ⟨_, rfl, fun a_25 HE26 => hK23 _ _ ?_⟩
  refine pl_x HE26 HH24 (wt0 rfl) (x_assign rfl) rfl rfl fun a_27 HE28 => ?_
  refine wpList_nil ?_
  clear a_18 HE19 HH13 a_20 HE21 a_25 HE26 hK23 K_22
  refine nrm ?_
  refine wp_seq ?_
  refine wp_seq ?_
  refine rg ?_
  refine pl_x HE28 HH24 (wt0 rfl) (x_move rfl) rfl rfl fun a_29 HE30 => ?_
  refine pl_x HE30 HH24 (wt0 rfl) (x_eql rfl rfl) rfl rfl fun a_31 HE32 => ?_
  refine pl_x HE32 HH24 (wt0 rfl) (x_move rfl) rfl rfl fun a_33 HE34 => ?_
  by_cases hc24 : (askS a0 a1) = 0
  · have hV := askS_ok hc24
    obtain ⟨v0, v1, v2, v3⟩ := storeOf_facts (validStore_of hV)
    refine pl_x HE34 HH24 (wtT HE34 rfl rfl rfl (beq_t hc24)) (x_move rfl) rfl rfl fun a_35 HE36 => ?_
    refine pl fun K_37 hK38 => ?_
    refine st_call HE36 (wtT HE36 rfl rfl rfl (beq_t hc24)) rfl rfl rfl en_127 rfl rfl (spec_l05Budget a2 _ ) fun e w' hr => ?_
    obtain ⟨rfl, rfl⟩ := hr
    refine ⟨_, rfl, fun a_39 HE40 => hK38 _ _ ?_⟩
    refine pl_x HE40 HH24 (wtT HE40 rfl rfl rfl (beq_t hc24)) (x_not rfl) rfl rfl fun a_41 HE42 => ?_
    refine pl_x HE42 HH24 (wt0 rfl) (x_pickT rfl (beq_t hc24) rfl) rfl rfl fun a_43 HE44 => ?_
    refine wpList_nil ?_
    clear a_27 HE28 a_29 HE30 a_31 HE32 a_33 HE34 a_35 HE36 a_39 HE40 a_41 HE42 hK38 K_37
    refine nrm ?_
    refine cnd_nb HE44 rfl (fun hc26 => ?_) (fun hc26 => ?_)
    · refine rg ?_
      refine pl_x HE44 HH24 (wt0 rfl) (x_assign rfl) rfl rfl fun a_45 HE46 => ?_
      refine wpList_nil ?_
      clear a_43 HE44
      refine nrm ?_
      refine wp_seq ?_
      refine wp_seq ?_
      refine rg ?_
      refine pl_x HE46 HH24 (wt0 rfl) (x_move rfl) rfl rfl fun a_47 HE48 => ?_
      refine pl_x HE48 HH24 (wt0 rfl) (x_neq rfl rfl) rfl rfl fun a_49 HE50 => ?_
      refine wpList_nil ?_
      clear a_45 HE46 a_47 HE48
      refine nrm ?_
      refine cnd_ne HE50 rfl (fun hc27 => ?_) (fun hc27 => ?_)
      · refine wp_seq ?_
        refine rg ?_
        refine pl_x HE50 HH24 (wt0 rfl) (show XS _ _ _ _ (.agg #[.int .i64 (0), .slice none (0) 0]) from x_build (vs := []) tb_43 rfl (by simp [Value.oneCell'])) rfl rfl fun a_51 HE52 => ?_
        refine pl_x HE52 HH24 (wt0 rfl) (x_move rfl) rfl rfl fun a_53 HE54 => ?_
        refine pl fun K_55 hK56 => ?_
        refine st_store (vs := [.int .i64 (0), .slice none (0) 0]) 0 HE54 HH24 tv_43 rfl rfl rfl rfl rfl rfl (by simp [Value.oneCell']) (wt0 rfl) fun w' HH57 => hK56 _ _ ?_
        refine pl_x HE54 HH57 (wt0 rfl) (x_assign rfl) rfl rfl fun a_58 HE59 => ?_
        refine pl_x HE59 HH57 (wt0 rfl) (x_assign rfl) rfl rfl fun a_60 HE61 => ?_
        refine pl_x HE61 HH57 (wt0 rfl) (x_assign rfl) rfl rfl fun a_62 HE63 => ?_
        refine wpList_nil ?_
        clear a_49 HE50 a_51 HE52 HH24 a_53 HE54 a_58 HE59 a_60 HE61 hK56 K_55
        refine nrm ?_
        refine wp_ret ?_
        refine (thn_ret ?_)
        refine ret4 HE63 rfl (rv_cell rfl (tv_43.loadN (cs := [.int .i64 (0), .slice none (0) 0]) rfl (c_blkN 0 rfl _ HH57))) (rv_tmp rfl) (rv_tmp rfl) (rv_tmp rfl) ?_
        have HH64 := HH57.flatO (E := eStore) (cs := [.int .i64 (0), .slice none (0) 0]) (x := (0, [])) (fun _ => (oPrN (oI (by exact ⟨by omega, by omega⟩)) (oSl (So.nil (Nat.zero_le _)))))
        have hF : (runProg a0 a1 a2) = ((0, []), 0, false, 2) := by
          first | (simp [runProg, hc24, hc26, hc27]; done) | (have hq := runS_code a0 a1 a2; grind [runProg, askS, run2])
        exact ⟨_, by rw [hF] <;> rfl, by rw [hF]; exact (HH64.o (i := 0) rfl), HH64.below⟩
      · refine wp_skip ?_
        refine nrm ?_
        refine wp_seq ?_
        refine rg ?_
        refine pl_x HE50 HH24 (wt0 rfl) (x_move rfl) rfl rfl fun a_65 HE66 => ?_
        refine pl_x HE66 HH24 (wt0 rfl) (x_loadN (cs := [.int .i64 (a1.1), .slice Az1_1 (a1.2.length) cz1_1]) tv_43 rfl rfl (c_blkN 1 rfl)) rfl rfl fun a_67 HE68 => ?_
        refine pl_x HE68 HH24 (wt0 rfl) (x_move rfl) rfl rfl fun a_69 HE70 => ?_
        refine pl fun K_71 hK72 => ?_
        refine st_call HE70 (wt0 rfl) rfl rfl rfl en_138 rfl rfl (spec_l07Run _ _ a0 [.int .i64 (a1.1), .slice Az1_1 (a1.2.length) cz1_1] a1 a2 _ (HH24.old h0) (HH24.oldR H1) (by exact validStore_prog ‹_›) (by exact validStore_of ‹_›) (by omega)) fun e w' hr => ?_
        obtain ⟨esr28_0, rfl, hor28_0, hbr28⟩ := hr
        have hr := eStore.read hor28_0
        obtain ⟨Sr28, HH73⟩ := HH24.newO hbr28 hor28_0
        obtain ⟨Ar28_0_1, cr28_0_1, rfl, gr28_0_0, gr28_0_1⟩ := shape_Store hr
        have jr28_0_0 := gr28_0_0; unfold I64 at jr28_0_0
        have HH74 := HH73.unF rfl
        refine ⟨_, rfl, fun a_75 HE76 => hK72 _ _ ?_⟩
        refine pl_x HE76 HH74 (wt0 rfl) (x_move rfl) rfl rfl fun a_77 HE78 => ?_
        refine pl_x HE78 HH74 (wt0 rfl) (x_extract rfl rfl) rfl rfl fun a_79 HE80 => ?_
        refine pl_x HE80 HH74 (wt0 rfl) (x_extract rfl rfl) rfl rfl fun a_81 HE82 => ?_
        refine pl_x HE82 HH74 (wt0 rfl) (x_extract rfl rfl) rfl rfl fun a_83 HE84 => ?_
        refine pl_x HE84 HH74 (wt0 rfl) (x_extract rfl rfl) rfl rfl fun a_85 HE86 => ?_
        refine pl fun K_87 hK88 => ?_
        refine st_alloc HE86 HH74 tv_43 (wt0 rfl) rfl fun q29 a_89 w' HE90 HH91 => hK88 _ _ ?_
        refine pl fun K_92 hK93 => ?_
        refine st_store (vs := [.int .i64 ((run2 a0 a1 a2).1.1), .slice Ar28_0_1 ((run2 a0 a1 a2).1.2.length) cr28_0_1]) 0 HE90 HH91 tv_43 rfl rfl rfl rfl rfl rfl (by simp [Value.oneCell']) (wt0 rfl) fun w' HH94 => hK93 _ _ ?_
        refine pl_x HE90 HH94 (wt0 rfl) (x_assign rfl) rfl rfl fun a_95 HE96 => ?_
        refine pl_x HE96 HH94 (wt0 rfl) (x_assign rfl) rfl rfl fun a_97 HE98 => ?_
        refine pl_x HE98 HH94 (wt0 rfl) (x_assign rfl) rfl rfl fun a_99 HE100 => ?_
        refine wpList_nil ?_
        clear a_49 HE50 a_65 HE66 a_67 HE68 HH24 HH73 a_69 HE70 a_75 HE76 a_77 HE78 a_79 HE80 a_81 HE82 a_83 HE84 K_71 hK72 a_85 HE86 HH74 K_87 hK88 HH91 a_89 HE90 a_95 HE96 a_97 HE98 hK93 K_92
        refine nrm ?_
        refine wp_seq ?_
        refine wp_seq ?_
        refine rg ?_
        refine pl_x HE100 HH94 (wt0 rfl) (x_move rfl) rfl rfl fun a_101 HE102 => ?_
        refine pl_x HE102 HH94 (wt0 rfl) (x_not rfl) rfl rfl fun a_103 HE104 => ?_
        refine wpList_nil ?_
        clear a_99 HE100 a_101 HE102
        refine nrm ?_
        refine cnd_nb HE104 rfl (fun hc30 => ?_) (fun hc30 => ?_)
        · refine wp_seq ?_
          refine rg ?_
          refine pl_x HE104 HH94 (wt0 rfl) (show XS _ _ _ _ (.agg #[.int .i64 (0), .slice none (0) 0]) from x_build (vs := []) tb_43 rfl (by simp [Value.oneCell'])) rfl rfl fun a_105 HE106 => ?_
          refine pl fun K_107 hK108 => ?_
          refine st_store (vs := [.int .i64 (0), .slice none (0) 0]) 2 HE106 HH94 tv_43 rfl rfl rfl rfl rfl rfl (by simp [Value.oneCell']) (wt0 rfl) fun w' HH109 => hK108 _ _ ?_
          refine pl_x HE106 HH109 (wt0 rfl) (x_assign rfl) rfl rfl fun a_110 HE111 => ?_
          refine pl_x HE111 HH109 (wt0 rfl) (x_assign rfl) rfl rfl fun a_112 HE113 => ?_
          refine pl_x HE113 HH109 (wt0 rfl) (x_assign rfl) rfl rfl fun a_114 HE115 => ?_
          refine wpList_nil ?_
          clear a_103 HE104 HH94 a_105 HE106 a_110 HE111 a_112 HE113 hK108 K_107
          refine nrm ?_
          refine wp_ret ?_
          refine (thn_ret ?_)
          refine ret4 HE115 rfl (rv_cell rfl (tv_43.loadN (cs := [.int .i64 (0), .slice none (0) 0]) rfl (c_blkN 2 rfl _ HH109))) (rv_tmp rfl) (rv_tmp rfl) (rv_tmp rfl) ?_
          have HH116 := HH109.flatO (E := eStore) (cs := [.int .i64 (0), .slice none (0) 0]) (x := (0, [])) (fun _ => (oPrN (oI (by exact ⟨by omega, by omega⟩)) (oSl (So.nil (Nat.zero_le _)))))
          have hF : (runProg a0 a1 a2) = ((0, []), 0, false, 5) := by
            first | (simp [runProg, hc24, hc26, hc27, hc30]; done) | (have hq := runS_code a0 a1 a2; grind [runProg, askS, run2])
          exact ⟨_, by rw [hF] <;> rfl, by rw [hF]; exact (HH116.o (i := 0) rfl), HH116.below⟩
        · refine wp_skip ?_
          refine nrm ?_
          refine wp_seq ?_
          refine rg ?_
          refine pl_x HE104 HH94 (wt0 rfl) (x_loadN (cs := [.int .i64 ((run2 a0 a1 a2).1.1), .slice Ar28_0_1 ((run2 a0 a1 a2).1.2.length) cr28_0_1]) tv_43 rfl rfl (c_blkN 0 rfl)) rfl rfl fun a_117 HE118 => ?_
          refine pl_x HE118 HH94 (wt0 rfl) (x_move rfl) rfl rfl fun a_119 HE120 => ?_
          refine pl_x HE120 HH94 (wt0 rfl) (x_move rfl) rfl rfl fun a_121 HE122 => ?_
          refine pl fun K_123 hK124 => ?_
          refine st_store (vs := [.int .i64 ((run2 a0 a1 a2).1.1), .slice Ar28_0_1 ((run2 a0 a1 a2).1.2.length) cr28_0_1]) 2 HE122 HH94 tv_43 rfl rfl rfl rfl rfl rfl (by simp [Value.oneCell']) (wt0 rfl) fun w' HH125 => hK124 _ _ ?_
          refine pl_x HE122 HH125 (wt0 rfl) (x_assign rfl) rfl rfl fun a_126 HE127 => ?_
          refine pl_x HE127 HH125 (wt0 rfl) (x_assign rfl) rfl rfl fun a_128 HE129 => ?_
          refine pl_x HE129 HH125 (wt0 rfl) (x_assign rfl) rfl rfl fun a_130 HE131 => ?_
          refine wpList_nil ?_
          clear a_103 HE104 a_117 HE118 a_119 HE120 HH94 a_121 HE122 a_126 HE127 a_128 HE129 hK124 K_123
          refine nrm ?_
          refine wp_ret ?_
          refine ret4 HE131 rfl (rv_cell rfl (tv_43.loadN (cs := [.int .i64 ((run2 a0 a1 a2).1.1), .slice Ar28_0_1 ((run2 a0 a1 a2).1.2.length) cr28_0_1]) rfl (c_blkN 2 rfl _ HH125))) (rv_tmp rfl) (rv_tmp rfl) (rv_tmp rfl) ?_
          have HH132 := HH125.sel [1, 0, 2, 3] (by decide) rfl
          have HH133 := HH132.pairF (E := eInt) (c1 := [.int .i64 ((run2 a0 a1 a2).1.1)]) (x := (run2 a0 a1 a2).1.1) (oI (by exact ⟨by omega, by omega⟩))
          obtain ⟨S31, HH134⟩ : ∃ S, Held Nob w (rO eStore S [.int .i64 ((run2 a0 a1 a2).1.1), .slice Ar28_0_1 ((run2 a0 a1 a2).1.2.length) cr28_0_1] ((run2 a0 a1 a2).1) :: _) _ := ⟨_, HH133⟩
          have hF : (runProg a0 a1 a2) = ((run2 a0 a1 a2).1, (run2 a0 a1 a2).2.1, (run2 a0 a1 a2).2.2.1, 0) := by
            first | (simp [runProg, hc24, hc26, hc27, hc30]; done) | (have hq := runS_code a0 a1 a2; grind [runProg, askS, run2])
          exact ⟨_, by rw [hF] <;> rfl, by rw [hF]; exact (HH134.o (i := 0) rfl), HH134.below⟩
    · have hBu := budgetB_le hc26
      refine wp_skip ?_
      refine nrm ?_
      refine wp_seq ?_
      refine wp_seq ?_
      refine rg ?_
      refine pl_x HE44 HH24 (wt0 rfl) (x_move rfl) rfl rfl fun a_135 HE136 => ?_
      refine pl_x HE136 HH24 (wt0 rfl) (x_neq rfl rfl) rfl rfl fun a_137 HE138 => ?_
      refine wpList_nil ?_
      clear a_43 HE44 a_135 HE136
      refine nrm ?_
      refine cndF HE138 rfl (bne_f hc24) ?_
      refine wp_skip ?_
      refine nrm ?_
      refine wp_seq ?_
      refine rg ?_
      refine pl_x HE138 HH24 (wt0 rfl) (x_move rfl) rfl rfl fun a_139 HE140 => ?_
      refine pl_x HE140 HH24 (wt0 rfl) (x_loadN (cs := [.int .i64 (a1.1), .slice Az1_1 (a1.2.length) cz1_1]) tv_43 rfl rfl (c_blkN 1 rfl)) rfl rfl fun a_141 HE142 => ?_
      refine pl_x HE142 HH24 (wt0 rfl) (x_move rfl) rfl rfl fun a_143 HE144 => ?_
      refine pl fun K_145 hK146 => ?_
      refine st_call HE144 (wt0 rfl) rfl rfl rfl en_138 rfl rfl (spec_l07Run _ _ a0 [.int .i64 (a1.1), .slice Az1_1 (a1.2.length) cz1_1] a1 a2 _ (HH24.old h0) (HH24.oldR H1) (by exact validStore_prog ‹_›) (by exact validStore_of ‹_›) (by omega)) fun e w' hr => ?_
      obtain ⟨esr32_0, rfl, hor32_0, hbr32⟩ := hr
      have hr := eStore.read hor32_0
      obtain ⟨Sr32, HH147⟩ := HH24.newO hbr32 hor32_0
      obtain ⟨Ar32_0_1, cr32_0_1, rfl, gr32_0_0, gr32_0_1⟩ := shape_Store hr
      have jr32_0_0 := gr32_0_0; unfold I64 at jr32_0_0
      have HH148 := HH147.unF rfl
      refine ⟨_, rfl, fun a_149 HE150 => hK146 _ _ ?_⟩
      refine pl_x HE150 HH148 (wt0 rfl) (x_move rfl) rfl rfl fun a_151 HE152 => ?_
      refine pl_x HE152 HH148 (wt0 rfl) (x_extract rfl rfl) rfl rfl fun a_153 HE154 => ?_
      refine pl_x HE154 HH148 (wt0 rfl) (x_extract rfl rfl) rfl rfl fun a_155 HE156 => ?_
      refine pl_x HE156 HH148 (wt0 rfl) (x_extract rfl rfl) rfl rfl fun a_157 HE158 => ?_
      refine pl_x HE158 HH148 (wt0 rfl) (x_extract rfl rfl) rfl rfl fun a_159 HE160 => ?_
      refine pl fun K_161 hK162 => ?_
      refine st_alloc HE160 HH148 tv_43 (wt0 rfl) rfl fun q33 a_163 w' HE164 HH165 => hK162 _ _ ?_
      refine pl fun K_166 hK167 => ?_
      refine st_store (vs := [.int .i64 ((run2 a0 a1 a2).1.1), .slice Ar32_0_1 ((run2 a0 a1 a2).1.2.length) cr32_0_1]) 0 HE164 HH165 tv_43 rfl rfl rfl rfl rfl rfl (by simp [Value.oneCell']) (wt0 rfl) fun w' HH168 => hK167 _ _ ?_
      refine pl_x HE164 HH168 (wt0 rfl) (x_assign rfl) rfl rfl fun a_169 HE170 => ?_
      refine pl_x HE170 HH168 (wt0 rfl) (x_assign rfl) rfl rfl fun a_171 HE172 => ?_
      refine pl_x HE172 HH168 (wt0 rfl) (x_assign rfl) rfl rfl fun a_173 HE174 => ?_
      refine wpList_nil ?_
      clear a_137 HE138 a_139 HE140 a_141 HE142 HH24 HH147 a_143 HE144 a_149 HE150 a_151 HE152 a_153 HE154 a_155 HE156 a_157 HE158 K_145 hK146 a_159 HE160 HH148 K_161 hK162 HH165 a_163 HE164 a_169 HE170 a_171 HE172 hK167 K_166
      refine nrm ?_
      refine wp_seq ?_
      refine wp_seq ?_
      refine rg ?_
      refine pl_x HE174 HH168 (wt0 rfl) (x_move rfl) rfl rfl fun a_175 HE176 => ?_
      refine pl_x HE176 HH168 (wt0 rfl) (x_not rfl) rfl rfl fun a_177 HE178 => ?_
      refine wpList_nil ?_
      clear a_173 HE174 a_175 HE176
      refine nrm ?_
      refine cnd_nb HE178 rfl (fun hc34 => ?_) (fun hc34 => ?_)
      · refine wp_seq ?_
        refine rg ?_
        refine pl_x HE178 HH168 (wt0 rfl) (show XS _ _ _ _ (.agg #[.int .i64 (0), .slice none (0) 0]) from x_build (vs := []) tb_43 rfl (by simp [Value.oneCell'])) rfl rfl fun a_179 HE180 => ?_
        refine pl fun K_181 hK182 => ?_
        refine st_store (vs := [.int .i64 (0), .slice none (0) 0]) 2 HE180 HH168 tv_43 rfl rfl rfl rfl rfl rfl (by simp [Value.oneCell']) (wt0 rfl) fun w' HH183 => hK182 _ _ ?_
        refine pl_x HE180 HH183 (wt0 rfl) (x_assign rfl) rfl rfl fun a_184 HE185 => ?_
        refine pl_x HE185 HH183 (wt0 rfl) (x_assign rfl) rfl rfl fun a_186 HE187 => ?_
        refine pl_x HE187 HH183 (wt0 rfl) (x_assign rfl) rfl rfl fun a_188 HE189 => ?_
        refine wpList_nil ?_
        clear a_177 HE178 HH168 a_179 HE180 a_184 HE185 a_186 HE187 hK182 K_181
        refine nrm ?_
        refine wp_ret ?_
        refine (thn_ret ?_)
        refine ret4 HE189 rfl (rv_cell rfl (tv_43.loadN (cs := [.int .i64 (0), .slice none (0) 0]) rfl (c_blkN 2 rfl _ HH183))) (rv_tmp rfl) (rv_tmp rfl) (rv_tmp rfl) ?_
        have HH190 := HH183.flatO (E := eStore) (cs := [.int .i64 (0), .slice none (0) 0]) (x := (0, [])) (fun _ => (oPrN (oI (by exact ⟨by omega, by omega⟩)) (oSl (So.nil (Nat.zero_le _)))))
        have hF : (runProg a0 a1 a2) = ((0, []), 0, false, 5) := by
          first | (simp [runProg, hc24, hc26, hc34]; done) | (have hq := runS_code a0 a1 a2; grind [runProg, askS, run2])
        exact ⟨_, by rw [hF] <;> rfl, by rw [hF]; exact (HH190.o (i := 0) rfl), HH190.below⟩
      · refine wp_skip ?_
        refine nrm ?_
        refine wp_seq ?_
        refine rg ?_
        refine pl_x HE178 HH168 (wt0 rfl) (x_loadN (cs := [.int .i64 ((run2 a0 a1 a2).1.1), .slice Ar32_0_1 ((run2 a0 a1 a2).1.2.length) cr32_0_1]) tv_43 rfl rfl (c_blkN 0 rfl)) rfl rfl fun a_191 HE192 => ?_
        refine pl_x HE192 HH168 (wt0 rfl) (x_move rfl) rfl rfl fun a_193 HE194 => ?_
        refine pl_x HE194 HH168 (wt0 rfl) (x_move rfl) rfl rfl fun a_195 HE196 => ?_
        refine pl fun K_197 hK198 => ?_
        refine st_store (vs := [.int .i64 ((run2 a0 a1 a2).1.1), .slice Ar32_0_1 ((run2 a0 a1 a2).1.2.length) cr32_0_1]) 2 HE196 HH168 tv_43 rfl rfl rfl rfl rfl rfl (by simp [Value.oneCell']) (wt0 rfl) fun w' HH199 => hK198 _ _ ?_
        refine pl_x HE196 HH199 (wt0 rfl) (x_assign rfl) rfl rfl fun a_200 HE201 => ?_
        refine pl_x HE201 HH199 (wt0 rfl) (x_assign rfl) rfl rfl fun a_202 HE203 => ?_
        refine pl_x HE203 HH199 (wt0 rfl) (x_assign rfl) rfl rfl fun a_204 HE205 => ?_
        refine wpList_nil ?_
        clear a_177 HE178 a_191 HE192 a_193 HE194 HH168 a_195 HE196 a_200 HE201 a_202 HE203 hK198 K_197
        refine nrm ?_
        refine wp_ret ?_
        refine ret4 HE205 rfl (rv_cell rfl (tv_43.loadN (cs := [.int .i64 ((run2 a0 a1 a2).1.1), .slice Ar32_0_1 ((run2 a0 a1 a2).1.2.length) cr32_0_1]) rfl (c_blkN 2 rfl _ HH199))) (rv_tmp rfl) (rv_tmp rfl) (rv_tmp rfl) ?_
        have HH206 := HH199.sel [1, 0, 2, 3] (by decide) rfl
        have HH207 := HH206.pairF (E := eInt) (c1 := [.int .i64 ((run2 a0 a1 a2).1.1)]) (x := (run2 a0 a1 a2).1.1) (oI (by exact ⟨by omega, by omega⟩))
        obtain ⟨S35, HH208⟩ : ∃ S, Held Nob w (rO eStore S [.int .i64 ((run2 a0 a1 a2).1.1), .slice Ar32_0_1 ((run2 a0 a1 a2).1.2.length) cr32_0_1] ((run2 a0 a1 a2).1) :: _) _ := ⟨_, HH207⟩
        have hF : (runProg a0 a1 a2) = ((run2 a0 a1 a2).1, (run2 a0 a1 a2).2.1, (run2 a0 a1 a2).2.2.1, 0) := by
          first | (simp [runProg, hc24, hc26, hc34]; done) | (have hq := runS_code a0 a1 a2; grind [runProg, askS, run2])
        exact ⟨_, by rw [hF] <;> rfl, by rw [hF]; exact (HH208.o (i := 0) rfl), HH208.below⟩
  · refine pl_no HE34 (wtF HE34 rfl rfl rfl (beq_f hc24)) rfl rfl fun a_209 HE210 => ?_
    refine pl_no HE210 (wtF HE210 rfl rfl rfl (beq_f hc24)) rfl rfl fun a_211 HE212 => ?_
    refine pl_no HE212 (wtF HE212 rfl rfl rfl (beq_f hc24)) rfl rfl fun a_213 HE214 => ?_
    refine pl_x HE214 HH24 (wt0 rfl) (x_pickF rfl (beq_f hc24) rfl) rfl rfl fun a_215 HE216 => ?_
    refine wpList_nil ?_
    clear a_27 HE28 a_29 HE30 a_31 HE32 a_33 HE34 a_209 HE210 a_211 HE212 a_213 HE214
    refine nrm ?_
    refine cndF HE216 rfl rfl ?_
    refine wp_skip ?_
    refine nrm ?_
    refine wp_seq ?_
    refine wp_seq ?_
    refine rg ?_
    refine pl_x HE216 HH24 (wt0 rfl) (x_move rfl) rfl rfl fun a_217 HE218 => ?_
    refine pl_x HE218 HH24 (wt0 rfl) (x_neq rfl rfl) rfl rfl fun a_219 HE220 => ?_
    refine wpList_nil ?_
    clear a_215 HE216 a_217 HE218
    refine nrm ?_
    refine cndT HE220 rfl (bne_t hc24) ?_
    refine wp_seq ?_
    refine rg ?_
    refine pl_x HE220 HH24 (wt0 rfl) (show XS _ _ _ _ (.agg #[.int .i64 (0), .slice none (0) 0]) from x_build (vs := []) tb_43 rfl (by simp [Value.oneCell'])) rfl rfl fun a_221 HE222 => ?_
    refine pl_x HE222 HH24 (wt0 rfl) (x_move rfl) rfl rfl fun a_223 HE224 => ?_
    refine pl fun K_225 hK226 => ?_
    refine st_store (vs := [.int .i64 (0), .slice none (0) 0]) 0 HE224 HH24 tv_43 rfl rfl rfl rfl rfl rfl (by simp [Value.oneCell']) (wt0 rfl) fun w' HH227 => hK226 _ _ ?_
    refine pl_x HE224 HH227 (wt0 rfl) (x_assign rfl) rfl rfl fun a_228 HE229 => ?_
    refine pl_x HE229 HH227 (wt0 rfl) (x_assign rfl) rfl rfl fun a_230 HE231 => ?_
    refine pl_x HE231 HH227 (wt0 rfl) (x_assign rfl) rfl rfl fun a_232 HE233 => ?_
    refine wpList_nil ?_
    clear a_219 HE220 a_221 HE222 HH24 a_223 HE224 a_228 HE229 a_230 HE231 hK226 K_225
    refine nrm ?_
    refine wp_ret ?_
    refine (thn_ret ?_)
    refine ret4 HE233 rfl (rv_cell rfl (tv_43.loadN (cs := [.int .i64 (0), .slice none (0) 0]) rfl (c_blkN 0 rfl _ HH227))) (rv_tmp rfl) (rv_tmp rfl) (rv_tmp rfl) ?_
    have HH234 := HH227.flatO (E := eStore) (cs := [.int .i64 (0), .slice none (0) 0]) (x := (0, [])) (fun _ => (oPrN (oI (by exact ⟨by omega, by omega⟩)) (oSl (So.nil (Nat.zero_le _)))))
    have hF : (runProg a0 a1 a2) = ((0, []), 0, false, (askS a0 a1)) := by
      first | (simp [runProg, hc24]; done) | (have hq := runS_code a0 a1 a2; grind [runProg, askS, run2])
    exact ⟨_, by rw [hF] <;> rfl, by rw [hF]; exact (HH234.o (i := 0) rfl), HH234.below⟩

theorem ct_cost_SInstr (xs : List tInstr) : ct_SInstr xs ≤ 4 * cost_SInstr xs := by
  have := cntL_const ct_Instr 4 xs fun _ => rfl
  unfold ct_SInstr cost_SInstr; omega

theorem cv_cost_Store (x : tStore) : cv_Store x ≤ 4 * cost_Store x := by
  have h1 := ct_cost_L x.2
  unfold cv_Store cost_Store; omega

theorem cv_Store_24 {x : tStore} (h : x.2.length ≤ 24) : (cv_Store x : Int) ≤ 1000000000 := by
  have h1 := cntL_const ct_i 1 x.2 fun _ => rfl
  unfold cv_Store ct_L; omega

theorem stepS_len (p : List tInstr) (x : tStore) : (stepS p x).2.2.length = x.2.length := by
  unfold stepS; grind

theorem runF_len (p : List tInstr) : ∀ (f : Nat) (y : tStore) (n : Int), (runF p f y n).2.2.2.2.length = y.2.length
  | 0, y, n => rfl
  | f + 1, y, n => by
    rw [runF]
    split
    · rfl
    · split
      · rw [runF_len p f]; exact stepS_len p y
      · exact stepS_len p y

theorem runProg_ct (p : List tInstr) (x : tStore) (b : Int) : (cv_Store (runProg p x b).1 : Int) ≤ 1000000000 := by
  refine cv_Store_24 ?_
  unfold runProg
  split
  · rename_i h
    have h1 := (storeOf_facts (validStore_of h)).2.2.1
    have h2 : (runS p x b).2.2.2.2.length = x.2.length := runF_len p _ _ _
    split
    · split
      · simp only; omega
      · simp
    · simp
  · simp

set_option maxRecDepth 100000 in
set_option maxHeartbeats 4000000 in
theorem law_RunProgram (A0 : Option Addr) (c0 : Nat) (a0 : (List tInstr)) (es1 : List Value) (a1 : tStore) (a2 : Int) (w : World) (h0 : Sl eInstr w (Old w) A0 c0 a0) (h1 : eStore.R w (Old w) es1 a1) (h2 : I64 a2) :
    Calls Try.prog 14 #[.slice A0 a0.length c0, .agg es1.toArray, .int .i64 a2] w fun e w' => e = .returned (.bool true) ∧ Below w.heap.size w w' := by
  have l0 := h0.len
  have H1 := h1
  obtain ⟨Az1_1, cz1_1, rfl, gz1_0, gz1_1⟩ := shape_Store h1
  have jz1_0 := gz1_0; unfold I64 at jz1_0
  have lz1_1 := gz1_1.len
  unfold I64 at h2
  have m0 := ct_cost_SInstr a0
  have m1 := cv_cost_Store a1
  have n0 : (cv_Store (runProg a0 a1 a2).1 : Int) ≤ 1000000000 := runProg_ct a0 a1 a2
  have HH1 := Held.start Nob w
  refine enter (n := 166) Try.func14 rfl rfl rfl fun a_2 HE3 => ?_
  refine wp_seq ?_
  refine rg ?_
  refine pl fun K_4 hK5 => ?_
  refine st_box (cs := [.int .i64 (a1.1), .slice Az1_1 (a1.2.length) cz1_1]) HE3 HH1 rfl rfl (wt0 rfl) rfl fun q21 a_6 w' HE7 HH8 => hK5 _ _ ?_
  refine pl_x HE7 HH8 (wt0 rfl) (x_assign rfl) rfl rfl fun a_9 HE10 => ?_
  refine wpList_nil ?_
  clear a_2 HE3 HH1 a_6 HE7 hK5 K_4
  refine nrm ?_
  refine wp_seq ?_
  refine rg ?_
  refine pl_x HE10 HH8 (wt0 rfl) (x_assign rfl) rfl rfl fun a_11 HE12 => ?_
  refine wpList_nil ?_
  clear a_9 HE10
  refine nrm ?_
  refine wp_seq ?_
  refine rg ?_
  refine pl_x HE12 HH8 (wt0 rfl) (x_move rfl) rfl rfl fun a_13 HE14 => ?_
  refine pl_x HE14 HH8 (wt0 rfl) (x_move rfl) rfl rfl fun a_15 HE16 => ?_
  refine pl fun K_17 hK18 => ?_
  refine st_call HE16 (wt0 rfl) rfl rfl rfl en_27 rfl rfl (sz_InstrS _ _ a0 1048576 _ (HH8.old h0) (by omega) (by omega)) fun e w' hr => ?_
  obtain ⟨rfl, hbr22⟩ := hr
  have HH19 := HH8.on hbr22
  clear hbr22
  refine ⟨_, rfl, fun a_20 HE21 => hK18 _ _ ?_⟩
  refine pl_x HE21 HH19 (wt0 rfl) (x_assign rfl) rfl rfl fun a_22 HE23 => ?_
  refine wpList_nil ?_
  clear a_11 HE12 a_13 HE14 HH8 a_15 HE16 a_20 HE21 hK18 K_17
  refine nrm ?_
  refine wp_seq ?_
  refine wp_seq ?_
  refine rg ?_
  refine pl_x HE23 HH19 (wt0 rfl) (x_move rfl) rfl rfl fun a_24 HE25 => ?_
  refine pl_x HE25 HH19 (wt0 rfl) (x_lss rfl rfl) rfl rfl fun a_26 HE27 => ?_
  refine wpList_nil ?_
  clear a_22 HE23 a_24 HE25
  refine nrm ?_
  refine cnd_d HE27 rfl (fun hc23 => ?_) (fun hc23 => ?_)
  · refine wp_seq ?_
    refine rg ?_
    refine pl_x HE27 HH19 (wt0 rfl) (x_assign rfl) rfl rfl fun a_28 HE29 => ?_
    refine wpList_nil ?_
    clear a_26 HE27
    refine nrm ?_
    refine wp_ret ?_
    refine (thn_ret ?_)
    refine ret1 HE29 rfl (rv_tmp rfl) ?_
    have hF : true = true := by
      first | rfl | (exfalso; omega)
    exact ⟨by rw [hF] <;> rfl, HH19.below⟩
  · have zr22 := left_ok hc23
    refine wp_skip ?_
    refine nrm ?_
    refine wp_seq ?_
    refine rg ?_
    refine pl_x HE27 HH19 (wt0 rfl) (x_loadN (cs := [.int .i64 (a1.1), .slice Az1_1 (a1.2.length) cz1_1]) tv_79 rfl rfl (c_blkN 0 rfl)) rfl rfl fun a_30 HE31 => ?_
    refine pl_x HE31 HH19 (wt0 rfl) (x_move rfl) rfl rfl fun a_32 HE33 => ?_
    refine pl fun K_34 hK35 => ?_
    refine st_call HE33 (wt0 rfl) rfl rfl rfl en_57 rfl rfl (sz_Store [.int .i64 (a1.1), .slice Az1_1 (a1.2.length) cz1_1] a1 (left 1048576 (cost_SInstr a0)) _ (HH19.oldR H1) (by omega) (by omega)) fun e w' hr => ?_
    obtain ⟨rfl, hbr24⟩ := hr
    have HH36 := HH19.on hbr24
    clear hbr24
    refine ⟨_, rfl, fun a_37 HE38 => hK35 _ _ ?_⟩
    refine pl_x HE38 HH36 (wt0 rfl) (x_assign rfl) rfl rfl fun a_39 HE40 => ?_
    refine wpList_nil ?_
    clear a_26 HE27 a_30 HE31 HH19 a_32 HE33 a_37 HE38 hK35 K_34
    refine nrm ?_
    refine wp_seq ?_
    refine wp_seq ?_
    refine rg ?_
    refine pl_x HE40 HH36 (wt0 rfl) (x_move rfl) rfl rfl fun a_41 HE42 => ?_
    refine pl_x HE42 HH36 (wt0 rfl) (x_lss rfl rfl) rfl rfl fun a_43 HE44 => ?_
    refine wpList_nil ?_
    clear a_39 HE40 a_41 HE42
    refine nrm ?_
    refine cnd_d HE44 rfl (fun hc25 => ?_) (fun hc25 => ?_)
    · refine wp_seq ?_
      refine rg ?_
      refine pl_x HE44 HH36 (wt0 rfl) (x_assign rfl) rfl rfl fun a_45 HE46 => ?_
      refine wpList_nil ?_
      clear a_43 HE44
      refine nrm ?_
      refine wp_ret ?_
      refine (thn_ret ?_)
      refine ret1 HE46 rfl (rv_tmp rfl) ?_
      have hF : true = true := by
        first | rfl | (exfalso; omega)
      exact ⟨by rw [hF] <;> rfl, HH36.below⟩
    · have zr24 := left_ok hc25
      refine wp_skip ?_
      refine nrm ?_
      refine wp_seq ?_
      refine wp_join (fun a w' => ∃ (q29 : Nat), ∃ (Ar28_0_1 : Option Addr), ∃ (cr28_0_1 : Nat), ∃ (Sr28 : Nat → Prop), ∃ (Sr27 : Nat → Prop), ∃ (Ar27_1 : Option Addr), ∃ (cr27_1 : Nat), ∃ (Sr26 : Nat → Prop), ∃ (Ar26 : Option Addr), ∃ (cr26 : Nat), Env 166 [(0, .slice A0 (a0.length) c0), (2, .int .i64 (a2)), (4, .pointer (some ⟨q21, 0, none⟩)), (8, .pointer (some ⟨q29, 0, none⟩)), (9, .int .i64 ((runProg a0 a1 a2).2.1)), (10, .bool ((runProg a0 a1 a2).2.2.1)), (11, .int .i64 ((runProg a0 a1 a2).2.2.2))] a ∧ Held Nob w [rBlk q29 43 [.int .i64 ((runProg a0 a1 a2).1.1), .slice Ar28_0_1 ((runProg a0 a1 a2).1.2.length) cr28_0_1], rO eStore Sr28 [.int .i64 ((runProg a0 a1 a2).1.1), .slice Ar28_0_1 ((runProg a0 a1 a2).1.2.length) cr28_0_1] ((runProg a0 a1 a2).1), rO eStore Sr27 [.int .i64 (a1.1), .slice Ar27_1 (a1.2.length) cr27_1] a1, rSo eInstr Sr26 Ar26 cr26 a0, rBlk q21 79 [.int .i64 (a1.1), .slice Az1_1 (a1.2.length) cz1_1]] w') ?_ ?_
      · refine dr_start (Held Nob w [rBlk q21 79 [.int .i64 (a1.1), .slice Az1_1 (a1.2.length) cz1_1]]) 16 #[false, false, false, false, false, false, false, false, false, false, false, false, false, false, false, false] hmix rfl rfl HH36 (fun _ h => h.sel [0] (by decide) rfl) fun w' HH47 => ?_
        have HS48 := HH47
        refine dr_take (i := 0) (ls' := #[true, false, false, false, false, false, false, false, false, false, false, false, false, false, false, false]) HE44 HS48 rfl (by kernel_rfl) (by kernel_rfl) (by kernel_rfl) (fun _ _ _ h => h) rfl (wt0 rfl) (x_move rfl) rfl rfl fun a_49 HE50 => ?_
        refine dr_take (i := 2) (ls' := #[true, false, true, false, false, false, false, false, false, false, false, false, false, false, false, false]) HE50 HS48 rfl (by kernel_rfl) (by kernel_rfl) (by kernel_rfl) (fun _ _ _ h => h) rfl (wt0 rfl) (x_loadN (cs := [.int .i64 (a1.1), .slice Az1_1 (a1.2.length) cz1_1]) tv_79 rfl rfl (c_blkN 0 rfl)) rfl rfl fun a_51 HE52 => ?_
        refine dr_take (i := 4) (ls' := #[true, false, true, false, true, false, false, false, false, false, false, false, false, false, false, false]) HE52 HS48 rfl (by kernel_rfl) (by kernel_rfl) (by kernel_rfl) (fun _ _ _ h => h) rfl (wt0 rfl) (x_move rfl) rfl rfl fun a_53 HE54 => ?_
        refine dr_two (i := 1) (j := 11) (ls' := #[true, true, true, false, true, false, false, false, false, false, false, false, false, false, false, false]) (ls'' := #[true, false, true, false, true, false, false, false, false, false, false, true, false, false, false, false]) rfl rfl (by kernel_rfl) rfl rfl (fun K_55 hK56 => ?_) (fun K_55 hK56 => ?_)
        · refine st_call HE54 (wt0 rfl) rfl rfl rfl en_29 rfl rfl (to_InstrS _ _ a0 _ (HH47.old h0) (by omega)) fun e w' hr => ?_
          obtain ⟨Ar26, cr26, rfl, hor26, hbr26⟩ := hr
          obtain ⟨Sr26, HH57⟩ := HH47.newS hbr26 hor26
          clear hbr26 hor26
          refine ⟨_, rfl, fun a_58 HE59 => hK56 _ _ (by exact HH57.sel [1] (by decide) rfl) ?_⟩
          have HS60 := HH57.sel [1] (by decide) rfl
          refine dr_two (i := 3) (j := 11) (ls' := #[true, true, true, true, true, false, false, false, false, false, false, false, false, false, false, false]) (ls'' := #[true, true, true, false, true, false, false, false, false, false, false, true, false, false, false, false]) rfl rfl (by kernel_rfl) rfl rfl (fun K_61 hK62 => ?_) (fun K_61 hK62 => ?_)
          · refine st_call HE59 (wt0 rfl) rfl rfl rfl en_59 rfl rfl (to_Store [.int .i64 (a1.1), .slice Az1_1 (a1.2.length) cz1_1] a1 _ (HH57.oldR H1) (by omega)) fun e w' hr => ?_
            obtain ⟨esr27, rfl, hor27, hbr27⟩ := hr
            have hr := eStore.read hor27
            obtain ⟨Sr27, HH63⟩ := HH57.newO hbr27 hor27
            obtain ⟨Ar27_1, cr27_1, rfl, gr27_0, gr27_1⟩ := shape_Store hr
            clear hbr27 hor27 gr27_0 gr27_1
            refine ⟨_, rfl, fun a_64 HE65 => hK62 _ _ (by exact HH63.sel [2] (by decide) rfl) ?_⟩
            have HS66 := HH63.sel [2] (by decide) rfl
            refine dr_two (i := 5) (j := 11) (ls' := #[true, true, true, true, true, true, false, false, false, false, false, false, false, false, false, false]) (ls'' := #[true, true, true, true, true, false, false, false, false, false, false, true, false, false, false, false]) rfl rfl (by kernel_rfl) rfl rfl (fun K_67 hK68 => ?_) (fun K_67 hK68 => ?_)
            · refine st_call HE65 (wt0 rfl) rfl rfl rfl en_65 rfl rfl (spec_RunProgram _ _ a0 [.int .i64 (a1.1), .slice Ar27_1 (a1.2.length) cr27_1] a1 a2 _ (HH63.sl (i := 1) rfl) (HH63.rd (i := 0) rfl)) fun e w' hr => ?_
              obtain ⟨esr28_0, rfl, hor28_0, hbr28⟩ := hr
              have hr := eStore.read hor28_0
              obtain ⟨Sr28, HH69⟩ := HH63.newO hbr28 hor28_0
              obtain ⟨Ar28_0_1, cr28_0_1, rfl, gr28_0_0, gr28_0_1⟩ := shape_Store hr
              have jr28_0_0 := gr28_0_0; unfold I64 at jr28_0_0
              refine ⟨_, rfl, fun a_70 HE71 => hK68 _ _ (by exact HH69.sel [3] (by decide) rfl) ?_⟩
              have HS72 := HH69.sel [3] (by decide) rfl
              refine dr_take (i := 6) (ls' := #[true, true, true, true, true, true, true, false, false, false, false, false, false, false, false, false]) HE71 HS72 rfl (by kernel_rfl) (by kernel_rfl) (by kernel_rfl) (fun _ _ _ h => h) rfl (wt0 rfl) (x_move rfl) rfl rfl fun a_73 HE74 => ?_
              refine dr_take (i := 7) (ls' := #[true, true, true, true, true, true, true, true, false, false, false, false, false, false, false, false]) HE74 HS72 rfl (by kernel_rfl) (by kernel_rfl) (by kernel_rfl) (fun _ _ _ h => h) rfl (wt0 rfl) (x_extract rfl rfl) rfl rfl fun a_75 HE76 => ?_
              refine dr_take (i := 8) (ls' := #[true, true, true, true, true, true, true, true, true, false, false, false, false, false, false, false]) HE76 HS72 rfl (by kernel_rfl) (by kernel_rfl) (by kernel_rfl) (fun _ _ _ h => h) rfl (wt0 rfl) (x_extract rfl rfl) rfl rfl fun a_77 HE78 => ?_
              refine dr_take (i := 9) (ls' := #[true, true, true, true, true, true, true, true, true, true, false, false, false, false, false, false]) HE78 HS72 rfl (by kernel_rfl) (by kernel_rfl) (by kernel_rfl) (fun _ _ _ h => h) rfl (wt0 rfl) (x_extract rfl rfl) rfl rfl fun a_79 HE80 => ?_
              refine dr_take (i := 10) (ls' := #[true, true, true, true, true, true, true, true, true, true, true, false, false, false, false, false]) HE80 HS72 rfl (by kernel_rfl) (by kernel_rfl) (by kernel_rfl) (fun _ _ _ h => h) rfl (wt0 rfl) (x_extract rfl rfl) rfl rfl fun a_81 HE82 => ?_
              refine dr_one (i := 11) (ls' := #[true, true, true, true, true, true, true, true, true, true, true, true, false, false, false, false]) rfl (by kernel_rfl) rfl fun K_83 hK84 => ?_
              refine st_alloc HE82 HH69 tv_43 (wt0 rfl) rfl fun q29 a_85 w' HE86 HH87 => hK84 _ _ (by exact HH87.sel [4] (by decide) rfl) ?_
              have HS88 := HH87.sel [4] (by decide) rfl
              refine dr_one (i := 12) (ls' := #[true, true, true, true, true, true, true, true, true, true, true, true, true, false, false, false]) rfl (by kernel_rfl) rfl fun K_89 hK90 => ?_
              refine st_store (vs := [.int .i64 ((runProg a0 a1 a2).1.1), .slice Ar28_0_1 ((runProg a0 a1 a2).1.2.length) cr28_0_1]) 0 HE86 HH87 tv_43 rfl rfl rfl rfl rfl rfl (by simp [Value.oneCell']) (wt0 rfl) fun w' HH91 => hK90 _ _ (by exact HH91.sel [4] (by decide) rfl) ?_
              have HS92 := HH91.sel [4] (by decide) rfl
              refine dr_take (i := 13) (ls' := #[true, true, true, true, true, true, true, true, true, true, true, true, true, true, false, false]) HE86 HS92 rfl (by kernel_rfl) (by kernel_rfl) (by kernel_rfl) (fun _ _ _ h => h) rfl (wt0 rfl) (x_assign rfl) rfl rfl fun a_93 HE94 => ?_
              refine dr_take (i := 14) (ls' := #[true, true, true, true, true, true, true, true, true, true, true, true, true, true, true, false]) HE94 HS92 rfl (by kernel_rfl) (by kernel_rfl) (by kernel_rfl) (fun _ _ _ h => h) rfl (wt0 rfl) (x_assign rfl) rfl rfl fun a_95 HE96 => ?_
              refine dr_take (i := 15) (ls' := #[true, true, true, true, true, true, true, true, true, true, true, true, true, true, true, true]) HE96 HS92 rfl (by kernel_rfl) (by kernel_rfl) (by kernel_rfl) (fun _ _ _ h => h) rfl (wt0 rfl) (x_assign rfl) rfl rfl fun a_97 HE98 => ?_
              refine dr_done (by kernel_rfl) ?_
              clear HH36 a_43 HE44 a_49 HE50 a_51 HE52 HH47 a_53 HE54 HS48 K_55 hK56 HH57 a_58 HE59 HS60 K_61 hK62 HH63 a_64 HE65 HS66 a_70 HE71 a_73 HE74 a_75 HE76 a_77 HE78 a_79 HE80 K_67 hK68 a_81 HE82 HH69 HS72 K_83 hK84 HH87 HS88 a_85 HE86 a_93 HE94 a_95 HE96 hK90 K_89
              exact nrm ⟨_, _, _, _, _, _, _, _, _, _, HE98.sub ⟨rfl, rfl, rfl, rfl, rfl, rfl, rfl, trivial⟩, HH91.sel [0, 1, 2, 3, 4] (by decide) rfl⟩
            · refine st_alloc HE65 HH63 tv_43 (wt0 rfl) rfl fun q30 a_99 w' HE100 HH101 => hK68 _ _ (by exact HH101.sel [3] (by decide) rfl) ?_
              have HS102 := HH101.sel [3] (by decide) rfl
              refine dr_one (i := 5) (ls' := #[true, true, true, true, true, true, false, false, false, false, false, true, false, false, false, false]) rfl (by kernel_rfl) rfl fun K_103 hK104 => ?_
              refine st_call HE100 (wt0 rfl) rfl rfl rfl en_65 rfl rfl (spec_RunProgram _ _ a0 [.int .i64 (a1.1), .slice Ar27_1 (a1.2.length) cr27_1] a1 a2 _ (HH101.sl (i := 2) rfl) (HH101.rd (i := 1) rfl)) fun e w' hr => ?_
              obtain ⟨esr31_0, rfl, hor31_0, hbr31⟩ := hr
              have hr := eStore.read hor31_0
              obtain ⟨Sr31, HH105⟩ := HH101.newO hbr31 hor31_0
              obtain ⟨Ar31_0_1, cr31_0_1, rfl, gr31_0_0, gr31_0_1⟩ := shape_Store hr
              have jr31_0_0 := gr31_0_0; unfold I64 at jr31_0_0
              refine ⟨_, rfl, fun a_106 HE107 => hK104 _ _ (by exact HH105.sel [4] (by decide) rfl) ?_⟩
              have HS108 := HH105.sel [4] (by decide) rfl
              refine dr_take (i := 6) (ls' := #[true, true, true, true, true, true, true, false, false, false, false, true, false, false, false, false]) HE107 HS108 rfl (by kernel_rfl) (by kernel_rfl) (by kernel_rfl) (fun _ _ _ h => h) rfl (wt0 rfl) (x_move rfl) rfl rfl fun a_109 HE110 => ?_
              refine dr_take (i := 7) (ls' := #[true, true, true, true, true, true, true, true, false, false, false, true, false, false, false, false]) HE110 HS108 rfl (by kernel_rfl) (by kernel_rfl) (by kernel_rfl) (fun _ _ _ h => h) rfl (wt0 rfl) (x_extract rfl rfl) rfl rfl fun a_111 HE112 => ?_
              refine dr_take (i := 8) (ls' := #[true, true, true, true, true, true, true, true, true, false, false, true, false, false, false, false]) HE112 HS108 rfl (by kernel_rfl) (by kernel_rfl) (by kernel_rfl) (fun _ _ _ h => h) rfl (wt0 rfl) (x_extract rfl rfl) rfl rfl fun a_113 HE114 => ?_
              refine dr_take (i := 9) (ls' := #[true, true, true, true, true, true, true, true, true, true, false, true, false, false, false, false]) HE114 HS108 rfl (by kernel_rfl) (by kernel_rfl) (by kernel_rfl) (fun _ _ _ h => h) rfl (wt0 rfl) (x_extract rfl rfl) rfl rfl fun a_115 HE116 => ?_
              refine dr_take (i := 10) (ls' := #[true, true, true, true, true, true, true, true, true, true, true, true, false, false, false, false]) HE116 HS108 rfl (by kernel_rfl) (by kernel_rfl) (by kernel_rfl) (fun _ _ _ h => h) rfl (wt0 rfl) (x_extract rfl rfl) rfl rfl fun a_117 HE118 => ?_
              refine dr_one (i := 12) (ls' := #[true, true, true, true, true, true, true, true, true, true, true, true, true, false, false, false]) rfl (by kernel_rfl) rfl fun K_119 hK120 => ?_
              refine st_store (vs := [.int .i64 ((runProg a0 a1 a2).1.1), .slice Ar31_0_1 ((runProg a0 a1 a2).1.2.length) cr31_0_1]) 1 HE118 HH105 tv_43 rfl rfl rfl rfl rfl rfl (by simp [Value.oneCell']) (wt0 rfl) fun w' HH121 => hK120 _ _ (by exact HH121.sel [4] (by decide) rfl) ?_
              have HS122 := HH121.sel [4] (by decide) rfl
              refine dr_take (i := 13) (ls' := #[true, true, true, true, true, true, true, true, true, true, true, true, true, true, false, false]) HE118 HS122 rfl (by kernel_rfl) (by kernel_rfl) (by kernel_rfl) (fun _ _ _ h => h) rfl (wt0 rfl) (x_assign rfl) rfl rfl fun a_123 HE124 => ?_
              refine dr_take (i := 14) (ls' := #[true, true, true, true, true, true, true, true, true, true, true, true, true, true, true, false]) HE124 HS122 rfl (by kernel_rfl) (by kernel_rfl) (by kernel_rfl) (fun _ _ _ h => h) rfl (wt0 rfl) (x_assign rfl) rfl rfl fun a_125 HE126 => ?_
              refine dr_take (i := 15) (ls' := #[true, true, true, true, true, true, true, true, true, true, true, true, true, true, true, true]) HE126 HS122 rfl (by kernel_rfl) (by kernel_rfl) (by kernel_rfl) (fun _ _ _ h => h) rfl (wt0 rfl) (x_assign rfl) rfl rfl fun a_127 HE128 => ?_
              refine dr_done (by kernel_rfl) ?_
              clear HH36 a_43 HE44 a_49 HE50 a_51 HE52 HH47 a_53 HE54 HS48 K_55 hK56 HH57 a_58 HE59 HS60 K_61 hK62 a_64 HE65 HH63 HS66 K_67 hK68 HH101 a_99 HE100 HS102 a_106 HE107 a_109 HE110 a_111 HE112 a_113 HE114 a_115 HE116 K_103 hK104 HH105 HS108 a_117 HE118 a_123 HE124 a_125 HE126 hK120 K_119
              exact nrm ⟨_, _, _, _, _, _, _, _, _, _, HE128.sub ⟨rfl, rfl, rfl, rfl, rfl, rfl, rfl, trivial⟩, HH121.sel [1, 0, 2, 3, 4] (by decide) rfl⟩
          · refine st_alloc HE59 HH57 tv_43 (wt0 rfl) rfl fun q32 a_129 w' HE130 HH131 => hK62 _ _ (by exact HH131.sel [2] (by decide) rfl) ?_
            have HS132 := HH131.sel [2] (by decide) rfl
            refine dr_one (i := 3) (ls' := #[true, true, true, true, true, false, false, false, false, false, false, true, false, false, false, false]) rfl (by kernel_rfl) rfl fun K_133 hK134 => ?_
            refine st_call HE130 (wt0 rfl) rfl rfl rfl en_59 rfl rfl (to_Store [.int .i64 (a1.1), .slice Az1_1 (a1.2.length) cz1_1] a1 _ (HH131.oldR H1) (by omega)) fun e w' hr => ?_
            obtain ⟨esr33, rfl, hor33, hbr33⟩ := hr
            have hr := eStore.read hor33
            obtain ⟨Sr33, HH135⟩ := HH131.newO hbr33 hor33
            obtain ⟨Ar33_1, cr33_1, rfl, gr33_0, gr33_1⟩ := shape_Store hr
            clear hbr33 hor33 gr33_0 gr33_1
            refine ⟨_, rfl, fun a_136 HE137 => hK134 _ _ (by exact HH135.sel [3] (by decide) rfl) ?_⟩
            have HS138 := HH135.sel [3] (by decide) rfl
            refine dr_one (i := 5) (ls' := #[true, true, true, true, true, true, false, false, false, false, false, true, false, false, false, false]) rfl (by kernel_rfl) rfl fun K_139 hK140 => ?_
            refine st_call HE137 (wt0 rfl) rfl rfl rfl en_65 rfl rfl (spec_RunProgram _ _ a0 [.int .i64 (a1.1), .slice Ar33_1 (a1.2.length) cr33_1] a1 a2 _ (HH135.sl (i := 2) rfl) (HH135.rd (i := 0) rfl)) fun e w' hr => ?_
            obtain ⟨esr34_0, rfl, hor34_0, hbr34⟩ := hr
            have hr := eStore.read hor34_0
            obtain ⟨Sr34, HH141⟩ := HH135.newO hbr34 hor34_0
            obtain ⟨Ar34_0_1, cr34_0_1, rfl, gr34_0_0, gr34_0_1⟩ := shape_Store hr
            have jr34_0_0 := gr34_0_0; unfold I64 at jr34_0_0
            refine ⟨_, rfl, fun a_142 HE143 => hK140 _ _ (by exact HH141.sel [4] (by decide) rfl) ?_⟩
            have HS144 := HH141.sel [4] (by decide) rfl
            refine dr_take (i := 6) (ls' := #[true, true, true, true, true, true, true, false, false, false, false, true, false, false, false, false]) HE143 HS144 rfl (by kernel_rfl) (by kernel_rfl) (by kernel_rfl) (fun _ _ _ h => h) rfl (wt0 rfl) (x_move rfl) rfl rfl fun a_145 HE146 => ?_
            refine dr_take (i := 7) (ls' := #[true, true, true, true, true, true, true, true, false, false, false, true, false, false, false, false]) HE146 HS144 rfl (by kernel_rfl) (by kernel_rfl) (by kernel_rfl) (fun _ _ _ h => h) rfl (wt0 rfl) (x_extract rfl rfl) rfl rfl fun a_147 HE148 => ?_
            refine dr_take (i := 8) (ls' := #[true, true, true, true, true, true, true, true, true, false, false, true, false, false, false, false]) HE148 HS144 rfl (by kernel_rfl) (by kernel_rfl) (by kernel_rfl) (fun _ _ _ h => h) rfl (wt0 rfl) (x_extract rfl rfl) rfl rfl fun a_149 HE150 => ?_
            refine dr_take (i := 9) (ls' := #[true, true, true, true, true, true, true, true, true, true, false, true, false, false, false, false]) HE150 HS144 rfl (by kernel_rfl) (by kernel_rfl) (by kernel_rfl) (fun _ _ _ h => h) rfl (wt0 rfl) (x_extract rfl rfl) rfl rfl fun a_151 HE152 => ?_
            refine dr_take (i := 10) (ls' := #[true, true, true, true, true, true, true, true, true, true, true, true, false, false, false, false]) HE152 HS144 rfl (by kernel_rfl) (by kernel_rfl) (by kernel_rfl) (fun _ _ _ h => h) rfl (wt0 rfl) (x_extract rfl rfl) rfl rfl fun a_153 HE154 => ?_
            refine dr_one (i := 12) (ls' := #[true, true, true, true, true, true, true, true, true, true, true, true, true, false, false, false]) rfl (by kernel_rfl) rfl fun K_155 hK156 => ?_
            refine st_store (vs := [.int .i64 ((runProg a0 a1 a2).1.1), .slice Ar34_0_1 ((runProg a0 a1 a2).1.2.length) cr34_0_1]) 2 HE154 HH141 tv_43 rfl rfl rfl rfl rfl rfl (by simp [Value.oneCell']) (wt0 rfl) fun w' HH157 => hK156 _ _ (by exact HH157.sel [4] (by decide) rfl) ?_
            have HS158 := HH157.sel [4] (by decide) rfl
            refine dr_take (i := 13) (ls' := #[true, true, true, true, true, true, true, true, true, true, true, true, true, true, false, false]) HE154 HS158 rfl (by kernel_rfl) (by kernel_rfl) (by kernel_rfl) (fun _ _ _ h => h) rfl (wt0 rfl) (x_assign rfl) rfl rfl fun a_159 HE160 => ?_
            refine dr_take (i := 14) (ls' := #[true, true, true, true, true, true, true, true, true, true, true, true, true, true, true, false]) HE160 HS158 rfl (by kernel_rfl) (by kernel_rfl) (by kernel_rfl) (fun _ _ _ h => h) rfl (wt0 rfl) (x_assign rfl) rfl rfl fun a_161 HE162 => ?_
            refine dr_take (i := 15) (ls' := #[true, true, true, true, true, true, true, true, true, true, true, true, true, true, true, true]) HE162 HS158 rfl (by kernel_rfl) (by kernel_rfl) (by kernel_rfl) (fun _ _ _ h => h) rfl (wt0 rfl) (x_assign rfl) rfl rfl fun a_163 HE164 => ?_
            refine dr_done (by kernel_rfl) ?_
            clear HH36 a_43 HE44 a_49 HE50 a_51 HE52 HH47 a_53 HE54 HS48 K_55 hK56 a_58 HE59 HH57 HS60 K_61 hK62 HH131 a_129 HE130 HS132 K_133 hK134 HH135 a_136 HE137 HS138 a_142 HE143 a_145 HE146 a_147 HE148 a_149 HE150 a_151 HE152 K_139 hK140 HH141 HS144 a_153 HE154 a_159 HE160 a_161 HE162 hK156 K_155
            exact nrm ⟨_, _, _, _, _, _, _, _, _, _, HE164.sub ⟨rfl, rfl, rfl, rfl, rfl, rfl, rfl, trivial⟩, HH157.sel [2, 0, 1, 3, 4] (by decide) rfl⟩
        · refine st_alloc HE54 HH47 tv_43 (wt0 rfl) rfl fun q35 a_165 w' HE166 HH167 => hK56 _ _ (by exact HH167.sel [1] (by decide) rfl) ?_
          have HS168 := HH167.sel [1] (by decide) rfl
          refine dr_one (i := 1) (ls' := #[true, true, true, false, true, false, false, false, false, false, false, true, false, false, false, false]) rfl (by kernel_rfl) rfl fun K_169 hK170 => ?_
          refine st_call HE166 (wt0 rfl) rfl rfl rfl en_29 rfl rfl (to_InstrS _ _ a0 _ (HH167.old h0) (by omega)) fun e w' hr => ?_
          obtain ⟨Ar36, cr36, rfl, hor36, hbr36⟩ := hr
          obtain ⟨Sr36, HH171⟩ := HH167.newS hbr36 hor36
          clear hbr36 hor36
          refine ⟨_, rfl, fun a_172 HE173 => hK170 _ _ (by exact HH171.sel [2] (by decide) rfl) ?_⟩
          have HS174 := HH171.sel [2] (by decide) rfl
          refine dr_one (i := 3) (ls' := #[true, true, true, true, true, false, false, false, false, false, false, true, false, false, false, false]) rfl (by kernel_rfl) rfl fun K_175 hK176 => ?_
          refine st_call HE173 (wt0 rfl) rfl rfl rfl en_59 rfl rfl (to_Store [.int .i64 (a1.1), .slice Az1_1 (a1.2.length) cz1_1] a1 _ (HH171.oldR H1) (by omega)) fun e w' hr => ?_
          obtain ⟨esr37, rfl, hor37, hbr37⟩ := hr
          have hr := eStore.read hor37
          obtain ⟨Sr37, HH177⟩ := HH171.newO hbr37 hor37
          obtain ⟨Ar37_1, cr37_1, rfl, gr37_0, gr37_1⟩ := shape_Store hr
          clear hbr37 hor37 gr37_0 gr37_1
          refine ⟨_, rfl, fun a_178 HE179 => hK176 _ _ (by exact HH177.sel [3] (by decide) rfl) ?_⟩
          have HS180 := HH177.sel [3] (by decide) rfl
          refine dr_one (i := 5) (ls' := #[true, true, true, true, true, true, false, false, false, false, false, true, false, false, false, false]) rfl (by kernel_rfl) rfl fun K_181 hK182 => ?_
          refine st_call HE179 (wt0 rfl) rfl rfl rfl en_65 rfl rfl (spec_RunProgram _ _ a0 [.int .i64 (a1.1), .slice Ar37_1 (a1.2.length) cr37_1] a1 a2 _ (HH177.sl (i := 1) rfl) (HH177.rd (i := 0) rfl)) fun e w' hr => ?_
          obtain ⟨esr38_0, rfl, hor38_0, hbr38⟩ := hr
          have hr := eStore.read hor38_0
          obtain ⟨Sr38, HH183⟩ := HH177.newO hbr38 hor38_0
          obtain ⟨Ar38_0_1, cr38_0_1, rfl, gr38_0_0, gr38_0_1⟩ := shape_Store hr
          have jr38_0_0 := gr38_0_0; unfold I64 at jr38_0_0
          refine ⟨_, rfl, fun a_184 HE185 => hK182 _ _ (by exact HH183.sel [4] (by decide) rfl) ?_⟩
          have HS186 := HH183.sel [4] (by decide) rfl
          refine dr_take (i := 6) (ls' := #[true, true, true, true, true, true, true, false, false, false, false, true, false, false, false, false]) HE185 HS186 rfl (by kernel_rfl) (by kernel_rfl) (by kernel_rfl) (fun _ _ _ h => h) rfl (wt0 rfl) (x_move rfl) rfl rfl fun a_187 HE188 => ?_
          refine dr_take (i := 7) (ls' := #[true, true, true, true, true, true, true, true, false, false, false, true, false, false, false, false]) HE188 HS186 rfl (by kernel_rfl) (by kernel_rfl) (by kernel_rfl) (fun _ _ _ h => h) rfl (wt0 rfl) (x_extract rfl rfl) rfl rfl fun a_189 HE190 => ?_
          refine dr_take (i := 8) (ls' := #[true, true, true, true, true, true, true, true, true, false, false, true, false, false, false, false]) HE190 HS186 rfl (by kernel_rfl) (by kernel_rfl) (by kernel_rfl) (fun _ _ _ h => h) rfl (wt0 rfl) (x_extract rfl rfl) rfl rfl fun a_191 HE192 => ?_
          refine dr_take (i := 9) (ls' := #[true, true, true, true, true, true, true, true, true, true, false, true, false, false, false, false]) HE192 HS186 rfl (by kernel_rfl) (by kernel_rfl) (by kernel_rfl) (fun _ _ _ h => h) rfl (wt0 rfl) (x_extract rfl rfl) rfl rfl fun a_193 HE194 => ?_
          refine dr_take (i := 10) (ls' := #[true, true, true, true, true, true, true, true, true, true, true, true, false, false, false, false]) HE194 HS186 rfl (by kernel_rfl) (by kernel_rfl) (by kernel_rfl) (fun _ _ _ h => h) rfl (wt0 rfl) (x_extract rfl rfl) rfl rfl fun a_195 HE196 => ?_
          refine dr_one (i := 12) (ls' := #[true, true, true, true, true, true, true, true, true, true, true, true, true, false, false, false]) rfl (by kernel_rfl) rfl fun K_197 hK198 => ?_
          refine st_store (vs := [.int .i64 ((runProg a0 a1 a2).1.1), .slice Ar38_0_1 ((runProg a0 a1 a2).1.2.length) cr38_0_1]) 3 HE196 HH183 tv_43 rfl rfl rfl rfl rfl rfl (by simp [Value.oneCell']) (wt0 rfl) fun w' HH199 => hK198 _ _ (by exact HH199.sel [4] (by decide) rfl) ?_
          have HS200 := HH199.sel [4] (by decide) rfl
          refine dr_take (i := 13) (ls' := #[true, true, true, true, true, true, true, true, true, true, true, true, true, true, false, false]) HE196 HS200 rfl (by kernel_rfl) (by kernel_rfl) (by kernel_rfl) (fun _ _ _ h => h) rfl (wt0 rfl) (x_assign rfl) rfl rfl fun a_201 HE202 => ?_
          refine dr_take (i := 14) (ls' := #[true, true, true, true, true, true, true, true, true, true, true, true, true, true, true, false]) HE202 HS200 rfl (by kernel_rfl) (by kernel_rfl) (by kernel_rfl) (fun _ _ _ h => h) rfl (wt0 rfl) (x_assign rfl) rfl rfl fun a_203 HE204 => ?_
          refine dr_take (i := 15) (ls' := #[true, true, true, true, true, true, true, true, true, true, true, true, true, true, true, true]) HE204 HS200 rfl (by kernel_rfl) (by kernel_rfl) (by kernel_rfl) (fun _ _ _ h => h) rfl (wt0 rfl) (x_assign rfl) rfl rfl fun a_205 HE206 => ?_
          refine dr_done (by kernel_rfl) ?_
          clear HH36 a_43 HE44 a_49 HE50 a_51 HE52 a_53 HE54 HH47 HS48 K_55 hK56 HH167 a_165 HE166 HS168 K_169 hK170 HH171 a_172 HE173 HS174 K_175 hK176 HH177 a_178 HE179 HS180 a_184 HE185 a_187 HE188 a_189 HE190 a_191 HE192 a_193 HE194 K_181 hK182 HH183 HS186 a_195 HE196 a_201 HE202 a_203 HE204 hK198 K_197
          exact nrm ⟨_, _, _, _, _, _, _, _, _, _, HE206.sub ⟨rfl, rfl, rfl, rfl, rfl, rfl, rfl, trivial⟩, HH199.sel [3, 0, 1, 2, 4] (by decide) rfl⟩
      · rintro a_207 w' ⟨q29, Ar28_0_1, cr28_0_1, Sr28, Sr27, Ar27_1, cr27_1, Sr26, Ar26, cr26, HE208, HH209⟩
        refine nrm ?_
        refine wp_seq ?_
        refine rg ?_
        refine pl_x HE208 HH209 (wt0 rfl) (x_move rfl) rfl rfl fun a_210 HE211 => ?_
        refine pl fun K_212 hK213 => ?_
        refine st_call HE211 (wt0 rfl) rfl rfl rfl en_29 rfl rfl (to_InstrS _ _ a0 _ (HH209.old h0) (by omega)) fun e w' hr => ?_
        obtain ⟨Ar39, cr39, rfl, hor39, hbr39⟩ := hr
        obtain ⟨Sr39, HH214⟩ := HH209.newS hbr39 hor39
        clear hbr39 hor39
        refine ⟨_, rfl, fun a_215 HE216 => hK213 _ _ ?_⟩
        refine pl_x HE216 HH214 (wt0 rfl) (x_assign rfl) rfl rfl fun a_217 HE218 => ?_
        refine wpList_nil ?_
        clear a_43 HE44 HH36 a_207 HE208 HH209 a_210 HE211 a_215 HE216 hK213 K_212
        refine nrm ?_
        refine wp_seq ?_
        refine rg ?_
        refine pl_x HE218 HH214 (wt0 rfl) (x_loadN (cs := [.int .i64 (a1.1), .slice Az1_1 (a1.2.length) cz1_1]) tv_79 rfl rfl (c_blkN 5 rfl)) rfl rfl fun a_219 HE220 => ?_
        refine pl fun K_221 hK222 => ?_
        refine st_call HE220 (wt0 rfl) rfl rfl rfl en_59 rfl rfl (to_Store [.int .i64 (a1.1), .slice Az1_1 (a1.2.length) cz1_1] a1 _ (HH214.oldR H1) (by omega)) fun e w' hr => ?_
        obtain ⟨esr40, rfl, hor40, hbr40⟩ := hr
        have hr := eStore.read hor40
        obtain ⟨Sr40, HH223⟩ := HH214.newO hbr40 hor40
        obtain ⟨Ar40_1, cr40_1, rfl, gr40_0, gr40_1⟩ := shape_Store hr
        clear hbr40 hor40 gr40_0 gr40_1
        refine ⟨_, rfl, fun a_224 HE225 => hK222 _ _ ?_⟩
        refine pl fun K_226 hK227 => ?_
        refine st_alloc HE225 HH223 tv_43 (wt0 rfl) rfl fun q41 a_228 w' HE229 HH230 => hK227 _ _ ?_
        refine pl fun K_231 hK232 => ?_
        refine st_store (vs := [.int .i64 (a1.1), .slice Ar40_1 (a1.2.length) cr40_1]) 0 HE229 HH230 tv_43 rfl rfl rfl rfl rfl rfl (by simp [Value.oneCell']) (wt0 rfl) fun w' HH233 => hK232 _ _ ?_
        refine wpList_nil ?_
        clear a_217 HE218 HH214 a_219 HE220 K_221 hK222 a_224 HE225 HH223 K_226 hK227 HH230 hK232 K_231
        refine nrm ?_
        refine wp_seq ?_
        refine rg ?_
        refine pl_x HE229 HH233 (wt0 rfl) (x_move rfl) rfl rfl fun a_234 HE235 => ?_
        refine pl_x HE235 HH233 (wt0 rfl) (x_loadN (cs := [.int .i64 (a1.1), .slice Ar40_1 (a1.2.length) cr40_1]) tv_43 rfl rfl (c_blkN 0 rfl)) rfl rfl fun a_236 HE237 => ?_
        refine pl_x HE237 HH233 (wt0 rfl) (x_move rfl) rfl rfl fun a_238 HE239 => ?_
        refine pl fun K_240 hK241 => ?_
        refine st_call HE239 (wt0 rfl) rfl rfl rfl en_66 rfl rfl (impl_RunProgram _ _ a0 [.int .i64 (a1.1), .slice Ar40_1 (a1.2.length) cr40_1] a1 a2 _ (HH233.sl (i := 2) rfl) (HH233.rd (i := 1) rfl)) fun e w' hr => ?_
        obtain ⟨esr42_0, rfl, hor42_0, hbr42⟩ := hr
        have hr := eStore.read hor42_0
        obtain ⟨Sr42, HH242⟩ := HH233.newO hbr42 hor42_0
        obtain ⟨Ar42_0_1, cr42_0_1, rfl, gr42_0_0, gr42_0_1⟩ := shape_Store hr
        have jr42_0_0 := gr42_0_0; unfold I64 at jr42_0_0
        refine ⟨_, rfl, fun a_243 HE244 => hK241 _ _ ?_⟩
        refine pl_x HE244 HH242 (wt0 rfl) (x_move rfl) rfl rfl fun a_245 HE246 => ?_
        refine pl_x HE246 HH242 (wt0 rfl) (x_extract rfl rfl) rfl rfl fun a_247 HE248 => ?_
        refine pl_x HE248 HH242 (wt0 rfl) (x_extract rfl rfl) rfl rfl fun a_249 HE250 => ?_
        refine pl_x HE250 HH242 (wt0 rfl) (x_extract rfl rfl) rfl rfl fun a_251 HE252 => ?_
        refine pl_x HE252 HH242 (wt0 rfl) (x_extract rfl rfl) rfl rfl fun a_253 HE254 => ?_
        refine pl fun K_255 hK256 => ?_
        refine st_alloc HE254 HH242 tv_43 (wt0 rfl) rfl fun q43 a_257 w' HE258 HH259 => hK256 _ _ ?_
        refine pl fun K_260 hK261 => ?_
        refine st_store (vs := [.int .i64 ((runProg a0 a1 a2).1.1), .slice Ar42_0_1 ((runProg a0 a1 a2).1.2.length) cr42_0_1]) 0 HE258 HH259 tv_43 rfl rfl rfl rfl rfl rfl (by simp [Value.oneCell']) (wt0 rfl) fun w' HH262 => hK261 _ _ ?_
        refine pl_x HE258 HH262 (wt0 rfl) (x_assign rfl) rfl rfl fun a_263 HE264 => ?_
        refine pl_x HE264 HH262 (wt0 rfl) (x_assign rfl) rfl rfl fun a_265 HE266 => ?_
        refine pl_x HE266 HH262 (wt0 rfl) (x_assign rfl) rfl rfl fun a_267 HE268 => ?_
        refine wpList_nil ?_
        clear a_228 HE229 a_234 HE235 a_236 HE237 HH233 a_238 HE239 a_243 HE244 a_245 HE246 a_247 HE248 a_249 HE250 a_251 HE252 K_240 hK241 a_253 HE254 HH242 K_255 hK256 HH259 a_257 HE258 a_263 HE264 a_265 HE266 hK261 K_260
        refine nrm ?_
        refine wp_seq ?_
        refine wp_seq ?_
        refine rg ?_
        refine pl_x HE268 HH262 (wt0 rfl) (x_loadN (cs := [.int .i64 ((runProg a0 a1 a2).1.1), .slice Ar42_0_1 ((runProg a0 a1 a2).1.2.length) cr42_0_1]) tv_43 rfl rfl (c_blkN 0 rfl)) rfl rfl fun a_269 HE270 => ?_
        refine pl_x HE270 HH262 (wt0 rfl) (x_loadN (cs := [.int .i64 ((runProg a0 a1 a2).1.1), .slice Ar28_0_1 ((runProg a0 a1 a2).1.2.length) cr28_0_1]) tv_43 rfl rfl (c_blkN 5 rfl)) rfl rfl fun a_271 HE272 => ?_
        refine pl fun K_273 hK274 => ?_
        refine st_call HE272 (wt0 rfl) rfl rfl rfl en_31 rfl rfl (eq_Store_c [.int .i64 ((runProg a0 a1 a2).1.1), .slice Ar42_0_1 ((runProg a0 a1 a2).1.2.length) cr42_0_1] [.int .i64 ((runProg a0 a1 a2).1.1), .slice Ar28_0_1 ((runProg a0 a1 a2).1.2.length) cr28_0_1] ((runProg a0 a1 a2).1) ((runProg a0 a1 a2).1) _ (HH262.rd (i := 1) rfl) (HH262.rd (i := 6) rfl)) fun e w' hr => ?_
        obtain ⟨rfl, hbr44⟩ := hr
        have HH275 := HH262.on hbr44
        clear hbr44
        refine ⟨_, rfl, fun a_276 HE277 => hK274 _ _ ?_⟩
        refine pl_x HE277 HH275 (wt0 rfl) (x_not rfl) rfl rfl fun a_278 HE279 => ?_
        refine pl_x HE279 HH275 (wt0 rfl) (x_move rfl) rfl rfl fun a_280 HE281 => ?_
        refine pl_x HE281 HH275 (wtT HE281 rfl rfl rfl (not_f (eq_Store_refl _))) (x_move rfl) rfl rfl fun a_282 HE283 => ?_
        refine pl_x HE283 HH275 (wtT HE283 rfl rfl rfl (not_f (eq_Store_refl _))) (x_move rfl) rfl rfl fun a_284 HE285 => ?_
        refine pl_x HE285 HH275 (wtT HE285 rfl rfl rfl (not_f (eq_Store_refl _))) (x_neq rfl rfl) rfl rfl fun a_286 HE287 => ?_
        refine pl_x HE287 HH275 (wt0 rfl) (x_pickF rfl (not_f (eq_Store_refl _)) rfl) rfl rfl fun a_288 HE289 => ?_
        refine pl_x HE289 HH275 (wt0 rfl) (x_move rfl) rfl rfl fun a_290 HE291 => ?_
        refine pl_x HE291 HH275 (wtT HE291 rfl rfl rfl (bne_f rfl)) (x_move rfl) rfl rfl fun a_292 HE293 => ?_
        refine pl_x HE293 HH275 (wtT HE293 rfl rfl rfl (bne_f rfl)) (x_move rfl) rfl rfl fun a_294 HE295 => ?_
        refine pl_x HE295 HH275 (wtT HE295 rfl rfl rfl (bne_f rfl)) (x_bneq Try.underlying4 rfl rfl) rfl rfl fun a_296 HE297 => ?_
        refine pl_x HE297 HH275 (wt0 rfl) (x_pickF rfl (bne_f rfl) rfl) rfl rfl fun a_298 HE299 => ?_
        refine pl_x HE299 HH275 (wt0 rfl) (x_move rfl) rfl rfl fun a_300 HE301 => ?_
        refine pl_x HE301 HH275 (wtT HE301 rfl rfl rfl (not_f (beq_self_eq_true _))) (x_move rfl) rfl rfl fun a_302 HE303 => ?_
        refine pl_x HE303 HH275 (wtT HE303 rfl rfl rfl (not_f (beq_self_eq_true _))) (x_move rfl) rfl rfl fun a_304 HE305 => ?_
        refine pl_x HE305 HH275 (wtT HE305 rfl rfl rfl (not_f (beq_self_eq_true _))) (x_neq rfl rfl) rfl rfl fun a_306 HE307 => ?_
        refine pl_x HE307 HH275 (wt0 rfl) (x_pickF rfl (not_f (beq_self_eq_true _)) rfl) rfl rfl fun a_308 HE309 => ?_
        refine wpList_nil ?_
        clear a_267 HE268 a_269 HE270 HH262 a_271 HE272 a_276 HE277 a_278 HE279 a_280 HE281 a_282 HE283 a_284 HE285 a_286 HE287 a_288 HE289 a_290 HE291 a_292 HE293 a_294 HE295 a_296 HE297 a_298 HE299 a_300 HE301 a_302 HE303 a_304 HE305 a_306 HE307 hK274 K_273
        refine nrm ?_
        refine cndF HE309 rfl (bne_f rfl) ?_
        refine wp_skip ?_
        refine nrm ?_
        refine wp_seq ?_
        refine wp_seq ?_
        refine rg ?_
        refine pl_x HE309 HH275 (wt0 rfl) (x_move rfl) rfl rfl fun a_310 HE311 => ?_
        refine pl_x HE311 HH275 (wt0 rfl) (x_move rfl) rfl rfl fun a_312 HE313 => ?_
        refine pl fun K_314 hK315 => ?_
        refine st_call HE313 (wt0 rfl) rfl rfl rfl en_29 rfl rfl (to_InstrS _ _ a0 _ (HH275.old h0) (by omega)) fun e w' hr => ?_
        obtain ⟨Ar45, cr45, rfl, hor45, hbr45⟩ := hr
        obtain ⟨Sr45, HH316⟩ := HH275.newS hbr45 hor45
        clear hbr45 hor45
        refine ⟨_, rfl, fun a_317 HE318 => hK315 _ _ ?_⟩
        refine pl fun K_319 hK320 => ?_
        refine st_call HE318 (wt0 rfl) rfl rfl rfl en_32 rfl rfl (eq_SInstr_c _ _ _ _ a0 a0 _ (HH316.sl (i := 5) rfl) (HH316.sl (i := 0) rfl)) fun e w' hr => ?_
        obtain ⟨rfl, hbr46⟩ := hr
        have HH321 := HH316.on hbr46
        clear hbr46
        refine ⟨_, rfl, fun a_322 HE323 => hK320 _ _ ?_⟩
        refine pl_x HE323 HH321 (wt0 rfl) (x_not rfl) rfl rfl fun a_324 HE325 => ?_
        refine wpList_nil ?_
        clear a_308 HE309 a_310 HE311 HH275 a_312 HE313 K_314 hK315 HH316 a_317 HE318 a_322 HE323 hK320 K_319
        refine nrm ?_
        refine cndF HE325 rfl (not_f (eq_SInstr_refl _)) ?_
        refine wp_skip ?_
        refine nrm ?_
        refine wp_seq ?_
        refine wp_seq ?_
        refine dr_start (Held Nob w [rSo eInstr Sr45 Ar45 cr45 a0, rBlk q43 43 [.int .i64 ((runProg a0 a1 a2).1.1), .slice Ar42_0_1 ((runProg a0 a1 a2).1.2.length) cr42_0_1], rO eStore Sr42 [.int .i64 ((runProg a0 a1 a2).1.1), .slice Ar42_0_1 ((runProg a0 a1 a2).1.2.length) cr42_0_1] ((runProg a0 a1 a2).1), rBlk q41 43 [.int .i64 (a1.1), .slice Ar40_1 (a1.2.length) cr40_1], rO eStore Sr40 [.int .i64 (a1.1), .slice Ar40_1 (a1.2.length) cr40_1] a1, rSo eInstr Sr39 Ar39 cr39 a0, rBlk q29 43 [.int .i64 ((runProg a0 a1 a2).1.1), .slice Ar28_0_1 ((runProg a0 a1 a2).1.2.length) cr28_0_1], rO eStore Sr28 [.int .i64 ((runProg a0 a1 a2).1.1), .slice Ar28_0_1 ((runProg a0 a1 a2).1.2.length) cr28_0_1] ((runProg a0 a1 a2).1), rO eStore Sr27 [.int .i64 (a1.1), .slice Ar27_1 (a1.2.length) cr27_1] a1, rSo eInstr Sr26 Ar26 cr26 a0, rBlk q21 79 [.int .i64 (a1.1), .slice Az1_1 (a1.2.length) cz1_1]]) 5 #[false, false, false, false, false] hmix rfl rfl HH321 (fun _ h => h.sel [0, 1, 2, 3, 4, 5, 6, 7, 8, 9, 10] (by decide) rfl) fun w' HH326 => ?_
        have HS327 := HH326
        refine dr_take (i := 0) (ls' := #[true, false, false, false, false]) HE325 HS327 rfl (by kernel_rfl) (by kernel_rfl) (by kernel_rfl) (fun _ _ _ h => h) rfl (wt0 rfl) (x_loadN (cs := [.int .i64 (a1.1), .slice Ar40_1 (a1.2.length) cr40_1]) tv_43 rfl rfl (c_blkN 3 rfl)) rfl rfl fun a_328 HE329 => ?_
        refine dr_take (i := 1) (ls' := #[true, true, false, false, false]) HE329 HS327 rfl (by kernel_rfl) (by kernel_rfl) (by kernel_rfl) (fun _ _ _ h => h) rfl (wt0 rfl) (x_loadN (cs := [.int .i64 (a1.1), .slice Az1_1 (a1.2.length) cz1_1]) tv_79 rfl rfl (c_blkN 10 rfl)) rfl rfl fun a_330 HE331 => ?_
        refine dr_one (i := 2) (ls' := #[true, true, true, false, false]) rfl (by kernel_rfl) rfl fun K_332 hK333 => ?_
        refine st_call HE331 (wt0 rfl) rfl rfl rfl en_59 rfl rfl (to_Store [.int .i64 (a1.1), .slice Az1_1 (a1.2.length) cz1_1] a1 _ (HH326.oldR H1) (by omega)) fun e w' hr => ?_
        obtain ⟨esr47, rfl, hor47, hbr47⟩ := hr
        have hr := eStore.read hor47
        obtain ⟨Sr47, HH334⟩ := HH326.newO hbr47 hor47
        obtain ⟨Ar47_1, cr47_1, rfl, gr47_0, gr47_1⟩ := shape_Store hr
        clear hbr47 hor47 gr47_0 gr47_1
        refine ⟨_, rfl, fun a_335 HE336 => hK333 _ _ (by exact HH334.sel [1, 2, 3, 4, 5, 6, 7, 8, 9, 10, 11] (by decide) rfl) ?_⟩
        have HS337 := HH334.sel [1, 2, 3, 4, 5, 6, 7, 8, 9, 10, 11] (by decide) rfl
        refine dr_one (i := 3) (ls' := #[true, true, true, true, false]) rfl (by kernel_rfl) rfl fun K_338 hK339 => ?_
        refine st_call HE336 (wt0 rfl) rfl rfl rfl en_31 rfl rfl (eq_Store_c [.int .i64 (a1.1), .slice Ar40_1 (a1.2.length) cr40_1] [.int .i64 (a1.1), .slice Ar47_1 (a1.2.length) cr47_1] a1 a1 _ (HH334.rd (i := 5) rfl) (HH334.rd (i := 0) rfl)) fun e w' hr => ?_
        obtain ⟨rfl, hbr48⟩ := hr
        have HH340 := HH334.on hbr48
        clear hbr48
        refine ⟨_, rfl, fun a_341 HE342 => hK339 _ _ (by exact HH340.sel [1, 2, 3, 4, 5, 6, 7, 8, 9, 10, 11] (by decide) rfl) ?_⟩
        have HS343 := HH340.sel [1, 2, 3, 4, 5, 6, 7, 8, 9, 10, 11] (by decide) rfl
        refine dr_take (i := 4) (ls' := #[true, true, true, true, true]) HE342 HS343 rfl (by kernel_rfl) (by kernel_rfl) (by kernel_rfl) (fun _ _ _ h => h) rfl (wt0 rfl) (x_not rfl) rfl rfl fun a_344 HE345 => ?_
        refine dr_done (by kernel_rfl) ?_
        clear HH321 a_324 HE325 a_328 HE329 HH326 a_330 HE331 HS327 K_332 hK333 HH334 a_335 HE336 HS337 a_341 HE342 hK339 K_338
        refine nrm ?_
        refine cndF HE345 rfl (not_f (eq_Store_refl _)) ?_
        refine wp_skip ?_
        refine nrm ?_
        refine wp_seq ?_
        refine rg ?_
        refine pl_x HE345 HH340 (wt0 rfl) (x_assign rfl) rfl rfl fun a_346 HE347 => ?_
        refine wpList_nil ?_
        clear a_344 HE345
        refine nrm ?_
        refine wp_seq ?_
        refine rg ?_
        refine pl_x HE347 HH340 (wt0 rfl) (x_move rfl) rfl rfl fun a_348 HE349 => ?_
        refine pl_x HE349 HH340 (wt0 rfl) (x_move rfl) rfl rfl fun a_350 HE351 => ?_
        refine pl fun K_352 hK353 => ?_
        refine st_call HE351 (wt0 rfl) rfl rfl rfl en_33 rfl rfl (mark_SInstr_c _ _ a0 1 _ _ (so_of_o (HH340.get (i := 6) rfl)) (HH340.lt (i := 6) rfl) (by omega) (by omega)) fun e w' hr => ?_
        obtain ⟨rfl, hsr49, hcr49⟩ := hr
        have HH354 := HH340.mut (i := 6) rfl hcr49 (rSo eInstr Sr39 Ar39 cr39 (mk_SInstr a0 1)) (oSl hsr49) (fun b hb => .inl hb)
        clear hsr49 hcr49
        refine ⟨_, rfl, fun a_355 HE356 => hK353 _ _ ?_⟩
        refine pl_x HE356 HH354 (wt0 rfl) (x_assign rfl) rfl rfl fun a_357 HE358 => ?_
        refine wpList_nil ?_
        clear a_346 HE347 a_348 HE349 HH340 a_350 HE351 a_355 HE356 hK353 K_352
        refine nrm ?_
        refine wp_seq ?_
        refine rg ?_
        refine pl_x HE358 HH354 (wt0 rfl) (x_loadN (cs := [.int .i64 (a1.1), .slice Ar40_1 (a1.2.length) cr40_1]) tv_43 rfl rfl (c_blkN 4 rfl)) rfl rfl fun a_359 HE360 => ?_
        refine pl_x HE360 HH354 (wt0 rfl) (x_move rfl) rfl rfl fun a_361 HE362 => ?_
        refine pl fun K_363 hK364 => ?_
        refine st_call HE362 (wt0 rfl) rfl rfl rfl en_35 rfl rfl (mark_Store_c [.int .i64 (a1.1), .slice Ar40_1 (a1.2.length) cr40_1] a1 (1 + (ct_SInstr a0 : Int)) _ _ (HH354.get (i := 5) rfl) (HH354.lt (i := 5) rfl) (by omega) (by omega)) fun e w' hr => ?_
        obtain ⟨rfl, hsr50, hcr50⟩ := hr
        have HH365 := HH354.mut (i := 5) rfl hcr50 (rO eStore Sr40 [.int .i64 (a1.1), .slice Ar40_1 (a1.2.length) cr40_1] (mv_Store a1 (1 + (ct_SInstr a0 : Int)))) hsr50 (fun b hb => .inl hb)
        clear hsr50 hcr50
        refine ⟨_, rfl, fun a_366 HE367 => hK364 _ _ ?_⟩
        refine pl_x HE367 HH365 (wt0 rfl) (x_assign rfl) rfl rfl fun a_368 HE369 => ?_
        refine wpList_nil ?_
        clear a_357 HE358 a_359 HE360 HH354 a_361 HE362 a_366 HE367 hK364 K_363
        refine nrm ?_
        refine wp_seq ?_
        refine wp_seq ?_
        refine rg ?_
        refine pl_x HE369 HH365 (wt0 rfl) (x_move rfl) rfl rfl fun a_370 HE371 => ?_
        refine pl_x HE371 HH365 (wt0 rfl) (x_lss rfl rfl) rfl rfl fun a_372 HE373 => ?_
        refine pl_x HE373 HH365 (wt0 rfl) (x_move rfl) rfl rfl fun a_374 HE375 => ?_
        by_cases hc51 : ((1 + (ct_SInstr a0 : Int)) + (cv_Store a1 : Int)) < 0
        · refine pl_no HE375 (wtF HE375 rfl rfl rfl (decide_eq_true hc51)) rfl rfl fun a_376 HE377 => ?_
          refine pl_no HE377 (wtF HE377 rfl rfl rfl (decide_eq_true hc51)) rfl rfl fun a_378 HE379 => ?_
          refine pl_no HE379 (wtF HE379 rfl rfl rfl (decide_eq_true hc51)) rfl rfl fun a_380 HE381 => ?_
          refine pl_no HE381 (wtF HE381 rfl rfl rfl (decide_eq_true hc51)) rfl rfl fun a_382 HE383 => ?_
          refine pl_x HE383 HH365 (wt0 rfl) (x_pickT rfl (decide_eq_true hc51) rfl) rfl rfl fun a_384 HE385 => ?_
          refine pl_x HE385 HH365 (wt0 rfl) (x_move rfl) rfl rfl fun a_386 HE387 => ?_
          refine pl_no HE387 (wtF HE387 rfl rfl rfl rfl) rfl rfl fun a_388 HE389 => ?_
          refine pl_no HE389 (wtF HE389 rfl rfl rfl rfl) rfl rfl fun a_390 HE391 => ?_
          refine pl_no HE391 (wtF HE391 rfl rfl rfl rfl) rfl rfl fun a_392 HE393 => ?_
          refine pl_x HE393 HH365 (wt0 rfl) (x_pickT rfl rfl rfl) rfl rfl fun a_394 HE395 => ?_
          refine pl_x HE395 HH365 (wt0 rfl) (x_move rfl) rfl rfl fun a_396 HE397 => ?_
          refine pl_no HE397 (wtF HE397 rfl rfl rfl rfl) rfl rfl fun a_398 HE399 => ?_
          refine pl_no HE399 (wtF HE399 rfl rfl rfl rfl) rfl rfl fun a_400 HE401 => ?_
          refine pl_no HE401 (wtF HE401 rfl rfl rfl rfl) rfl rfl fun a_402 HE403 => ?_
          refine pl_x HE403 HH365 (wt0 rfl) (x_pickT rfl rfl rfl) rfl rfl fun a_404 HE405 => ?_
          refine pl_x HE405 HH365 (wt0 rfl) (x_move rfl) rfl rfl fun a_406 HE407 => ?_
          refine pl_no HE407 (wtF HE407 rfl rfl rfl rfl) rfl rfl fun a_408 HE409 => ?_
          refine pl_no HE409 (wtF HE409 rfl rfl rfl rfl) rfl rfl fun a_410 HE411 => ?_
          refine pl_no HE411 (wtF HE411 rfl rfl rfl rfl) rfl rfl fun a_412 HE413 => ?_
          refine pl_x HE413 HH365 (wt0 rfl) (x_pickT rfl rfl rfl) rfl rfl fun a_414 HE415 => ?_
          refine wpList_nil ?_
          clear a_368 HE369 a_370 HE371 a_372 HE373 a_374 HE375 a_376 HE377 a_378 HE379 a_380 HE381 a_382 HE383 a_384 HE385 a_386 HE387 a_388 HE389 a_390 HE391 a_392 HE393 a_394 HE395 a_396 HE397 a_398 HE399 a_400 HE401 a_402 HE403 a_404 HE405 a_406 HE407 a_408 HE409 a_410 HE411 a_412 HE413
          refine nrm ?_
          refine cndT HE415 rfl rfl ?_
          refine wp_seq ?_
          refine rg ?_
          refine pl_x HE415 HH365 (wt0 rfl) (x_assign rfl) rfl rfl fun a_416 HE417 => ?_
          refine wpList_nil ?_
          clear a_414 HE415
          refine nrm ?_
          refine wp_ret ?_
          refine (thn_ret ?_)
          refine ret1 HE417 rfl (rv_tmp rfl) ?_
          have hF : true = false := by
            first | rfl | (exfalso; omega)
          exact ⟨by rw [hF] <;> rfl, HH365.below⟩
        · refine pl_x HE375 HH365 (wtT HE375 rfl rfl rfl (decide_eq_false hc51)) (x_loadN (cs := [.int .i64 ((runProg a0 a1 a2).1.1), .slice Ar42_0_1 ((runProg a0 a1 a2).1.2.length) cr42_0_1]) tv_43 rfl rfl (c_blkN 2 rfl)) rfl rfl fun a_418 HE419 => ?_
          refine pl_x HE419 HH365 (wtT HE419 rfl rfl rfl (decide_eq_false hc51)) (x_loadN (cs := [.int .i64 ((runProg a0 a1 a2).1.1), .slice Ar28_0_1 ((runProg a0 a1 a2).1.2.length) cr28_0_1]) tv_43 rfl rfl (c_blkN 7 rfl)) rfl rfl fun a_420 HE421 => ?_
          refine pl fun K_422 hK423 => ?_
          refine st_call HE421 (wtT HE421 rfl rfl rfl (decide_eq_false hc51)) rfl rfl rfl en_31 rfl rfl (eq_Store_c [.int .i64 ((runProg a0 a1 a2).1.1), .slice Ar42_0_1 ((runProg a0 a1 a2).1.2.length) cr42_0_1] [.int .i64 ((runProg a0 a1 a2).1.1), .slice Ar28_0_1 ((runProg a0 a1 a2).1.2.length) cr28_0_1] ((runProg a0 a1 a2).1) ((runProg a0 a1 a2).1) _ (HH365.rd (i := 3) rfl) (HH365.rd (i := 8) rfl)) fun e w' hr => ?_
          obtain ⟨rfl, hbr52⟩ := hr
          have HH424 := HH365.on hbr52
          clear hbr52
          refine ⟨_, rfl, fun a_425 HE426 => hK423 _ _ ?_⟩
          refine pl_x HE426 HH424 (wtT HE426 rfl rfl rfl (decide_eq_false hc51)) (x_not rfl) rfl rfl fun a_427 HE428 => ?_
          refine pl_x HE428 HH424 (wt0 rfl) (x_pickF rfl (decide_eq_false hc51) rfl) rfl rfl fun a_429 HE430 => ?_
          refine pl_x HE430 HH424 (wt0 rfl) (x_move rfl) rfl rfl fun a_431 HE432 => ?_
          refine pl_x HE432 HH424 (wtT HE432 rfl rfl rfl (not_f (eq_Store_refl _))) (x_move rfl) rfl rfl fun a_433 HE434 => ?_
          refine pl_x HE434 HH424 (wtT HE434 rfl rfl rfl (not_f (eq_Store_refl _))) (x_move rfl) rfl rfl fun a_435 HE436 => ?_
          refine pl_x HE436 HH424 (wtT HE436 rfl rfl rfl (not_f (eq_Store_refl _))) (x_neq rfl rfl) rfl rfl fun a_437 HE438 => ?_
          refine pl_x HE438 HH424 (wt0 rfl) (x_pickF rfl (not_f (eq_Store_refl _)) rfl) rfl rfl fun a_439 HE440 => ?_
          refine pl_x HE440 HH424 (wt0 rfl) (x_move rfl) rfl rfl fun a_441 HE442 => ?_
          refine pl_x HE442 HH424 (wtT HE442 rfl rfl rfl (bne_f rfl)) (x_move rfl) rfl rfl fun a_443 HE444 => ?_
          refine pl_x HE444 HH424 (wtT HE444 rfl rfl rfl (bne_f rfl)) (x_move rfl) rfl rfl fun a_445 HE446 => ?_
          refine pl_x HE446 HH424 (wtT HE446 rfl rfl rfl (bne_f rfl)) (x_bneq Try.underlying4 rfl rfl) rfl rfl fun a_447 HE448 => ?_
          refine pl_x HE448 HH424 (wt0 rfl) (x_pickF rfl (bne_f rfl) rfl) rfl rfl fun a_449 HE450 => ?_
          refine pl_x HE450 HH424 (wt0 rfl) (x_move rfl) rfl rfl fun a_451 HE452 => ?_
          refine pl_x HE452 HH424 (wtT HE452 rfl rfl rfl (not_f (beq_self_eq_true _))) (x_move rfl) rfl rfl fun a_453 HE454 => ?_
          refine pl_x HE454 HH424 (wtT HE454 rfl rfl rfl (not_f (beq_self_eq_true _))) (x_move rfl) rfl rfl fun a_455 HE456 => ?_
          refine pl_x HE456 HH424 (wtT HE456 rfl rfl rfl (not_f (beq_self_eq_true _))) (x_neq rfl rfl) rfl rfl fun a_457 HE458 => ?_
          refine pl_x HE458 HH424 (wt0 rfl) (x_pickF rfl (not_f (beq_self_eq_true _)) rfl) rfl rfl fun a_459 HE460 => ?_
          refine wpList_nil ?_
          clear a_368 HE369 a_370 HE371 a_372 HE373 a_374 HE375 a_418 HE419 HH365 a_420 HE421 a_425 HE426 a_427 HE428 a_429 HE430 a_431 HE432 a_433 HE434 a_435 HE436 a_437 HE438 a_439 HE440 a_441 HE442 a_443 HE444 a_445 HE446 a_447 HE448 a_449 HE450 a_451 HE452 a_453 HE454 a_455 HE456 a_457 HE458 hK423 K_422
          refine nrm ?_
          refine cndF HE460 rfl (bne_f rfl) ?_
          refine wp_skip ?_
          refine nrm ?_
          refine wp_seq ?_
          refine rg ?_
          refine pl_x HE460 HH424 (wt0 rfl) (x_assign rfl) rfl rfl fun a_461 HE462 => ?_
          refine wpList_nil ?_
          clear a_459 HE460
          refine nrm ?_
          refine wp_seq ?_
          refine rg ?_
          refine pl_x HE462 HH424 (wt0 rfl) (x_loadN (cs := [.int .i64 ((runProg a0 a1 a2).1.1), .slice Ar42_0_1 ((runProg a0 a1 a2).1.2.length) cr42_0_1]) tv_43 rfl rfl (c_blkN 2 rfl)) rfl rfl fun a_463 HE464 => ?_
          refine pl_x HE464 HH424 (wt0 rfl) (x_move rfl) rfl rfl fun a_465 HE466 => ?_
          refine pl fun K_467 hK468 => ?_
          refine st_call HE466 (wt0 rfl) rfl rfl rfl en_35 rfl rfl (mark_Store_c [.int .i64 ((runProg a0 a1 a2).1.1), .slice Ar42_0_1 ((runProg a0 a1 a2).1.2.length) cr42_0_1] ((runProg a0 a1 a2).1) 1 _ _ (HH424.get (i := 3) rfl) (HH424.lt (i := 3) rfl) (by omega) (by omega)) fun e w' hr => ?_
          obtain ⟨rfl, hsr53, hcr53⟩ := hr
          have HH469 := HH424.mut (i := 3) rfl hcr53 (rO eStore Sr42 [.int .i64 ((runProg a0 a1 a2).1.1), .slice Ar42_0_1 ((runProg a0 a1 a2).1.2.length) cr42_0_1] (mv_Store ((runProg a0 a1 a2).1) 1)) hsr53 (fun b hb => .inl hb)
          clear hsr53 hcr53
          refine ⟨_, rfl, fun a_470 HE471 => hK468 _ _ ?_⟩
          refine pl_x HE471 HH469 (wt0 rfl) (x_assign rfl) rfl rfl fun a_472 HE473 => ?_
          refine wpList_nil ?_
          clear a_461 HE462 a_463 HE464 HH424 a_465 HE466 a_470 HE471 hK468 K_467
          refine nrm ?_
          refine wp_seq ?_
          refine rg ?_
          refine pl_x HE473 HH469 (wt0 rfl) (x_assign rfl) rfl rfl fun a_474 HE475 => ?_
          refine wpList_nil ?_
          clear a_472 HE473
          refine nrm ?_
          refine wp_seq ?_
          refine rg ?_
          refine pl_x HE475 HH469 (wt0 rfl) (x_loadN (cs := [.int .i64 ((runProg a0 a1 a2).1.1), .slice Ar42_0_1 ((runProg a0 a1 a2).1.2.length) cr42_0_1]) tv_43 rfl rfl (c_blkN 2 rfl)) rfl rfl fun a_476 HE477 => ?_
          refine pl_x HE477 HH469 (wt0 rfl) (x_move rfl) rfl rfl fun a_478 HE479 => ?_
          refine pl fun K_480 hK481 => ?_
          refine st_call HE479 (wt0 rfl) rfl rfl rfl en_36 rfl rfl (held_Store_c [.int .i64 ((runProg a0 a1 a2).1.1), .slice Ar42_0_1 ((runProg a0 a1 a2).1.2.length) cr42_0_1] ((runProg a0 a1 a2).1) 1 _ (HH469.rd (i := 3) rfl) (by omega) (by omega)) fun e w' hr => ?_
          obtain ⟨rfl, hbr54⟩ := hr
          have HH482 := HH469.on hbr54
          clear hbr54
          refine ⟨_, rfl, fun a_483 HE484 => hK481 _ _ ?_⟩
          refine pl_x HE484 HH482 (wt0 rfl) (x_assign rfl) rfl rfl fun a_485 HE486 => ?_
          refine wpList_nil ?_
          clear a_474 HE475 a_476 HE477 HH469 a_478 HE479 a_483 HE484 hK481 K_480
          refine nrm ?_
          refine wp_seq ?_
          refine wp_seq ?_
          refine rg ?_
          refine pl_x HE486 HH482 (wt0 rfl) (x_move rfl) rfl rfl fun a_487 HE488 => ?_
          refine pl_x HE488 HH482 (wt0 rfl) (x_lss rfl rfl) rfl rfl fun a_489 HE490 => ?_
          refine wpList_nil ?_
          clear a_485 HE486 a_487 HE488
          refine nrm ?_
          refine cnd_d HE490 rfl (fun hc55 => ?_) (fun hc55 => ?_)
          · refine wp_seq ?_
            refine rg ?_
            refine pl_x HE490 HH482 (wt0 rfl) (x_assign rfl) rfl rfl fun a_491 HE492 => ?_
            refine wpList_nil ?_
            clear a_489 HE490
            refine nrm ?_
            refine wp_ret ?_
            refine (thn_ret ?_)
            refine ret1 HE492 rfl (rv_tmp rfl) ?_
            have hF : true = false := by
              first | rfl | (exfalso; omega)
            exact ⟨by rw [hF] <;> rfl, HH482.below⟩
          · refine wp_skip ?_
            refine nrm ?_
            refine wp_seq ?_
            refine wp_seq ?_
            refine rg ?_
            refine pl_x HE490 HH482 (wt0 rfl) (x_move rfl) rfl rfl fun a_493 HE494 => ?_
            refine pl_x HE494 HH482 (wt0 rfl) (x_move rfl) rfl rfl fun a_495 HE496 => ?_
            refine pl_x HE496 HH482 (wt0 rfl) (x_neq rfl rfl) rfl rfl fun a_497 HE498 => ?_
            refine wpList_nil ?_
            clear a_489 HE490 a_493 HE494 a_495 HE496
            refine nrm ?_
            refine cndF HE498 rfl (bne_f rfl) ?_
            refine wp_skip ?_
            refine nrm ?_
            refine wp_seq ?_
            refine wp_join (fun a w' => ∃ (q59 : Nat), ∃ (Ar58_0_1 : Option Addr), ∃ (cr58_0_1 : Nat), ∃ (Sr58 : Nat → Prop), ∃ (Sr57 : Nat → Prop), ∃ (Ar57_1 : Option Addr), ∃ (cr57_1 : Nat), ∃ (Sr56 : Nat → Prop), ∃ (Ar56 : Option Addr), ∃ (cr56 : Nat), Env 166 [(8, .pointer (some ⟨q29, 0, none⟩)), (9, .int .i64 ((runProg a0 a1 a2).2.1)), (10, .bool ((runProg a0 a1 a2).2.2.1)), (11, .int .i64 ((runProg a0 a1 a2).2.2.2)), (14, .pointer (some ⟨q43, 0, none⟩)), (19, .int .i64 ((1 + (cv_Store ((runProg a0 a1 a2).1) : Int)))), (21, .pointer (some ⟨q59, 0, none⟩)), (22, .int .i64 ((runProg a0 a1 a2).2.1)), (23, .bool ((runProg a0 a1 a2).2.2.1)), (24, .int .i64 ((runProg a0 a1 a2).2.2.2))] a ∧ Held Nob w [rBlk q59 43 [.int .i64 ((runProg a0 a1 a2).1.1), .slice Ar58_0_1 ((runProg a0 a1 a2).1.2.length) cr58_0_1], rO eStore Sr58 [.int .i64 ((runProg a0 a1 a2).1.1), .slice Ar58_0_1 ((runProg a0 a1 a2).1.2.length) cr58_0_1] ((runProg a0 a1 a2).1), rO eStore Sr57 [.int .i64 (a1.1), .slice Ar57_1 (a1.2.length) cr57_1] a1, rSo eInstr Sr56 Ar56 cr56 a0, rO eStore Sr47 [.int .i64 (a1.1), .slice Ar47_1 (a1.2.length) cr47_1] a1, rSo eInstr Sr45 Ar45 cr45 a0, rBlk q43 43 [.int .i64 ((runProg a0 a1 a2).1.1), .slice Ar42_0_1 ((runProg a0 a1 a2).1.2.length) cr42_0_1], rO eStore Sr42 [.int .i64 ((runProg a0 a1 a2).1.1), .slice Ar42_0_1 ((runProg a0 a1 a2).1.2.length) cr42_0_1] (mv_Store ((runProg a0 a1 a2).1) 1), rBlk q41 43 [.int .i64 (a1.1), .slice Ar40_1 (a1.2.length) cr40_1], rO eStore Sr40 [.int .i64 (a1.1), .slice Ar40_1 (a1.2.length) cr40_1] (mv_Store a1 (1 + (ct_SInstr a0 : Int))), rSo eInstr Sr39 Ar39 cr39 (mk_SInstr a0 1), rBlk q29 43 [.int .i64 ((runProg a0 a1 a2).1.1), .slice Ar28_0_1 ((runProg a0 a1 a2).1.2.length) cr28_0_1], rO eStore Sr28 [.int .i64 ((runProg a0 a1 a2).1.1), .slice Ar28_0_1 ((runProg a0 a1 a2).1.2.length) cr28_0_1] ((runProg a0 a1 a2).1), rO eStore Sr27 [.int .i64 (a1.1), .slice Ar27_1 (a1.2.length) cr27_1] a1, rSo eInstr Sr26 Ar26 cr26 a0, rBlk q21 79 [.int .i64 (a1.1), .slice Az1_1 (a1.2.length) cz1_1]] w') ?_ ?_
            · refine dr_start (Held Nob w [rO eStore Sr47 [.int .i64 (a1.1), .slice Ar47_1 (a1.2.length) cr47_1] a1, rSo eInstr Sr45 Ar45 cr45 a0, rBlk q43 43 [.int .i64 ((runProg a0 a1 a2).1.1), .slice Ar42_0_1 ((runProg a0 a1 a2).1.2.length) cr42_0_1], rO eStore Sr42 [.int .i64 ((runProg a0 a1 a2).1.1), .slice Ar42_0_1 ((runProg a0 a1 a2).1.2.length) cr42_0_1] (mv_Store ((runProg a0 a1 a2).1) 1), rBlk q41 43 [.int .i64 (a1.1), .slice Ar40_1 (a1.2.length) cr40_1], rO eStore Sr40 [.int .i64 (a1.1), .slice Ar40_1 (a1.2.length) cr40_1] (mv_Store a1 (1 + (ct_SInstr a0 : Int))), rSo eInstr Sr39 Ar39 cr39 (mk_SInstr a0 1), rBlk q29 43 [.int .i64 ((runProg a0 a1 a2).1.1), .slice Ar28_0_1 ((runProg a0 a1 a2).1.2.length) cr28_0_1], rO eStore Sr28 [.int .i64 ((runProg a0 a1 a2).1.1), .slice Ar28_0_1 ((runProg a0 a1 a2).1.2.length) cr28_0_1] ((runProg a0 a1 a2).1), rO eStore Sr27 [.int .i64 (a1.1), .slice Ar27_1 (a1.2.length) cr27_1] a1, rSo eInstr Sr26 Ar26 cr26 a0, rBlk q21 79 [.int .i64 (a1.1), .slice Az1_1 (a1.2.length) cz1_1]]) 16 #[false, false, false, false, false, false, false, false, false, false, false, false, false, false, false, false] hmix rfl rfl HH482 (fun _ h => h.sel [0, 1, 2, 3, 4, 5, 6, 7, 8, 9, 10, 11] (by decide) rfl) fun w' HH499 => ?_
              have HS500 := HH499
              refine dr_take (i := 0) (ls' := #[true, false, false, false, false, false, false, false, false, false, false, false, false, false, false, false]) HE498 HS500 rfl (by kernel_rfl) (by kernel_rfl) (by kernel_rfl) (fun _ _ _ h => h) rfl (wt0 rfl) (x_move rfl) rfl rfl fun a_501 HE502 => ?_
              refine dr_take (i := 2) (ls' := #[true, false, true, false, false, false, false, false, false, false, false, false, false, false, false, false]) HE502 HS500 rfl (by kernel_rfl) (by kernel_rfl) (by kernel_rfl) (fun _ _ _ h => h) rfl (wt0 rfl) (x_loadN (cs := [.int .i64 (a1.1), .slice Az1_1 (a1.2.length) cz1_1]) tv_79 rfl rfl (c_blkN 11 rfl)) rfl rfl fun a_503 HE504 => ?_
              refine dr_take (i := 4) (ls' := #[true, false, true, false, true, false, false, false, false, false, false, false, false, false, false, false]) HE504 HS500 rfl (by kernel_rfl) (by kernel_rfl) (by kernel_rfl) (fun _ _ _ h => h) rfl (wt0 rfl) (x_move rfl) rfl rfl fun a_505 HE506 => ?_
              refine dr_two (i := 1) (j := 11) (ls' := #[true, true, true, false, true, false, false, false, false, false, false, false, false, false, false, false]) (ls'' := #[true, false, true, false, true, false, false, false, false, false, false, true, false, false, false, false]) rfl rfl (by kernel_rfl) rfl rfl (fun K_507 hK508 => ?_) (fun K_507 hK508 => ?_)
              · refine st_call HE506 (wt0 rfl) rfl rfl rfl en_29 rfl rfl (to_InstrS _ _ a0 _ (HH499.old h0) (by omega)) fun e w' hr => ?_
                obtain ⟨Ar56, cr56, rfl, hor56, hbr56⟩ := hr
                obtain ⟨Sr56, HH509⟩ := HH499.newS hbr56 hor56
                clear hbr56 hor56
                refine ⟨_, rfl, fun a_510 HE511 => hK508 _ _ (by exact HH509.sel [1, 2, 3, 4, 5, 6, 7, 8, 9, 10, 11, 12] (by decide) rfl) ?_⟩
                have HS512 := HH509.sel [1, 2, 3, 4, 5, 6, 7, 8, 9, 10, 11, 12] (by decide) rfl
                refine dr_two (i := 3) (j := 11) (ls' := #[true, true, true, true, true, false, false, false, false, false, false, false, false, false, false, false]) (ls'' := #[true, true, true, false, true, false, false, false, false, false, false, true, false, false, false, false]) rfl rfl (by kernel_rfl) rfl rfl (fun K_513 hK514 => ?_) (fun K_513 hK514 => ?_)
                · refine st_call HE511 (wt0 rfl) rfl rfl rfl en_59 rfl rfl (to_Store [.int .i64 (a1.1), .slice Az1_1 (a1.2.length) cz1_1] a1 _ (HH509.oldR H1) (by omega)) fun e w' hr => ?_
                  obtain ⟨esr57, rfl, hor57, hbr57⟩ := hr
                  have hr := eStore.read hor57
                  obtain ⟨Sr57, HH515⟩ := HH509.newO hbr57 hor57
                  obtain ⟨Ar57_1, cr57_1, rfl, gr57_0, gr57_1⟩ := shape_Store hr
                  clear hbr57 hor57 gr57_0 gr57_1
                  refine ⟨_, rfl, fun a_516 HE517 => hK514 _ _ (by exact HH515.sel [2, 3, 4, 5, 6, 7, 8, 9, 10, 11, 12, 13] (by decide) rfl) ?_⟩
                  have HS518 := HH515.sel [2, 3, 4, 5, 6, 7, 8, 9, 10, 11, 12, 13] (by decide) rfl
                  refine dr_two (i := 5) (j := 11) (ls' := #[true, true, true, true, true, true, false, false, false, false, false, false, false, false, false, false]) (ls'' := #[true, true, true, true, true, false, false, false, false, false, false, true, false, false, false, false]) rfl rfl (by kernel_rfl) rfl rfl (fun K_519 hK520 => ?_) (fun K_519 hK520 => ?_)
                  · refine st_call HE517 (wt0 rfl) rfl rfl rfl en_66 rfl rfl (impl_RunProgram _ _ a0 [.int .i64 (a1.1), .slice Ar57_1 (a1.2.length) cr57_1] a1 a2 _ (HH515.sl (i := 1) rfl) (HH515.rd (i := 0) rfl)) fun e w' hr => ?_
                    obtain ⟨esr58_0, rfl, hor58_0, hbr58⟩ := hr
                    have hr := eStore.read hor58_0
                    obtain ⟨Sr58, HH521⟩ := HH515.newO hbr58 hor58_0
                    obtain ⟨Ar58_0_1, cr58_0_1, rfl, gr58_0_0, gr58_0_1⟩ := shape_Store hr
                    have jr58_0_0 := gr58_0_0; unfold I64 at jr58_0_0
                    refine ⟨_, rfl, fun a_522 HE523 => hK520 _ _ (by exact HH521.sel [3, 4, 5, 6, 7, 8, 9, 10, 11, 12, 13, 14] (by decide) rfl) ?_⟩
                    have HS524 := HH521.sel [3, 4, 5, 6, 7, 8, 9, 10, 11, 12, 13, 14] (by decide) rfl
                    refine dr_take (i := 6) (ls' := #[true, true, true, true, true, true, true, false, false, false, false, false, false, false, false, false]) HE523 HS524 rfl (by kernel_rfl) (by kernel_rfl) (by kernel_rfl) (fun _ _ _ h => h) rfl (wt0 rfl) (x_move rfl) rfl rfl fun a_525 HE526 => ?_
                    refine dr_take (i := 7) (ls' := #[true, true, true, true, true, true, true, true, false, false, false, false, false, false, false, false]) HE526 HS524 rfl (by kernel_rfl) (by kernel_rfl) (by kernel_rfl) (fun _ _ _ h => h) rfl (wt0 rfl) (x_extract rfl rfl) rfl rfl fun a_527 HE528 => ?_
                    refine dr_take (i := 8) (ls' := #[true, true, true, true, true, true, true, true, true, false, false, false, false, false, false, false]) HE528 HS524 rfl (by kernel_rfl) (by kernel_rfl) (by kernel_rfl) (fun _ _ _ h => h) rfl (wt0 rfl) (x_extract rfl rfl) rfl rfl fun a_529 HE530 => ?_
                    refine dr_take (i := 9) (ls' := #[true, true, true, true, true, true, true, true, true, true, false, false, false, false, false, false]) HE530 HS524 rfl (by kernel_rfl) (by kernel_rfl) (by kernel_rfl) (fun _ _ _ h => h) rfl (wt0 rfl) (x_extract rfl rfl) rfl rfl fun a_531 HE532 => ?_
                    refine dr_take (i := 10) (ls' := #[true, true, true, true, true, true, true, true, true, true, true, false, false, false, false, false]) HE532 HS524 rfl (by kernel_rfl) (by kernel_rfl) (by kernel_rfl) (fun _ _ _ h => h) rfl (wt0 rfl) (x_extract rfl rfl) rfl rfl fun a_533 HE534 => ?_
                    refine dr_one (i := 11) (ls' := #[true, true, true, true, true, true, true, true, true, true, true, true, false, false, false, false]) rfl (by kernel_rfl) rfl fun K_535 hK536 => ?_
                    refine st_alloc HE534 HH521 tv_43 (wt0 rfl) rfl fun q59 a_537 w' HE538 HH539 => hK536 _ _ (by exact HH539.sel [4, 5, 6, 7, 8, 9, 10, 11, 12, 13, 14, 15] (by decide) rfl) ?_
                    have HS540 := HH539.sel [4, 5, 6, 7, 8, 9, 10, 11, 12, 13, 14, 15] (by decide) rfl
                    refine dr_one (i := 12) (ls' := #[true, true, true, true, true, true, true, true, true, true, true, true, true, false, false, false]) rfl (by kernel_rfl) rfl fun K_541 hK542 => ?_
                    refine st_store (vs := [.int .i64 ((runProg a0 a1 a2).1.1), .slice Ar58_0_1 ((runProg a0 a1 a2).1.2.length) cr58_0_1]) 0 HE538 HH539 tv_43 rfl rfl rfl rfl rfl rfl (by simp [Value.oneCell']) (wt0 rfl) fun w' HH543 => hK542 _ _ (by exact HH543.sel [4, 5, 6, 7, 8, 9, 10, 11, 12, 13, 14, 15] (by decide) rfl) ?_
                    have HS544 := HH543.sel [4, 5, 6, 7, 8, 9, 10, 11, 12, 13, 14, 15] (by decide) rfl
                    refine dr_take (i := 13) (ls' := #[true, true, true, true, true, true, true, true, true, true, true, true, true, true, false, false]) HE538 HS544 rfl (by kernel_rfl) (by kernel_rfl) (by kernel_rfl) (fun _ _ _ h => h) rfl (wt0 rfl) (x_assign rfl) rfl rfl fun a_545 HE546 => ?_
                    refine dr_take (i := 14) (ls' := #[true, true, true, true, true, true, true, true, true, true, true, true, true, true, true, false]) HE546 HS544 rfl (by kernel_rfl) (by kernel_rfl) (by kernel_rfl) (fun _ _ _ h => h) rfl (wt0 rfl) (x_assign rfl) rfl rfl fun a_547 HE548 => ?_
                    refine dr_take (i := 15) (ls' := #[true, true, true, true, true, true, true, true, true, true, true, true, true, true, true, true]) HE548 HS544 rfl (by kernel_rfl) (by kernel_rfl) (by kernel_rfl) (fun _ _ _ h => h) rfl (wt0 rfl) (x_assign rfl) rfl rfl fun a_549 HE550 => ?_
                    refine dr_done (by kernel_rfl) ?_
                    clear HH482 HS343 a_497 HE498 a_501 HE502 a_503 HE504 HH499 a_505 HE506 HS500 K_507 hK508 HH509 a_510 HE511 HS512 K_513 hK514 HH515 a_516 HE517 HS518 a_522 HE523 a_525 HE526 a_527 HE528 a_529 HE530 a_531 HE532 K_519 hK520 a_533 HE534 HH521 HS524 K_535 hK536 HH539 HS540 a_537 HE538 a_545 HE546 a_547 HE548 hK542 K_541
                    exact nrm ⟨_, _, _, _, _, _, _, _, _, _, HE550.sub ⟨rfl, rfl, rfl, rfl, rfl, rfl, rfl, rfl, rfl, rfl, trivial⟩, HH543.sel [0, 1, 2, 3, 4, 5, 6, 7, 8, 9, 10, 11, 12, 13, 14, 15] (by decide) rfl⟩
                  · refine st_alloc HE517 HH515 tv_43 (wt0 rfl) rfl fun q60 a_551 w' HE552 HH553 => hK520 _ _ (by exact HH553.sel [3, 4, 5, 6, 7, 8, 9, 10, 11, 12, 13, 14] (by decide) rfl) ?_
                    have HS554 := HH553.sel [3, 4, 5, 6, 7, 8, 9, 10, 11, 12, 13, 14] (by decide) rfl
                    refine dr_one (i := 5) (ls' := #[true, true, true, true, true, true, false, false, false, false, false, true, false, false, false, false]) rfl (by kernel_rfl) rfl fun K_555 hK556 => ?_
                    refine st_call HE552 (wt0 rfl) rfl rfl rfl en_66 rfl rfl (impl_RunProgram _ _ a0 [.int .i64 (a1.1), .slice Ar57_1 (a1.2.length) cr57_1] a1 a2 _ (HH553.sl (i := 2) rfl) (HH553.rd (i := 1) rfl)) fun e w' hr => ?_
                    obtain ⟨esr61_0, rfl, hor61_0, hbr61⟩ := hr
                    have hr := eStore.read hor61_0
                    obtain ⟨Sr61, HH557⟩ := HH553.newO hbr61 hor61_0
                    obtain ⟨Ar61_0_1, cr61_0_1, rfl, gr61_0_0, gr61_0_1⟩ := shape_Store hr
                    have jr61_0_0 := gr61_0_0; unfold I64 at jr61_0_0
                    refine ⟨_, rfl, fun a_558 HE559 => hK556 _ _ (by exact HH557.sel [4, 5, 6, 7, 8, 9, 10, 11, 12, 13, 14, 15] (by decide) rfl) ?_⟩
                    have HS560 := HH557.sel [4, 5, 6, 7, 8, 9, 10, 11, 12, 13, 14, 15] (by decide) rfl
                    refine dr_take (i := 6) (ls' := #[true, true, true, true, true, true, true, false, false, false, false, true, false, false, false, false]) HE559 HS560 rfl (by kernel_rfl) (by kernel_rfl) (by kernel_rfl) (fun _ _ _ h => h) rfl (wt0 rfl) (x_move rfl) rfl rfl fun a_561 HE562 => ?_
                    refine dr_take (i := 7) (ls' := #[true, true, true, true, true, true, true, true, false, false, false, true, false, false, false, false]) HE562 HS560 rfl (by kernel_rfl) (by kernel_rfl) (by kernel_rfl) (fun _ _ _ h => h) rfl (wt0 rfl) (x_extract rfl rfl) rfl rfl fun a_563 HE564 => ?_
                    refine dr_take (i := 8) (ls' := #[true, true, true, true, true, true, true, true, true, false, false, true, false, false, false, false]) HE564 HS560 rfl (by kernel_rfl) (by kernel_rfl) (by kernel_rfl) (fun _ _ _ h => h) rfl (wt0 rfl) (x_extract rfl rfl) rfl rfl fun a_565 HE566 => ?_
                    refine dr_take (i := 9) (ls' := #[true, true, true, true, true, true, true, true, true, true, false, true, false, false, false, false]) HE566 HS560 rfl (by kernel_rfl) (by kernel_rfl) (by kernel_rfl) (fun _ _ _ h => h) rfl (wt0 rfl) (x_extract rfl rfl) rfl rfl fun a_567 HE568 => ?_
                    refine dr_take (i := 10) (ls' := #[true, true, true, true, true, true, true, true, true, true, true, true, false, false, false, false]) HE568 HS560 rfl (by kernel_rfl) (by kernel_rfl) (by kernel_rfl) (fun _ _ _ h => h) rfl (wt0 rfl) (x_extract rfl rfl) rfl rfl fun a_569 HE570 => ?_
                    refine dr_one (i := 12) (ls' := #[true, true, true, true, true, true, true, true, true, true, true, true, true, false, false, false]) rfl (by kernel_rfl) rfl fun K_571 hK572 => ?_
                    refine st_store (vs := [.int .i64 ((runProg a0 a1 a2).1.1), .slice Ar61_0_1 ((runProg a0 a1 a2).1.2.length) cr61_0_1]) 1 HE570 HH557 tv_43 rfl rfl rfl rfl rfl rfl (by simp [Value.oneCell']) (wt0 rfl) fun w' HH573 => hK572 _ _ (by exact HH573.sel [4, 5, 6, 7, 8, 9, 10, 11, 12, 13, 14, 15] (by decide) rfl) ?_
                    have HS574 := HH573.sel [4, 5, 6, 7, 8, 9, 10, 11, 12, 13, 14, 15] (by decide) rfl
                    refine dr_take (i := 13) (ls' := #[true, true, true, true, true, true, true, true, true, true, true, true, true, true, false, false]) HE570 HS574 rfl (by kernel_rfl) (by kernel_rfl) (by kernel_rfl) (fun _ _ _ h => h) rfl (wt0 rfl) (x_assign rfl) rfl rfl fun a_575 HE576 => ?_
                    refine dr_take (i := 14) (ls' := #[true, true, true, true, true, true, true, true, true, true, true, true, true, true, true, false]) HE576 HS574 rfl (by kernel_rfl) (by kernel_rfl) (by kernel_rfl) (fun _ _ _ h => h) rfl (wt0 rfl) (x_assign rfl) rfl rfl fun a_577 HE578 => ?_
                    refine dr_take (i := 15) (ls' := #[true, true, true, true, true, true, true, true, true, true, true, true, true, true, true, true]) HE578 HS574 rfl (by kernel_rfl) (by kernel_rfl) (by kernel_rfl) (fun _ _ _ h => h) rfl (wt0 rfl) (x_assign rfl) rfl rfl fun a_579 HE580 => ?_
                    refine dr_done (by kernel_rfl) ?_
                    clear HH482 HS343 a_497 HE498 a_501 HE502 a_503 HE504 HH499 a_505 HE506 HS500 K_507 hK508 HH509 a_510 HE511 HS512 K_513 hK514 a_516 HE517 HH515 HS518 K_519 hK520 HH553 a_551 HE552 HS554 a_558 HE559 a_561 HE562 a_563 HE564 a_565 HE566 a_567 HE568 K_555 hK556 HH557 HS560 a_569 HE570 a_575 HE576 a_577 HE578 hK572 K_571
                    exact nrm ⟨_, _, _, _, _, _, _, _, _, _, HE580.sub ⟨rfl, rfl, rfl, rfl, rfl, rfl, rfl, rfl, rfl, rfl, trivial⟩, HH573.sel [1, 0, 2, 3, 4, 5, 6, 7, 8, 9, 10, 11, 12, 13, 14, 15] (by decide) rfl⟩
                · refine st_alloc HE511 HH509 tv_43 (wt0 rfl) rfl fun q62 a_581 w' HE582 HH583 => hK514 _ _ (by exact HH583.sel [2, 3, 4, 5, 6, 7, 8, 9, 10, 11, 12, 13] (by decide) rfl) ?_
                  have HS584 := HH583.sel [2, 3, 4, 5, 6, 7, 8, 9, 10, 11, 12, 13] (by decide) rfl
                  refine dr_one (i := 3) (ls' := #[true, true, true, true, true, false, false, false, false, false, false, true, false, false, false, false]) rfl (by kernel_rfl) rfl fun K_585 hK586 => ?_
                  refine st_call HE582 (wt0 rfl) rfl rfl rfl en_59 rfl rfl (to_Store [.int .i64 (a1.1), .slice Az1_1 (a1.2.length) cz1_1] a1 _ (HH583.oldR H1) (by omega)) fun e w' hr => ?_
                  obtain ⟨esr63, rfl, hor63, hbr63⟩ := hr
                  have hr := eStore.read hor63
                  obtain ⟨Sr63, HH587⟩ := HH583.newO hbr63 hor63
                  obtain ⟨Ar63_1, cr63_1, rfl, gr63_0, gr63_1⟩ := shape_Store hr
                  clear hbr63 hor63 gr63_0 gr63_1
                  refine ⟨_, rfl, fun a_588 HE589 => hK586 _ _ (by exact HH587.sel [3, 4, 5, 6, 7, 8, 9, 10, 11, 12, 13, 14] (by decide) rfl) ?_⟩
                  have HS590 := HH587.sel [3, 4, 5, 6, 7, 8, 9, 10, 11, 12, 13, 14] (by decide) rfl
                  refine dr_one (i := 5) (ls' := #[true, true, true, true, true, true, false, false, false, false, false, true, false, false, false, false]) rfl (by kernel_rfl) rfl fun K_591 hK592 => ?_
                  refine st_call HE589 (wt0 rfl) rfl rfl rfl en_66 rfl rfl (impl_RunProgram _ _ a0 [.int .i64 (a1.1), .slice Ar63_1 (a1.2.length) cr63_1] a1 a2 _ (HH587.sl (i := 2) rfl) (HH587.rd (i := 0) rfl)) fun e w' hr => ?_
                  obtain ⟨esr64_0, rfl, hor64_0, hbr64⟩ := hr
                  have hr := eStore.read hor64_0
                  obtain ⟨Sr64, HH593⟩ := HH587.newO hbr64 hor64_0
                  obtain ⟨Ar64_0_1, cr64_0_1, rfl, gr64_0_0, gr64_0_1⟩ := shape_Store hr
                  have jr64_0_0 := gr64_0_0; unfold I64 at jr64_0_0
                  refine ⟨_, rfl, fun a_594 HE595 => hK592 _ _ (by exact HH593.sel [4, 5, 6, 7, 8, 9, 10, 11, 12, 13, 14, 15] (by decide) rfl) ?_⟩
                  have HS596 := HH593.sel [4, 5, 6, 7, 8, 9, 10, 11, 12, 13, 14, 15] (by decide) rfl
                  refine dr_take (i := 6) (ls' := #[true, true, true, true, true, true, true, false, false, false, false, true, false, false, false, false]) HE595 HS596 rfl (by kernel_rfl) (by kernel_rfl) (by kernel_rfl) (fun _ _ _ h => h) rfl (wt0 rfl) (x_move rfl) rfl rfl fun a_597 HE598 => ?_
                  refine dr_take (i := 7) (ls' := #[true, true, true, true, true, true, true, true, false, false, false, true, false, false, false, false]) HE598 HS596 rfl (by kernel_rfl) (by kernel_rfl) (by kernel_rfl) (fun _ _ _ h => h) rfl (wt0 rfl) (x_extract rfl rfl) rfl rfl fun a_599 HE600 => ?_
                  refine dr_take (i := 8) (ls' := #[true, true, true, true, true, true, true, true, true, false, false, true, false, false, false, false]) HE600 HS596 rfl (by kernel_rfl) (by kernel_rfl) (by kernel_rfl) (fun _ _ _ h => h) rfl (wt0 rfl) (x_extract rfl rfl) rfl rfl fun a_601 HE602 => ?_
                  refine dr_take (i := 9) (ls' := #[true, true, true, true, true, true, true, true, true, true, false, true, false, false, false, false]) HE602 HS596 rfl (by kernel_rfl) (by kernel_rfl) (by kernel_rfl) (fun _ _ _ h => h) rfl (wt0 rfl) (x_extract rfl rfl) rfl rfl fun a_603 HE604 => ?_
                  refine dr_take (i := 10) (ls' := #[true, true, true, true, true, true, true, true, true, true, true, true, false, false, false, false]) HE604 HS596 rfl (by kernel_rfl) (by kernel_rfl) (by kernel_rfl) (fun _ _ _ h => h) rfl (wt0 rfl) (x_extract rfl rfl) rfl rfl fun a_605 HE606 => ?_
                  refine dr_one (i := 12) (ls' := #[true, true, true, true, true, true, true, true, true, true, true, true, true, false, false, false]) rfl (by kernel_rfl) rfl fun K_607 hK608 => ?_
                  refine st_store (vs := [.int .i64 ((runProg a0 a1 a2).1.1), .slice Ar64_0_1 ((runProg a0 a1 a2).1.2.length) cr64_0_1]) 2 HE606 HH593 tv_43 rfl rfl rfl rfl rfl rfl (by simp [Value.oneCell']) (wt0 rfl) fun w' HH609 => hK608 _ _ (by exact HH609.sel [4, 5, 6, 7, 8, 9, 10, 11, 12, 13, 14, 15] (by decide) rfl) ?_
                  have HS610 := HH609.sel [4, 5, 6, 7, 8, 9, 10, 11, 12, 13, 14, 15] (by decide) rfl
                  refine dr_take (i := 13) (ls' := #[true, true, true, true, true, true, true, true, true, true, true, true, true, true, false, false]) HE606 HS610 rfl (by kernel_rfl) (by kernel_rfl) (by kernel_rfl) (fun _ _ _ h => h) rfl (wt0 rfl) (x_assign rfl) rfl rfl fun a_611 HE612 => ?_
                  refine dr_take (i := 14) (ls' := #[true, true, true, true, true, true, true, true, true, true, true, true, true, true, true, false]) HE612 HS610 rfl (by kernel_rfl) (by kernel_rfl) (by kernel_rfl) (fun _ _ _ h => h) rfl (wt0 rfl) (x_assign rfl) rfl rfl fun a_613 HE614 => ?_
                  refine dr_take (i := 15) (ls' := #[true, true, true, true, true, true, true, true, true, true, true, true, true, true, true, true]) HE614 HS610 rfl (by kernel_rfl) (by kernel_rfl) (by kernel_rfl) (fun _ _ _ h => h) rfl (wt0 rfl) (x_assign rfl) rfl rfl fun a_615 HE616 => ?_
                  refine dr_done (by kernel_rfl) ?_
                  clear HH482 HS343 a_497 HE498 a_501 HE502 a_503 HE504 HH499 a_505 HE506 HS500 K_507 hK508 a_510 HE511 HH509 HS512 K_513 hK514 HH583 a_581 HE582 HS584 K_585 hK586 HH587 a_588 HE589 HS590 a_594 HE595 a_597 HE598 a_599 HE600 a_601 HE602 a_603 HE604 K_591 hK592 HH593 HS596 a_605 HE606 a_611 HE612 a_613 HE614 hK608 K_607
                  exact nrm ⟨_, _, _, _, _, _, _, _, _, _, HE616.sub ⟨rfl, rfl, rfl, rfl, rfl, rfl, rfl, rfl, rfl, rfl, trivial⟩, HH609.sel [2, 0, 1, 3, 4, 5, 6, 7, 8, 9, 10, 11, 12, 13, 14, 15] (by decide) rfl⟩
              · refine st_alloc HE506 HH499 tv_43 (wt0 rfl) rfl fun q65 a_617 w' HE618 HH619 => hK508 _ _ (by exact HH619.sel [1, 2, 3, 4, 5, 6, 7, 8, 9, 10, 11, 12] (by decide) rfl) ?_
                have HS620 := HH619.sel [1, 2, 3, 4, 5, 6, 7, 8, 9, 10, 11, 12] (by decide) rfl
                refine dr_one (i := 1) (ls' := #[true, true, true, false, true, false, false, false, false, false, false, true, false, false, false, false]) rfl (by kernel_rfl) rfl fun K_621 hK622 => ?_
                refine st_call HE618 (wt0 rfl) rfl rfl rfl en_29 rfl rfl (to_InstrS _ _ a0 _ (HH619.old h0) (by omega)) fun e w' hr => ?_
                obtain ⟨Ar66, cr66, rfl, hor66, hbr66⟩ := hr
                obtain ⟨Sr66, HH623⟩ := HH619.newS hbr66 hor66
                clear hbr66 hor66
                refine ⟨_, rfl, fun a_624 HE625 => hK622 _ _ (by exact HH623.sel [2, 3, 4, 5, 6, 7, 8, 9, 10, 11, 12, 13] (by decide) rfl) ?_⟩
                have HS626 := HH623.sel [2, 3, 4, 5, 6, 7, 8, 9, 10, 11, 12, 13] (by decide) rfl
                refine dr_one (i := 3) (ls' := #[true, true, true, true, true, false, false, false, false, false, false, true, false, false, false, false]) rfl (by kernel_rfl) rfl fun K_627 hK628 => ?_
                refine st_call HE625 (wt0 rfl) rfl rfl rfl en_59 rfl rfl (to_Store [.int .i64 (a1.1), .slice Az1_1 (a1.2.length) cz1_1] a1 _ (HH623.oldR H1) (by omega)) fun e w' hr => ?_
                obtain ⟨esr67, rfl, hor67, hbr67⟩ := hr
                have hr := eStore.read hor67
                obtain ⟨Sr67, HH629⟩ := HH623.newO hbr67 hor67
                obtain ⟨Ar67_1, cr67_1, rfl, gr67_0, gr67_1⟩ := shape_Store hr
                clear hbr67 hor67 gr67_0 gr67_1
                refine ⟨_, rfl, fun a_630 HE631 => hK628 _ _ (by exact HH629.sel [3, 4, 5, 6, 7, 8, 9, 10, 11, 12, 13, 14] (by decide) rfl) ?_⟩
                have HS632 := HH629.sel [3, 4, 5, 6, 7, 8, 9, 10, 11, 12, 13, 14] (by decide) rfl
                refine dr_one (i := 5) (ls' := #[true, true, true, true, true, true, false, false, false, false, false, true, false, false, false, false]) rfl (by kernel_rfl) rfl fun K_633 hK634 => ?_
                refine st_call HE631 (wt0 rfl) rfl rfl rfl en_66 rfl rfl (impl_RunProgram _ _ a0 [.int .i64 (a1.1), .slice Ar67_1 (a1.2.length) cr67_1] a1 a2 _ (HH629.sl (i := 1) rfl) (HH629.rd (i := 0) rfl)) fun e w' hr => ?_
                obtain ⟨esr68_0, rfl, hor68_0, hbr68⟩ := hr
                have hr := eStore.read hor68_0
                obtain ⟨Sr68, HH635⟩ := HH629.newO hbr68 hor68_0
                obtain ⟨Ar68_0_1, cr68_0_1, rfl, gr68_0_0, gr68_0_1⟩ := shape_Store hr
                have jr68_0_0 := gr68_0_0; unfold I64 at jr68_0_0
                refine ⟨_, rfl, fun a_636 HE637 => hK634 _ _ (by exact HH635.sel [4, 5, 6, 7, 8, 9, 10, 11, 12, 13, 14, 15] (by decide) rfl) ?_⟩
                have HS638 := HH635.sel [4, 5, 6, 7, 8, 9, 10, 11, 12, 13, 14, 15] (by decide) rfl
                refine dr_take (i := 6) (ls' := #[true, true, true, true, true, true, true, false, false, false, false, true, false, false, false, false]) HE637 HS638 rfl (by kernel_rfl) (by kernel_rfl) (by kernel_rfl) (fun _ _ _ h => h) rfl (wt0 rfl) (x_move rfl) rfl rfl fun a_639 HE640 => ?_
                refine dr_take (i := 7) (ls' := #[true, true, true, true, true, true, true, true, false, false, false, true, false, false, false, false]) HE640 HS638 rfl (by kernel_rfl) (by kernel_rfl) (by kernel_rfl) (fun _ _ _ h => h) rfl (wt0 rfl) (x_extract rfl rfl) rfl rfl fun a_641 HE642 => ?_
                refine dr_take (i := 8) (ls' := #[true, true, true, true, true, true, true, true, true, false, false, true, false, false, false, false]) HE642 HS638 rfl (by kernel_rfl) (by kernel_rfl) (by kernel_rfl) (fun _ _ _ h => h) rfl (wt0 rfl) (x_extract rfl rfl) rfl rfl fun a_643 HE644 => ?_
                refine dr_take (i := 9) (ls' := #[true, true, true, true, true, true, true, true, true, true, false, true, false, false, false, false]) HE644 HS638 rfl (by kernel_rfl) (by kernel_rfl) (by kernel_rfl) (fun _ _ _ h => h) rfl (wt0 rfl) (x_extract rfl rfl) rfl rfl fun a_645 HE646 => ?_
                refine dr_take (i := 10) (ls' := #[true, true, true, true, true, true, true, true, true, true, true, true, false, false, false, false]) HE646 HS638 rfl (by kernel_rfl) (by kernel_rfl) (by kernel_rfl) (fun _ _ _ h => h) rfl (wt0 rfl) (x_extract rfl rfl) rfl rfl fun a_647 HE648 => ?_
                refine dr_one (i := 12) (ls' := #[true, true, true, true, true, true, true, true, true, true, true, true, true, false, false, false]) rfl (by kernel_rfl) rfl fun K_649 hK650 => ?_
                refine st_store (vs := [.int .i64 ((runProg a0 a1 a2).1.1), .slice Ar68_0_1 ((runProg a0 a1 a2).1.2.length) cr68_0_1]) 3 HE648 HH635 tv_43 rfl rfl rfl rfl rfl rfl (by simp [Value.oneCell']) (wt0 rfl) fun w' HH651 => hK650 _ _ (by exact HH651.sel [4, 5, 6, 7, 8, 9, 10, 11, 12, 13, 14, 15] (by decide) rfl) ?_
                have HS652 := HH651.sel [4, 5, 6, 7, 8, 9, 10, 11, 12, 13, 14, 15] (by decide) rfl
                refine dr_take (i := 13) (ls' := #[true, true, true, true, true, true, true, true, true, true, true, true, true, true, false, false]) HE648 HS652 rfl (by kernel_rfl) (by kernel_rfl) (by kernel_rfl) (fun _ _ _ h => h) rfl (wt0 rfl) (x_assign rfl) rfl rfl fun a_653 HE654 => ?_
                refine dr_take (i := 14) (ls' := #[true, true, true, true, true, true, true, true, true, true, true, true, true, true, true, false]) HE654 HS652 rfl (by kernel_rfl) (by kernel_rfl) (by kernel_rfl) (fun _ _ _ h => h) rfl (wt0 rfl) (x_assign rfl) rfl rfl fun a_655 HE656 => ?_
                refine dr_take (i := 15) (ls' := #[true, true, true, true, true, true, true, true, true, true, true, true, true, true, true, true]) HE656 HS652 rfl (by kernel_rfl) (by kernel_rfl) (by kernel_rfl) (fun _ _ _ h => h) rfl (wt0 rfl) (x_assign rfl) rfl rfl fun a_657 HE658 => ?_
                refine dr_done (by kernel_rfl) ?_
                clear HH482 HS343 a_497 HE498 a_501 HE502 a_503 HE504 a_505 HE506 HH499 HS500 K_507 hK508 HH619 a_617 HE618 HS620 K_621 hK622 HH623 a_624 HE625 HS626 K_627 hK628 HH629 a_630 HE631 HS632 a_636 HE637 a_639 HE640 a_641 HE642 a_643 HE644 a_645 HE646 K_633 hK634 HH635 HS638 a_647 HE648 a_653 HE654 a_655 HE656 hK650 K_649
                exact nrm ⟨_, _, _, _, _, _, _, _, _, _, HE658.sub ⟨rfl, rfl, rfl, rfl, rfl, rfl, rfl, rfl, rfl, rfl, trivial⟩, HH651.sel [3, 0, 1, 2, 4, 5, 6, 7, 8, 9, 10, 11, 12, 13, 14, 15] (by decide) rfl⟩
            · rintro a_659 w' ⟨q59, Ar58_0_1, cr58_0_1, Sr58, Sr57, Ar57_1, cr57_1, Sr56, Ar56, cr56, HE660, HH661⟩
              refine nrm ?_
              refine wp_seq ?_
              refine wp_seq ?_
              refine rg ?_
              refine pl_x HE660 HH661 (wt0 rfl) (x_loadN (cs := [.int .i64 ((runProg a0 a1 a2).1.1), .slice Ar58_0_1 ((runProg a0 a1 a2).1.2.length) cr58_0_1]) tv_43 rfl rfl (c_blkN 0 rfl)) rfl rfl fun a_662 HE663 => ?_
              refine pl_x HE663 HH661 (wt0 rfl) (x_loadN (cs := [.int .i64 ((runProg a0 a1 a2).1.1), .slice Ar28_0_1 ((runProg a0 a1 a2).1.2.length) cr28_0_1]) tv_43 rfl rfl (c_blkN 11 rfl)) rfl rfl fun a_664 HE665 => ?_
              refine pl fun K_666 hK667 => ?_
              refine st_call HE665 (wt0 rfl) rfl rfl rfl en_31 rfl rfl (eq_Store_c [.int .i64 ((runProg a0 a1 a2).1.1), .slice Ar58_0_1 ((runProg a0 a1 a2).1.2.length) cr58_0_1] [.int .i64 ((runProg a0 a1 a2).1.1), .slice Ar28_0_1 ((runProg a0 a1 a2).1.2.length) cr28_0_1] ((runProg a0 a1 a2).1) ((runProg a0 a1 a2).1) _ (HH661.rd (i := 1) rfl) (HH661.rd (i := 12) rfl)) fun e w' hr => ?_
              obtain ⟨rfl, hbr69⟩ := hr
              have HH668 := HH661.on hbr69
              clear hbr69
              refine ⟨_, rfl, fun a_669 HE670 => hK667 _ _ ?_⟩
              refine pl_x HE670 HH668 (wt0 rfl) (x_not rfl) rfl rfl fun a_671 HE672 => ?_
              refine pl_x HE672 HH668 (wt0 rfl) (x_move rfl) rfl rfl fun a_673 HE674 => ?_
              refine pl_x HE674 HH668 (wtT HE674 rfl rfl rfl (not_f (eq_Store_refl _))) (x_move rfl) rfl rfl fun a_675 HE676 => ?_
              refine pl_x HE676 HH668 (wtT HE676 rfl rfl rfl (not_f (eq_Store_refl _))) (x_move rfl) rfl rfl fun a_677 HE678 => ?_
              refine pl_x HE678 HH668 (wtT HE678 rfl rfl rfl (not_f (eq_Store_refl _))) (x_neq rfl rfl) rfl rfl fun a_679 HE680 => ?_
              refine pl_x HE680 HH668 (wt0 rfl) (x_pickF rfl (not_f (eq_Store_refl _)) rfl) rfl rfl fun a_681 HE682 => ?_
              refine pl_x HE682 HH668 (wt0 rfl) (x_move rfl) rfl rfl fun a_683 HE684 => ?_
              refine pl_x HE684 HH668 (wtT HE684 rfl rfl rfl (bne_f rfl)) (x_move rfl) rfl rfl fun a_685 HE686 => ?_
              refine pl_x HE686 HH668 (wtT HE686 rfl rfl rfl (bne_f rfl)) (x_move rfl) rfl rfl fun a_687 HE688 => ?_
              refine pl_x HE688 HH668 (wtT HE688 rfl rfl rfl (bne_f rfl)) (x_bneq Try.underlying4 rfl rfl) rfl rfl fun a_689 HE690 => ?_
              refine pl_x HE690 HH668 (wt0 rfl) (x_pickF rfl (bne_f rfl) rfl) rfl rfl fun a_691 HE692 => ?_
              refine pl_x HE692 HH668 (wt0 rfl) (x_move rfl) rfl rfl fun a_693 HE694 => ?_
              refine pl_x HE694 HH668 (wtT HE694 rfl rfl rfl (not_f (beq_self_eq_true _))) (x_move rfl) rfl rfl fun a_695 HE696 => ?_
              refine pl_x HE696 HH668 (wtT HE696 rfl rfl rfl (not_f (beq_self_eq_true _))) (x_move rfl) rfl rfl fun a_697 HE698 => ?_
              refine pl_x HE698 HH668 (wtT HE698 rfl rfl rfl (not_f (beq_self_eq_true _))) (x_neq rfl rfl) rfl rfl fun a_699 HE700 => ?_
              refine pl_x HE700 HH668 (wt0 rfl) (x_pickF rfl (not_f (beq_self_eq_true _)) rfl) rfl rfl fun a_701 HE702 => ?_
              refine wpList_nil ?_
              clear a_497 HE498 HH482 a_659 HE660 a_662 HE663 HH661 a_664 HE665 a_669 HE670 a_671 HE672 a_673 HE674 a_675 HE676 a_677 HE678 a_679 HE680 a_681 HE682 a_683 HE684 a_685 HE686 a_687 HE688 a_689 HE690 a_691 HE692 a_693 HE694 a_695 HE696 a_697 HE698 a_699 HE700 hK667 K_666
              refine nrm ?_
              refine cndF HE702 rfl (bne_f rfl) ?_
              refine wp_skip ?_
              refine nrm ?_
              refine wp_seq ?_
              refine rg ?_
              refine pl_x HE702 HH668 (wt0 rfl) (x_assign rfl) rfl rfl fun a_703 HE704 => ?_
              refine wpList_nil ?_
              clear a_701 HE702
              refine nrm ?_
              refine wp_seq ?_
              refine rg ?_
              refine pl_x HE704 HH668 (wt0 rfl) (x_loadN (cs := [.int .i64 ((runProg a0 a1 a2).1.1), .slice Ar42_0_1 ((runProg a0 a1 a2).1.2.length) cr42_0_1]) tv_43 rfl rfl (c_blkN 6 rfl)) rfl rfl fun a_705 HE706 => ?_
              refine pl_x HE706 HH668 (wt0 rfl) (x_move rfl) rfl rfl fun a_707 HE708 => ?_
              refine pl fun K_709 hK710 => ?_
              refine st_call HE708 (wt0 rfl) rfl rfl rfl en_36 rfl rfl (held_Store_c [.int .i64 ((runProg a0 a1 a2).1.1), .slice Ar42_0_1 ((runProg a0 a1 a2).1.2.length) cr42_0_1] ((runProg a0 a1 a2).1) 1 _ (HH668.rd (i := 7) rfl) (by omega) (by omega)) fun e w' hr => ?_
              obtain ⟨rfl, hbr70⟩ := hr
              have HH711 := HH668.on hbr70
              clear hbr70
              refine ⟨_, rfl, fun a_712 HE713 => hK710 _ _ ?_⟩
              refine pl_x HE713 HH711 (wt0 rfl) (x_assign rfl) rfl rfl fun a_714 HE715 => ?_
              refine wpList_nil ?_
              clear a_703 HE704 a_705 HE706 HH668 a_707 HE708 a_712 HE713 hK710 K_709
              refine nrm ?_
              refine wp_seq ?_
              refine wp_seq ?_
              refine rg ?_
              refine pl_x HE715 HH711 (wt0 rfl) (x_move rfl) rfl rfl fun a_716 HE717 => ?_
              refine pl_x HE717 HH711 (wt0 rfl) (x_lss rfl rfl) rfl rfl fun a_718 HE719 => ?_
              refine wpList_nil ?_
              clear a_714 HE715 a_716 HE717
              refine nrm ?_
              refine cndF HE719 rfl (decide_eq_false hc55) ?_
              refine wp_skip ?_
              refine nrm ?_
              refine wp_seq ?_
              refine wp_seq ?_
              refine rg ?_
              refine pl_x HE719 HH711 (wt0 rfl) (x_move rfl) rfl rfl fun a_720 HE721 => ?_
              refine pl_x HE721 HH711 (wt0 rfl) (x_move rfl) rfl rfl fun a_722 HE723 => ?_
              refine pl_x HE723 HH711 (wt0 rfl) (x_neq rfl rfl) rfl rfl fun a_724 HE725 => ?_
              refine wpList_nil ?_
              clear a_718 HE719 a_720 HE721 a_722 HE723
              refine nrm ?_
              refine cndF HE725 rfl (bne_f rfl) ?_
              refine wp_skip ?_
              refine nrm ?_
              refine wp_seq ?_
              refine rg ?_
              refine pl_x HE725 HH711 (wt0 rfl) (x_assign rfl) rfl rfl fun a_726 HE727 => ?_
              refine wpList_nil ?_
              clear a_724 HE725
              refine nrm ?_
              refine wp_ret ?_
              refine ret1 HE727 rfl (rv_tmp rfl) ?_
              have hF : true = true := by
                first | rfl | (exfalso; omega)
              exact ⟨by rw [hF] <;> rfl, HH711.below⟩

end Go.Proofs.Ytfcajgbehecfbaa
