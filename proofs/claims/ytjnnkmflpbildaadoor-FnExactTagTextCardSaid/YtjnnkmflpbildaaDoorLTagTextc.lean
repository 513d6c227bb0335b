/- What the proof of FnExactTagText needs: contracts of the functions that it reaches, each once. -/
import Derived.Test.YtjnnkmflpbildaaDoorProg
import Derived.Test.YtjnnkmflpbildaaDoorQMem
import Derived.Test.YtjnnkmflpbildaaDoorQOpen
import Derived.Test.YtjnnkmflpbildaaDoorLTagTexta
import Derived.Test.YtjnnkmflpbildaaDoorLTagTextb
import Derived.WalkKit
import Derived.WalkSpells
import Derived.Below
import Derived.LoopTactic
import Derived.Outline
import Derived.Deep.QuietTactic
import Derived.BigQuiet
import Derived.Deep.LoopGhost
import Derived.Handy
import Derived.Lib.Hide
import Derived.Shelf.Abstract
import Derived.StillTailTactics
import Derived.OwnWalk
import Derived.Maps.AppendAt
import Derived.RegionTactic
import Derived.Deep.RegionHeld3
import Derived.IntWalk
import Derived.Deep.Upon
import Derived.Laws.OwnMore
import Derived.Maps.AppendAt
import Derived.Laws.BytesString
import Derived.Laws.Strings
import Derived.Lib.Bytes
import Derived.Lib.Strings
import Derived.Lib.FrozenHead
import Derived.Lib.RuneBytes
import Derived.Lib.LaidTab
import Derived.Laws.StructEq
import Derived.Lib.ItoaLen
import Derived.Lib.Join
import Derived.Shelf.Strconv.Itoa4
import Derived.Shelf.Strings.OnBuilder
import Derived.Shelf.Strings.BuilderK
import Derived.Shelf.Strings.BuilderRune
import Derived.Shelf.LaysM
import Derived.Ground.NamesProg
namespace Go.Proofs.YtjnnkmflpbildaaDoor
open Go.RowKit

set_option maxRecDepth 100000 in
set_option maxHeartbeats 4000000 in
theorem spec_l09Text (p0 o0 : Nat) (es0 : List Value) (a0 : tTag) (w : World) (h0 : eTag.R w (Old w) es0 a0) (hq0 : ∀ j v, es0[j]? = some v → w.cell? ⟨p0, o0 + j, none⟩ = some v) (v0 : 1 ≤ a0.1 ∧ a0.1 ≤ 4) (v1 : a0.2.1.length ≤ 200) (v2 : ∀ w ∈ a0.2.1, lets w) (v3 : lets a0.2.2) :
    Calls Tryd.prog 84 #[.pointer (some ⟨p0, o0, none⟩)] w fun e w' => e = .returned (.string (bs ((fun t => Go.Lib.itoa t.1 ++ [58] ++ wordsT t.2.1 ++ [58] ++ dotT t.2.2) a0))) ∧ Below w.heap.size w w' := by
  have H0 := h0
  obtain ⟨Az0_1, cz0_1, Az0_2, cz0_2, rfl, gz0_0, gz0_1, gz0_2⟩ := shape_Tag h0
  have jz0_0 := gz0_0; unfold I64 at jz0_0
  have lz0_1 := gz0_1.len
  have lz0_2 := gz0_2.len
  have HH1 := Held.start Nob w
  refine enter (n := 22) Tryd.func84 rfl rfl rfl fun a_2 HE3 => ?_
  refine wp_seq ?_
  refine rg ?_
  refine pl_x HE3 HH1 (wt0 rfl) (x_assign rfl) rfl rfl fun a_4 HE5 => ?_
  refine wpList_nil ?_
  clear a_2 HE3
  refine nrm ?_
  refine wp_seq ?_
  refine dr_start (Held Nob w []) 20 #[false, false, false, false, false, false, false, false, false, false, false, false, false, false, false, false, false, false, false, false] hmix rfl rfl HH1 (fun _ h => h.sel [] (by decide) rfl) fun w' HH6 => ?_
  have HS7 := HH6
  refine dr_take (i := 0) (ls' := #[true, false, false, false, false, false, false, false, false, false, false, false, false, false, false, false, false, false, false, false]) HE5 HS7 rfl (by kernel_rfl) (by kernel_rfl) (by kernel_rfl) (fun _ _ _ h => h) rfl (wt0 rfl) (x_move rfl) rfl rfl fun a_8 HE9 => ?_
  refine dr_take (i := 1) (ls' := #[true, true, false, false, false, false, false, false, false, false, false, false, false, false, false, false, false, false, false, false]) HE9 HS7 rfl (by kernel_rfl) (by kernel_rfl) (by kernel_rfl) (fun _ _ _ h => h) rfl (wt0 rfl) (x_nilCheck rfl) rfl rfl fun a_10 HE11 => ?_
  refine dr_take (i := 2) (ls' := #[true, true, true, false, false, false, false, false, false, false, false, false, false, false, false, false, false, false, false, false]) HE11 HS7 rfl (by kernel_rfl) (by kernel_rfl) (by kernel_rfl) (fun _ _ _ h => h) rfl (wt0 rfl) (x_fieldAddr fa_64_0 rfl) rfl rfl fun a_12 HE13 => ?_
  refine dr_take (i := 3) (ls' := #[true, true, true, true, false, false, false, false, false, false, false, false, false, false, false, false, false, false, false, false]) HE13 HS7 rfl (by kernel_rfl) (by kernel_rfl) (by kernel_rfl) (fun _ _ _ h => h) rfl (wt0 rfl) (x_load1 tv_2 rfl (c_old (hq0 0 _ rfl))) rfl rfl fun a_14 HE15 => ?_
  refine dr_take (i := 6) (ls' := #[true, true, true, true, false, false, true, false, false, false, false, false, false, false, false, false, false, false, false, false]) HE15 HS7 rfl (by kernel_rfl) (by kernel_rfl) (by kernel_rfl) (fun _ _ _ h => h) rfl (wt0 rfl) (x_move rfl) rfl rfl fun a_16 HE17 => ?_
  refine dr_take (i := 7) (ls' := #[true, true, true, true, false, false, true, true, false, false, false, false, false, false, false, false, false, false, false, false]) HE17 HS7 rfl (by kernel_rfl) (by kernel_rfl) (by kernel_rfl) (fun _ _ _ h => h) rfl (wt0 rfl) (x_nilCheck rfl) rfl rfl fun a_18 HE19 => ?_
  refine dr_take (i := 8) (ls' := #[true, true, true, true, false, false, true, true, true, false, false, false, false, false, false, false, false, false, false, false]) HE19 HS7 rfl (by kernel_rfl) (by kernel_rfl) (by kernel_rfl) (fun _ _ _ h => h) rfl (wt0 rfl) (x_fieldAddr fa_64_1 rfl) rfl rfl fun a_20 HE21 => ?_
  refine dr_take (i := 9) (ls' := #[true, true, true, true, false, false, true, true, true, true, false, false, false, false, false, false, false, false, false, false]) HE21 HS7 rfl (by kernel_rfl) (by kernel_rfl) (by kernel_rfl) (fun _ _ _ h => h) rfl (wt0 rfl) (x_load1 tv_42 rfl (c_old (hq0 1 _ rfl))) rfl rfl fun a_22 HE23 => ?_
  refine dr_take (i := 13) (ls' := #[true, true, true, true, false, false, true, true, true, true, false, false, false, true, false, false, false, false, false, false]) HE23 HS7 rfl (by kernel_rfl) (by kernel_rfl) (by kernel_rfl) (fun _ _ _ h => h) rfl (wt0 rfl) (x_move rfl) rfl rfl fun a_24 HE25 => ?_
  refine dr_take (i := 14) (ls' := #[true, true, true, true, false, false, true, true, true, true, false, false, false, true, true, false, false, false, false, false]) HE25 HS7 rfl (by kernel_rfl) (by kernel_rfl) (by kernel_rfl) (fun _ _ _ h => h) rfl (wt0 rfl) (x_nilCheck rfl) rfl rfl fun a_26 HE27 => ?_
  refine dr_take (i := 15) (ls' := #[true, true, true, true, false, false, true, true, true, true, false, false, false, true, true, true, false, false, false, false]) HE27 HS7 rfl (by kernel_rfl) (by kernel_rfl) (by kernel_rfl) (fun _ _ _ h => h) rfl (wt0 rfl) (x_fieldAddr fa_64_2 rfl) rfl rfl fun a_28 HE29 => ?_
  refine dr_take (i := 16) (ls' := #[true, true, true, true, false, false, true, true, true, true, false, false, false, true, true, true, true, false, false, false]) HE29 HS7 rfl (by kernel_rfl) (by kernel_rfl) (by kernel_rfl) (fun _ _ _ h => h) rfl (wt0 rfl) (x_load1 tv_51 rfl (c_old (hq0 2 _ rfl))) rfl rfl fun a_30 HE31 => ?_
  refine dr_one (i := 4) (ls' := #[true, true, true, true, true, false, true, true, true, true, false, false, false, true, true, true, true, false, false, false]) rfl (by kernel_rfl) rfl fun K_32 hK33 => ?_
  refine st_call HE31 (wt0 rfl) rfl rfl rfl en_103 rfl rfl (spec_l01Dec a0.1 _ (by omega)) fun e w' hr => ?_
  have hAr21_0 := itoa_len (n := a0.1) (by omega)
  obtain ⟨rfl, hbr21⟩ := hr
  have HH34 := HH6.on hbr21
  refine ⟨_, rfl, fun a_35 HE36 => hK33 _ _ (by exact HH34.sel [] (by decide) rfl) ?_⟩
  have HS37 := HH34.sel [] (by decide) rfl
  refine dr_take (i := 5) (ls' := #[true, true, true, true, true, true, true, true, true, true, false, false, false, true, true, true, true, false, false, false]) HE36 HS37 rfl (by kernel_rfl) (by kernel_rfl) (by kernel_rfl) (fun _ _ _ h => h) rfl (wt0 rfl) (x_sadd rfl rfl (by first | omega | (simp only [List.length_append, List.length_cons, List.length_nil]; omega) | (simp; omega))) rfl rfl fun a_38 HE39 => ?_
  refine dr_one (i := 10) (ls' := #[true, true, true, true, true, true, true, true, true, true, true, false, false, true, true, true, true, false, false, false]) rfl (by kernel_rfl) rfl fun K_40 hK41 => ?_
  refine st_call HE39 (wt0 rfl) rfl rfl rfl en_71 rfl rfl (spec_l09Words _ _ a0.2.1 _ (HH34.old gz0_1) (by omega) (by assumption)) fun e w' hr => ?_
  have hAr22_0 := wordsT_len (l := a0.2.1) (by assumption) (by omega)
  obtain ⟨rfl, hbr22⟩ := hr
  have HH42 := HH34.on hbr22
  refine ⟨_, rfl, fun a_43 HE44 => hK41 _ _ (by exact HH42.sel [] (by decide) rfl) ?_⟩
  have HS45 := HH42.sel [] (by decide) rfl
  refine dr_take (i := 11) (ls' := #[true, true, true, true, true, true, true, true, true, true, true, true, false, true, true, true, true, false, false, false]) HE44 HS45 rfl (by kernel_rfl) (by kernel_rfl) (by kernel_rfl) (fun _ _ _ h => h) rfl (wt0 rfl) (x_sadd rfl rfl (by first | omega | (simp only [List.length_append, List.length_cons, List.length_nil]; omega) | (simp; omega))) rfl rfl fun a_46 HE47 => ?_
  refine dr_take (i := 12) (ls' := #[true, true, true, true, true, true, true, true, true, true, true, true, true, true, true, true, true, false, false, false]) HE47 HS45 rfl (by kernel_rfl) (by kernel_rfl) (by kernel_rfl) (fun _ _ _ h => h) rfl (wt0 rfl) (x_sadd rfl rfl (by first | omega | (simp only [List.length_append, List.length_cons, List.length_nil]; omega) | (simp; omega))) rfl rfl fun a_48 HE49 => ?_
  refine dr_one (i := 17) (ls' := #[true, true, true, true, true, true, true, true, true, true, true, true, true, true, true, true, true, true, false, false]) rfl (by kernel_rfl) rfl fun K_50 hK51 => ?_
  refine st_call HE49 (wt0 rfl) rfl rfl rfl en_118 rfl rfl (spec_l09Letters _ _ a0.2.2 _ (HH42.old gz0_2) (by assumption)) fun e w' hr => ?_
  have hAr23_0 := dotT_len (w := a0.2.2) (by assumption)
  obtain ⟨rfl, hbr23⟩ := hr
  have HH52 := HH42.on hbr23
  refine ⟨_, rfl, fun a_53 HE54 => hK51 _ _ (by exact HH52.sel [] (by decide) rfl) ?_⟩
  have HS55 := HH52.sel [] (by decide) rfl
  refine dr_take (i := 18) (ls' := #[true, true, true, true, true, true, true, true, true, true, true, true, true, true, true, true, true, true, true, false]) HE54 HS55 rfl (by kernel_rfl) (by kernel_rfl) (by kernel_rfl) (fun _ _ _ h => h) rfl (wt0 rfl) (x_sadd rfl rfl (by first | omega | (simp only [List.length_append, List.length_cons, List.length_nil]; omega) | (simp; omega))) rfl rfl fun a_56 HE57 => ?_
  refine dr_take (i := 19) (ls' := #[true, true, true, true, true, true, true, true, true, true, true, true, true, true, true, true, true, true, true, true]) HE57 HS55 rfl (by kernel_rfl) (by kernel_rfl) (by kernel_rfl) (fun _ _ _ h => h) rfl (wt0 rfl) (x_assign rfl) rfl rfl fun a_58 HE59 => ?_
  refine dr_done (by kernel_rfl) ?_
  clear HH1 a_4 HE5 a_8 HE9 a_10 HE11 a_12 HE13 a_14 HE15 a_16 HE17 a_18 HE19 a_20 HE21 a_22 HE23 a_24 HE25 a_26 HE27 a_28 HE29 HH6 a_30 HE31 HS7 a_35 HE36 K_32 hK33 HH34 a_38 HE39 HS37 a_43 HE44 a_46 HE47 K_40 hK41 HH42 a_48 HE49 HS45 a_53 HE54 a_56 HE57 hK51 K_50
  refine nrm ?_
  refine wp_ret ?_
  refine ret1 HE59 rfl (rv_tmp rfl) ?_
  have hF : ((fun t => Go.Lib.itoa t.1 ++ [58] ++ wordsT t.2.1 ++ [58] ++ dotT t.2.2) a0) = (((((Go.Lib.itoa a0.1) ++ [58]) ++ (wordsT a0.2.1)) ++ [58]) ++ (dotT a0.2.2)) := by
    rfl
  exact ⟨by first | (rw [hF] <;> rfl) | rfl | (rw [hF]; simp only [Ending.returned.injEq, Value.slice.injEq, true_and, and_true]; first | omega | (simp; done)) | (rw [hF]; simp; omega), HH52.below⟩

set_option maxRecDepth 100000 in
set_option maxHeartbeats 4000000 in
theorem spec_TagText (es0 : List Value) (a0 : tTag) (w : World) (h0 : eTag.R w (Old w) es0 a0) :
    Calls Tryd.prog 35 #[.agg es0.toArray] w fun e w' => e = .returned (.string (bs (tagText a0))) ∧ Below w.heap.size w w' := by
  have H0 := h0
  obtain ⟨Az0_1, cz0_1, Az0_2, cz0_2, rfl, gz0_0, gz0_1, gz0_2⟩ := shape_Tag h0
  have jz0_0 := gz0_0; unfold I64 at jz0_0
  have lz0_1 := gz0_1.len
  have lz0_2 := gz0_2.len
  have HH1 := Held.start Nob w
  refine enter (n := 6) Tryd.func35 rfl rfl rfl fun a_2 HE3 => ?_
  refine wp_seq ?_
  refine rg ?_
  refine pl fun K_4 hK5 => ?_
  refine st_box (cs := [.int .i64 (a0.1), .slice Az0_1 (a0.2.1.length) cz0_1, .slice Az0_2 (a0.2.2.length) cz0_2]) HE3 HH1 rfl rfl (wt0 rfl) rfl fun q21 a_6 w' HE7 HH8 => hK5 _ _ ?_
  refine pl_x HE7 HH8 (wt0 rfl) (x_assign rfl) rfl rfl fun a_9 HE10 => ?_
  refine wpList_nil ?_
  clear a_2 HE3 HH1 a_6 HE7 hK5 K_4
  refine nrm ?_
  refine wp_seq ?_
  refine wp_seq ?_
  refine rg ?_
  refine pl fun K_11 hK12 => ?_
  refine st_call HE10 (wt0 rfl) rfl rfl rfl en_83 rfl rfl (spec_l09Is q21 Az0_1 Az0_2 cz0_1 cz0_2 a0 _ (c_blkN 0 rfl _ HH8 0 _ rfl) (c_blkN 0 rfl _ HH8 1 _ rfl) (c_blkN 0 rfl _ HH8 2 _ rfl) (HH8.old gz0_1) (HH8.old gz0_2)) fun e w' hr => ?_
  obtain ⟨rfl, hbr22⟩ := hr
  have HH13 := HH8.on hbr22
  refine ⟨_, rfl, fun a_14 HE15 => hK12 _ _ ?_⟩
  refine pl_x HE15 HH13 (wt0 rfl) (x_not rfl) rfl rfl fun a_16 HE17 => ?_
  refine wpList_nil ?_
  clear HH8 a_9 HE10 a_14 HE15 hK12 K_11
  refine nrm ?_
  refine cnd_nb HE17 rfl (fun hc23 => ?_) (fun hc23 => ?_)
  · refine wp_seq ?_
    refine rg ?_
    refine pl_x HE17 HH13 (wt0 rfl) (x_assign rfl) rfl rfl fun a_18 HE19 => ?_
    refine wpList_nil ?_
    clear a_16 HE17
    refine nrm ?_
    refine wp_ret ?_
    refine (thn_ret ?_)
    refine ret1 HE19 rfl (rv_tmp rfl) ?_
    have hF : (tagText a0) = [] := by
      unfold tagText; simp [hc23]
    exact ⟨by first | (rw [hF] <;> rfl) | rfl | (rw [hF]; simp only [Ending.returned.injEq, Value.slice.injEq, true_and, and_true]; first | omega | (simp; done)) | (rw [hF]; simp; omega), HH13.below⟩
  · obtain ⟨v0, v1, v2, v3⟩ := validTag_ok hc23
    refine wp_skip ?_
    refine nrm ?_
    refine wp_seq ?_
    refine rg ?_
    refine pl fun K_20 hK21 => ?_
    refine st_call HE17 (wt0 rfl) rfl rfl rfl en_84 rfl rfl (spec_l09Text _ _ _ a0 _ (HH13.oldR H0) (c_blkN 0 rfl _ HH13) (by omega) (by omega) (by assumption) (by assumption)) fun e w' hr => ?_
    obtain ⟨rfl, hbr24⟩ := hr
    have HH22 := HH13.on hbr24
    refine ⟨_, rfl, fun a_23 HE24 => hK21 _ _ ?_⟩
    refine pl_x HE24 HH22 (wt0 rfl) (x_assign rfl) rfl rfl fun a_25 HE26 => ?_
    refine wpList_nil ?_
    clear HH13 a_16 HE17 a_23 HE24 hK21 K_20
    refine nrm ?_
    refine wp_ret ?_
    refine ret1 HE26 rfl (rv_tmp rfl) ?_
    have hF : (tagText a0) = (Go.Lib.itoa a0.1 ++ [58] ++ wordsT a0.2.1 ++ [58] ++ dotT a0.2.2) := by
      unfold tagText; simp [hc23]
    exact ⟨by first | (rw [hF] <;> rfl) | rfl | (rw [hF]; simp only [Ending.returned.injEq, Value.slice.injEq, true_and, and_true]; first | omega | (simp; done)) | (rw [hF]; simp; omega), HH22.below⟩

set_option maxRecDepth 100000 in
set_option maxHeartbeats 4000000 in
theorem law_TagText (es0 : List Value) (a0 : tTag) (w : World) (h0 : eTag.R w (Old w) es0 a0) (hG : Glob w) :
    Calls Tryd.prog 8 #[.agg es0.toArray] w fun e w' => e = .returned (.bool true) ∧ Below w.heap.size w w' := by
  have H0 := h0
  obtain ⟨Az0_1, cz0_1, Az0_2, cz0_2, rfl, gz0_0, gz0_1, gz0_2⟩ := shape_Tag h0
  have jz0_0 := gz0_0; unfold I64 at jz0_0
  have lz0_1 := gz0_1.len
  have lz0_2 := gz0_2.len
  have HH1 := Held.start Nob w
  refine enter (n := 27) Tryd.func8 rfl rfl rfl fun a_2 HE3 => ?_
  refine wp_seq ?_
  refine rg ?_
  refine pl fun K_4 hK5 => ?_
  refine st_box (cs := [.int .i64 (a0.1), .slice Az0_1 (a0.2.1.length) cz0_1, .slice Az0_2 (a0.2.2.length) cz0_2]) HE3 HH1 rfl rfl (wt0 rfl) rfl fun q21 a_6 w' HE7 HH8 => hK5 _ _ ?_
  refine pl_x HE7 HH8 (wt0 rfl) (x_assign rfl) rfl rfl fun a_9 HE10 => ?_
  refine wpList_nil ?_
  clear a_2 HE3 HH1 a_6 HE7 hK5 K_4
  refine nrm ?_
  refine wp_seq ?_
  refine rg ?_
  refine pl_x HE10 HH8 (wt0 rfl) (x_assign rfl) rfl rfl fun a_11 HE12 => ?_
  refine wpList_nil ?_
  clear a_9 HE10
  refine nrm ?_
  refine wp_seq ?_
  refine rg ?_
  refine pl_x HE12 HH8 (wt0 rfl) (x_loadN (cs := [.int .i64 (a0.1), .slice Az0_1 (a0.2.1.length) cz0_1, .slice Az0_2 (a0.2.2.length) cz0_2]) tv_61 rfl rfl (c_blkN 0 rfl)) rfl rfl fun a_13 HE14 => ?_
  refine pl_x HE14 HH8 (wt0 rfl) (x_move rfl) rfl rfl fun a_15 HE16 => ?_
  refine pl fun K_17 hK18 => ?_
  refine st_call HE16 (wt0 rfl) rfl rfl rfl en_34 rfl rfl (sz_Tag [.int .i64 (a0.1), .slice Az0_1 (a0.2.1.length) cz0_1, .slice Az0_2 (a0.2.2.length) cz0_2] a0 1048576 _ (HH8.oldR H0) (by omega) (by omega)) fun e w' hr => ?_
  obtain ⟨rfl, hbr22⟩ := hr
  have HH19 := HH8.on hbr22
  clear hbr22
  refine ⟨_, rfl, fun a_20 HE21 => hK18 _ _ ?_⟩
  refine pl_x HE21 HH19 (wt0 rfl) (x_assign rfl) rfl rfl fun a_22 HE23 => ?_
  refine wpList_nil ?_
  clear a_11 HE12 a_13 HE14 HH8 a_15 HE16 a_20 HE21 hK18 K_17
  refine nrm ?_
  refine wp_seq ?_
  refine wp_seq ?_
  refine rg ?_
  refine pl_x HE23 HH19 (wt0 rfl) (x_move rfl) rfl rfl fun a_24 HE25 => ?_
  refine pl_x HE25 HH19 (wt0 rfl) (x_lss rfl rfl) rfl rfl fun a_26 HE27 => ?_
  refine wpList_nil ?_
  clear a_22 HE23 a_24 HE25
  refine nrm ?_
  refine cnd_d HE27 rfl (fun hc23 => ?_) (fun hc23 => ?_)
  · refine wp_seq ?_
    refine rg ?_
    refine pl_x HE27 HH19 (wt0 rfl) (x_assign rfl) rfl rfl fun a_28 HE29 => ?_
    refine wpList_nil ?_
    clear a_26 HE27
    refine nrm ?_
    refine wp_ret ?_
    refine (thn_ret ?_)
    refine ret1 HE29 rfl (rv_tmp rfl) ?_
    have hF : true = true := by
      first | rfl | (exfalso; omega)
    exact ⟨by first | (rw [hF] <;> rfl) | rfl | (rw [hF]; simp only [Ending.returned.injEq, Value.slice.injEq, true_and, and_true]; first | omega | (simp; done)) | (rw [hF]; simp; omega), HH19.below⟩
  · have zr22 := left_ok hc23
    refine wp_skip ?_
    refine nrm ?_
    refine wp_seq ?_
    refine rg ?_
    refine pl_x HE27 HH19 (wt0 rfl) (x_loadN (cs := [.int .i64 (a0.1), .slice Az0_1 (a0.2.1.length) cz0_1, .slice Az0_2 (a0.2.2.length) cz0_2]) tv_61 rfl rfl (c_blkN 0 rfl)) rfl rfl fun a_30 HE31 => ?_
    refine pl fun K_32 hK33 => ?_
    refine st_call HE31 (wt0 rfl) rfl rfl rfl en_36 rfl rfl (to_Tag [.int .i64 (a0.1), .slice Az0_1 (a0.2.1.length) cz0_1, .slice Az0_2 (a0.2.2.length) cz0_2] a0 _ (HH19.oldR H0) (by omega)) fun e w' hr => ?_
    obtain ⟨esr24, rfl, hor24, hbr24⟩ := hr
    have hr := eTag.read hor24
    obtain ⟨Sr24, HH34⟩ := HH19.newO hbr24 hor24
    obtain ⟨Ar24_1, cr24_1, Ar24_2, cr24_2, rfl, gr24_0, gr24_1, gr24_2⟩ := shape_Tag hr
    clear hbr24 hor24 gr24_0 gr24_1 gr24_2
    refine ⟨_, rfl, fun a_35 HE36 => hK33 _ _ ?_⟩
    refine pl fun K_37 hK38 => ?_
    refine st_call HE36 (wt0 rfl) rfl rfl rfl en_35 rfl rfl (spec_TagText [.int .i64 (a0.1), .slice Ar24_1 (a0.2.1.length) cr24_1, .slice Ar24_2 (a0.2.2.length) cr24_2] a0 _ (HH34.rd (i := 0) rfl)) fun e w' hr => ?_
    obtain ⟨rfl, hbr25⟩ := hr
    have HH39 := HH34.on hbr25
    refine ⟨_, rfl, fun a_40 HE41 => hK38 _ _ ?_⟩
    refine pl_x HE41 HH39 (wt0 rfl) (x_assign rfl) rfl rfl fun a_42 HE43 => ?_
    refine wpList_nil ?_
    clear a_26 HE27 HH19 a_30 HE31 K_32 hK33 HH34 a_35 HE36 a_40 HE41 hK38 K_37
    refine nrm ?_
    refine wp_seq ?_
    refine rg ?_
    refine pl_x HE43 HH39 (wt0 rfl) (x_loadN (cs := [.int .i64 (a0.1), .slice Az0_1 (a0.2.1.length) cz0_1, .slice Az0_2 (a0.2.2.length) cz0_2]) tv_61 rfl rfl (c_blkN 1 rfl)) rfl rfl fun a_44 HE45 => ?_
    refine pl fun K_46 hK47 => ?_
    refine st_call HE45 (wt0 rfl) rfl rfl rfl en_36 rfl rfl (to_Tag [.int .i64 (a0.1), .slice Az0_1 (a0.2.1.length) cz0_1, .slice Az0_2 (a0.2.2.length) cz0_2] a0 _ (HH39.oldR H0) (by omega)) fun e w' hr => ?_
    obtain ⟨esr26, rfl, hor26, hbr26⟩ := hr
    have hr := eTag.read hor26
    obtain ⟨Sr26, HH48⟩ := HH39.newO hbr26 hor26
    obtain ⟨Ar26_1, cr26_1, Ar26_2, cr26_2, rfl, gr26_0, gr26_1, gr26_2⟩ := shape_Tag hr
    clear hbr26 hor26 gr26_0 gr26_1 gr26_2
    refine ⟨_, rfl, fun a_49 HE50 => hK47 _ _ ?_⟩
    refine pl fun K_51 hK52 => ?_
    refine st_alloc HE50 HH48 tv_64 (wt0 rfl) rfl fun q27 a_53 w' HE54 HH55 => hK52 _ _ ?_
    refine pl fun K_56 hK57 => ?_
    refine st_store (vs := [.int .i64 (a0.1), .slice Ar26_1 (a0.2.1.length) cr26_1, .slice Ar26_2 (a0.2.2.length) cr26_2]) 0 HE54 HH55 tv_64 rfl rfl rfl rfl rfl rfl (by simp [Value.oneCell']) (wt0 rfl) fun w' HH58 => hK57 _ _ ?_
    refine wpList_nil ?_
    clear a_42 HE43 HH39 a_44 HE45 K_46 hK47 a_49 HE50 HH48 K_51 hK52 HH55 hK57 K_56
    refine nrm ?_
    refine wp_seq ?_
    refine rg ?_
    refine pl_x HE54 HH58 (wt0 rfl) (x_loadN (cs := [.int .i64 (a0.1), .slice Ar26_1 (a0.2.1.length) cr26_1, .slice Ar26_2 (a0.2.2.length) cr26_2]) tv_64 rfl rfl (c_blkN 0 rfl)) rfl rfl fun a_59 HE60 => ?_
    refine pl fun K_61 hK62 => ?_
    refine st_call HE60 (wt0 rfl) rfl rfl rfl en_37 rfl rfl (impl_TagText [.int .i64 (a0.1), .slice Ar26_1 (a0.2.1.length) cr26_1, .slice Ar26_2 (a0.2.2.length) cr26_2] a0 _ (HH58.rd (i := 1) rfl) (HH58.glob hG)) fun e w' hr => ?_
    obtain ⟨rfl, hbr28⟩ := hr
    have HH63 := HH58.on hbr28
    refine ⟨_, rfl, fun a_64 HE65 => hK62 _ _ ?_⟩
    refine pl_x HE65 HH63 (wt0 rfl) (x_assign rfl) rfl rfl fun a_66 HE67 => ?_
    refine wpList_nil ?_
    clear a_53 HE54 HH58 a_59 HE60 a_64 HE65 hK62 K_61
    refine nrm ?_
    refine wp_seq ?_
    refine wp_seq ?_
    refine rg ?_
    refine pl_x HE67 HH63 (wt0 rfl) (x_move rfl) rfl rfl fun a_68 HE69 => ?_
    refine pl_x HE69 HH63 (wt0 rfl) (x_move rfl) rfl rfl fun a_70 HE71 => ?_
    refine pl_x HE71 HH63 (wt0 rfl) (x_sneqB rfl rfl) rfl rfl fun a_72 HE73 => ?_
    refine wpList_nil ?_
    clear a_66 HE67 a_68 HE69 a_70 HE71
    refine nrm ?_
    refine cndF HE73 rfl (not_f (decide_eq_true rfl)) ?_
    refine wp_skip ?_
    refine nrm ?_
    refine wp_seq ?_
    refine wp_seq ?_
    refine dr_start (Held Nob w [rBlk q27 64 [.int .i64 (a0.1), .slice Ar26_1 (a0.2.1.length) cr26_1, .slice Ar26_2 (a0.2.2.length) cr26_2], rO eTag Sr26 [.int .i64 (a0.1), .slice Ar26_1 (a0.2.1.length) cr26_1, .slice Ar26_2 (a0.2.2.length) cr26_2] a0, rO eTag Sr24 [.int .i64 (a0.1), .slice Ar24_1 (a0.2.1.length) cr24_1, .slice Ar24_2 (a0.2.2.length) cr24_2] a0, rBlk q21 61 [.int .i64 (a0.1), .slice Az0_1 (a0.2.1.length) cz0_1, .slice Az0_2 (a0.2.2.length) cz0_2]]) 5 #[false, false, false, false, false] hmix rfl rfl HH63 (fun _ h => h.sel [0, 1, 2, 3] (by decide) rfl) fun w' HH74 => ?_
    have HS75 := HH74
    refine dr_take (i := 0) (ls' := #[true, false, false, false, false]) HE73 HS75 rfl (by kernel_rfl) (by kernel_rfl) (by kernel_rfl) (fun _ _ _ h => h) rfl (wt0 rfl) (x_loadN (cs := [.int .i64 (a0.1), .slice Ar26_1 (a0.2.1.length) cr26_1, .slice Ar26_2 (a0.2.2.length) cr26_2]) tv_64 rfl rfl (c_blkN 0 rfl)) rfl rfl fun a_76 HE77 => ?_
    refine dr_take (i := 1) (ls' := #[true, true, false, false, false]) HE77 HS75 rfl (by kernel_rfl) (by kernel_rfl) (by kernel_rfl) (fun _ _ _ h => h) rfl (wt0 rfl) (x_loadN (cs := [.int .i64 (a0.1), .slice Az0_1 (a0.2.1.length) cz0_1, .slice Az0_2 (a0.2.2.length) cz0_2]) tv_61 rfl rfl (c_blkN 3 rfl)) rfl rfl fun a_78 HE79 => ?_
    refine dr_one (i := 2) (ls' := #[true, true, true, false, false]) rfl (by kernel_rfl) rfl fun K_80 hK81 => ?_
    refine st_call HE79 (wt0 rfl) rfl rfl rfl en_36 rfl rfl (to_Tag [.int .i64 (a0.1), .slice Az0_1 (a0.2.1.length) cz0_1, .slice Az0_2 (a0.2.2.length) cz0_2] a0 _ (HH74.oldR H0) (by omega)) fun e w' hr => ?_
    obtain ⟨esr29, rfl, hor29, hbr29⟩ := hr
    have hr := eTag.read hor29
    obtain ⟨Sr29, HH82⟩ := HH74.newO hbr29 hor29
    obtain ⟨Ar29_1, cr29_1, Ar29_2, cr29_2, rfl, gr29_0, gr29_1, gr29_2⟩ := shape_Tag hr
    clear hbr29 hor29 gr29_0 gr29_1 gr29_2
    refine ⟨_, rfl, fun a_83 HE84 => hK81 _ _ (by exact HH82.sel [1, 2, 3, 4] (by decide) rfl) ?_⟩
    have HS85 := HH82.sel [1, 2, 3, 4] (by decide) rfl
    refine dr_one (i := 3) (ls' := #[true, true, true, true, false]) rfl (by kernel_rfl) rfl fun K_86 hK87 => ?_
    refine st_call HE84 (wt0 rfl) rfl rfl rfl en_38 rfl rfl (eq_Tag_c [.int .i64 (a0.1), .slice Ar26_1 (a0.2.1.length) cr26_1, .slice Ar26_2 (a0.2.2.length) cr26_2] [.int .i64 (a0.1), .slice Ar29_1 (a0.2.1.length) cr29_1, .slice Ar29_2 (a0.2.2.length) cr29_2] a0 a0 _ (HH82.rd (i := 2) rfl) (HH82.rd (i := 0) rfl)) fun e w' hr => ?_
    obtain ⟨rfl, hbr30⟩ := hr
    have HH88 := HH82.on hbr30
    clear hbr30
    refine ⟨_, rfl, fun a_89 HE90 => hK87 _ _ (by exact HH88.sel [1, 2, 3, 4] (by decide) rfl) ?_⟩
    have HS91 := HH88.sel [1, 2, 3, 4] (by decide) rfl
    refine dr_take (i := 4) (ls' := #[true, true, true, true, true]) HE90 HS91 rfl (by kernel_rfl) (by kernel_rfl) (by kernel_rfl) (fun _ _ _ h => h) rfl (wt0 rfl) (x_not rfl) rfl rfl fun a_92 HE93 => ?_
    refine dr_done (by kernel_rfl) ?_
    clear HH63 a_72 HE73 a_76 HE77 HH74 a_78 HE79 HS75 K_80 hK81 HH82 a_83 HE84 HS85 a_89 HE90 hK87 K_86
    refine nrm ?_
    refine cndF HE93 rfl (not_f (eq_Tag_refl _)) ?_
    refine wp_skip ?_
    refine nrm ?_
    refine wp_seq ?_
    refine rg ?_
    refine pl_x HE93 HH88 (wt0 rfl) (x_assign rfl) rfl rfl fun a_94 HE95 => ?_
    refine wpList_nil ?_
    clear a_92 HE93
    refine nrm ?_
    refine wp_ret ?_
    refine ret1 HE95 rfl (rv_tmp rfl) ?_
    have hF : true = true := by
      first | rfl | (exfalso; omega)
    exact ⟨by first | (rw [hF] <;> rfl) | rfl | (rw [hF]; simp only [Ending.returned.injEq, Value.slice.injEq, true_and, and_true]; first | omega | (simp; done)) | (rw [hF]; simp; omega), HH88.below⟩

end Go.Proofs.YtjnnkmflpbildaaDoor
