/- What the proof of FnExactPalindromeMulti needs: contracts of the functions that it reaches, each once. -/
import Derived.Test.YtcfdkckchbdafaaProg
import Derived.Test.YtcfdkckchbdafaaQMem
import Derived.Test.YtcfdkckchbdafaaQOpen
import Derived.Test.YtcfdkckchbdafaaLPalindromeMultia
import Derived.Test.YtcfdkckchbdafaaLPalindromeMultib
import Derived.WalkKit
import Derived.WalkSpells
import Derived.Below
import Derived.LoopTactic
import Derived.Outline
import Derived.Deep.QuietTactic
import Derived.BigQuiet
import Derived.Deep.LoopGhost
import Derived.Handy
import Derived.Lib.Hide
import Derived.Shelf.Abstract
import Derived.StillTailTactics
import Derived.OwnWalk
import Derived.Maps.AppendAt
import Derived.RegionTactic
import Derived.Deep.RegionHeld3
import Derived.IntWalk
import Derived.Deep.Upon
import Derived.Laws.OwnMore
import Derived.Maps.AppendAt
import Derived.Lib.FrozenHead
import Derived.Lib.RuneBytes
import Derived.Lib.LaidTab
import Derived.Laws.StructEq
import Derived.Lib.ItoaLen
import Derived.Lib.Join
import Derived.Shelf.Strconv.Itoa4
import Derived.Shelf.Strings.OnBuilder
import Derived.Shelf.Strings.BuilderK
import Derived.Shelf.Strings.BuilderRune
import Derived.Shelf.LaysM
import Derived.Ground.NamesProg
import Derived.Shelf.SlSortCmp.WholeK
import Derived.Shelf.SlSortCmp.NoneTotal
import Derived.Lib.RowBridge
namespace Go.Proofs.Ytcfdkckchbdafaa
open Go.RowKit

set_option maxRecDepth 100000 in
set_option maxHeartbeats 4000000 in
theorem spec_l06Before (p0 o0 : Nat) (es0 : List Value) (a0 : tMultiRule) (p1 o1 : Nat) (es1 : List Value) (a1 : tMultiRule) (w : World) (h0 : eMultiRule.R w (Old w) es0 a0) (hq0 : ∀ j v, es0[j]? = some v → w.cell? ⟨p0, o0 + j, none⟩ = some v) (h1 : eMultiRule.R w (Old w) es1 a1) (hq1 : ∀ j v, es1[j]? = some v → w.cell? ⟨p1, o1 + j, none⟩ = some v) :
    Calls Try.prog 111 #[.pointer (some ⟨p0, o0, none⟩), .pointer (some ⟨p1, o1, none⟩)] w fun e w' => e = .returned (.bool (beforeMR a0 a1)) ∧ Below w.heap.size w w' := by
  have H0 := h0
  obtain ⟨Az0_1, cz0_1, Az0_2, cz0_2, Az0_3, cz0_3, rfl, gz0_0, gz0_1, gz0_2, gz0_3, gz0_4⟩ := shape_MultiRule h0
  have jz0_0 := gz0_0; unfold I64 at jz0_0
  have lz0_1 := gz0_1.len
  have lz0_2 := gz0_2.len
  have lz0_3 := gz0_3.len
  have jz0_4 := gz0_4; unfold I64 at jz0_4
  have H1 := h1
  obtain ⟨Az1_1, cz1_1, Az1_2, cz1_2, Az1_3, cz1_3, rfl, gz1_0, gz1_1, gz1_2, gz1_3, gz1_4⟩ := shape_MultiRule h1
  have jz1_0 := gz1_0; unfold I64 at jz1_0
  have lz1_1 := gz1_1.len
  have lz1_2 := gz1_2.len
  have lz1_3 := gz1_3.len
  have jz1_4 := gz1_4; unfold I64 at jz1_4
  have HH1 := Held.start Nob w
  refine enter (n := 37) Try.func111 rfl rfl rfl fun a_2 HE3 => ?_
  refine wp_seq ?_
  refine rg ?_
  refine pl_x HE3 HH1 (wt0 rfl) (x_assign rfl) rfl rfl fun a_4 HE5 => ?_
  refine wpList_nil ?_
  clear a_2 HE3
  refine nrm ?_
  refine wp_seq ?_
  refine dr_start (Held Nob w []) 33 #[false, false, false, false, false, false, false, false, false, false, false, false, false, false, false, false, false, false, false, false, false, false, false, false, false, false, false, false, false, false, false, false, false] hmix rfl rfl HH1 (fun _ h => h.sel [] (by decide) rfl) fun w' HH6 => ?_
  have HS7 := HH6
  refine dr_take (i := 0) (ls' := #[true, false, false, false, false, false, false, false, false, false, false, false, false, false, false, false, false, false, false, false, false, false, false, false, false, false, false, false, false, false, false, false, false]) HE5 HS7 rfl (by kernel_rfl) (by kernel_rfl) (by kernel_rfl) (fun _ _ _ h => h) rfl (wt0 rfl) (x_move rfl) rfl rfl fun a_8 HE9 => ?_
  refine dr_take (i := 1) (ls' := #[true, true, false, false, false, false, false, false, false, false, false, false, false, false, false, false, false, false, false, false, false, false, false, false, false, false, false, false, false, false, false, false, false]) HE9 HS7 rfl (by kernel_rfl) (by kernel_rfl) (by kernel_rfl) (fun _ _ _ h => h) rfl (wt0 rfl) (x_nilCheck rfl) rfl rfl fun a_10 HE11 => ?_
  refine dr_take (i := 2) (ls' := #[true, true, true, false, false, false, false, false, false, false, false, false, false, false, false, false, false, false, false, false, false, false, false, false, false, false, false, false, false, false, false, false, false]) HE11 HS7 rfl (by kernel_rfl) (by kernel_rfl) (by kernel_rfl) (fun _ _ _ h => h) rfl (wt0 rfl) (x_fieldAddr fa_108_0 rfl) rfl rfl fun a_12 HE13 => ?_
  refine dr_take (i := 3) (ls' := #[true, true, true, true, false, false, false, false, false, false, false, false, false, false, false, false, false, false, false, false, false, false, false, false, false, false, false, false, false, false, false, false, false]) HE13 HS7 rfl (by kernel_rfl) (by kernel_rfl) (by kernel_rfl) (fun _ _ _ h => h) rfl (wt0 rfl) (x_load1 tv_2 rfl (c_old (hq0 0 _ rfl))) rfl rfl fun a_14 HE15 => ?_
  refine dr_take (i := 4) (ls' := #[true, true, true, true, true, false, false, false, false, false, false, false, false, false, false, false, false, false, false, false, false, false, false, false, false, false, false, false, false, false, false, false, false]) HE15 HS7 rfl (by kernel_rfl) (by kernel_rfl) (by kernel_rfl) (fun _ _ _ h => h) rfl (wt0 rfl) (x_move rfl) rfl rfl fun a_16 HE17 => ?_
  refine dr_take (i := 5) (ls' := #[true, true, true, true, true, true, false, false, false, false, false, false, false, false, false, false, false, false, false, false, false, false, false, false, false, false, false, false, false, false, false, false, false]) HE17 HS7 rfl (by kernel_rfl) (by kernel_rfl) (by kernel_rfl) (fun _ _ _ h => h) rfl (wt0 rfl) (x_nilCheck rfl) rfl rfl fun a_18 HE19 => ?_
  refine dr_take (i := 6) (ls' := #[true, true, true, true, true, true, true, false, false, false, false, false, false, false, false, false, false, false, false, false, false, false, false, false, false, false, false, false, false, false, false, false, false]) HE19 HS7 rfl (by kernel_rfl) (by kernel_rfl) (by kernel_rfl) (fun _ _ _ h => h) rfl (wt0 rfl) (x_fieldAddr fa_108_0 rfl) rfl rfl fun a_20 HE21 => ?_
  refine dr_take (i := 7) (ls' := #[true, true, true, true, true, true, true, true, false, false, false, false, false, false, false, false, false, false, false, false, false, false, false, false, false, false, false, false, false, false, false, false, false]) HE21 HS7 rfl (by kernel_rfl) (by kernel_rfl) (by kernel_rfl) (fun _ _ _ h => h) rfl (wt0 rfl) (x_load1 tv_2 rfl (c_old (hq1 0 _ rfl))) rfl rfl fun a_22 HE23 => ?_
  refine dr_take (i := 8) (ls' := #[true, true, true, true, true, true, true, true, true, false, false, false, false, false, false, false, false, false, false, false, false, false, false, false, false, false, false, false, false, false, false, false, false]) HE23 HS7 rfl (by kernel_rfl) (by kernel_rfl) (by kernel_rfl) (fun _ _ _ h => h) rfl (wt0 rfl) (x_lss rfl rfl) rfl rfl fun a_24 HE25 => ?_
  refine dr_take (i := 9) (ls' := #[true, true, true, true, true, true, true, true, true, true, false, false, false, false, false, false, false, false, false, false, false, false, false, false, false, false, false, false, false, false, false, false, false]) HE25 HS7 rfl (by kernel_rfl) (by kernel_rfl) (by kernel_rfl) (fun _ _ _ h => h) rfl (wt0 rfl) (x_move rfl) rfl rfl fun a_26 HE27 => ?_
  by_cases hc21 : a0.1 < a1.1
  · refine dr_takeNo (i := 10) (ls' := #[true, true, true, true, true, true, true, true, true, true, true, false, false, false, false, false, false, false, false, false, false, false, false, false, false, false, false, false, false, false, false, false, false]) HE27 HS7 rfl (by kernel_rfl) (by kernel_rfl) (by kernel_rfl) (fun _ _ _ h => h) rfl (wtF HE27 rfl rfl rfl (decide_eq_true hc21)) rfl rfl fun a_28 HE29 => ?_
    refine dr_takeNo (i := 11) (ls' := #[true, true, true, true, true, true, true, true, true, true, true, true, false, false, false, false, false, false, false, false, false, false, false, false, false, false, false, false, false, false, false, false, false]) HE29 HS7 rfl (by kernel_rfl) (by kernel_rfl) (by kernel_rfl) (fun _ _ _ h => h) rfl (wtF HE29 rfl rfl rfl (decide_eq_true hc21)) rfl rfl fun a_30 HE31 => ?_
    refine dr_takeNo (i := 12) (ls' := #[true, true, true, true, true, true, true, true, true, true, true, true, true, false, false, false, false, false, false, false, false, false, false, false, false, false, false, false, false, false, false, false, false]) HE31 HS7 rfl (by kernel_rfl) (by kernel_rfl) (by kernel_rfl) (fun _ _ _ h => h) rfl (wtF HE31 rfl rfl rfl (decide_eq_true hc21)) rfl rfl fun a_32 HE33 => ?_
    refine dr_takeNo (i := 13) (ls' := #[true, true, true, true, true, true, true, true, true, true, true, true, true, true, false, false, false, false, false, false, false, false, false, false, false, false, false, false, false, false, false, false, false]) HE33 HS7 rfl (by kernel_rfl) (by kernel_rfl) (by kernel_rfl) (fun _ _ _ h => h) rfl (wtF HE33 rfl rfl rfl (decide_eq_true hc21)) rfl rfl fun a_34 HE35 => ?_
    refine dr_takeNo (i := 14) (ls' := #[true, true, true, true, true, true, true, true, true, true, true, true, true, true, true, false, false, false, false, false, false, false, false, false, false, false, false, false, false, false, false, false, false]) HE35 HS7 rfl (by kernel_rfl) (by kernel_rfl) (by kernel_rfl) (fun _ _ _ h => h) rfl (wtF HE35 rfl rfl rfl (decide_eq_true hc21)) rfl rfl fun a_36 HE37 => ?_
    refine dr_takeNo (i := 15) (ls' := #[true, true, true, true, true, true, true, true, true, true, true, true, true, true, true, true, false, false, false, false, false, false, false, false, false, false, false, false, false, false, false, false, false]) HE37 HS7 rfl (by kernel_rfl) (by kernel_rfl) (by kernel_rfl) (fun _ _ _ h => h) rfl (wtF HE37 rfl rfl rfl (decide_eq_true hc21)) rfl rfl fun a_38 HE39 => ?_
    refine dr_takeNo (i := 16) (ls' := #[true, true, true, true, true, true, true, true, true, true, true, true, true, true, true, true, true, false, false, false, false, false, false, false, false, false, false, false, false, false, false, false, false]) HE39 HS7 rfl (by kernel_rfl) (by kernel_rfl) (by kernel_rfl) (fun _ _ _ h => h) rfl (wtF HE39 rfl rfl rfl (decide_eq_true hc21)) rfl rfl fun a_40 HE41 => ?_
    refine dr_takeNo (i := 17) (ls' := #[true, true, true, true, true, true, true, true, true, true, true, true, true, true, true, true, true, true, false, false, false, false, false, false, false, false, false, false, false, false, false, false, false]) HE41 HS7 rfl (by kernel_rfl) (by kernel_rfl) (by kernel_rfl) (fun _ _ _ h => h) rfl (wtF HE41 rfl rfl rfl (decide_eq_true hc21)) rfl rfl fun a_42 HE43 => ?_
    refine dr_takeNo (i := 18) (ls' := #[true, true, true, true, true, true, true, true, true, true, true, true, true, true, true, true, true, true, true, false, false, false, false, false, false, false, false, false, false, false, false, false, false]) HE43 HS7 rfl (by kernel_rfl) (by kernel_rfl) (by kernel_rfl) (fun _ _ _ h => h) rfl (wtF HE43 rfl rfl rfl (decide_eq_true hc21)) rfl rfl fun a_44 HE45 => ?_
    refine dr_takeNo (i := 19) (ls' := #[true, true, true, true, true, true, true, true, true, true, true, true, true, true, true, true, true, true, true, true, false, false, false, false, false, false, false, false, false, false, false, false, false]) HE45 HS7 rfl (by kernel_rfl) (by kernel_rfl) (by kernel_rfl) (fun _ _ _ h => h) rfl (wtF HE45 rfl rfl rfl (decide_eq_true hc21)) rfl rfl fun a_46 HE47 => ?_
    refine dr_takeNo (i := 20) (ls' := #[true, true, true, true, true, true, true, true, true, true, true, true, true, true, true, true, true, true, true, true, true, false, false, false, false, false, false, false, false, false, false, false, false]) HE47 HS7 rfl (by kernel_rfl) (by kernel_rfl) (by kernel_rfl) (fun _ _ _ h => h) rfl (wtU HE47 rfl rfl rfl) rfl rfl fun a_48 HE49 => ?_
    refine dr_takeNo (i := 21) (ls' := #[true, true, true, true, true, true, true, true, true, true, true, true, true, true, true, true, true, true, true, true, true, true, false, false, false, false, false, false, false, false, false, false, false]) HE49 HS7 rfl (by kernel_rfl) (by kernel_rfl) (by kernel_rfl) (fun _ _ _ h => h) rfl (wtU HE49 rfl rfl rfl) rfl rfl fun a_50 HE51 => ?_
    refine dr_takeNo (i := 22) (ls' := #[true, true, true, true, true, true, true, true, true, true, true, true, true, true, true, true, true, true, true, true, true, true, true, false, false, false, false, false, false, false, false, false, false]) HE51 HS7 rfl (by kernel_rfl) (by kernel_rfl) (by kernel_rfl) (fun _ _ _ h => h) rfl (wtU HE51 rfl rfl rfl) rfl rfl fun a_52 HE53 => ?_
    refine dr_takeNo (i := 23) (ls' := #[true, true, true, true, true, true, true, true, true, true, true, true, true, true, true, true, true, true, true, true, true, true, true, true, false, false, false, false, false, false, false, false, false]) HE53 HS7 rfl (by kernel_rfl) (by kernel_rfl) (by kernel_rfl) (fun _ _ _ h => h) rfl (wtU HE53 rfl rfl rfl) rfl rfl fun a_54 HE55 => ?_
    refine dr_takeNo (i := 24) (ls' := #[true, true, true, true, true, true, true, true, true, true, true, true, true, true, true, true, true, true, true, true, true, true, true, true, true, false, false, false, false, false, false, false, false]) HE55 HS7 rfl (by kernel_rfl) (by kernel_rfl) (by kernel_rfl) (fun _ _ _ h => h) rfl (wtU HE55 rfl rfl rfl) rfl rfl fun a_56 HE57 => ?_
    refine dr_takeNo (i := 25) (ls' := #[true, true, true, true, true, true, true, true, true, true, true, true, true, true, true, true, true, true, true, true, true, true, true, true, true, true, false, false, false, false, false, false, false]) HE57 HS7 rfl (by kernel_rfl) (by kernel_rfl) (by kernel_rfl) (fun _ _ _ h => h) rfl (wtU HE57 rfl rfl rfl) rfl rfl fun a_58 HE59 => ?_
    refine dr_takeNo (i := 26) (ls' := #[true, true, true, true, true, true, true, true, true, true, true, true, true, true, true, true, true, true, true, true, true, true, true, true, true, true, true, false, false, false, false, false, false]) HE59 HS7 rfl (by kernel_rfl) (by kernel_rfl) (by kernel_rfl) (fun _ _ _ h => h) rfl (wtU HE59 rfl rfl rfl) rfl rfl fun a_60 HE61 => ?_
    refine dr_takeNo (i := 27) (ls' := #[true, true, true, true, true, true, true, true, true, true, true, true, true, true, true, true, true, true, true, true, true, true, true, true, true, true, true, true, false, false, false, false, false]) HE61 HS7 rfl (by kernel_rfl) (by kernel_rfl) (by kernel_rfl) (fun _ _ _ h => h) rfl (wtU HE61 rfl rfl rfl) rfl rfl fun a_62 HE63 => ?_
    refine dr_takeNo (i := 28) (ls' := #[true, true, true, true, true, true, true, true, true, true, true, true, true, true, true, true, true, true, true, true, true, true, true, true, true, true, true, true, true, false, false, false, false]) HE63 HS7 rfl (by kernel_rfl) (by kernel_rfl) (by kernel_rfl) (fun _ _ _ h => h) rfl (wtU HE63 rfl rfl rfl) rfl rfl fun a_64 HE65 => ?_
    refine dr_takeNo (i := 29) (ls' := #[true, true, true, true, true, true, true, true, true, true, true, true, true, true, true, true, true, true, true, true, true, true, true, true, true, true, true, true, true, true, false, false, false]) HE65 HS7 rfl (by kernel_rfl) (by kernel_rfl) (by kernel_rfl) (fun _ _ _ h => h) rfl (wtU HE65 rfl rfl rfl) rfl rfl fun a_66 HE67 => ?_
    refine dr_takeNo (i := 30) (ls' := #[true, true, true, true, true, true, true, true, true, true, true, true, true, true, true, true, true, true, true, true, true, true, true, true, true, true, true, true, true, true, true, false, false]) HE67 HS7 rfl (by kernel_rfl) (by kernel_rfl) (by kernel_rfl) (fun _ _ _ h => h) rfl (wtF HE67 rfl rfl rfl (decide_eq_true hc21)) rfl rfl fun a_68 HE69 => ?_
    refine dr_take (i := 31) (ls' := #[true, true, true, true, true, true, true, true, true, true, true, true, true, true, true, true, true, true, true, true, true, true, true, true, true, true, true, true, true, true, true, true, false]) HE69 HS7 rfl (by kernel_rfl) (by kernel_rfl) (by kernel_rfl) (fun _ _ _ h => h) rfl (wt0 rfl) (x_pickT rfl (decide_eq_true hc21) rfl) rfl rfl fun a_70 HE71 => ?_
    refine dr_take (i := 32) (ls' := #[true, true, true, true, true, true, true, true, true, true, true, true, true, true, true, true, true, true, true, true, true, true, true, true, true, true, true, true, true, true, true, true, true]) HE71 HS7 rfl (by kernel_rfl) (by kernel_rfl) (by kernel_rfl) (fun _ _ _ h => h) rfl (wt0 rfl) (x_assign rfl) rfl rfl fun a_72 HE73 => ?_
    refine dr_done (by kernel_rfl) ?_
    clear HH1 a_4 HE5 a_8 HE9 a_10 HE11 a_12 HE13 a_14 HE15 a_16 HE17 a_18 HE19 a_20 HE21 a_22 HE23 a_24 HE25 a_26 HE27 a_28 HE29 a_30 HE31 a_32 HE33 a_34 HE35 a_36 HE37 a_38 HE39 a_40 HE41 a_42 HE43 a_44 HE45 a_46 HE47 a_48 HE49 a_50 HE51 a_52 HE53 a_54 HE55 a_56 HE57 a_58 HE59 a_60 HE61 a_62 HE63 a_64 HE65 a_66 HE67 a_68 HE69 a_70 HE71
    refine nrm ?_
    refine wp_ret ?_
    refine ret1 HE73 rfl (rv_tmp rfl) ?_
    have hF : (beforeMR a0 a1) = true := by
      unfold beforeMR cmpMR; grind
    exact ⟨by first | (rw [hF] <;> rfl) | rfl | (rw [hF]; simp only [Ending.returned.injEq, Value.slice.injEq, true_and, and_true]; first | omega | (simp; done)) | (rw [hF]; simp; omega), HH6.below⟩
  · refine dr_take (i := 10) (ls' := #[true, true, true, true, true, true, true, true, true, true, true, false, false, false, false, false, false, false, false, false, false, false, false, false, false, false, false, false, false, false, false, false, false]) HE27 HS7 rfl (by kernel_rfl) (by kernel_rfl) (by kernel_rfl) (fun _ _ _ h => h) rfl (wtT HE27 rfl rfl rfl (decide_eq_false hc21)) (x_move rfl) rfl rfl fun a_74 HE75 => ?_
    refine dr_take (i := 11) (ls' := #[true, true, true, true, true, true, true, true, true, true, true, true, false, false, false, false, false, false, false, false, false, false, false, false, false, false, false, false, false, false, false, false, false]) HE75 HS7 rfl (by kernel_rfl) (by kernel_rfl) (by kernel_rfl) (fun _ _ _ h => h) rfl (wtT HE75 rfl rfl rfl (decide_eq_false hc21)) (x_nilCheck rfl) rfl rfl fun a_76 HE77 => ?_
    refine dr_take (i := 12) (ls' := #[true, true, true, true, true, true, true, true, true, true, true, true, true, false, false, false, false, false, false, false, false, false, false, false, false, false, false, false, false, false, false, false, false]) HE77 HS7 rfl (by kernel_rfl) (by kernel_rfl) (by kernel_rfl) (fun _ _ _ h => h) rfl (wtT HE77 rfl rfl rfl (decide_eq_false hc21)) (x_fieldAddr fa_108_0 rfl) rfl rfl fun a_78 HE79 => ?_
    refine dr_take (i := 13) (ls' := #[true, true, true, true, true, true, true, true, true, true, true, true, true, true, false, false, false, false, false, false, false, false, false, false, false, false, false, false, false, false, false, false, false]) HE79 HS7 rfl (by kernel_rfl) (by kernel_rfl) (by kernel_rfl) (fun _ _ _ h => h) rfl (wtT HE79 rfl rfl rfl (decide_eq_false hc21)) (x_load1 tv_2 rfl (c_old (hq0 0 _ rfl))) rfl rfl fun a_80 HE81 => ?_
    refine dr_take (i := 14) (ls' := #[true, true, true, true, true, true, true, true, true, true, true, true, true, true, true, false, false, false, false, false, false, false, false, false, false, false, false, false, false, false, false, false, false]) HE81 HS7 rfl (by kernel_rfl) (by kernel_rfl) (by kernel_rfl) (fun _ _ _ h => h) rfl (wtT HE81 rfl rfl rfl (decide_eq_false hc21)) (x_move rfl) rfl rfl fun a_82 HE83 => ?_
    refine dr_take (i := 15) (ls' := #[true, true, true, true, true, true, true, true, true, true, true, true, true, true, true, true, false, false, false, false, false, false, false, false, false, false, false, false, false, false, false, false, false]) HE83 HS7 rfl (by kernel_rfl) (by kernel_rfl) (by kernel_rfl) (fun _ _ _ h => h) rfl (wtT HE83 rfl rfl rfl (decide_eq_false hc21)) (x_nilCheck rfl) rfl rfl fun a_84 HE85 => ?_
    refine dr_take (i := 16) (ls' := #[true, true, true, true, true, true, true, true, true, true, true, true, true, true, true, true, true, false, false, false, false, false, false, false, false, false, false, false, false, false, false, false, false]) HE85 HS7 rfl (by kernel_rfl) (by kernel_rfl) (by kernel_rfl) (fun _ _ _ h => h) rfl (wtT HE85 rfl rfl rfl (decide_eq_false hc21)) (x_fieldAddr fa_108_0 rfl) rfl rfl fun a_86 HE87 => ?_
    refine dr_take (i := 17) (ls' := #[true, true, true, true, true, true, true, true, true, true, true, true, true, true, true, true, true, true, false, false, false, false, false, false, false, false, false, false, false, false, false, false, false]) HE87 HS7 rfl (by kernel_rfl) (by kernel_rfl) (by kernel_rfl) (fun _ _ _ h => h) rfl (wtT HE87 rfl rfl rfl (decide_eq_false hc21)) (x_load1 tv_2 rfl (c_old (hq1 0 _ rfl))) rfl rfl fun a_88 HE89 => ?_
    refine dr_take (i := 18) (ls' := #[true, true, true, true, true, true, true, true, true, true, true, true, true, true, true, true, true, true, true, false, false, false, false, false, false, false, false, false, false, false, false, false, false]) HE89 HS7 rfl (by kernel_rfl) (by kernel_rfl) (by kernel_rfl) (fun _ _ _ h => h) rfl (wtT HE89 rfl rfl rfl (decide_eq_false hc21)) (x_eql rfl rfl) rfl rfl fun a_90 HE91 => ?_
    refine dr_take (i := 19) (ls' := #[true, true, true, true, true, true, true, true, true, true, true, true, true, true, true, true, true, true, true, true, false, false, false, false, false, false, false, false, false, false, false, false, false]) HE91 HS7 rfl (by kernel_rfl) (by kernel_rfl) (by kernel_rfl) (fun _ _ _ h => h) rfl (wtT HE91 rfl rfl rfl (decide_eq_false hc21)) (x_move rfl) rfl rfl fun a_92 HE93 => ?_
    by_cases hc22 : a0.1 = a1.1
    · refine dr_take (i := 20) (ls' := #[true, true, true, true, true, true, true, true, true, true, true, true, true, true, true, true, true, true, true, true, true, false, false, false, false, false, false, false, false, false, false, false, false]) HE93 HS7 rfl (by kernel_rfl) (by kernel_rfl) (by kernel_rfl) (fun _ _ _ h => h) rfl (wtT HE93 rfl rfl rfl (beq_t hc22)) (x_move rfl) rfl rfl fun a_94 HE95 => ?_
      refine dr_take (i := 21) (ls' := #[true, true, true, true, true, true, true, true, true, true, true, true, true, true, true, true, true, true, true, true, true, true, false, false, false, false, false, false, false, false, false, false, false]) HE95 HS7 rfl (by kernel_rfl) (by kernel_rfl) (by kernel_rfl) (fun _ _ _ h => h) rfl (wtT HE95 rfl rfl rfl (beq_t hc22)) (x_nilCheck rfl) rfl rfl fun a_96 HE97 => ?_
      refine dr_take (i := 22) (ls' := #[true, true, true, true, true, true, true, true, true, true, true, true, true, true, true, true, true, true, true, true, true, true, true, false, false, false, false, false, false, false, false, false, false]) HE97 HS7 rfl (by kernel_rfl) (by kernel_rfl) (by kernel_rfl) (fun _ _ _ h => h) rfl (wtT HE97 rfl rfl rfl (beq_t hc22)) (x_fieldAddr fa_108_1 rfl) rfl rfl fun a_98 HE99 => ?_
      refine dr_take (i := 23) (ls' := #[true, true, true, true, true, true, true, true, true, true, true, true, true, true, true, true, true, true, true, true, true, true, true, true, false, false, false, false, false, false, false, false, false]) HE99 HS7 rfl (by kernel_rfl) (by kernel_rfl) (by kernel_rfl) (fun _ _ _ h => h) rfl (wtT HE99 rfl rfl rfl (beq_t hc22)) (x_load1 tv_37 rfl (c_old (hq0 1 _ rfl))) rfl rfl fun a_100 HE101 => ?_
      refine dr_take (i := 24) (ls' := #[true, true, true, true, true, true, true, true, true, true, true, true, true, true, true, true, true, true, true, true, true, true, true, true, true, false, false, false, false, false, false, false, false]) HE101 HS7 rfl (by kernel_rfl) (by kernel_rfl) (by kernel_rfl) (fun _ _ _ h => h) rfl (wtT HE101 rfl rfl rfl (beq_t hc22)) (x_move rfl) rfl rfl fun a_102 HE103 => ?_
      refine dr_take (i := 25) (ls' := #[true, true, true, true, true, true, true, true, true, true, true, true, true, true, true, true, true, true, true, true, true, true, true, true, true, true, false, false, false, false, false, false, false]) HE103 HS7 rfl (by kernel_rfl) (by kernel_rfl) (by kernel_rfl) (fun _ _ _ h => h) rfl (wtT HE103 rfl rfl rfl (beq_t hc22)) (x_nilCheck rfl) rfl rfl fun a_104 HE105 => ?_
      refine dr_take (i := 26) (ls' := #[true, true, true, true, true, true, true, true, true, true, true, true, true, true, true, true, true, true, true, true, true, true, true, true, true, true, true, false, false, false, false, false, false]) HE105 HS7 rfl (by kernel_rfl) (by kernel_rfl) (by kernel_rfl) (fun _ _ _ h => h) rfl (wtT HE105 rfl rfl rfl (beq_t hc22)) (x_fieldAddr fa_108_1 rfl) rfl rfl fun a_106 HE107 => ?_
      refine dr_take (i := 27) (ls' := #[true, true, true, true, true, true, true, true, true, true, true, true, true, true, true, true, true, true, true, true, true, true, true, true, true, true, true, true, false, false, false, false, false]) HE107 HS7 rfl (by kernel_rfl) (by kernel_rfl) (by kernel_rfl) (fun _ _ _ h => h) rfl (wtT HE107 rfl rfl rfl (beq_t hc22)) (x_load1 tv_37 rfl (c_old (hq1 1 _ rfl))) rfl rfl fun a_108 HE109 => ?_
      refine dr_one (i := 28) (ls' := #[true, true, true, true, true, true, true, true, true, true, true, true, true, true, true, true, true, true, true, true, true, true, true, true, true, true, true, true, true, false, false, false, false]) rfl (by kernel_rfl) rfl fun K_110 hK111 => ?_
      refine st_call HE109 (wtT HE109 rfl rfl rfl (beq_t hc22)) rfl rfl rfl en_129 rfl rfl (spec_l01Compare _ _ a0.2.1 _ _ a1.2.1 _ (HH6.old gz0_1) (HH6.old gz1_1)) fun e w' hr => ?_
      obtain ⟨rfl, hbr23⟩ := hr
      have HH112 := HH6.on hbr23
      refine ⟨_, rfl, fun a_113 HE114 => hK111 _ _ (by exact HH112.sel [] (by decide) rfl) ?_⟩
      have HS115 := HH112.sel [] (by decide) rfl
      refine dr_take (i := 29) (ls' := #[true, true, true, true, true, true, true, true, true, true, true, true, true, true, true, true, true, true, true, true, true, true, true, true, true, true, true, true, true, true, false, false, false]) HE114 HS115 rfl (by kernel_rfl) (by kernel_rfl) (by kernel_rfl) (fun _ _ _ h => h) rfl (wtT HE114 rfl rfl rfl (beq_t hc22)) (x_lss rfl rfl) rfl rfl fun a_116 HE117 => ?_
      refine dr_take (i := 30) (ls' := #[true, true, true, true, true, true, true, true, true, true, true, true, true, true, true, true, true, true, true, true, true, true, true, true, true, true, true, true, true, true, true, false, false]) HE117 HS115 rfl (by kernel_rfl) (by kernel_rfl) (by kernel_rfl) (fun _ _ _ h => h) rfl (wtT HE117 rfl rfl rfl (decide_eq_false hc21)) (x_pickT rfl (beq_t hc22) rfl) rfl rfl fun a_118 HE119 => ?_
      refine dr_take (i := 31) (ls' := #[true, true, true, true, true, true, true, true, true, true, true, true, true, true, true, true, true, true, true, true, true, true, true, true, true, true, true, true, true, true, true, true, false]) HE119 HS115 rfl (by kernel_rfl) (by kernel_rfl) (by kernel_rfl) (fun _ _ _ h => h) rfl (wt0 rfl) (x_pickF rfl (decide_eq_false hc21) rfl) rfl rfl fun a_120 HE121 => ?_
      refine dr_take (i := 32) (ls' := #[true, true, true, true, true, true, true, true, true, true, true, true, true, true, true, true, true, true, true, true, true, true, true, true, true, true, true, true, true, true, true, true, true]) HE121 HS115 rfl (by kernel_rfl) (by kernel_rfl) (by kernel_rfl) (fun _ _ _ h => h) rfl (wt0 rfl) (x_assign rfl) rfl rfl fun a_122 HE123 => ?_
      refine dr_done (by kernel_rfl) ?_
      clear HH1 a_4 HE5 a_8 HE9 a_10 HE11 a_12 HE13 a_14 HE15 a_16 HE17 a_18 HE19 a_20 HE21 a_22 HE23 a_24 HE25 a_26 HE27 a_74 HE75 a_76 HE77 a_78 HE79 a_80 HE81 a_82 HE83 a_84 HE85 a_86 HE87 a_88 HE89 a_90 HE91 a_92 HE93 a_94 HE95 a_96 HE97 a_98 HE99 a_100 HE101 a_102 HE103 a_104 HE105 a_106 HE107 HH6 a_108 HE109 HS7 a_113 HE114 a_116 HE117 a_118 HE119 a_120 HE121 hK111 K_110
      refine nrm ?_
      refine wp_ret ?_
      refine ret1 HE123 rfl (rv_tmp rfl) ?_
      have hF : (beforeMR a0 a1) = decide ((cmpL a0.2.1 a1.2.1) < 0) := by
        unfold beforeMR cmpMR; grind
      exact ⟨by first | (rw [hF] <;> rfl) | rfl | (rw [hF]; simp only [Ending.returned.injEq, Value.slice.injEq, true_and, and_true]; first | omega | (simp; done)) | (rw [hF]; simp; omega), HH112.below⟩
    · refine dr_takeNo (i := 20) (ls' := #[true, true, true, true, true, true, true, true, true, true, true, true, true, true, true, true, true, true, true, true, true, false, false, false, false, false, false, false, false, false, false, false, false]) HE93 HS7 rfl (by kernel_rfl) (by kernel_rfl) (by kernel_rfl) (fun _ _ _ h => h) rfl (wtF HE93 rfl rfl rfl (beq_f hc22)) rfl rfl fun a_124 HE125 => ?_
      refine dr_takeNo (i := 21) (ls' := #[true, true, true, true, true, true, true, true, true, true, true, true, true, true, true, true, true, true, true, true, true, true, false, false, false, false, false, false, false, false, false, false, false]) HE125 HS7 rfl (by kernel_rfl) (by kernel_rfl) (by kernel_rfl) (fun _ _ _ h => h) rfl (wtF HE125 rfl rfl rfl (beq_f hc22)) rfl rfl fun a_126 HE127 => ?_
      refine dr_takeNo (i := 22) (ls' := #[true, true, true, true, true, true, true, true, true, true, true, true, true, true, true, true, true, true, true, true, true, true, true, false, false, false, false, false, false, false, false, false, false]) HE127 HS7 rfl (by kernel_rfl) (by kernel_rfl) (by kernel_rfl) (fun _ _ _ h => h) rfl (wtF HE127 rfl rfl rfl (beq_f hc22)) rfl rfl fun a_128 HE129 => ?_
      refine dr_takeNo (i := 23) (ls' := #[true, true, true, true, true, true, true, true, true, true, true, true, true, true, true, true, true, true, true, true, true, true, true, true, false, false, false, false, false, false, false, false, false]) HE129 HS7 rfl (by kernel_rfl) (by kernel_rfl) (by kernel_rfl) (fun _ _ _ h => h) rfl (wtF HE129 rfl rfl rfl (beq_f hc22)) rfl rfl fun a_130 HE131 => ?_
      refine dr_takeNo (i := 24) (ls' := #[true, true, true, true, true, true, true, true, true, true, true, true, true, true, true, true, true, true, true, true, true, true, true, true, true, false, false, false, false, false, false, false, false]) HE131 HS7 rfl (by kernel_rfl) (by kernel_rfl) (by kernel_rfl) (fun _ _ _ h => h) rfl (wtF HE131 rfl rfl rfl (beq_f hc22)) rfl rfl fun a_132 HE133 => ?_
      refine dr_takeNo (i := 25) (ls' := #[true, true, true, true, true, true, true, true, true, true, true, true, true, true, true, true, true, true, true, true, true, true, true, true, true, true, false, false, false, false, false, false, false]) HE133 HS7 rfl (by kernel_rfl) (by kernel_rfl) (by kernel_rfl) (fun _ _ _ h => h) rfl (wtF HE133 rfl rfl rfl (beq_f hc22)) rfl rfl fun a_134 HE135 => ?_
      refine dr_takeNo (i := 26) (ls' := #[true, true, true, true, true, true, true, true, true, true, true, true, true, true, true, true, true, true, true, true, true, true, true, true, true, true, true, false, false, false, false, false, false]) HE135 HS7 rfl (by kernel_rfl) (by kernel_rfl) (by kernel_rfl) (fun _ _ _ h => h) rfl (wtF HE135 rfl rfl rfl (beq_f hc22)) rfl rfl fun a_136 HE137 => ?_
      refine dr_takeNo (i := 27) (ls' := #[true, true, true, true, true, true, true, true, true, true, true, true, true, true, true, true, true, true, true, true, true, true, true, true, true, true, true, true, false, false, false, false, false]) HE137 HS7 rfl (by kernel_rfl) (by kernel_rfl) (by kernel_rfl) (fun _ _ _ h => h) rfl (wtF HE137 rfl rfl rfl (beq_f hc22)) rfl rfl fun a_138 HE139 => ?_
      refine dr_takeNo (i := 28) (ls' := #[true, true, true, true, true, true, true, true, true, true, true, true, true, true, true, true, true, true, true, true, true, true, true, true, true, true, true, true, true, false, false, false, false]) HE139 HS7 rfl (by kernel_rfl) (by kernel_rfl) (by kernel_rfl) (fun _ _ _ h => h) rfl (wtF HE139 rfl rfl rfl (beq_f hc22)) rfl rfl fun a_140 HE141 => ?_
      refine dr_takeNo (i := 29) (ls' := #[true, true, true, true, true, true, true, true, true, true, true, true, true, true, true, true, true, true, true, true, true, true, true, true, true, true, true, true, true, true, false, false, false]) HE141 HS7 rfl (by kernel_rfl) (by kernel_rfl) (by kernel_rfl) (fun _ _ _ h => h) rfl (wtF HE141 rfl rfl rfl (beq_f hc22)) rfl rfl fun a_142 HE143 => ?_
      refine dr_take (i := 30) (ls' := #[true, true, true, true, true, true, true, true, true, true, true, true, true, true, true, true, true, true, true, true, true, true, true, true, true, true, true, true, true, true, true, false, false]) HE143 HS7 rfl (by kernel_rfl) (by kernel_rfl) (by kernel_rfl) (fun _ _ _ h => h) rfl (wtT HE143 rfl rfl rfl (decide_eq_false hc21)) (x_pickF rfl (beq_f hc22) rfl) rfl rfl fun a_144 HE145 => ?_
      refine dr_take (i := 31) (ls' := #[true, true, true, true, true, true, true, true, true, true, true, true, true, true, true, true, true, true, true, true, true, true, true, true, true, true, true, true, true, true, true, true, false]) HE145 HS7 rfl (by kernel_rfl) (by kernel_rfl) (by kernel_rfl) (fun _ _ _ h => h) rfl (wt0 rfl) (x_pickF rfl (decide_eq_false hc21) rfl) rfl rfl fun a_146 HE147 => ?_
      refine dr_take (i := 32) (ls' := #[true, true, true, true, true, true, true, true, true, true, true, true, true, true, true, true, true, true, true, true, true, true, true, true, true, true, true, true, true, true, true, true, true]) HE147 HS7 rfl (by kernel_rfl) (by kernel_rfl) (by kernel_rfl) (fun _ _ _ h => h) rfl (wt0 rfl) (x_assign rfl) rfl rfl fun a_148 HE149 => ?_
      refine dr_done (by kernel_rfl) ?_
      clear HH1 a_4 HE5 a_8 HE9 a_10 HE11 a_12 HE13 a_14 HE15 a_16 HE17 a_18 HE19 a_20 HE21 a_22 HE23 a_24 HE25 a_26 HE27 a_74 HE75 a_76 HE77 a_78 HE79 a_80 HE81 a_82 HE83 a_84 HE85 a_86 HE87 a_88 HE89 a_90 HE91 a_92 HE93 a_124 HE125 a_126 HE127 a_128 HE129 a_130 HE131 a_132 HE133 a_134 HE135 a_136 HE137 a_138 HE139 a_140 HE141 a_142 HE143 a_144 HE145 a_146 HE147
      refine nrm ?_
      refine wp_ret ?_
      refine ret1 HE149 rfl (rv_tmp rfl) ?_
      have hF : (beforeMR a0 a1) = false := by
        unfold beforeMR cmpMR; grind
      exact ⟨by first | (rw [hF] <;> rfl) | rfl | (rw [hF]; simp only [Ending.returned.injEq, Value.slice.injEq, true_and, and_true]; first | omega | (simp; done)) | (rw [hF]; simp; omega), HH6.below⟩

def two6 (state a b moveA moveB next : Int) : tMultiRule := (state, [a, b], [a, b], [moveA, moveB], next)

def two7 (state a b write one two next : Int) : tMultiRule := (state, [a, b], [a, write], [one, two], next)

def copyTo (k : Nat) : List tMultiRule := (List.range k).map fun (j : Nat) => two7 0 ((j : Int) + 1) 0 ((j : Int) + 1) 1 1 0

theorem copyTo_succ (k : Nat) : copyTo (k + 1) = copyTo k ++ [two7 0 ((k : Int) + 1) 0 ((k : Int) + 1) 1 1 0] := by
  unfold copyTo; rw [List.range_succ, List.map_append]; rfl

theorem copyTo_len (k : Nat) : (copyTo k).length = k := by simp [copyTo]

def copyRls (s : Int) : List tMultiRule := copyTo (s - 1).toNat

set_option maxRecDepth 100000 in
set_option maxHeartbeats 4000000 in
theorem impl_twoTapes (a0 : Int) (a1 : Int) (a2 : Int) (a3 : Int) (a4 : Int) (a5 : Int) (w : World) (s0 : -1000 ≤ a0 ∧ a0 ≤ 1000) (s1 : -1000 ≤ a1 ∧ a1 ≤ 1000) (s2 : -1000 ≤ a2 ∧ a2 ≤ 1000) (s3 : -1000 ≤ a3 ∧ a3 ≤ 1000) (s4 : -1000 ≤ a4 ∧ a4 ≤ 1000) (s5 : -1000 ≤ a5 ∧ a5 ≤ 1000) :
    Calls Try.prog 79 #[.int .i64 a0, .int .i64 a1, .int .i64 a2, .int .i64 a3, .int .i64 a4, .int .i64 a5] w fun e w' => ∃ (es0' : List Value), e = .returned (.agg es0'.toArray) ∧ eMultiRule.O w' (Fr w w') es0' (two6 a0 a1 a2 a3 a4 a5) ∧ Below w.heap.size w w' := by
  have HH1 := Held.start Nob w
  refine enter (n := 25) Try.func79 rfl rfl rfl fun a_2 HE3 => ?_
  refine wp_seq ?_
  refine rg ?_
  refine pl fun K_4 hK5 => ?_
  refine st_alloc HE3 HH1 tv_108 (wt0 rfl) rfl fun q21 a_6 w' HE7 HH8 => hK5 _ _ ?_
  refine wpList_nil ?_
  clear a_2 HE3 HH1 hK5 K_4
  refine nrm ?_
  refine wp_seq ?_
  refine rg ?_
  refine pl_x HE7 HH8 (wt0 rfl) (x_move rfl) rfl rfl fun a_9 HE10 => ?_
  refine pl_x HE10 HH8 (wt0 rfl) (x_move rfl) rfl rfl fun a_11 HE12 => ?_
  refine pl_x HE12 HH8 (wt0 rfl) (x_move rfl) rfl rfl fun a_13 HE14 => ?_
  refine pl fun K_15 hK16 => ?_
  refine st_lit (m := 2) (cs := [.int .i64 (a1), .int .i64 (a2)]) (e := 2) HE14 HH8 (run_lit ts_37 HE14 (vs := [.int .i64 (a1), .int .i64 (a2)]) rfl rfl (by simp [Value.cells]) rfl (by decide)) (wt0 rfl) rfl rfl fun q22 a_17 w' HE18 HH19 => hK16 _ _ ?_
  refine pl_x HE18 HH19 (wt0 rfl) (x_move rfl) rfl rfl fun a_20 HE21 => ?_
  refine pl_x HE21 HH19 (wt0 rfl) (x_move rfl) rfl rfl fun a_22 HE23 => ?_
  refine pl fun K_24 hK25 => ?_
  refine st_lit (m := 2) (cs := [.int .i64 (a1), .int .i64 (a2)]) (e := 2) HE23 HH19 (run_lit ts_37 HE23 (vs := [.int .i64 (a1), .int .i64 (a2)]) rfl rfl (by simp [Value.cells]) rfl (by decide)) (wt0 rfl) rfl rfl fun q23 a_26 w' HE27 HH28 => hK25 _ _ ?_
  refine pl_x HE27 HH28 (wt0 rfl) (x_move rfl) rfl rfl fun a_29 HE30 => ?_
  refine pl_x HE30 HH28 (wt0 rfl) (x_move rfl) rfl rfl fun a_31 HE32 => ?_
  refine pl fun K_33 hK34 => ?_
  refine st_lit (m := 2) (cs := [.int .i64 (a3), .int .i64 (a4)]) (e := 2) HE32 HH28 (run_lit ts_37 HE32 (vs := [.int .i64 (a3), .int .i64 (a4)]) rfl rfl (by simp [Value.cells]) rfl (by decide)) (wt0 rfl) rfl rfl fun q24 a_35 w' HE36 HH37 => hK34 _ _ ?_
  refine pl_x HE36 HH37 (wt0 rfl) (x_move rfl) rfl rfl fun a_38 HE39 => ?_
  refine pl_x HE39 HH37 (wt0 rfl) (show XS _ _ _ _ (.agg #[.int .i64 (a0), .slice (some ⟨q22, 0, none⟩) (2) 2, .slice (some ⟨q23, 0, none⟩) (2) 2, .slice (some ⟨q24, 0, none⟩) (2) 2, .int .i64 (a5)]) from x_build (vs := [(0, .int .i64 (a0)), (1, .slice (some ⟨q22, 0, none⟩) (2) 2), (2, .slice (some ⟨q23, 0, none⟩) (2) 2), (3, .slice (some ⟨q24, 0, none⟩) (2) 2), (4, .int .i64 (a5))]) tb_108 rfl (by simp [Value.oneCell'])) rfl rfl fun a_40 HE41 => ?_
  refine pl fun K_42 hK43 => ?_
  refine st_store (vs := [.int .i64 (a0), .slice (some ⟨q22, 0, none⟩) (2) 2, .slice (some ⟨q23, 0, none⟩) (2) 2, .slice (some ⟨q24, 0, none⟩) (2) 2, .int .i64 (a5)]) 3 HE41 HH37 tv_108 rfl rfl rfl rfl rfl rfl (by simp [Value.oneCell']) (wt0 rfl) fun w' HH44 => hK43 _ _ ?_
  refine wpList_nil ?_
  clear a_6 HE7 a_9 HE10 a_11 HE12 a_13 HE14 HH8 a_17 HE18 a_20 HE21 K_15 hK16 a_22 HE23 HH19 a_26 HE27 a_29 HE30 K_24 hK25 a_31 HE32 HH28 a_35 HE36 a_38 HE39 K_33 hK34 HH37 hK43 K_42
  refine nrm ?_
  refine wp_ret ?_
  refine ret1 HE41 rfl (rv_cell rfl (tv_108.loadN (cs := [.int .i64 (a0), .slice (some ⟨q22, 0, none⟩) (2) 2, .slice (some ⟨q23, 0, none⟩) (2) 2, .slice (some ⟨q24, 0, none⟩) (2) 2, .int .i64 (a5)]) rfl (c_blkN 3 rfl _ HH44))) ?_
  have HH45 := HH44.sel [2, 0, 1, 3] (by decide) rfl
  have HH46 := Held.vecFlat (E := eInt) (xs := [a1, a2]) (css := [[.int .i64 (a1)], [.int .i64 (a2)]]) HH45 rfl (by unfold maxLen; simp) (fun i x hx => by match i with | 0 => exact ⟨_, rfl, fun _ => by simp at hx; subst hx; exact (oI (by exact ⟨by omega, by omega⟩))⟩ | 1 => exact ⟨_, rfl, fun _ => by simp at hx; subst hx; exact (oI (by exact ⟨by omega, by omega⟩))⟩ | i + 2 => simp at hx)
  have HH47 := HH46.vecSo
  have HH48 := HH47.relen (n := 2) (by first | exact mkL_len _ _ _ _ | (simp; done) | (simp; omega))
  have HH49 := HH48.sel [2, 0, 1, 3] (by decide) rfl
  have HH50 := Held.vecFlat (E := eInt) (xs := [a1, a2]) (css := [[.int .i64 (a1)], [.int .i64 (a2)]]) HH49 rfl (by unfold maxLen; simp) (fun i x hx => by match i with | 0 => exact ⟨_, rfl, fun _ => by simp at hx; subst hx; exact (oI (by exact ⟨by omega, by omega⟩))⟩ | 1 => exact ⟨_, rfl, fun _ => by simp at hx; subst hx; exact (oI (by exact ⟨by omega, by omega⟩))⟩ | i + 2 => simp at hx)
  have HH51 := HH50.vecSo
  have HH52 := HH51.relen (n := 2) (by first | exact mkL_len _ _ _ _ | (simp; done) | (simp; omega))
  have HH53 := HH52.sel [2, 0, 1, 3] (by decide) rfl
  have HH54 := Held.vecFlat (E := eInt) (xs := [a3, a4]) (css := [[.int .i64 (a3)], [.int .i64 (a4)]]) HH53 rfl (by unfold maxLen; simp) (fun i x hx => by match i with | 0 => exact ⟨_, rfl, fun _ => by simp at hx; subst hx; exact (oI (by exact ⟨by omega, by omega⟩))⟩ | 1 => exact ⟨_, rfl, fun _ => by simp at hx; subst hx; exact (oI (by exact ⟨by omega, by omega⟩))⟩ | i + 2 => simp at hx)
  have HH55 := HH54.vecSo
  have HH56 := HH55.relen (n := 2) (by first | exact mkL_len _ _ _ _ | (simp; done) | (simp; omega))
  have HH57 := HH56.sel [2, 1, 0, 3] (by decide) rfl
  have HH58 := HH57.sel [2, 0, 1, 3] (by decide) rfl
  have HH59 := HH58.pairB (F := eInt) (c2 := [.int .i64 (a5)]) (y := a5) (oI (by exact ⟨by omega, by omega⟩))
  have HH60 := HH59.sel [2, 0, 1, 3] (by decide) rfl
  have HH61 := HH60.pair
  have HH62 := HH61.sel [1, 0, 2] (by decide) rfl
  have HH63 := HH62.pair
  have HH64 := HH63.pairF (E := eInt) (c1 := [.int .i64 (a0)]) (x := a0) (oI (by exact ⟨by omega, by omega⟩))
  obtain ⟨S25, HH65⟩ : ∃ S, Held Nob w (rO eMultiRule S [.int .i64 (a0), .slice (some ⟨q22, 0, none⟩) (2) 2, .slice (some ⟨q23, 0, none⟩) (2) 2, .slice (some ⟨q24, 0, none⟩) (2) 2, .int .i64 (a5)] (a0, ([a1, a2] : List Int), ([a1, a2] : List Int), ([a3, a4] : List Int), a5) :: _) _ := ⟨_, HH64⟩
  have hF : (two6 a0 a1 a2 a3 a4 a5) = (a0, ([a1, a2] : List Int), ([a1, a2] : List Int), ([a3, a4] : List Int), a5) := by
    first | rfl | (simp [two6]; done) | (simp [two6]; omega) | grind [two6]
  exact ⟨_, rfl, by rw [hF]; exact (HH65.o (i := 0) rfl), HH65.below⟩

set_option maxRecDepth 100000 in
set_option maxHeartbeats 4000000 in
theorem spec_l06Make (a0 : Int) (a1 : Int) (a2 : Int) (a3 : Int) (a4 : Int) (a5 : Int) (a6 : Int) (w : World) (s0 : -1000 ≤ a0 ∧ a0 ≤ 1000) (s1 : -1000 ≤ a1 ∧ a1 ≤ 1000) (s2 : -1000 ≤ a2 ∧ a2 ≤ 1000) (s3 : -1000 ≤ a3 ∧ a3 ≤ 1000) (s4 : -1000 ≤ a4 ∧ a4 ≤ 1000) (s5 : -1000 ≤ a5 ∧ a5 ≤ 1000) (s6 : -1000 ≤ a6 ∧ a6 ≤ 1000) :
    Calls Try.prog 77 #[.int .i64 a0, .int .i64 a1, .int .i64 a2, .int .i64 a3, .int .i64 a4, .int .i64 a5, .int .i64 a6] w fun e w' => ∃ (es0' : List Value), e = .returned (.agg es0'.toArray) ∧ eMultiRule.O w' (Fr w w') es0' (two7 a0 a1 a2 a3 a4 a5 a6) ∧ Below w.heap.size w w' := by
  have HH1 := Held.start Nob w
  refine enter (n := 27) Try.func77 rfl rfl rfl fun a_2 HE3 => ?_
  refine wp_seq ?_
  refine rg ?_
  refine pl fun K_4 hK5 => ?_
  refine st_alloc HE3 HH1 tv_108 (wt0 rfl) rfl fun q21 a_6 w' HE7 HH8 => hK5 _ _ ?_
  refine wpList_nil ?_
  clear a_2 HE3 HH1 hK5 K_4
  refine nrm ?_
  refine wp_seq ?_
  refine rg ?_
  refine pl_x HE7 HH8 (wt0 rfl) (x_move rfl) rfl rfl fun a_9 HE10 => ?_
  refine pl_x HE10 HH8 (wt0 rfl) (x_move rfl) rfl rfl fun a_11 HE12 => ?_
  refine pl_x HE12 HH8 (wt0 rfl) (x_move rfl) rfl rfl fun a_13 HE14 => ?_
  refine pl fun K_15 hK16 => ?_
  refine st_lit (m := 2) (cs := [.int .i64 (a1), .int .i64 (a2)]) (e := 2) HE14 HH8 (run_lit ts_37 HE14 (vs := [.int .i64 (a1), .int .i64 (a2)]) rfl rfl (by simp [Value.cells]) rfl (by decide)) (wt0 rfl) rfl rfl fun q22 a_17 w' HE18 HH19 => hK16 _ _ ?_
  refine pl_x HE18 HH19 (wt0 rfl) (x_move rfl) rfl rfl fun a_20 HE21 => ?_
  refine pl_x HE21 HH19 (wt0 rfl) (x_move rfl) rfl rfl fun a_22 HE23 => ?_
  refine pl fun K_24 hK25 => ?_
  refine st_lit (m := 2) (cs := [.int .i64 (a1), .int .i64 (a3)]) (e := 2) HE23 HH19 (run_lit ts_37 HE23 (vs := [.int .i64 (a1), .int .i64 (a3)]) rfl rfl (by simp [Value.cells]) rfl (by decide)) (wt0 rfl) rfl rfl fun q23 a_26 w' HE27 HH28 => hK25 _ _ ?_
  refine pl_x HE27 HH28 (wt0 rfl) (x_move rfl) rfl rfl fun a_29 HE30 => ?_
  refine pl_x HE30 HH28 (wt0 rfl) (x_move rfl) rfl rfl fun a_31 HE32 => ?_
  refine pl fun K_33 hK34 => ?_
  refine st_lit (m := 2) (cs := [.int .i64 (a4), .int .i64 (a5)]) (e := 2) HE32 HH28 (run_lit ts_37 HE32 (vs := [.int .i64 (a4), .int .i64 (a5)]) rfl rfl (by simp [Value.cells]) rfl (by decide)) (wt0 rfl) rfl rfl fun q24 a_35 w' HE36 HH37 => hK34 _ _ ?_
  refine pl_x HE36 HH37 (wt0 rfl) (x_move rfl) rfl rfl fun a_38 HE39 => ?_
  refine pl_x HE39 HH37 (wt0 rfl) (show XS _ _ _ _ (.agg #[.int .i64 (a0), .slice (some ⟨q22, 0, none⟩) (2) 2, .slice (some ⟨q23, 0, none⟩) (2) 2, .slice (some ⟨q24, 0, none⟩) (2) 2, .int .i64 (a6)]) from x_build (vs := [(0, .int .i64 (a0)), (1, .slice (some ⟨q22, 0, none⟩) (2) 2), (2, .slice (some ⟨q23, 0, none⟩) (2) 2), (3, .slice (some ⟨q24, 0, none⟩) (2) 2), (4, .int .i64 (a6))]) tb_108 rfl (by simp [Value.oneCell'])) rfl rfl fun a_40 HE41 => ?_
  refine pl fun K_42 hK43 => ?_
  refine st_store (vs := [.int .i64 (a0), .slice (some ⟨q22, 0, none⟩) (2) 2, .slice (some ⟨q23, 0, none⟩) (2) 2, .slice (some ⟨q24, 0, none⟩) (2) 2, .int .i64 (a6)]) 3 HE41 HH37 tv_108 rfl rfl rfl rfl rfl rfl (by simp [Value.oneCell']) (wt0 rfl) fun w' HH44 => hK43 _ _ ?_
  refine wpList_nil ?_
  clear a_6 HE7 a_9 HE10 a_11 HE12 a_13 HE14 HH8 a_17 HE18 a_20 HE21 K_15 hK16 a_22 HE23 HH19 a_26 HE27 a_29 HE30 K_24 hK25 a_31 HE32 HH28 a_35 HE36 a_38 HE39 K_33 hK34 HH37 hK43 K_42
  refine nrm ?_
  refine wp_ret ?_
  refine ret1 HE41 rfl (rv_cell rfl (tv_108.loadN (cs := [.int .i64 (a0), .slice (some ⟨q22, 0, none⟩) (2) 2, .slice (some ⟨q23, 0, none⟩) (2) 2, .slice (some ⟨q24, 0, none⟩) (2) 2, .int .i64 (a6)]) rfl (c_blkN 3 rfl _ HH44))) ?_
  have HH45 := HH44.sel [2, 0, 1, 3] (by decide) rfl
  have HH46 := Held.vecFlat (E := eInt) (xs := [a1, a2]) (css := [[.int .i64 (a1)], [.int .i64 (a2)]]) HH45 rfl (by unfold maxLen; simp) (fun i x hx => by match i with | 0 => exact ⟨_, rfl, fun _ => by simp at hx; subst hx; exact (oI (by exact ⟨by omega, by omega⟩))⟩ | 1 => exact ⟨_, rfl, fun _ => by simp at hx; subst hx; exact (oI (by exact ⟨by omega, by omega⟩))⟩ | i + 2 => simp at hx)
  have HH47 := HH46.vecSo
  have HH48 := HH47.relen (n := 2) (by first | exact mkL_len _ _ _ _ | (simp; done) | (simp; omega))
  have HH49 := HH48.sel [2, 0, 1, 3] (by decide) rfl
  have HH50 := Held.vecFlat (E := eInt) (xs := [a1, a3]) (css := [[.int .i64 (a1)], [.int .i64 (a3)]]) HH49 rfl (by unfold maxLen; simp) (fun i x hx => by match i with | 0 => exact ⟨_, rfl, fun _ => by simp at hx; subst hx; exact (oI (by exact ⟨by omega, by omega⟩))⟩ | 1 => exact ⟨_, rfl, fun _ => by simp at hx; subst hx; exact (oI (by exact ⟨by omega, by omega⟩))⟩ | i + 2 => simp at hx)
  have HH51 := HH50.vecSo
  have HH52 := HH51.relen (n := 2) (by first | exact mkL_len _ _ _ _ | (simp; done) | (simp; omega))
  have HH53 := HH52.sel [2, 0, 1, 3] (by decide) rfl
  have HH54 := Held.vecFlat (E := eInt) (xs := [a4, a5]) (css := [[.int .i64 (a4)], [.int .i64 (a5)]]) HH53 rfl (by unfold maxLen; simp) (fun i x hx => by match i with | 0 => exact ⟨_, rfl, fun _ => by simp at hx; subst hx; exact (oI (by exact ⟨by omega, by omega⟩))⟩ | 1 => exact ⟨_, rfl, fun _ => by simp at hx; subst hx; exact (oI (by exact ⟨by omega, by omega⟩))⟩ | i + 2 => simp at hx)
  have HH55 := HH54.vecSo
  have HH56 := HH55.relen (n := 2) (by first | exact mkL_len _ _ _ _ | (simp; done) | (simp; omega))
  have HH57 := HH56.sel [2, 1, 0, 3] (by decide) rfl
  have HH58 := HH57.sel [2, 0, 1, 3] (by decide) rfl
  have HH59 := HH58.pairB (F := eInt) (c2 := [.int .i64 (a6)]) (y := a6) (oI (by exact ⟨by omega, by omega⟩))
  have HH60 := HH59.sel [2, 0, 1, 3] (by decide) rfl
  have HH61 := HH60.pair
  have HH62 := HH61.sel [1, 0, 2] (by decide) rfl
  have HH63 := HH62.pair
  have HH64 := HH63.pairF (E := eInt) (c1 := [.int .i64 (a0)]) (x := a0) (oI (by exact ⟨by omega, by omega⟩))
  obtain ⟨S25, HH65⟩ : ∃ S, Held Nob w (rO eMultiRule S [.int .i64 (a0), .slice (some ⟨q22, 0, none⟩) (2) 2, .slice (some ⟨q23, 0, none⟩) (2) 2, .slice (some ⟨q24, 0, none⟩) (2) 2, .int .i64 (a6)] (a0, ([a1, a2] : List Int), ([a1, a3] : List Int), ([a4, a5] : List Int), a6) :: _) _ := ⟨_, HH64⟩
  have hF : (two7 a0 a1 a2 a3 a4 a5 a6) = (a0, ([a1, a2] : List Int), ([a1, a3] : List Int), ([a4, a5] : List Int), a6) := by
    first | rfl | (simp [two7]; done) | (simp [two7]; omega) | grind [two7]
  exact ⟨_, rfl, by rw [hF]; exact (HH65.o (i := 0) rfl), HH65.below⟩

set_option maxRecDepth 100000 in
set_option maxHeartbeats 4000000 in
theorem impl_copyRules (a0 : Int) (w : World) (s0 : 2 ≤ a0 ∧ a0 ≤ 3) :
    Calls Try.prog 78 #[.int .i64 a0] w fun e w' => ∃ (A0' : Option Addr) (c0' : Nat) (S0' : Nat → Prop), e = .returned (.slice A0' (copyRls a0).length c0') ∧ Held Nob w [rVec eMultiRule 108 S0' A0' c0' (copyRls a0)] w' := by
  have HH1 := Held.start Nob w
  refine enter (n := 23) Try.func78 rfl rfl rfl fun a_2 HE3 => ?_
  refine wp_seq ?_
  refine rg ?_
  refine pl_x HE3 HH1 (wt0 rfl) (x_assign rfl) rfl rfl fun a_4 HE5 => ?_
  refine wpList_nil ?_
  clear a_2 HE3
  refine nrm ?_
  refine wp_seq ?_
  refine rg ?_
  refine pl fun K_6 hK7 => ?_
  refine st_lit (m := 0) (cs := []) (e := 108) HE5 HH1 (run_lit ts_53 HE5 (vs := []) rfl rfl (by simp [Value.cells]) rfl (by decide)) (wt0 rfl) rfl rfl fun q21 a_8 w' HE9 HH10 => hK7 _ _ ?_
  refine pl_x HE9 HH10 (wt0 rfl) (x_assign rfl) rfl rfl fun a_11 HE12 => ?_
  refine wpList_nil ?_
  clear a_4 HE5 HH1 a_8 HE9 hK7 K_6
  refine nrm ?_
  refine wp_seq ?_
  refine wp_seq ?_
  refine rg ?_
  refine pl_x HE12 HH10 (wt0 rfl) (x_assign rfl) rfl rfl fun a_13 HE14 => ?_
  refine wpList_nil ?_
  clear a_11 HE12
  refine nrm ?_
  refine wp_block ?_
  have HH15 := Held.vecFlat (E := eMultiRule) (xs := []) (css := []) HH10 rfl (Nat.zero_le _) (fun i x hx => by simp at hx)
  refine lp (fun m a w' => ∃ (k : Nat) (A_3 : Option Addr) (c_3 : Nat) (S_3 : Nat → Prop), m = (a0 - (k : Int)).toNat ∧ Env 23 [(3, .slice A_3 (List.length (copyTo k)) c_3), (4, .int .i64 ((k : Int) + 1)), (0, .int .i64 (a0))] a ∧ Held Nob w [rVec eMultiRule 108 S_3 A_3 c_3 (copyTo k)] w' ∧ ((k : Int) + 1 ≤ a0)) ((a0 - ((0) : Int)).toNat) ?_ ?_
  · have E22 : copyTo 0 = ([] : List tMultiRule) := by
      first | rfl | simp
    exact ⟨0, (some ⟨q21, 0, none⟩), (List.length (α := tMultiRule) []), (fun b => b = q21), rfl, HE14.sub ⟨(by rw [E22]; rfl), (lkI rfl (by first | rfl | omega | (simp []; done))), rfl, trivial⟩, ((HH15.sel [0] (by decide) rfl).to (by first | rfl | (rw [E22]; done) | (rw [E22]; rfl) | (simp only [E22]; done) | (simp only [E22]; rfl) | (rw [E22]; simp only [List.length_set]; done))), (by first | omega | assumption | (simp; done) | simp_all)⟩
  · rintro m a_16 w' ⟨k, A_3, c_3, S_3, rfl, HE17, HH18, p23_0⟩
    have ol := copyTo_len k
    refine wp_seq ?_
    refine wp_seq ?_
    refine rg ?_
    refine pl_x HE17 HH18 (wt0 rfl) (x_move rfl) rfl rfl fun a_19 HE20 => ?_
    refine pl_x HE20 HH18 (wt0 rfl) (x_move rfl) rfl rfl fun a_21 HE22 => ?_
    refine pl_x HE22 HH18 (wt0 rfl) (x_lss rfl rfl) rfl rfl fun a_23 HE24 => ?_
    refine wpList_nil ?_
    clear HH10 a_13 HE14 HH15 a_16 HE17 a_19 HE20 a_21 HE22
    refine nrm ?_
    refine cnd_d HE24 rfl (fun hc24 => ?_) (fun hc24 => ?_)
    · refine wp_skip ?_
      refine nrm ?_
      refine wp_seq ?_
      refine wp_block ?_
      refine wp_seq ?_
      refine rg ?_
      refine pl_x HE24 HH18 (wt0 rfl) (x_move rfl) rfl rfl fun a_25 HE26 => ?_
      refine pl fun K_27 hK28 => ?_
      refine st_call HE26 (wt0 rfl) rfl rfl rfl en_79 rfl rfl (impl_twoTapes 0 ((k : Int) + 1) 0 1 1 0 _ (by omega) (by omega) (by omega) (by omega) (by omega) (by omega)) fun e w' hr => ?_
      obtain ⟨esr25_0, rfl, hor25_0, hbr25⟩ := hr
      have hr := eMultiRule.read hor25_0
      obtain ⟨Sr25, HH29⟩ := HH18.newO hbr25 hor25_0
      obtain ⟨Ar25_0_1, cr25_0_1, Ar25_0_2, cr25_0_2, Ar25_0_3, cr25_0_3, rfl, gr25_0_0, gr25_0_1, gr25_0_2, gr25_0_3, gr25_0_4⟩ := shape_MultiRule hr
      have jr25_0_0 := gr25_0_0; unfold I64 at jr25_0_0
      have jr25_0_4 := gr25_0_4; unfold I64 at jr25_0_4
      have HH30 := HH29.unF rfl
      obtain ⟨S26, S27, HH31⟩ := HH30.unP rfl
      have HH32 := HH31.sel [1, 0, 2] (by decide) rfl
      obtain ⟨S28, S29, HH33⟩ := HH32.unP rfl
      have HH34 := HH33.sel [1, 0, 2, 3] (by decide) rfl
      obtain ⟨S30, S31, HH35⟩ := HH34.unP rfl
      have HH36 := HH35.sel [1, 0, 2, 3, 4] (by decide) rfl
      have HH37 := HH36.sel [1, 2, 3, 4] (by decide) rfl
      refine ⟨_, rfl, fun a_38 HE39 => hK28 _ _ ?_⟩
      refine pl fun K_40 hK41 => ?_
      refine st_alloc HE39 HH37 tv_108 (wt0 rfl) rfl fun q32 a_42 w' HE43 HH44 => hK41 _ _ ?_
      refine pl fun K_45 hK46 => ?_
      refine st_store (vs := [.int .i64 ((two6 0 ((k : Int) + 1) 0 1 1 0).1), .slice Ar25_0_1 ((two6 0 ((k : Int) + 1) 0 1 1 0).2.1.length) cr25_0_1, .slice Ar25_0_2 ((two6 0 ((k : Int) + 1) 0 1 1 0).2.2.1.length) cr25_0_2, .slice Ar25_0_3 ((two6 0 ((k : Int) + 1) 0 1 1 0).2.2.2.1.length) cr25_0_3, .int .i64 ((two6 0 ((k : Int) + 1) 0 1 1 0).2.2.2.2)]) 0 HE43 HH44 tv_108 rfl rfl rfl rfl rfl rfl (by simp [Value.oneCell']) (wt0 rfl) fun w' HH47 => hK46 _ _ ?_
      refine wpList_nil ?_
      clear a_23 HE24 HH18 HH29 HH30 HH31 HH32 HH33 HH34 HH35 HH36 a_25 HE26 K_27 hK28 a_38 HE39 HH37 K_40 hK41 HH44 hK46 K_45
      refine nrm ?_
      refine wp_seq ?_
      refine rg ?_
      refine pl_x HE43 HH47 (wt0 rfl) (x_move rfl) rfl rfl fun a_48 HE49 => ?_
      refine pl_x HE49 HH47 (wt0 rfl) (x_move rfl) rfl rfl fun a_50 HE51 => ?_
      refine pl fun K_52 hK53 => ?_
      refine st_lit (m := 2) (cs := [.int .i64 (((k : Int) + 1)), .int .i64 (((k : Int) + 1))]) (e := 2) HE51 HH47 (run_lit ts_37 HE51 (vs := [.int .i64 (((k : Int) + 1)), .int .i64 (((k : Int) + 1))]) rfl rfl (by simp [Value.cells]) rfl (by decide)) (wt0 rfl) rfl rfl fun q33 a_54 w' HE55 HH56 => hK53 _ _ ?_
      refine pl_x HE55 HH56 (wt0 rfl) (x_fieldAddr fa_108_2 rfl) rfl rfl fun a_57 HE58 => ?_
      refine pl fun K_59 hK60 => ?_
      refine st_store (vs := [.slice (some ⟨q33, 0, none⟩) (2) 2]) 1 HE58 HH56 tv_37 rfl rfl rfl rfl rfl rfl (by simp [Value.oneCell']) (wt0 rfl) fun w' HH61 => hK60 _ _ ?_
      refine wpList_nil ?_
      clear a_42 HE43 a_48 HE49 a_50 HE51 HH47 a_54 HE55 K_52 hK53 HH56 hK60 K_59
      refine nrm ?_
      refine rg ?_
      refine pl_x HE58 HH61 (wt0 rfl) (x_move rfl) rfl rfl fun a_62 HE63 => ?_
      refine pl_x HE63 HH61 (wt0 rfl) (x_loadN (cs := [.int .i64 ((two6 0 ((k : Int) + 1) 0 1 1 0).1), .slice Ar25_0_1 ((two6 0 ((k : Int) + 1) 0 1 1 0).2.1.length) cr25_0_1, .slice (some ⟨q33, 0, none⟩) (2) 2, .slice Ar25_0_3 ((two6 0 ((k : Int) + 1) 0 1 1 0).2.2.2.1.length) cr25_0_3, .int .i64 ((two6 0 ((k : Int) + 1) 0 1 1 0).2.2.2.2)]) tv_108 rfl rfl (c_blkN 1 rfl)) rfl rfl fun a_64 HE65 => ?_
      refine pl fun K_66 hK67 => ?_
      refine st_lit (m := 1) (cs := [.int .i64 ((two6 0 ((k : Int) + 1) 0 1 1 0).1), .slice Ar25_0_1 ((two6 0 ((k : Int) + 1) 0 1 1 0).2.1.length) cr25_0_1, .slice (some ⟨q33, 0, none⟩) (2) 2, .slice Ar25_0_3 ((two6 0 ((k : Int) + 1) 0 1 1 0).2.2.2.1.length) cr25_0_3, .int .i64 ((two6 0 ((k : Int) + 1) 0 1 1 0).2.2.2.2)]) (e := 108) HE65 HH61 (run_lit ts_53 HE65 (vs := [.agg #[.int .i64 ((two6 0 ((k : Int) + 1) 0 1 1 0).1), .slice Ar25_0_1 ((two6 0 ((k : Int) + 1) 0 1 1 0).2.1.length) cr25_0_1, .slice (some ⟨q33, 0, none⟩) (2) 2, .slice Ar25_0_3 ((two6 0 ((k : Int) + 1) 0 1 1 0).2.2.2.1.length) cr25_0_3, .int .i64 ((two6 0 ((k : Int) + 1) 0 1 1 0).2.2.2.2)]]) rfl rfl (by simp [Value.cells]) rfl (by decide)) (wt0 rfl) rfl rfl fun q34 a_68 w' HE69 HH70 => hK67 _ _ ?_
      refine pl fun K_71 hK72 => ?_
      have HH73 := HH70.sel [1, 0, 2, 3, 4, 5, 6] (by decide) rfl
      have HH74 := Held.vecFlat (E := eInt) (xs := [((k : Int) + 1), ((k : Int) + 1)]) (css := [[.int .i64 (((k : Int) + 1))], [.int .i64 (((k : Int) + 1))]]) HH73 rfl (by unfold maxLen; simp) (fun i x hx => by match i with | 0 => exact ⟨_, rfl, fun _ => by simp at hx; subst hx; exact (oI (by exact ⟨by omega, by omega⟩))⟩ | 1 => exact ⟨_, rfl, fun _ => by simp at hx; subst hx; exact (oI (by exact ⟨by omega, by omega⟩))⟩ | i + 2 => simp at hx)
      have HH75 := HH74.vecSo
      have HH76 := HH75.relen (n := 2) (by first | exact mkL_len _ _ _ _ | (simp; done) | (simp; omega))
      have HH77 := HH76.sel [5, 0, 3, 1, 2, 4, 6] (by decide) rfl
      have HH78 := HH77.sel [2, 0, 1, 3, 4, 5, 6] (by decide) rfl
      have HH79 := HH78.pairB (F := eInt) (c2 := [.int .i64 ((two6 0 ((k : Int) + 1) 0 1 1 0).2.2.2.2)]) (y := (two6 0 ((k : Int) + 1) 0 1 1 0).2.2.2.2) (oI (by exact ⟨by omega, by omega⟩))
      have HH80 := HH79.sel [2, 0, 1, 3, 4, 5, 6] (by decide) rfl
      have HH81 := HH80.pair
      have HH82 := HH81.sel [1, 0, 2, 3, 4, 5] (by decide) rfl
      have HH83 := HH82.pair
      have HH84 := HH83.pairF (E := eInt) (c1 := [.int .i64 ((two6 0 ((k : Int) + 1) 0 1 1 0).1)]) (x := (two6 0 ((k : Int) + 1) 0 1 1 0).1) (oI (by exact ⟨by omega, by omega⟩))
      obtain ⟨S38, HH85⟩ : ∃ S, Held Nob w (rO eMultiRule S [.int .i64 ((two6 0 ((k : Int) + 1) 0 1 1 0).1), .slice Ar25_0_1 ((two6 0 ((k : Int) + 1) 0 1 1 0).2.1.length) cr25_0_1, .slice (some ⟨q33, 0, none⟩) (2) 2, .slice Ar25_0_3 ((two6 0 ((k : Int) + 1) 0 1 1 0).2.2.2.1.length) cr25_0_3, .int .i64 ((two6 0 ((k : Int) + 1) 0 1 1 0).2.2.2.2)] ((two6 0 ((k : Int) + 1) 0 1 1 0).1, (two6 0 ((k : Int) + 1) 0 1 1 0).2.1, ([((k : Int) + 1), ((k : Int) + 1)] : List Int), (two6 0 ((k : Int) + 1) 0 1 1 0).2.2.2.1, (two6 0 ((k : Int) + 1) 0 1 1 0).2.2.2.2) :: _) _ := ⟨_, HH84⟩
      refine st_app1 HE69 HH85 ts_53 [4, 0, 1, 2, 3] (by decide) rfl rfl rfl (by simp [Value.oneCell']) (by unfold maxLen; first | omega | (simp; done) | (simp; omega)) (by first | omega | (simp; done) | (simp; omega)) (wt0 rfl) rfl fun A35 c36 S37 a_86 w' HE87 HH88 => hK72 _ _ ?_
      refine pl_x HE87 HH88 (wt0 rfl) (x_assign rfl) rfl rfl fun a_89 HE90 => ?_
      refine wpList_nil ?_
      clear a_57 HE58 a_62 HE63 a_64 HE65 HH61 K_66 hK67 HH70 HH73 HH74 HH75 HH76 HH77 HH78 HH79 HH80 HH81 HH82 HH83 HH84 a_68 HE69 HH85 a_86 HE87 hK72 K_71
      refine blk_n ?_
      refine nrm ?_
      refine rg ?_
      refine pl_x HE90 HH88 (wt0 rfl) (x_move rfl) rfl rfl fun a_91 HE92 => ?_
      refine pl_x HE92 HH88 (wt0 rfl) (x_add rfl rfl (by exact ⟨by omega, by omega⟩)) rfl rfl fun a_93 HE94 => ?_
      refine pl_x HE94 HH88 (wt0 rfl) (x_assign rfl) rfl rfl fun a_95 HE96 => ?_
      refine wpList_nil ?_
      clear a_89 HE90 a_91 HE92 a_93 HE94
      have E39 : copyTo (k + 1) = (copyTo k ++ [((two6 0 ((k : Int) + 1) 0 1 1 0).1, (two6 0 ((k : Int) + 1) 0 1 1 0).2.1, ([((k : Int) + 1), ((k : Int) + 1)] : List Int), (two6 0 ((k : Int) + 1) 0 1 1 0).2.2.2.1, (two6 0 ((k : Int) + 1) 0 1 1 0).2.2.2.2)]) := by
        exact copyTo_succ k
      exact nrm ⟨(a0 - ((k + 1) : Int)).toNat, (by omega), k + 1, A35, c36, S37, rfl, HE96.sub ⟨(by rw [E39]; rfl), (lkI rfl (by first | rfl | omega | (simp [p23_0, hc24]; done))), rfl, trivial⟩, ((HH88.sel [0] (by decide) rfl).to (by first | rfl | (rw [E39]; done) | (rw [E39]; rfl) | (simp only [E39]; done) | (simp only [E39]; rfl) | (rw [E39]; simp only [List.length_set]; done))), (by first | omega | assumption | (simp; done) | simp_all)⟩
    · refine wp_exit ?_
      refine (thn_exit (thn_exit (blk_hit ?_)))
      refine nrm ?_
      refine wp_seq ?_
      refine rg ?_
      refine pl_x HE24 HH18 (wt0 rfl) (x_move rfl) rfl rfl fun a_97 HE98 => ?_
      refine pl_x HE98 HH18 (wt0 rfl) (x_assign rfl) rfl rfl fun a_99 HE100 => ?_
      refine wpList_nil ?_
      clear a_23 HE24 a_97 HE98
      refine nrm ?_
      refine wp_ret ?_
      refine ret1 HE100 rfl (rv_tmp rfl) ?_
      have hF : (copyRls a0) = copyTo k := by
        unfold copyRls; rw [show (a0 - 1).toNat = k from by omega]
      exact ⟨_, _, _, by first | (rw [hF] <;> rfl) | rfl | (rw [hF]; simp only [Ending.returned.injEq, Value.slice.injEq, true_and, and_true]; first | omega | (simp; done)) | (rw [hF]; simp; omega), by rw [hF]; exact HH18.sel [0] (by decide) rfl⟩

theorem one_MultiRule (w : World) (S : Nat → Prop) (es : List Value) (x : tMultiRule) (h : eMultiRule.R w S es x) : ∀ v ∈ es, v.oneCell' = true := by
  obtain ⟨c1, c2, rfl, ⟨rfl, _⟩, d1, d2, rfl, ⟨A1, n1, rfl, _⟩, e1, e2, rfl, ⟨A2, n2, rfl, _⟩, f1, f2, rfl, ⟨A3, n3, rfl, _⟩, rfl, _⟩ := h
  intro v hv
  simp at hv
  rcases hv with rfl | rfl | rfl | rfl | rfl <;> rfl

/-- The place of r among the first k. -/
def posMR (l : List tMultiRule) (r : tMultiRule) : Nat → Nat
  | 0 => 0
  | k + 1 => if beforeMR r (l[k]?.getD default) = true then posMR l r k else k + 1

def putMR (l : List tMultiRule) (r : tMultiRule) : List tMultiRule := l.take (posMR l r l.length) ++ r :: l.drop (posMR l r l.length)

theorem posMR_le (l : List tMultiRule) (r : tMultiRule) : ∀ k, posMR l r k ≤ k
  | 0 => Nat.le_refl _
  | k + 1 => by
    rw [posMR]
    split
    · have := posMR_le l r k; omega
    · exact Nat.le_refl _

theorem posMR_step {l : List tMultiRule} {r x : tMultiRule} {n k : Nat} (h : posMR l r n = posMR l r k) (hk : 0 < k) (hx : l[k - 1]? = some x) (hb : beforeMR r x = true) : posMR l r n = posMR l r (k - 1) := by
  obtain ⟨j, rfl⟩ : ∃ j, k = j + 1 := ⟨k - 1, by omega⟩
  rw [Nat.add_sub_cancel] at hx ⊢
  rw [h, posMR, hx, Option.getD_some, if_pos hb]

theorem posMR_stop {l : List tMultiRule} {r x : tMultiRule} {n k : Nat} (h : posMR l r n = posMR l r k) (hk : 0 < k) (hx : l[k - 1]? = some x) (hb : beforeMR r x = false) : posMR l r n = k := by
  obtain ⟨j, rfl⟩ : ∃ j, k = j + 1 := ⟨k - 1, by omega⟩
  rw [Nat.add_sub_cancel] at hx
  rw [h, posMR, hx, Option.getD_some, if_neg (by rw [hb]; exact Bool.false_ne_true)]

theorem posMR_zero {l : List tMultiRule} {r : tMultiRule} {n k : Nat} (h : posMR l r n = posMR l r k) (hk : ¬ 0 < (k : Int)) : posMR l r n = k := by
  have : k = 0 := by omega
  subst this; exact h

theorem putMR_len (l : List tMultiRule) (r : tMultiRule) : (putMR l r).length = l.length + 1 := by
  unfold putMR
  rw [List.length_append, List.length_cons, List.length_take, List.length_drop]
  have := posMR_le l r l.length
  omega

/-- A row whose elements behind k have been shifted. -/
def shR {α : Type} (l : List α) (z : α) (k : Nat) : List α := l.take k ++ ((l ++ [z])[k]?.getD z) :: l.drop k

theorem shR_len {α : Type} (l : List α) (z : α) (k : Nat) (h : k ≤ l.length) : (shR l z k).length = l.length + 1 := by
  unfold shR
  rw [List.length_append, List.length_cons, List.length_take, List.length_drop]; omega

theorem shR_start {α : Type} (l : List α) (z : α) : shR l z l.length = l ++ [z] := by
  unfold shR
  rw [List.take_of_length_le (Nat.le_refl _), List.drop_of_length_le (Nat.le_refl _), List.getElem?_append_right (Nat.le_refl _), Nat.sub_self]; rfl

theorem shR_set {α : Type} (l : List α) (z r : α) {k : Nat} (h : k ≤ l.length) : (shR l z k).set k r = l.take k ++ r :: l.drop k := by
  have hl : (l.take k).length = k := by rw [List.length_take]; omega
  unfold shR
  rw [List.set_append_right _ _ (by omega), hl, Nat.sub_self]; rfl

theorem shR_step {α : Type} {l : List α} {z e : α} {k : Nat} (h0 : 0 < k) (h : k ≤ l.length) (he : (shR l z k)[k - 1]? = some e) : shR l z (k - 1) = (shR l z k).set k e := by
  have hl : (l.take k).length = k := by rw [List.length_take]; omega
  have e1 : l[k - 1]? = some e := by
    unfold shR at he
    rw [List.getElem?_append_left (by omega), List.getElem?_take_of_lt (by omega)] at he
    exact he
  obtain ⟨j, rfl⟩ : ∃ j, k = j + 1 := ⟨k - 1, by omega⟩
  rw [Nat.add_sub_cancel] at e1 ⊢
  have hj : j < l.length := by omega
  have e2 : l[j] = e := by rw [List.getElem?_eq_getElem hj] at e1; exact Option.some.inj e1
  rw [shR_set l z e h]
  unfold shR
  rw [List.getElem?_append_left hj, e1, Option.getD_some, List.take_succ_eq_append_getElem hj, e2, List.drop_eq_getElem_cons hj, e2]
  simp

theorem put_perm {css : List (List Value)} {l : List tMultiRule} (hl : css.length = l.length) (e : List Value) (r : tMultiRule) (p : Nat) : ((e, r) :: css.zip l).Perm ((css.take p ++ e :: css.drop p).zip (l.take p ++ r :: l.drop p)) := by
  have h1 : (css.take p ++ e :: css.drop p).zip (l.take p ++ r :: l.drop p) = (css.take p).zip (l.take p) ++ (e, r) :: (css.drop p).zip (l.drop p) := by
    rw [List.zip_append (by rw [List.length_take, List.length_take, hl]), List.zip_cons_cons]
  have h2 : css.zip l = (css.take p).zip (l.take p) ++ (css.drop p).zip (l.drop p) := by
    rw [← List.zip_append (by rw [List.length_take, List.length_take, hl]), List.take_append_drop, List.take_append_drop]
  rw [h1, h2]
  exact List.perm_middle.symm

set_option maxRecDepth 100000 in
set_option maxHeartbeats 4000000 in
theorem spec_l06Put (M : Nat → Prop) (A0 : Option Addr) (c0 : Nat) (a0 : (List tMultiRule)) (S0 : Nat → Prop) (es1 : List Value) (a1 : tMultiRule) (S1 : Nat → Prop) (w : World) (HM : Held M w [rVec eMultiRule 108 S0 A0 c0 a0, rO eMultiRule S1 es1 a1] w) (s0 : a0.length ≤ 100000) :
    Calls Try.prog 76 #[.slice A0 a0.length c0, .agg es1.toArray] w fun e w' => ∃ (AR0' : Option Addr) (cR0' : Nat) (SR0' : Nat → Prop), e = .returned (.slice AR0' (putMR a0 a1).length cR0') ∧ Held M w [rVec eMultiRule 108 SR0' AR0' cR0' (putMR a0 a1)] w' := by
  have HH1 := HM
  have lv0 := (HH1.vecSl (i := 0) rfl).len
  have R1 := HH1.rd (i := 1) rfl
  obtain ⟨Az1_1, cz1_1, Az1_2, cz1_2, Az1_3, cz1_3, rfl, gz1_0, gz1_1, gz1_2, gz1_3, gz1_4⟩ := shape_MultiRule R1
  have jz1_0 := gz1_0; unfold I64 at jz1_0
  have jz1_4 := gz1_4; unfold I64 at jz1_4
  clear R1
  refine enter (n := 45) Try.func76 rfl rfl rfl fun a_2 HE3 => ?_
  obtain ⟨css, Sx, Sy, hcl, HH4⟩ := HH1.explode one_MultiRule
  have HE5 := HE3.castS (t := 0) (m' := List.length css) rfl hcl.symm
  refine wp_seq ?_
  refine rg ?_
  refine pl fun K_6 hK7 => ?_
  refine st_box (cs := [.int .i64 (a1.1), .slice Az1_1 (a1.2.1.length) cz1_1, .slice Az1_2 (a1.2.2.1.length) cz1_2, .slice Az1_3 (a1.2.2.2.1.length) cz1_3, .int .i64 (a1.2.2.2.2)]) HE5 HH4 rfl rfl (wt0 rfl) rfl fun q21 a_8 w' HE9 HH10 => hK7 _ _ ?_
  refine pl_x HE9 HH10 (wt0 rfl) (x_assign rfl) rfl rfl fun a_11 HE12 => ?_
  refine wpList_nil ?_
  clear HH1 HE3 a_2 HE5 HH4 a_8 HE9 hK7 K_6
  refine nrm ?_
  refine wp_seq ?_
  refine rg ?_
  refine pl_x HE12 HH10 (wt0 rfl) (x_move rfl) rfl rfl fun a_13 HE14 => ?_
  refine pl_x HE14 HH10 (wt0 rfl) (x_len Try.underlying53 rfl) rfl rfl fun a_15 HE16 => ?_
  refine pl_x HE16 HH10 (wt0 rfl) (x_assign rfl) rfl rfl fun a_17 HE18 => ?_
  refine wpList_nil ?_
  clear a_11 HE12 a_13 HE14 a_15 HE16
  refine nrm ?_
  refine wp_seq ?_
  refine wp_block ?_
  refine lp (fun m a w' => ∃ (k : Nat), m = 0 + k ∧ Env 45 [(5, .int .i64 (k : Int)), (0, .slice A0 ((List.length css)) c0), (3, .pointer (some ⟨q21, 0, none⟩))] a ∧ Held M w [rBlk q21 108 [.int .i64 (a1.1), .slice Az1_1 (a1.2.1.length) cz1_1, .slice Az1_2 (a1.2.2.1.length) cz1_2, .slice Az1_3 (a1.2.2.2.1.length) cz1_3, .int .i64 (a1.2.2.2.2)], rVec (eRaw eMultiRule.size eMultiRule.pos) 108 Sx A0 c0 css, rEls eMultiRule Sy (css.zip a0), rO eMultiRule S1 [.int .i64 (a1.1), .slice Az1_1 (a1.2.1.length) cz1_1, .slice Az1_2 (a1.2.2.1.length) cz1_2, .slice Az1_3 (a1.2.2.2.1.length) cz1_3, .int .i64 (a1.2.2.2.2)] a1] w' ∧ (k ≤ List.length css) ∧ (posMR a0 a1 (List.length css) = posMR a0 a1 k)) (0 + ((List.length css))) ?_ ?_
  · exact ⟨(List.length css), rfl, HE18.sub ⟨rfl, rfl, rfl, trivial⟩, (HH10.sel [0, 1, 2, 3] (by decide) rfl), (by first | omega | assumption | (simp; done) | simp_all), (by rfl)⟩
  · rintro m a_19 w' ⟨k, rfl, HE20, HH21, p22_0, p22_1⟩
    refine wp_seq ?_
    refine wp_seq ?_
    refine rg ?_
    refine pl_x HE20 HH21 (wt0 rfl) (x_move rfl) rfl rfl fun a_22 HE23 => ?_
    refine pl_x HE23 HH21 (wt0 rfl) (x_gtr rfl rfl) rfl rfl fun a_24 HE25 => ?_
    refine pl_x HE25 HH21 (wt0 rfl) (x_move rfl) rfl rfl fun a_26 HE27 => ?_
    by_cases hc23 : 0 < (k : Int)
    · refine pl_x HE27 HH21 (wtT HE27 rfl rfl rfl (decide_eq_true hc23)) (x_move rfl) rfl rfl fun a_28 HE29 => ?_
      refine pl_x HE29 HH21 (wtT HE29 rfl rfl rfl (decide_eq_true hc23)) (x_move rfl) rfl rfl fun a_30 HE31 => ?_
      refine pl_x HE31 HH21 (wtT HE31 rfl rfl rfl (decide_eq_true hc23)) (x_sub rfl rfl (by exact ⟨by omega, by omega⟩)) rfl rfl fun a_32 HE33 => ?_
      have ke24 : (k - 1) < (List.length css) := by omega
      obtain ⟨be24, rfl⟩ := HH21.rawAt (i := 1) rfl ke24
      refine pl_x HE33 HH21 (wtT HE33 rfl rfl rfl (decide_eq_true hc23)) (x_indexAddr ts_53 rfl rfl rfl (by omega) ke24) rfl rfl fun a_34 HE35 => ?_
      refine pl fun K_36 hK37 => ?_
      obtain ⟨es25, xes25⟩ : ∃ es_, (css)[(k - 1)]? = some es_ := ⟨_, List.getElem?_eq_getElem (by omega)⟩
      obtain ⟨ex26, xex26⟩ : ∃ x_, (a0)[(k - 1)]? = some x_ := ⟨_, List.getElem?_eq_getElem (by omega)⟩
      refine st_call HE35 (wtT HE35 rfl rfl rfl (decide_eq_true hc23)) rfl rfl rfl en_111 rfl rfl (spec_l06Before _ _ _ a1 _ _ _ ex26 _ (HH21.rd (i := 3) rfl) (c_blkN 0 rfl _ HH21) (HH21.elsRd (i := 2) rfl (List.getElem?_zip_eq_some.2 ⟨xes25, xex26⟩)) (c_rawN 1 rfl rfl xes25 _ HH21)) fun e w' hr => ?_
      obtain ⟨rfl, hbr27⟩ := hr
      have HH38 := HH21.on hbr27
      refine ⟨_, rfl, fun a_39 HE40 => hK37 _ _ ?_⟩
      refine pl_x HE40 HH38 (wt0 rfl) (x_pickT rfl (decide_eq_true hc23) rfl) rfl rfl fun a_41 HE42 => ?_
      refine wpList_nil ?_
      clear a_17 HE18 HH10 a_19 HE20 a_22 HE23 a_24 HE25 a_26 HE27 a_28 HE29 a_30 HE31 a_32 HE33 HH21 a_34 HE35 a_39 HE40 hK37 K_36
      refine nrm ?_
      refine cnd_b HE42 rfl (fun hc28 => ?_) (fun hc28 => ?_)
      · refine wp_skip ?_
        refine nrm ?_
        refine wp_block ?_
        refine rg ?_
        refine pl_x HE42 HH38 (wt0 rfl) (x_move rfl) rfl rfl fun a_43 HE44 => ?_
        refine pl_x HE44 HH38 (wt0 rfl) (x_sub rfl rfl (by exact ⟨by omega, by omega⟩)) rfl rfl fun a_45 HE46 => ?_
        refine pl_x HE46 HH38 (wt0 rfl) (x_assign rfl) rfl rfl fun a_47 HE48 => ?_
        refine wpList_nil ?_
        clear a_41 HE42 a_43 HE44 a_45 HE46
        refine blk_n ?_
        exact nrm ⟨0 + ((k - 1)), (by omega), (k - 1), rfl, HE48.sub ⟨(lkI rfl (by first | rfl | omega | (simp [p22_0, p22_1, hc23, xex26, hc28]; done))), rfl, rfl, trivial⟩, (HH38.sel [0, 1, 2, 3] (by decide) rfl), (by first | omega | assumption | (simp; done) | simp_all), (by exact posMR_step p22_1 (by omega) (by assumption) (by assumption))⟩
      · refine wp_exit ?_
        refine (thn_exit (thn_exit (blk_hit ?_)))
        refine nrm ?_
        refine wp_seq ?_
        refine rg ?_
        refine pl_x HE42 HH38 (wt0 rfl) (x_move rfl) rfl rfl fun a_49 HE50 => ?_
        refine pl_x HE50 HH38 (wt0 rfl) (show XS _ _ _ _ (.agg #[.int .i64 (0), .slice none (0) 0, .slice none (0) 0, .slice none (0) 0, .int .i64 (0)]) from x_build (vs := []) tb_108 rfl (by simp [Value.oneCell'])) rfl rfl fun a_51 HE52 => ?_
        refine pl fun K_53 hK54 => ?_
        refine st_lit (m := 1) (cs := [.int .i64 (0), .slice none (0) 0, .slice none (0) 0, .slice none (0) 0, .int .i64 (0)]) (e := 108) HE52 HH38 (run_lit ts_53 HE52 (vs := [.agg #[.int .i64 (0), .slice none (0) 0, .slice none (0) 0, .slice none (0) 0, .int .i64 (0)]]) rfl rfl (by simp [Value.cells]) rfl (by decide)) (wt0 rfl) rfl rfl fun q29 a_55 w' HE56 HH57 => hK54 _ _ ?_
        refine pl fun K_58 hK59 => ?_
        refine st_app1F (E := (eRaw eMultiRule.size eMultiRule.pos)) ([.int .i64 (0), .slice none (0) 0, .slice none (0) 0, .slice none (0) 0, .int .i64 (0)] : List Value) HE56 HH57 ts_53 [2, 0, 1, 3, 4] (by decide) rfl (fun _ => ⟨rfl, rfl, by simp [Value.oneCell']⟩) rfl rfl (by simp [Value.oneCell']) (by unfold maxLen; first | omega | (simp; done) | (simp; omega)) (by first | omega | (simp; done) | (simp; omega)) (wt0 rfl) rfl fun A30 c31 S32 a_60 w' HE61 HH62 => hK59 _ _ ?_
        have lA30 : List.length (α := List Value) (css ++ [([.int .i64 (0), .slice none (0) 0, .slice none (0) 0, .slice none (0) 0, .int .i64 (0)] : List Value)]) = List.length css + 1 := List.length_append
        refine pl_x HE61 HH62 (wt0 rfl) (x_assign rfl) rfl rfl fun a_63 HE64 => ?_
        refine wpList_nil ?_
        clear a_41 HE42 a_49 HE50 a_51 HE52 HH38 K_53 hK54 a_55 HE56 HH57 a_60 HE61 hK59 K_58
        refine nrm ?_
        refine wp_seq ?_
        refine wp_seq ?_
        refine rg ?_
        refine pl_x HE64 HH62 (wt0 rfl) (x_move rfl) rfl rfl fun a_65 HE66 => ?_
        refine pl_x HE66 HH62 (wt0 rfl) (x_len Try.underlying53 rfl) rfl rfl fun a_67 HE68 => ?_
        refine pl_x HE68 HH62 (wt0 rfl) (x_sub rfl rfl (by exact ⟨by omega, by omega⟩)) rfl rfl fun a_69 HE70 => ?_
        refine pl_x HE70 HH62 (wt0 rfl) (x_assign rfl) rfl rfl fun a_71 HE72 => ?_
        refine wpList_nil ?_
        clear a_63 HE64 a_65 HE66 a_67 HE68 a_69 HE70
        refine nrm ?_
        refine wp_block ?_
        have hpk : posMR a0 a1 (List.length css) = k := by first | exact posMR_zero p22_1 (by assumption) | exact posMR_stop p22_1 (by omega) (by assumption) (by assumption)
        obtain ⟨zz, hzz⟩ : ∃ zz_, zz_ = ([.int .i64 (0), .slice none (0) 0, .slice none (0) 0, .slice none (0) 0, .int .i64 (0)] : List Value) := ⟨_, rfl⟩
        refine lp (fun m a w' => ∃ (j : Nat) (A_0 : Option Addr) (c_0 : Nat) (S_0 : Nat → Prop), m = 0 + j ∧ Env 45 [(0, .slice A_0 (List.length (shR css zz j)) c_0), (6, .int .i64 (j : Int)), (3, .pointer (some ⟨q21, 0, none⟩)), (5, .int .i64 ((k : Int)))] a ∧ Held M w [rVec (eRaw eMultiRule.size eMultiRule.pos) 108 S_0 A_0 c_0 (shR css zz j), rBlk q21 108 [.int .i64 (a1.1), .slice Az1_1 (a1.2.1.length) cz1_1, .slice Az1_2 (a1.2.2.1.length) cz1_2, .slice Az1_3 (a1.2.2.2.1.length) cz1_3, .int .i64 (a1.2.2.2.2)], rEls eMultiRule Sy (css.zip a0), rO eMultiRule S1 [.int .i64 (a1.1), .slice Az1_1 (a1.2.1.length) cz1_1, .slice Az1_2 (a1.2.2.1.length) cz1_2, .slice Az1_3 (a1.2.2.2.1.length) cz1_3, .int .i64 (a1.2.2.2.2)] a1] w' ∧ (k ≤ j) ∧ (j ≤ List.length css)) (0 + ((List.length css))) ?_ ?_
        · have E33 : (shR css zz ((List.length css))) = (css ++ [([.int .i64 (0), .slice none (0) 0, .slice none (0) 0, .slice none (0) 0, .int .i64 (0)] : List Value)]) := by
            rw [shR_start, hzz]
          exact ⟨(List.length css), A30, c31, S32, rfl, HE72.sub ⟨(by rw [E33]; rfl), (lkI rfl (by simp)), rfl, rfl, trivial⟩, ((HH62.sel [0, 1, 2, 3] (by decide) rfl).to (by first | rfl | (rw [E33]; done) | (rw [E33]; rfl) | (simp only [E33]; done) | (simp only [E33]; rfl) | (rw [E33]; simp only [List.length_set]; done))), (by first | omega | assumption | (simp; done) | simp_all), (by first | omega | assumption | (simp; done) | simp_all)⟩
        · rintro m a_73 w' ⟨j, A_0, c_0, S_0, rfl, HE74, HH75, p34_0, p34_1⟩
          have hln := shR_len css zz j (by omega)
          refine wp_seq ?_
          refine wp_seq ?_
          refine rg ?_
          refine pl_x HE74 HH75 (wt0 rfl) (x_move rfl) rfl rfl fun a_76 HE77 => ?_
          refine pl_x HE77 HH75 (wt0 rfl) (x_move rfl) rfl rfl fun a_78 HE79 => ?_
          refine pl_x HE79 HH75 (wt0 rfl) (x_gtr rfl rfl) rfl rfl fun a_80 HE81 => ?_
          refine wpList_nil ?_
          clear a_71 HE72 HH62 a_73 HE74 a_76 HE77 a_78 HE79
          refine nrm ?_
          refine cnd_d HE81 rfl (fun hc35 => ?_) (fun hc35 => ?_)
          · refine wp_skip ?_
            refine nrm ?_
            refine wp_seq ?_
            refine wp_block ?_
            refine rg ?_
            refine pl_x HE81 HH75 (wt0 rfl) (x_move rfl) rfl rfl fun a_82 HE83 => ?_
            refine pl_x HE83 HH75 (wt0 rfl) (x_move rfl) rfl rfl fun a_84 HE85 => ?_
            refine pl_x HE85 HH75 (wt0 rfl) (x_move rfl) rfl rfl fun a_86 HE87 => ?_
            refine pl_x HE87 HH75 (wt0 rfl) (x_move rfl) rfl rfl fun a_88 HE89 => ?_
            refine pl_x HE89 HH75 (wt0 rfl) (x_sub rfl rfl (by exact ⟨by omega, by omega⟩)) rfl rfl fun a_90 HE91 => ?_
            have ke36 : (j - 1) < (List.length (shR css zz j)) := by omega
            obtain ⟨be36, rfl⟩ := HH75.rawAt (i := 0) rfl ke36
            refine pl_x HE91 HH75 (wt0 rfl) (x_indexAddr ts_53 rfl rfl rfl (by omega) ke36) rfl rfl fun a_92 HE93 => ?_
            obtain ⟨es37, xes37⟩ : ∃ es_, ((shR css zz j))[(j - 1)]? = some es_ := ⟨_, List.getElem?_eq_getElem (by first | omega | (simp; omega))⟩
            have les37 := HH75.rawLen (i := 0) rfl es37 (List.mem_of_getElem? xes37)
            refine pl_x HE93 HH75 (wt0 rfl) (x_loadN (cs := es37) tv_108 rfl les37.1 (c_rawN 0 rfl rfl xes37)) rfl rfl fun a_94 HE95 => ?_
            have ke38 : j < (List.length (shR css zz j)) := by omega
            refine pl_x HE95 HH75 (wt0 rfl) (x_indexAddr ts_53 rfl rfl rfl rfl ke38) rfl rfl fun a_96 HE97 => ?_
            refine pl fun K_98 hK99 => ?_
            refine st_storeRaw (n := eMultiRule.size) (hn := eMultiRule.pos) (vs := es37) 0 HE97 HH75 tv_108 rfl rfl rfl rfl rfl rfl (by first | exact ke38 | omega | (simp; omega)) les37.1 les37.2 (wt0 rfl) fun w' HH100 => hK99 _ _ ?_
            have HE101 := HE97.castS (t := 0) (m' := List.length ((shR css zz j).set j es37)) rfl (by rw [List.length_set])
            refine wpList_nil ?_
            clear a_80 HE81 a_82 HE83 a_84 HE85 a_86 HE87 a_88 HE89 a_90 HE91 a_92 HE93 a_94 HE95 HH75 HE97 hK99 K_98
            refine blk_n ?_
            refine nrm ?_
            refine rg ?_
            refine pl_x HE101 HH100 (wt0 rfl) (x_move rfl) rfl rfl fun a_102 HE103 => ?_
            refine pl_x HE103 HH100 (wt0 rfl) (x_sub rfl rfl (by exact ⟨by omega, by omega⟩)) rfl rfl fun a_104 HE105 => ?_
            refine pl_x HE105 HH100 (wt0 rfl) (x_assign rfl) rfl rfl fun a_106 HE107 => ?_
            refine wpList_nil ?_
            clear a_96 HE101 a_102 HE103 a_104 HE105
            have E39 : (shR css zz ((j - 1))) = ((shR css zz j).set j es37) := by
              exact shR_step (by omega) (by omega) (by assumption)
            exact nrm ⟨0 + ((j - 1)), (by omega), (j - 1), (some ⟨be36, 0, none⟩), c_0, (fun b => b = be36), rfl, HE107.sub ⟨(by rw [E39]; rfl), (lkI rfl (by first | rfl | omega | (simp [p22_0, p22_1, hc23, xex26, hc28, p34_0, p34_1, hc35, xes37]; done))), rfl, rfl, trivial⟩, ((HH100.sel [0, 1, 2, 3] (by decide) rfl).to (by first | rfl | (rw [E39]; done) | (rw [E39]; rfl) | (simp only [E39]; done) | (simp only [E39]; rfl) | (rw [E39]; simp only [List.length_set]; done))), (by first | omega | assumption | (simp; done) | simp_all), (by first | omega | assumption | (simp; done) | simp_all)⟩
          · have hjk : j = k := by omega
            refine wp_exit ?_
            refine (thn_exit (thn_exit (blk_hit ?_)))
            refine nrm ?_
            refine wp_seq ?_
            refine rg ?_
            refine pl_x HE81 HH75 (wt0 rfl) (x_move rfl) rfl rfl fun a_108 HE109 => ?_
            refine pl_x HE109 HH75 (wt0 rfl) (x_move rfl) rfl rfl fun a_110 HE111 => ?_
            refine pl_x HE111 HH75 (wt0 rfl) (x_loadN (cs := [.int .i64 (a1.1), .slice Az1_1 (a1.2.1.length) cz1_1, .slice Az1_2 (a1.2.2.1.length) cz1_2, .slice Az1_3 (a1.2.2.2.1.length) cz1_3, .int .i64 (a1.2.2.2.2)]) tv_108 rfl rfl (c_blkN 1 rfl)) rfl rfl fun a_112 HE113 => ?_
            have ke40 : k < (List.length (shR css zz j)) := by omega
            obtain ⟨be40, rfl⟩ := HH75.rawAt (i := 0) rfl ke40
            refine pl_x HE113 HH75 (wt0 rfl) (x_indexAddr ts_53 rfl rfl rfl rfl ke40) rfl rfl fun a_114 HE115 => ?_
            refine pl fun K_116 hK117 => ?_
            refine st_storeRaw (n := eMultiRule.size) (hn := eMultiRule.pos) (vs := [.int .i64 (a1.1), .slice Az1_1 (a1.2.1.length) cz1_1, .slice Az1_2 (a1.2.2.1.length) cz1_2, .slice Az1_3 (a1.2.2.2.1.length) cz1_3, .int .i64 (a1.2.2.2.2)]) 0 HE115 HH75 tv_108 rfl rfl rfl rfl rfl rfl (by first | exact ke40 | omega | (simp; omega)) rfl (by simp [Value.oneCell']) (wt0 rfl) fun w' HH118 => hK117 _ _ ?_
            have HE119 := HE115.castS (t := 0) (m' := List.length ((shR css zz j).set k [.int .i64 (a1.1), .slice Az1_1 (a1.2.1.length) cz1_1, .slice Az1_2 (a1.2.2.1.length) cz1_2, .slice Az1_3 (a1.2.2.2.1.length) cz1_3, .int .i64 (a1.2.2.2.2)])) rfl (by rw [List.length_set])
            refine wpList_nil ?_
            clear a_80 HE81 a_108 HE109 a_110 HE111 a_112 HE113 HH75 HE115 hK117 K_116
            refine nrm ?_
            refine wp_seq ?_
            refine rg ?_
            refine pl_x HE119 HH118 (wt0 rfl) (x_move rfl) rfl rfl fun a_120 HE121 => ?_
            refine pl_x HE121 HH118 (wt0 rfl) (x_assign rfl) rfl rfl fun a_122 HE123 => ?_
            refine wpList_nil ?_
            clear a_114 HE119 a_120 HE121
            refine nrm ?_
            refine wp_ret ?_
            refine ret1 HE123 rfl (rv_tmp rfl) ?_
            have HH124 := HH118.sel [3, 2, 0, 1] (by decide) rfl
            obtain ⟨Su, HH125⟩ := HH124.unpeel (p := ([.int .i64 (a1.1), .slice Az1_1 (a1.2.1.length) cz1_1, .slice Az1_2 (a1.2.2.1.length) cz1_2, .slice Az1_3 (a1.2.2.2.1.length) cz1_3, .int .i64 (a1.2.2.2.2)], a1))
            have HH126 := HH125.sel [1, 0, 2] (by decide) rfl
            have hfin := shR_set css zz [.int .i64 (a1.1), .slice Az1_1 (a1.2.1.length) cz1_1, .slice Az1_2 (a1.2.2.1.length) cz1_2, .slice Az1_3 (a1.2.2.2.1.length) cz1_3, .int .i64 (a1.2.2.2.2)] (k := k) (by omega)
            have hput : putMR a0 a1 = a0.take k ++ a1 :: a0.drop k := by unfold putMR; rw [← hcl, hpk]
            have hlq : List.length ((shR css zz j).set k [.int .i64 (a1.1), .slice Az1_1 (a1.2.1.length) cz1_1, .slice Az1_2 (a1.2.2.1.length) cz1_2, .slice Az1_3 (a1.2.2.2.1.length) cz1_3, .int .i64 (a1.2.2.2.2)]) = List.length (putMR a0 a1) := by rw [putMR_len, hjk, hfin]; first | (simp; done) | (simp; omega)
            obtain ⟨Sv, HH127⟩ := HH126.implode (xs := putMR a0 a1) hlq (by rw [hjk, hfin, hput]; exact put_perm hcl _ _ k)
            have hF : (putMR a0 a1) = (putMR a0 a1) := by
              rfl
            exact ⟨(some ⟨be40, 0, none⟩), c_0, _, by first | (rw [hF] <;> rfl) | rfl | (rw [hF]; simp only [Ending.returned.injEq, Value.slice.injEq, true_and, and_true]; first | omega | (simp; done)) | (rw [hF]; simp; omega), by rw [hF]; exact HH127.sel [0] (by decide) rfl⟩
    · refine pl_no HE27 (wtF HE27 rfl rfl rfl (decide_eq_false hc23)) rfl rfl fun a_128 HE129 => ?_
      refine pl_no HE129 (wtF HE129 rfl rfl rfl (decide_eq_false hc23)) rfl rfl fun a_130 HE131 => ?_
      refine pl_no HE131 (wtF HE131 rfl rfl rfl (decide_eq_false hc23)) rfl rfl fun a_132 HE133 => ?_
      refine pl_no HE133 (wtF HE133 rfl rfl rfl (decide_eq_false hc23)) rfl rfl fun a_134 HE135 => ?_
      refine pl_no HE135 (wtF HE135 rfl rfl rfl (decide_eq_false hc23)) rfl rfl fun a_136 HE137 => ?_
      refine pl_x HE137 HH21 (wt0 rfl) (x_pickF rfl (decide_eq_false hc23) rfl) rfl rfl fun a_138 HE139 => ?_
      refine wpList_nil ?_
      clear a_17 HE18 HH10 a_19 HE20 a_22 HE23 a_24 HE25 a_26 HE27 a_128 HE129 a_130 HE131 a_132 HE133 a_134 HE135 a_136 HE137
      refine nrm ?_
      refine cndF HE139 rfl rfl ?_
      refine wp_exit ?_
      refine (thn_exit (thn_exit (blk_hit ?_)))
      refine nrm ?_
      refine wp_seq ?_
      refine rg ?_
      refine pl_x HE139 HH21 (wt0 rfl) (x_move rfl) rfl rfl fun a_140 HE141 => ?_
      refine pl_x HE141 HH21 (wt0 rfl) (show XS _ _ _ _ (.agg #[.int .i64 (0), .slice none (0) 0, .slice none (0) 0, .slice none (0) 0, .int .i64 (0)]) from x_build (vs := []) tb_108 rfl (by simp [Value.oneCell'])) rfl rfl fun a_142 HE143 => ?_
      refine pl fun K_144 hK145 => ?_
      refine st_lit (m := 1) (cs := [.int .i64 (0), .slice none (0) 0, .slice none (0) 0, .slice none (0) 0, .int .i64 (0)]) (e := 108) HE143 HH21 (run_lit ts_53 HE143 (vs := [.agg #[.int .i64 (0), .slice none (0) 0, .slice none (0) 0, .slice none (0) 0, .int .i64 (0)]]) rfl rfl (by simp [Value.cells]) rfl (by decide)) (wt0 rfl) rfl rfl fun q41 a_146 w' HE147 HH148 => hK145 _ _ ?_
      refine pl fun K_149 hK150 => ?_
      refine st_app1F (E := (eRaw eMultiRule.size eMultiRule.pos)) ([.int .i64 (0), .slice none (0) 0, .slice none (0) 0, .slice none (0) 0, .int .i64 (0)] : List Value) HE147 HH148 ts_53 [2, 0, 1, 3, 4] (by decide) rfl (fun _ => ⟨rfl, rfl, by simp [Value.oneCell']⟩) rfl rfl (by simp [Value.oneCell']) (by unfold maxLen; first | omega | (simp; done) | (simp; omega)) (by first | omega | (simp; done) | (simp; omega)) (wt0 rfl) rfl fun A42 c43 S44 a_151 w' HE152 HH153 => hK150 _ _ ?_
      have lA42 : List.length (α := List Value) (css ++ [([.int .i64 (0), .slice none (0) 0, .slice none (0) 0, .slice none (0) 0, .int .i64 (0)] : List Value)]) = List.length css + 1 := List.length_append
      refine pl_x HE152 HH153 (wt0 rfl) (x_assign rfl) rfl rfl fun a_154 HE155 => ?_
      refine wpList_nil ?_
      clear a_138 HE139 a_140 HE141 a_142 HE143 HH21 K_144 hK145 a_146 HE147 HH148 a_151 HE152 hK150 K_149
      refine nrm ?_
      refine wp_seq ?_
      refine wp_seq ?_
      refine rg ?_
      refine pl_x HE155 HH153 (wt0 rfl) (x_move rfl) rfl rfl fun a_156 HE157 => ?_
      refine pl_x HE157 HH153 (wt0 rfl) (x_len Try.underlying53 rfl) rfl rfl fun a_158 HE159 => ?_
      refine pl_x HE159 HH153 (wt0 rfl) (x_sub rfl rfl (by exact ⟨by omega, by omega⟩)) rfl rfl fun a_160 HE161 => ?_
      refine pl_x HE161 HH153 (wt0 rfl) (x_assign rfl) rfl rfl fun a_162 HE163 => ?_
      refine wpList_nil ?_
      clear a_154 HE155 a_156 HE157 a_158 HE159 a_160 HE161
      refine nrm ?_
      refine wp_block ?_
      have hpk : posMR a0 a1 (List.length css) = k := by first | exact posMR_zero p22_1 (by assumption) | exact posMR_stop p22_1 (by omega) (by assumption) (by assumption)
      obtain ⟨zz, hzz⟩ : ∃ zz_, zz_ = ([.int .i64 (0), .slice none (0) 0, .slice none (0) 0, .slice none (0) 0, .int .i64 (0)] : List Value) := ⟨_, rfl⟩
      refine lp (fun m a w' => ∃ (j : Nat) (A_0 : Option Addr) (c_0 : Nat) (S_0 : Nat → Prop), m = 0 + j ∧ Env 45 [(0, .slice A_0 (List.length (shR css zz j)) c_0), (6, .int .i64 (j : Int)), (3, .pointer (some ⟨q21, 0, none⟩)), (5, .int .i64 ((k : Int)))] a ∧ Held M w [rVec (eRaw eMultiRule.size eMultiRule.pos) 108 S_0 A_0 c_0 (shR css zz j), rBlk q21 108 [.int .i64 (a1.1), .slice Az1_1 (a1.2.1.length) cz1_1, .slice Az1_2 (a1.2.2.1.length) cz1_2, .slice Az1_3 (a1.2.2.2.1.length) cz1_3, .int .i64 (a1.2.2.2.2)], rEls eMultiRule Sy (css.zip a0), rO eMultiRule S1 [.int .i64 (a1.1), .slice Az1_1 (a1.2.1.length) cz1_1, .slice Az1_2 (a1.2.2.1.length) cz1_2, .slice Az1_3 (a1.2.2.2.1.length) cz1_3, .int .i64 (a1.2.2.2.2)] a1] w' ∧ (k ≤ j) ∧ (j ≤ List.length css)) (0 + ((List.length css))) ?_ ?_
      · have E45 : (shR css zz ((List.length css))) = (css ++ [([.int .i64 (0), .slice none (0) 0, .slice none (0) 0, .slice none (0) 0, .int .i64 (0)] : List Value)]) := by
          rw [shR_start, hzz]
        exact ⟨(List.length css), A42, c43, S44, rfl, HE163.sub ⟨(by rw [E45]; rfl), (lkI rfl (by simp)), rfl, rfl, trivial⟩, ((HH153.sel [0, 1, 2, 3] (by decide) rfl).to (by first | rfl | (rw [E45]; done) | (rw [E45]; rfl) | (simp only [E45]; done) | (simp only [E45]; rfl) | (rw [E45]; simp only [List.length_set]; done))), (by first | omega | assumption | (simp; done) | simp_all), (by first | omega | assumption | (simp; done) | simp_all)⟩
      · rintro m a_164 w' ⟨j, A_0, c_0, S_0, rfl, HE165, HH166, p46_0, p46_1⟩
        have hln := shR_len css zz j (by omega)
        refine wp_seq ?_
        refine wp_seq ?_
        refine rg ?_
        refine pl_x HE165 HH166 (wt0 rfl) (x_move rfl) rfl rfl fun a_167 HE168 => ?_
        refine pl_x HE168 HH166 (wt0 rfl) (x_move rfl) rfl rfl fun a_169 HE170 => ?_
        refine pl_x HE170 HH166 (wt0 rfl) (x_gtr rfl rfl) rfl rfl fun a_171 HE172 => ?_
        refine wpList_nil ?_
        clear a_162 HE163 HH153 a_164 HE165 a_167 HE168 a_169 HE170
        refine nrm ?_
        refine cnd_d HE172 rfl (fun hc47 => ?_) (fun hc47 => ?_)
        · refine wp_skip ?_
          refine nrm ?_
          refine wp_seq ?_
          refine wp_block ?_
          refine rg ?_
          refine pl_x HE172 HH166 (wt0 rfl) (x_move rfl) rfl rfl fun a_173 HE174 => ?_
          refine pl_x HE174 HH166 (wt0 rfl) (x_move rfl) rfl rfl fun a_175 HE176 => ?_
          refine pl_x HE176 HH166 (wt0 rfl) (x_move rfl) rfl rfl fun a_177 HE178 => ?_
          refine pl_x HE178 HH166 (wt0 rfl) (x_move rfl) rfl rfl fun a_179 HE180 => ?_
          refine pl_x HE180 HH166 (wt0 rfl) (x_sub rfl rfl (by exact ⟨by omega, by omega⟩)) rfl rfl fun a_181 HE182 => ?_
          have ke48 : (j - 1) < (List.length (shR css zz j)) := by omega
          obtain ⟨be48, rfl⟩ := HH166.rawAt (i := 0) rfl ke48
          refine pl_x HE182 HH166 (wt0 rfl) (x_indexAddr ts_53 rfl rfl rfl (by omega) ke48) rfl rfl fun a_183 HE184 => ?_
          obtain ⟨es49, xes49⟩ : ∃ es_, ((shR css zz j))[(j - 1)]? = some es_ := ⟨_, List.getElem?_eq_getElem (by first | omega | (simp; omega))⟩
          have les49 := HH166.rawLen (i := 0) rfl es49 (List.mem_of_getElem? xes49)
          refine pl_x HE184 HH166 (wt0 rfl) (x_loadN (cs := es49) tv_108 rfl les49.1 (c_rawN 0 rfl rfl xes49)) rfl rfl fun a_185 HE186 => ?_
          have ke50 : j < (List.length (shR css zz j)) := by omega
          refine pl_x HE186 HH166 (wt0 rfl) (x_indexAddr ts_53 rfl rfl rfl rfl ke50) rfl rfl fun a_187 HE188 => ?_
          refine pl fun K_189 hK190 => ?_
          refine st_storeRaw (n := eMultiRule.size) (hn := eMultiRule.pos) (vs := es49) 0 HE188 HH166 tv_108 rfl rfl rfl rfl rfl rfl (by first | exact ke50 | omega | (simp; omega)) les49.1 les49.2 (wt0 rfl) fun w' HH191 => hK190 _ _ ?_
          have HE192 := HE188.castS (t := 0) (m' := List.length ((shR css zz j).set j es49)) rfl (by rw [List.length_set])
          refine wpList_nil ?_
          clear a_171 HE172 a_173 HE174 a_175 HE176 a_177 HE178 a_179 HE180 a_181 HE182 a_183 HE184 a_185 HE186 HH166 HE188 hK190 K_189
          refine blk_n ?_
          refine nrm ?_
          refine rg ?_
          refine pl_x HE192 HH191 (wt0 rfl) (x_move rfl) rfl rfl fun a_193 HE194 => ?_
          refine pl_x HE194 HH191 (wt0 rfl) (x_sub rfl rfl (by exact ⟨by omega, by omega⟩)) rfl rfl fun a_195 HE196 => ?_
          refine pl_x HE196 HH191 (wt0 rfl) (x_assign rfl) rfl rfl fun a_197 HE198 => ?_
          refine wpList_nil ?_
          clear a_187 HE192 a_193 HE194 a_195 HE196
          have E51 : (shR css zz ((j - 1))) = ((shR css zz j).set j es49) := by
            exact shR_step (by omega) (by omega) (by assumption)
          exact nrm ⟨0 + ((j - 1)), (by omega), (j - 1), (some ⟨be48, 0, none⟩), c_0, (fun b => b = be48), rfl, HE198.sub ⟨(by rw [E51]; rfl), (lkI rfl (by first | rfl | omega | (simp [p22_0, p22_1, hc23, p46_0, p46_1, hc47, xes49]; done))), rfl, rfl, trivial⟩, ((HH191.sel [0, 1, 2, 3] (by decide) rfl).to (by first | rfl | (rw [E51]; done) | (rw [E51]; rfl) | (simp only [E51]; done) | (simp only [E51]; rfl) | (rw [E51]; simp only [List.length_set]; done))), (by first | omega | assumption | (simp; done) | simp_all), (by first | omega | assumption | (simp; done) | simp_all)⟩
        · have hjk : j = k := by omega
          refine wp_exit ?_
          refine (thn_exit (thn_exit (blk_hit ?_)))
          refine nrm ?_
          refine wp_seq ?_
          refine rg ?_
          refine pl_x HE172 HH166 (wt0 rfl) (x_move rfl) rfl rfl fun a_199 HE200 => ?_
          refine pl_x HE200 HH166 (wt0 rfl) (x_move rfl) rfl rfl fun a_201 HE202 => ?_
          refine pl_x HE202 HH166 (wt0 rfl) (x_loadN (cs := [.int .i64 (a1.1), .slice Az1_1 (a1.2.1.length) cz1_1, .slice Az1_2 (a1.2.2.1.length) cz1_2, .slice Az1_3 (a1.2.2.2.1.length) cz1_3, .int .i64 (a1.2.2.2.2)]) tv_108 rfl rfl (c_blkN 1 rfl)) rfl rfl fun a_203 HE204 => ?_
          have ke52 : k < (List.length (shR css zz j)) := by omega
          obtain ⟨be52, rfl⟩ := HH166.rawAt (i := 0) rfl ke52
          refine pl_x HE204 HH166 (wt0 rfl) (x_indexAddr ts_53 rfl rfl rfl rfl ke52) rfl rfl fun a_205 HE206 => ?_
          refine pl fun K_207 hK208 => ?_
          refine st_storeRaw (n := eMultiRule.size) (hn := eMultiRule.pos) (vs := [.int .i64 (a1.1), .slice Az1_1 (a1.2.1.length) cz1_1, .slice Az1_2 (a1.2.2.1.length) cz1_2, .slice Az1_3 (a1.2.2.2.1.length) cz1_3, .int .i64 (a1.2.2.2.2)]) 0 HE206 HH166 tv_108 rfl rfl rfl rfl rfl rfl (by first | exact ke52 | omega | (simp; omega)) rfl (by simp [Value.oneCell']) (wt0 rfl) fun w' HH209 => hK208 _ _ ?_
          have HE210 := HE206.castS (t := 0) (m' := List.length ((shR css zz j).set k [.int .i64 (a1.1), .slice Az1_1 (a1.2.1.length) cz1_1, .slice Az1_2 (a1.2.2.1.length) cz1_2, .slice Az1_3 (a1.2.2.2.1.length) cz1_3, .int .i64 (a1.2.2.2.2)])) rfl (by rw [List.length_set])
          refine wpList_nil ?_
          clear a_171 HE172 a_199 HE200 a_201 HE202 a_203 HE204 HH166 HE206 hK208 K_207
          refine nrm ?_
          refine wp_seq ?_
          refine rg ?_
          refine pl_x HE210 HH209 (wt0 rfl) (x_move rfl) rfl rfl fun a_211 HE212 => ?_
          refine pl_x HE212 HH209 (wt0 rfl) (x_assign rfl) rfl rfl fun a_213 HE214 => ?_
          refine wpList_nil ?_
          clear a_205 HE210 a_211 HE212
          refine nrm ?_
          refine wp_ret ?_
          refine ret1 HE214 rfl (rv_tmp rfl) ?_
          have HH215 := HH209.sel [3, 2, 0, 1] (by decide) rfl
          obtain ⟨Su, HH216⟩ := HH215.unpeel (p := ([.int .i64 (a1.1), .slice Az1_1 (a1.2.1.length) cz1_1, .slice Az1_2 (a1.2.2.1.length) cz1_2, .slice Az1_3 (a1.2.2.2.1.length) cz1_3, .int .i64 (a1.2.2.2.2)], a1))
          have HH217 := HH216.sel [1, 0, 2] (by decide) rfl
          have hfin := shR_set css zz [.int .i64 (a1.1), .slice Az1_1 (a1.2.1.length) cz1_1, .slice Az1_2 (a1.2.2.1.length) cz1_2, .slice Az1_3 (a1.2.2.2.1.length) cz1_3, .int .i64 (a1.2.2.2.2)] (k := k) (by omega)
          have hput : putMR a0 a1 = a0.take k ++ a1 :: a0.drop k := by unfold putMR; rw [← hcl, hpk]
          have hlq : List.length ((shR css zz j).set k [.int .i64 (a1.1), .slice Az1_1 (a1.2.1.length) cz1_1, .slice Az1_2 (a1.2.2.1.length) cz1_2, .slice Az1_3 (a1.2.2.2.1.length) cz1_3, .int .i64 (a1.2.2.2.2)]) = List.length (putMR a0 a1) := by rw [putMR_len, hjk, hfin]; first | (simp; done) | (simp; omega)
          obtain ⟨Sv, HH218⟩ := HH217.implode (xs := putMR a0 a1) hlq (by rw [hjk, hfin, hput]; exact put_perm hcl _ _ k)
          have hF : (putMR a0 a1) = (putMR a0 a1) := by
            rfl
          exact ⟨(some ⟨be52, 0, none⟩), c_0, _, by first | (rw [hF] <;> rfl) | rfl | (rw [hF]; simp only [Ending.returned.injEq, Value.slice.injEq, true_and, and_true]; first | omega | (simp; done)) | (rw [hF]; simp; omega), by rw [hF]; exact HH218.sel [0] (by decide) rfl⟩

theorem Sl.i64 {w : World} {S : Nat → Prop} {A : Option Addr} {c : Nat} {xs : List Int} (h : Sl eInt w S A c xs) : ∀ x ∈ xs, -9223372036854775808 ≤ x ∧ x ≤ 9223372036854775807 := by
  intro x hx
  obtain ⟨i, hi⟩ := List.mem_iff_getElem?.1 hx
  obtain ⟨b, off, _, _, hc⟩ := h.2.2 (fun e => by rw [e] at hx; cases hx)
  obtain ⟨es, ⟨_, h1⟩, _⟩ := hc i x hi
  exact h1

open Go.Lib in
def mk2 : List Int → List tFraction
  | a :: b :: r => (a, b) :: mk2 r
  | _ => []

open Go.Lib in
def knownL (k : Int) : List tFraction := if k = 0 then mk2 [3, 2] else if k = 1 then mk2 [455, 33, 11, 13, 1, 11, 3, 7, 11, 2, 1, 3] else mk2 [17, 91, 78, 85, 19, 51, 23, 38, 29, 33, 77, 29, 95, 23, 77, 19, 1, 17, 11, 13, 13, 11, 15, 14, 15, 2, 55, 1]

open Go.Lib in
def known (k : Int) : List tFraction × Int := if withinB k 0 2 = true then (knownL k, 0) else ([], 2)

def powN (a : List Int) : Nat → List Int
  | 0 => [1]
  | e + 1 => mulN (powN a e) a

def nn (a b : Int) : List Int := mulN (powN [2] a.toNat) (powN [3] b.toNat)

/-- Nothing has changed but for new blocks and draws. -/
def Gr (w w' : World) : Prop := ∃ (q : Nat) (os : Array Obj), w' = Go.Sort.grow (w.drewN q) os

theorem Gr.refl (w : World) : Gr w w := ⟨0, #[], by simp [Go.Sort.grow, World.drewN]⟩

theorem Gr.alloc {w w' : World} (h : Gr w w') (o : Obj) : Gr w (w'.alloc o) := by
  obtain ⟨q, os, rfl⟩ := h
  exact ⟨q, os ++ #[o], by rw [Go.Sort.alloc_eq_grow, Go.Sort.grow_grow]⟩

theorem st_boxG {P : Program} {ops : Array Oper} {Q : Exit → Act → World → Prop} {a : Act} {w : World} {K : Act → World → Prop} {n d : Nat} {L : List (Nat × Value)} {M : Nat → Prop} {w0 wb : World} {rs : List Res} {t : TypeId} {x : Operand} {v : Value} {cs : List Value} {ty : TypeId} {pos : String} {af : Array Edge} {g : Option (Nat × Bool)} (hG : Gr wb w) (hE : Env n L a) (hH : Held M w0 rs w) (hx : ev L x = some v) (hv : v.cells = cs.toArray) (hw : Region.wanted ⟨some d, .box t x, ty, pos, af, g⟩ (yielded ops a.tmps) = true) (hn : Nat.blt d n = true)
    (k : ∀ q a' w', Env n ((d, .pointer (some ⟨q, 0, none⟩)) :: L) a' → Held M w0 (rBlk q t cs :: rs) w' → Gr wb w' → K a' w') : Stp P ops Q ⟨some d, .box t x, ty, pos, af, g⟩ a w K :=
  st_val hE hw (run_box hE hx hv) rfl hn fun a' hE' => k _ a' _ hE' (hH.alloc t cs) (hG.alloc _)

theorem cmpL_anti : ∀ a b : List Int, cmpL b a = - cmpL a b
  | [], [] => rfl
  | [], _ :: _ => rfl
  | _ :: _, [] => rfl
  | x :: xs, y :: ys => by
    have ih := cmpL_anti xs ys
    unfold cmpL
    split <;> split <;> first | omega | (split <;> omega) | rfl

theorem cmpL_zero : ∀ a b : List Int, cmpL a b = 0 → a = b
  | [], [], _ => rfl
  | [], _ :: _, h => by simp [cmpL] at h
  | _ :: _, [], h => by simp [cmpL] at h
  | x :: xs, y :: ys, h => by
    unfold cmpL at h
    split at h
    · omega
    · split at h
      · omega
      · rw [cmpL_zero xs ys h, show x = y by omega]

theorem cmpL_self (a : List Int) : cmpL a a = 0 := by have := cmpL_anti a a; omega

theorem cmpL_trans : ∀ a b c : List Int, cmpL a b < 0 → cmpL b c < 0 → cmpL a c < 0
  | [], [], _, h, _ => by simp [cmpL] at h
  | [], _ :: _, [], _, h => by simp [cmpL] at h
  | [], _ :: _, _ :: _, _, _ => by simp [cmpL]
  | _ :: _, [], _, h, _ => by simp [cmpL] at h
  | _ :: _, _ :: _, [], _, h => by simp [cmpL] at h
  | x :: xs, y :: ys, z :: zs, h1, h2 => by
    have ih := cmpL_trans xs ys zs
    unfold cmpL at h1 h2 ⊢
    by_cases e1 : x < y
    · by_cases e2 : y < z
      · rw [if_pos (by omega)]; omega
      · by_cases e3 : z < y
        · rw [if_neg e2, if_pos e3] at h2; omega
        · rw [if_pos (by omega)]; omega
    · by_cases e3 : y < x
      · rw [if_neg e1, if_pos e3] at h1; omega
      · rw [if_neg e1, if_neg e3] at h1
        obtain rfl : x = y := by omega
        by_cases e2 : x < z
        · rw [if_pos e2]; omega
        · by_cases e4 : z < x
          · rw [if_neg e2, if_pos e4] at h2; omega
          · rw [if_neg e2, if_neg e4] at h2 ⊢
            exact ih h1 h2

theorem cmpMR_anti (a b : tMultiRule) : cmpMR b a = - cmpMR a b := by
  have := cmpL_anti a.2.1 b.2.1
  unfold cmpMR
  by_cases h : a.1 = b.1
  · rw [if_pos h, if_pos h.symm]; exact this
  · rw [if_neg h, if_neg (Ne.symm h)]
    by_cases h2 : a.1 < b.1
    · rw [if_pos h2, if_neg (by omega)]; rfl
    · rw [if_neg h2, if_pos (by omega)]

theorem cmpMR_zero {a b : tMultiRule} : cmpMR a b = 0 ↔ a.1 = b.1 ∧ a.2.1 = b.2.1 := by
  unfold cmpMR
  by_cases h : a.1 = b.1
  · rw [if_pos h]
    exact ⟨fun hc => ⟨h, cmpL_zero _ _ hc⟩, fun hc => by rw [hc.2, cmpL_self]⟩
  · rw [if_neg h]
    exact ⟨fun hc => by split at hc <;> omega, fun hc => absurd hc.1 h⟩

theorem cmpMR_self (a : tMultiRule) : cmpMR a a = 0 := cmpMR_zero.2 ⟨rfl, rfl⟩

theorem cmpMR_trans {a b c : tMultiRule} (h1 : cmpMR a b < 0) (h2 : cmpMR b c < 0) : cmpMR a c < 0 := by
  unfold cmpMR at h1 h2 ⊢
  by_cases e1 : a.1 = b.1
  · by_cases e2 : b.1 = c.1
    · rw [if_pos e1] at h1; rw [if_pos e2] at h2; rw [if_pos (by omega)]
      exact cmpL_trans _ _ _ h1 h2
    · rw [if_neg e2] at h2; rw [if_neg (by omega)]
      by_cases e3 : b.1 < c.1
      · rw [if_pos (by omega)]; omega
      · rw [if_neg e3] at h2; omega
  · rw [if_neg e1] at h1
    by_cases e3 : a.1 < b.1
    · by_cases e2 : b.1 = c.1
      · rw [if_neg (by omega), if_pos (by omega)]; omega
      · rw [if_neg e2] at h2
        by_cases e4 : b.1 < c.1
        · rw [if_neg (by omega), if_pos (by omega)]; omega
        · rw [if_neg e4] at h2; omega
    · rw [if_neg e3] at h1; omega

theorem cmpMR_cong {a b c : tMultiRule} (h : cmpMR a b = 0) : cmpMR a c = cmpMR b c := by
  obtain ⟨h1, h2⟩ := cmpMR_zero.1 h
  unfold cmpMR; rw [h1, h2]

theorem swo_MR {ι : Type} (f : ι → tMultiRule) : Go.Sort.SWO (ltOf fun x y => cmpMR (f x) (f y)) where
  irrefl x := by simp [ltOf, cmpMR_self]
  trans x y z h1 h2 := by
    simp only [ltOf, decide_eq_true_eq] at *
    exact cmpMR_trans h1 h2
  ntrans x y z h1 h2 := by
    simp only [ltOf, decide_eq_false_iff_not] at *
    intro h3
    have a1 := cmpMR_anti (f x) (f y)
    have a2 := cmpMR_anti (f y) (f z)
    by_cases e1 : cmpMR (f y) (f x) = 0
    · have := cmpMR_cong (c := f z) e1; omega
    · by_cases e2 : cmpMR (f z) (f y) = 0
      · have := cmpMR_cong (c := f x) e2
        have := cmpMR_anti (f x) (f z)
        omega
      · have := cmpMR_trans (a := f y) (b := f x) (c := f z) (by omega) h3
        omega

/-- The rules in order. -/
def sortMR (l : List tMultiRule) : List tMultiRule := l.foldl putMR []

def upMR (l : List tMultiRule) : Prop := l.Pairwise fun x y => cmpMR x y < 0

def apartMR (l : List tMultiRule) : Prop := l.Pairwise fun x y => cmpMR x y ≠ 0

theorem putMR_perm (l : List tMultiRule) (r : tMultiRule) : (putMR l r).Perm (r :: l) := by
  unfold putMR
  refine List.perm_middle.trans ?_
  rw [List.take_append_drop]

theorem posMR_behind {l : List tMultiRule} {r : tMultiRule} : ∀ (n : Nat), n ≤ l.length → ∀ i (hi : i < l.length), posMR l r n ≤ i → i < n → cmpMR r l[i] < 0
  | 0, _, _, _, _, h => absurd h (Nat.not_lt_zero _)
  | n + 1, hn, i, hi, h1, h2 => by
    rw [posMR] at h1
    split at h1
    · next hb =>
      by_cases e : i = n
      · subst e
        rw [List.getElem?_eq_getElem hi, Option.getD_some] at hb
        unfold beforeMR at hb
        simpa using hb
      · exact posMR_behind n (by omega) i hi h1 (by omega)
    · omega

theorem posMR_front {l : List tMultiRule} {r : tMultiRule} : ∀ (n : Nat), n ≤ l.length → ∀ k, posMR l r n = k + 1 → ∃ hk : k < l.length, ¬ cmpMR r l[k] < 0
  | 0, _, k, h => by simp [posMR] at h
  | n + 1, hn, k, h => by
    rw [posMR] at h
    split at h
    · exact posMR_front n (by omega) k h
    · next hb =>
      obtain rfl : n = k := by omega
      refine ⟨by omega, ?_⟩
      rw [List.getElem?_eq_getElem (by omega), Option.getD_some] at hb
      unfold beforeMR at hb
      simpa using hb

theorem putMR_up {l : List tMultiRule} {r : tMultiRule} (h : upMR l) (hd : ∀ x ∈ l, cmpMR x r ≠ 0) : upMR (putMR l r) := by
  unfold upMR putMR at *
  have hp := posMR_le l r l.length
  refine List.pairwise_append.2 ⟨h.sublist (List.take_sublist _ _), List.pairwise_cons.2 ⟨fun x hx => ?_, h.sublist (List.drop_sublist _ _)⟩, fun x hx y hy => ?_⟩
  · obtain ⟨i, hi, rfl⟩ := List.mem_iff_getElem.1 hx
    rw [List.getElem_drop]
    rw [List.length_drop] at hi
    exact posMR_behind l.length (Nat.le_refl _) _ _ (by omega) (by omega)
  · obtain ⟨i, hi, rfl⟩ := List.mem_iff_getElem.1 hx
    rw [List.length_take] at hi
    rw [List.getElem_take]
    have hlt : cmpMR l[i] r < 0 := by
      obtain ⟨k, hk⟩ : ∃ k, posMR l r l.length = k + 1 := ⟨posMR l r l.length - 1, by omega⟩
      obtain ⟨hk1, hk2⟩ := posMR_front l.length (Nat.le_refl _) k hk
      have h1 := cmpMR_anti r l[k]
      have h2 := hd l[k] (List.getElem_mem _)
      by_cases e : i = k
      · subst e; omega
      · exact cmpMR_trans (List.pairwise_iff_getElem.1 h i k (by omega) hk1 (by omega)) (by omega)
    rcases List.mem_cons.1 hy with rfl | hy
    · exact hlt
    · obtain ⟨j, hj, rfl⟩ := List.mem_iff_getElem.1 hy
      rw [List.getElem_drop]
      rw [List.length_drop] at hj
      exact List.pairwise_iff_getElem.1 h i _ (by omega) (by omega) (by omega)

theorem foldMR {l : List tMultiRule} : ∀ (acc : List tMultiRule), upMR acc → apartMR (acc ++ l) → upMR (l.foldl putMR acc) ∧ (l.foldl putMR acc).Perm (acc ++ l) := by
  induction l with
  | nil => intro acc h _; exact ⟨h, by simp⟩
  | cons r l ih =>
    intro acc h hd
    have h0 : (putMR acc r ++ l).Perm (acc ++ r :: l) := ((putMR_perm acc r).append_right l).trans (List.perm_middle.symm)
    have h1 : upMR (putMR acc r) := putMR_up h fun x hx => (List.pairwise_append.1 hd).2.2 x hx r (by simp)
    have h2 : apartMR (putMR acc r ++ l) := List.Perm.pairwise h0.symm hd (fun {x y} hxy => by have := cmpMR_anti x y; omega)
    obtain ⟨h3, h4⟩ := ih _ h1 h2
    exact ⟨h3, h4.trans h0⟩

theorem sortMR_up {l : List tMultiRule} (h : apartMR l) : upMR (sortMR l) := (foldMR [] List.Pairwise.nil (by simpa using h)).1

theorem putMR_fold_perm : ∀ (l acc : List tMultiRule), (l.foldl putMR acc).Perm (acc ++ l)
  | [], acc => by simp
  | r :: l, acc => (putMR_fold_perm l (putMR acc r)).trans (((putMR_perm acc r).append_right l).trans (List.perm_middle.symm))

theorem sortMR_perm (l : List tMultiRule) : (sortMR l).Perm l := putMR_fold_perm l []

theorem sortMR_len (l : List tMultiRule) : (sortMR l).length = l.length := (sortMR_perm l).length_eq

theorem upMR_one {l l' : List tMultiRule} (h : upMR l) (h' : upMR l') (hp : l.Perm l') : l = l' :=
  List.Perm.eq_of_pairwise (fun a b _ _ h1 h2 => by have := cmpMR_anti a b; omega) h h' hp

set_option maxRecDepth 100000 in
set_option maxHeartbeats 4000000 in
theorem slices_CompareS (A0 : Option Addr) (c0 : Nat) (a0 : (List Int)) (A1 : Option Addr) (c1 : Nat) (a1 : (List Int)) (w : World) (h0 : Sl eInt w (Old w) A0 c0 a0) (h1 : Sl eInt w (Old w) A1 c1 a1) :
    Calls Try.prog 132 #[.slice A0 a0.length c0, .slice A1 a1.length c1] w fun e w' => e = .returned (.int .i64 (cmpL a0 a1)) ∧ w = w' := by
  have l0 := h0.len
  have l1 := h1.len
  have HH1 := Held.start Nob w
  refine enter (n := 36) Try.func132 rfl rfl rfl fun a_2 HE3 => ?_
  refine wp_seq ?_
  refine rg ?_
  refine pl_x HE3 HH1 (wt0 rfl) (x_assign rfl) rfl rfl fun a_4 HE5 => ?_
  refine wpList_nil ?_
  clear a_2 HE3
  refine nrm ?_
  refine wp_seq ?_
  refine wp_seq ?_
  refine rg ?_
  refine pl_x HE5 HH1 (wt0 rfl) (x_move rfl) rfl rfl fun a_6 HE7 => ?_
  refine pl_x HE7 HH1 (wt0 rfl) (x_len Try.underlying37 rfl) rfl rfl fun a_8 HE9 => ?_
  refine pl_x HE9 HH1 (wt0 rfl) (x_move rfl) rfl rfl fun a_10 HE11 => ?_
  refine wpList_nil ?_
  clear a_4 HE5 a_6 HE7 a_8 HE9
  refine nrm ?_
  refine wp_block ?_
  refine lp (fun m a w' => ∃ (k : Nat), m = a0.length - k ∧ Env 36 [(11, .int .i64 (k : Int)), (0, .slice A0 (a0.length) c0), (1, .slice A1 (a1.length) c1), (9, .slice A0 (a0.length) c0), (10, .int .i64 ((a0.length : Int)))] a ∧ Held Nob w [] w' ∧ (k ≤ a0.length) ∧ (k ≤ a1.length) ∧ (cmpL a0 a1 = cmpL (a0.drop k) (a1.drop k)) ∧ (w = w')) (a0.length - (0)) ?_ ?_
  · exact ⟨0, rfl, HE11.sub ⟨(lkI rfl (by first | rfl | omega | (simp []; done))), rfl, rfl, rfl, rfl, trivial⟩, (HH1.sel [] (by decide) rfl), (by first | omega | assumption | (simp; done) | simp_all), (by first | omega | assumption | (simp; done) | simp_all), (by rfl), (by rfl)⟩
  · rintro m a_12 w' ⟨k, rfl, HE13, HH14, p21_0, p21_1, p21_2, rfl⟩
    refine wp_seq ?_
    refine rg ?_
    refine pl_x HE13 HH14 (wt0 rfl) (x_lss rfl rfl) rfl rfl fun a_15 HE16 => ?_
    refine wpList_nil ?_
    clear a_10 HE11 HH1 a_12 HE13
    refine nrm ?_
    refine wp_seq ?_
    refine cnd_d HE16 rfl (fun hc22 => ?_) (fun hc22 => ?_)
    · refine wp_skip ?_
      refine nrm ?_
      refine wp_seq ?_
      refine wp_block ?_
      refine wp_seq ?_
      refine rg ?_
      refine pl_x HE16 HH14 (wt0 rfl) (x_move rfl) rfl rfl fun a_17 HE18 => ?_
      have ke23 : k < a0.length := by omega
      obtain ⟨be23, fe23, ese23, Ae23, Re23, De23⟩ := el_old h0 ke23
      obtain ⟨e23, xe23⟩ : ∃ x_, x_ = a0[k] := ⟨_, rfl⟩
      rw [← xe23] at Re23
      have Qe23 := Re23
      obtain ⟨rfl, ie23⟩ := Re23
      have je23 := ie23; unfold I64 at je23
      refine pl_x HE18 HH14 (wt0 rfl) (x_indexAddr ts_37 rfl rfl Ae23 rfl ke23) rfl rfl fun a_19 HE20 => ?_
      refine pl_x HE20 HH14 (wt0 rfl) (x_load1 tv_2 rfl (c_old (De23 0 _ rfl))) rfl rfl fun a_21 HE22 => ?_
      refine pl_x HE22 HH14 (wt0 rfl) (x_assign rfl) rfl rfl fun a_23 HE24 => ?_
      refine pl_x HE24 HH14 (wt0 rfl) (x_assign rfl) rfl rfl fun a_25 HE26 => ?_
      refine wpList_nil ?_
      clear a_15 HE16 a_17 HE18 a_19 HE20 a_21 HE22 a_23 HE24
      refine nrm ?_
      refine wp_seq ?_
      refine wp_seq ?_
      refine rg ?_
      refine pl_x HE26 HH14 (wt0 rfl) (x_move rfl) rfl rfl fun a_27 HE28 => ?_
      refine pl_x HE28 HH14 (wt0 rfl) (x_move rfl) rfl rfl fun a_29 HE30 => ?_
      refine pl_x HE30 HH14 (wt0 rfl) (x_len Try.underlying37 rfl) rfl rfl fun a_31 HE32 => ?_
      refine pl_x HE32 HH14 (wt0 rfl) (x_geq rfl rfl) rfl rfl fun a_33 HE34 => ?_
      refine wpList_nil ?_
      clear a_25 HE26 a_27 HE28 a_29 HE30 a_31 HE32
      refine nrm ?_
      refine cnd_d HE34 rfl (fun hc24 => ?_) (fun hc24 => ?_)
      · refine wp_seq ?_
        refine rg ?_
        refine pl_x HE34 HH14 (wt0 rfl) (x_assign rfl) rfl rfl fun a_35 HE36 => ?_
        refine wpList_nil ?_
        clear a_33 HE34
        refine nrm ?_
        refine wp_ret ?_
        refine (thn_ret (blk_ret (thn_ret (thn_ret (blk_ret (thn_ret ?_))))))
        refine ret1 HE36 rfl (rv_tmp rfl) ?_
        have hF : (cmpL a0 a1) = 1 := by
          rw [p21_2]; first | (rw [cmpL_end a0 a1 k (by omega) (by omega) (by omega)]; grind) | (rw [cmpL_step (by omega) (by omega)]; grind [cmpI])
        exact ⟨by first | (rw [hF] <;> rfl) | rfl | (rw [hF]; simp only [Ending.returned.injEq, Value.slice.injEq, true_and, and_true]; first | omega | (simp; done)) | (rw [hF]; simp; omega), rfl⟩
      · refine wp_skip ?_
        refine nrm ?_
        refine wp_seq ?_
        refine rg ?_
        refine pl_x HE34 HH14 (wt0 rfl) (x_move rfl) rfl rfl fun a_37 HE38 => ?_
        refine pl_x HE38 HH14 (wt0 rfl) (x_move rfl) rfl rfl fun a_39 HE40 => ?_
        have ke25 : k < a1.length := by omega
        obtain ⟨be25, fe25, ese25, Ae25, Re25, De25⟩ := el_old h1 ke25
        obtain ⟨e25, xe25⟩ : ∃ x_, x_ = a1[k] := ⟨_, rfl⟩
        rw [← xe25] at Re25
        have Qe25 := Re25
        obtain ⟨rfl, ie25⟩ := Re25
        have je25 := ie25; unfold I64 at je25
        refine pl_x HE40 HH14 (wt0 rfl) (x_indexAddr ts_37 rfl rfl Ae25 rfl ke25) rfl rfl fun a_41 HE42 => ?_
        refine pl_x HE42 HH14 (wt0 rfl) (x_load1 tv_2 rfl (c_old (De25 0 _ rfl))) rfl rfl fun a_43 HE44 => ?_
        refine pl_x HE44 HH14 (wt0 rfl) (x_assign rfl) rfl rfl fun a_45 HE46 => ?_
        refine wpList_nil ?_
        clear a_33 HE34 a_37 HE38 a_39 HE40 a_41 HE42 a_43 HE44
        refine nrm ?_
        refine wp_seq ?_
        refine rg ?_
        refine pl_x HE46 HH14 (wt0 rfl) (x_move rfl) rfl rfl fun a_47 HE48 => ?_
        refine pl_x HE48 HH14 (wt0 rfl) (x_move rfl) rfl rfl fun a_49 HE50 => ?_
        refine pl fun K_51 hK52 => ?_
        refine st_call HE50 (wt0 rfl) rfl rfl rfl en_137 rfl rfl (cmp_Compare e23 e25 _ ) fun e w' hr => ?_
        obtain ⟨rfl, rfl⟩ := hr
        refine ⟨_, rfl, fun a_53 HE54 => hK52 _ _ ?_⟩
        refine pl_x HE54 HH14 (wt0 rfl) (x_assign rfl) rfl rfl fun a_55 HE56 => ?_
        refine wpList_nil ?_
        clear a_45 HE46 a_47 HE48 a_49 HE50 a_53 HE54 hK52 K_51
        refine nrm ?_
        refine wp_seq ?_
        refine rg ?_
        refine pl_x HE56 HH14 (wt0 rfl) (x_move rfl) rfl rfl fun a_57 HE58 => ?_
        refine pl_x HE58 HH14 (wt0 rfl) (x_neq rfl rfl) rfl rfl fun a_59 HE60 => ?_
        refine wpList_nil ?_
        clear a_55 HE56 a_57 HE58
        refine nrm ?_
        refine cnd_ne HE60 rfl (fun hc27 => ?_) (fun hc27 => ?_)
        · refine wp_seq ?_
          refine rg ?_
          refine pl_x HE60 HH14 (wt0 rfl) (x_move rfl) rfl rfl fun a_61 HE62 => ?_
          refine pl_x HE62 HH14 (wt0 rfl) (x_assign rfl) rfl rfl fun a_63 HE64 => ?_
          refine wpList_nil ?_
          clear a_59 HE60 a_61 HE62
          refine nrm ?_
          refine wp_ret ?_
          refine (blk_ret (thn_ret (thn_ret (blk_ret (thn_ret ?_)))))
          refine ret1 HE64 rfl (rv_tmp rfl) ?_
          have hF : (cmpL a0 a1) = (cmpI e23 e25) := by
            rw [p21_2]; first | (rw [cmpL_end a0 a1 k (by omega) (by omega) (by omega)]; grind) | (rw [cmpL_step (by omega) (by omega)]; grind [cmpI])
          exact ⟨by first | (rw [hF] <;> rfl) | rfl | (rw [hF]; simp only [Ending.returned.injEq, Value.slice.injEq, true_and, and_true]; first | omega | (simp; done)) | (rw [hF]; simp; omega), rfl⟩
        · refine wp_skip ?_
          refine blk_n ?_
          refine nrm ?_
          refine rg ?_
          refine pl_x HE60 HH14 (wt0 rfl) (x_add rfl rfl (by exact ⟨by omega, by omega⟩)) rfl rfl fun a_65 HE66 => ?_
          refine pl_x HE66 HH14 (wt0 rfl) (x_move rfl) rfl rfl fun a_67 HE68 => ?_
          refine wpList_nil ?_
          clear a_59 HE60 a_65 HE66
          exact nrm ⟨a0.length - (k + 1), (by omega), k + 1, rfl, HE68.sub ⟨(lkI rfl (by first | rfl | omega | (simp [p21_0, p21_1, p21_2, hc22, xe23, hc24, xe25, hc27]; done))), rfl, rfl, rfl, rfl, trivial⟩, (HH14.sel [] (by decide) rfl), (by first | omega | assumption | (simp; done) | simp_all), (by first | omega | assumption | (simp; done) | simp_all), (by rw [p21_2, cmpL_step (by omega) (by omega)]; grind [cmpI]), (by rfl)⟩
    · refine wp_exit ?_
      refine (thn_exit (thn_exit (blk_hit ?_)))
      refine nrm ?_
      refine wp_seq ?_
      refine wp_seq ?_
      refine rg ?_
      refine pl_x HE16 HH14 (wt0 rfl) (x_move rfl) rfl rfl fun a_69 HE70 => ?_
      refine pl_x HE70 HH14 (wt0 rfl) (x_len Try.underlying37 rfl) rfl rfl fun a_71 HE72 => ?_
      refine pl_x HE72 HH14 (wt0 rfl) (x_move rfl) rfl rfl fun a_73 HE74 => ?_
      refine pl_x HE74 HH14 (wt0 rfl) (x_len Try.underlying37 rfl) rfl rfl fun a_75 HE76 => ?_
      refine pl_x HE76 HH14 (wt0 rfl) (x_lss rfl rfl) rfl rfl fun a_77 HE78 => ?_
      refine wpList_nil ?_
      clear a_15 HE16 a_69 HE70 a_71 HE72 a_73 HE74 a_75 HE76
      refine nrm ?_
      refine cnd_d HE78 rfl (fun hc28 => ?_) (fun hc28 => ?_)
      · refine wp_seq ?_
        refine rg ?_
        refine pl_x HE78 HH14 (wt0 rfl) (x_assign rfl) rfl rfl fun a_79 HE80 => ?_
        refine wpList_nil ?_
        clear a_77 HE78
        refine nrm ?_
        refine wp_ret ?_
        refine (thn_ret ?_)
        refine ret1 HE80 rfl (rv_tmp rfl) ?_
        have hF : (cmpL a0 a1) = -1 := by
          rw [p21_2]; first | (rw [cmpL_end a0 a1 k (by omega) (by omega) (by omega)]; grind) | (rw [cmpL_step (by omega) (by omega)]; grind [cmpI])
        exact ⟨by first | (rw [hF] <;> rfl) | rfl | (rw [hF]; simp only [Ending.returned.injEq, Value.slice.injEq, true_and, and_true]; first | omega | (simp; done)) | (rw [hF]; simp; omega), rfl⟩
      · refine wp_skip ?_
        refine nrm ?_
        refine wp_seq ?_
        refine rg ?_
        refine pl_x HE78 HH14 (wt0 rfl) (x_assign rfl) rfl rfl fun a_81 HE82 => ?_
        refine wpList_nil ?_
        clear a_77 HE78
        refine nrm ?_
        refine wp_ret ?_
        refine ret1 HE82 rfl (rv_tmp rfl) ?_
        have hF : (cmpL a0 a1) = 0 := by
          rw [p21_2]; first | (rw [cmpL_end a0 a1 k (by omega) (by omega) (by omega)]; grind) | (rw [cmpL_step (by omega) (by omega)]; grind [cmpI])
        exact ⟨by first | (rw [hF] <;> rfl) | rfl | (rw [hF]; simp only [Ending.returned.injEq, Value.slice.injEq, true_and, and_true]; first | omega | (simp; done)) | (rw [hF]; simp; omega), rfl⟩

set_option maxRecDepth 100000 in
set_option maxHeartbeats 4000000 in
theorem impl_compareMultiRulesG (es0 : List Value) (a0 : tMultiRule) (es1 : List Value) (a1 : tMultiRule) (w : World) (h0 : eMultiRule.R w (Old w) es0 a0) (h1 : eMultiRule.R w (Old w) es1 a1) :
    Calls Try.prog 115 #[.agg es0.toArray, .agg es1.toArray] w fun e w' => e = .returned (.int .i64 (cmpMR a0 a1)) ∧ Gr w w' := by
  have H0 := h0
  obtain ⟨Az0_1, cz0_1, Az0_2, cz0_2, Az0_3, cz0_3, rfl, gz0_0, gz0_1, gz0_2, gz0_3, gz0_4⟩ := shape_MultiRule h0
  have jz0_0 := gz0_0; unfold I64 at jz0_0
  have lz0_1 := gz0_1.len
  have lz0_2 := gz0_2.len
  have lz0_3 := gz0_3.len
  have jz0_4 := gz0_4; unfold I64 at jz0_4
  have H1 := h1
  obtain ⟨Az1_1, cz1_1, Az1_2, cz1_2, Az1_3, cz1_3, rfl, gz1_0, gz1_1, gz1_2, gz1_3, gz1_4⟩ := shape_MultiRule h1
  have jz1_0 := gz1_0; unfold I64 at jz1_0
  have lz1_1 := gz1_1.len
  have lz1_2 := gz1_2.len
  have lz1_3 := gz1_3.len
  have jz1_4 := gz1_4; unfold I64 at jz1_4
  have HH1 := Held.start Nob w
  have HG := Gr.refl w
  refine enter (n := 20) Try.func115 rfl rfl rfl fun a_2 HE3 => ?_
  refine wp_seq ?_
  refine rg ?_
  refine pl fun K_4 hK5 => ?_
  refine st_boxG (cs := [.int .i64 (a0.1), .slice Az0_1 (a0.2.1.length) cz0_1, .slice Az0_2 (a0.2.2.1.length) cz0_2, .slice Az0_3 (a0.2.2.2.1.length) cz0_3, .int .i64 (a0.2.2.2.2)]) HG HE3 HH1 rfl rfl (wt0 rfl) rfl fun q21 a_6 w' HE7 HH8 HG => hK5 _ _ ?_
  refine pl fun K_9 hK10 => ?_
  refine st_boxG (cs := [.int .i64 (a1.1), .slice Az1_1 (a1.2.1.length) cz1_1, .slice Az1_2 (a1.2.2.1.length) cz1_2, .slice Az1_3 (a1.2.2.2.1.length) cz1_3, .int .i64 (a1.2.2.2.2)]) HG HE7 HH8 rfl rfl (wt0 rfl) rfl fun q22 a_11 w' HE12 HH13 HG => hK10 _ _ ?_
  refine pl_x HE12 HH13 (wt0 rfl) (x_assign rfl) rfl rfl fun a_14 HE15 => ?_
  refine wpList_nil ?_
  clear a_2 HE3 HH1 K_4 hK5 a_6 HE7 HH8 a_11 HE12 hK10 K_9
  refine nrm ?_
  refine wp_seq ?_
  refine wp_seq ?_
  refine rg ?_
  refine pl_x HE15 HH13 (wt0 rfl) (x_fieldAddr fa_108_0 rfl) rfl rfl fun a_16 HE17 => ?_
  refine pl_x HE17 HH13 (wt0 rfl) (x_load1 tv_2 rfl (c_blk 1 rfl rfl)) rfl rfl fun a_18 HE19 => ?_
  refine pl_x HE19 HH13 (wt0 rfl) (x_fieldAddr fa_108_0 rfl) rfl rfl fun a_20 HE21 => ?_
  refine pl_x HE21 HH13 (wt0 rfl) (x_load1 tv_2 rfl (c_blk 0 rfl rfl)) rfl rfl fun a_22 HE23 => ?_
  refine pl_x HE23 HH13 (wt0 rfl) (x_neq rfl rfl) rfl rfl fun a_24 HE25 => ?_
  refine wpList_nil ?_
  clear a_14 HE15 a_16 HE17 a_18 HE19 a_20 HE21 a_22 HE23
  refine nrm ?_
  refine cnd_ne HE25 rfl (fun hc23 => ?_) (fun hc23 => ?_)
  · refine wp_seq ?_
    refine wp_seq ?_
    refine rg ?_
    refine pl_x HE25 HH13 (wt0 rfl) (x_fieldAddr fa_108_0 rfl) rfl rfl fun a_26 HE27 => ?_
    refine pl_x HE27 HH13 (wt0 rfl) (x_load1 tv_2 rfl (c_blk 1 rfl rfl)) rfl rfl fun a_28 HE29 => ?_
    refine pl_x HE29 HH13 (wt0 rfl) (x_fieldAddr fa_108_0 rfl) rfl rfl fun a_30 HE31 => ?_
    refine pl_x HE31 HH13 (wt0 rfl) (x_load1 tv_2 rfl (c_blk 0 rfl rfl)) rfl rfl fun a_32 HE33 => ?_
    refine pl_x HE33 HH13 (wt0 rfl) (x_lss rfl rfl) rfl rfl fun a_34 HE35 => ?_
    refine wpList_nil ?_
    clear a_24 HE25 a_26 HE27 a_28 HE29 a_30 HE31 a_32 HE33
    refine nrm ?_
    refine cnd_d HE35 rfl (fun hc24 => ?_) (fun hc24 => ?_)
    · refine wp_seq ?_
      refine rg ?_
      refine pl_x HE35 HH13 (wt0 rfl) (x_assign rfl) rfl rfl fun a_36 HE37 => ?_
      refine wpList_nil ?_
      clear a_34 HE35
      refine nrm ?_
      refine wp_ret ?_
      refine (thn_ret (thn_ret ?_))
      refine ret1 HE37 rfl (rv_tmp rfl) ?_
      have hF : (cmpMR a0 a1) = -1 := by
        first | (unfold cmpMR; grind)
      exact ⟨by first | (rw [hF] <;> rfl) | rfl | (rw [hF]; simp only [Ending.returned.injEq, Value.slice.injEq, true_and, and_true]; first | omega | (simp; done)) | (rw [hF]; simp; omega), HG⟩
    · refine wp_skip ?_
      refine nrm ?_
      refine wp_seq ?_
      refine rg ?_
      refine pl_x HE35 HH13 (wt0 rfl) (x_assign rfl) rfl rfl fun a_38 HE39 => ?_
      refine wpList_nil ?_
      clear a_34 HE35
      refine nrm ?_
      refine wp_ret ?_
      refine (thn_ret ?_)
      refine ret1 HE39 rfl (rv_tmp rfl) ?_
      have hF : (cmpMR a0 a1) = 1 := by
        first | (unfold cmpMR; grind)
      exact ⟨by first | (rw [hF] <;> rfl) | rfl | (rw [hF]; simp only [Ending.returned.injEq, Value.slice.injEq, true_and, and_true]; first | omega | (simp; done)) | (rw [hF]; simp; omega), HG⟩
  · refine wp_skip ?_
    refine nrm ?_
    refine wp_seq ?_
    refine rg ?_
    refine pl_x HE25 HH13 (wt0 rfl) (x_fieldAddr fa_108_1 rfl) rfl rfl fun a_40 HE41 => ?_
    refine pl_x HE41 HH13 (wt0 rfl) (x_load1 tv_37 rfl (c_blk 1 rfl rfl)) rfl rfl fun a_42 HE43 => ?_
    refine pl_x HE43 HH13 (wt0 rfl) (x_fieldAddr fa_108_1 rfl) rfl rfl fun a_44 HE45 => ?_
    refine pl_x HE45 HH13 (wt0 rfl) (x_load1 tv_37 rfl (c_blk 0 rfl rfl)) rfl rfl fun a_46 HE47 => ?_
    refine pl fun K_48 hK49 => ?_
    refine st_call HE47 (wt0 rfl) rfl rfl rfl en_132 rfl rfl (slices_CompareS _ _ a0.2.1 _ _ a1.2.1 _ (HH13.old gz0_1) (HH13.old gz1_1)) fun e w' hr => ?_
    obtain ⟨rfl, rfl⟩ := hr
    refine ⟨_, rfl, fun a_50 HE51 => hK49 _ _ ?_⟩
    refine pl_x HE51 HH13 (wt0 rfl) (x_assign rfl) rfl rfl fun a_52 HE53 => ?_
    refine wpList_nil ?_
    clear a_24 HE25 a_40 HE41 a_42 HE43 a_44 HE45 a_46 HE47 a_50 HE51 hK49 K_48
    refine nrm ?_
    refine wp_ret ?_
    refine ret1 HE53 rfl (rv_tmp rfl) ?_
    have hF : (cmpMR a0 a1) = (cmpL a0.2.1 a1.2.1) := by
      first | (unfold cmpMR; grind)
    exact ⟨by first | (rw [hF] <;> rfl) | rfl | (rw [hF]; simp only [Ending.returned.injEq, Value.slice.injEq, true_and, and_true]; first | omega | (simp; done)) | (rw [hF]; simp; omega), HG⟩

theorem heap_rowK {ι : Type} [Inhabited ι] {enc : ι → List Value} {w : World} {g n k off : Nat} {os : Array Obj} {cur : Array Value} {e : TypeId} {fr : Nat × Nat} (d : Array ι) (hb : w.heap[g]? = some (.cells cur e fr)) :
    (sortWorldK enc k w g off n d os).heap[g]? = some (.cells (Go.Sort.putCells id off (Go.Sort.flatK enc k d) cur) e fr) := by
  have hg : g < w.heap.size := (Array.getElem?_eq_some_iff.1 hb).1
  unfold sortWorldK Go.Sort.putRowK
  rw [Go.Sort.heap_grow_old _ _ (by simpa using hg)]
  simp [Go.Sort.putRow, Go.Sort.mapBlock, Go.Sort.ahead, Array.getElem?_modify, hb, Go.Sort.onCells]

theorem heap_rowKo {ι : Type} [Inhabited ι] {enc : ι → List Value} {w : World} {g n k off j : Nat} {os : Array Obj} (d : Array ι) (hj : j < w.heap.size) (hne : j ≠ g) :
    (sortWorldK enc k w g off n d os).heap[j]? = w.heap[j]? := by
  unfold sortWorldK Go.Sort.putRowK
  rw [Go.Sort.heap_grow_old _ _ (by simpa using hj)]
  simp [Go.Sort.putRow, Go.Sort.mapBlock, Go.Sort.ahead, Array.getElem?_modify, Ne.symm hne]

theorem chg_rowK {ι : Type} [Inhabited ι] {enc : ι → List Value} {w : World} {g n k off : Nat} {os : Array Obj} {S : Nat → Prop} (d : Array ι) (hS : S g) : Chg S w (sortWorldK enc k w g off n d os) :=
  ⟨rfl, rfl, rfl, by simp [sortWorldK, Go.Sort.putRowK], fun j hj hne => heap_rowKo d hj fun e => hne (by rw [e]; exact hS)⟩

theorem so_rowK {α : Type} {E : Enc α} {w : World} {S : Nat → Prop} {A : Option Addr} {c : Nat} {xs : List α} [Inhabited (Fin xs.length)] (h : So E w S A c xs) (hx : xs ≠ []) (hS : ∀ b, S b → b < w.heap.size) (h1 : ∀ w S es x, E.R w S es x → ∀ v ∈ es, v.oneCell' = true) :
    ∃ (b off : Nat) (css : Fin xs.length → List Value), A = some ⟨b, off, none⟩ ∧ b < w.heap.size ∧ (∀ i, (css i).length = E.size) ∧ (∀ i, ∀ v ∈ css i, v.oneCell' = true) ∧ Go.Sort.HoldsK css E.size w b off (Array.ofFn fun i : Fin xs.length => i) ∧
      (∀ (d : Array (Fin xs.length)) (n : Nat) (os : Array Obj) (i : Fin xs.length), E.R (sortWorldK css E.size w b off n d os) (Old (sortWorldK css E.size w b off n d os)) (css i) xs[i]) ∧
      ∀ (d : Array (Fin xs.length)) (n : Nat) (os : Array Obj), d.toList.Perm (List.ofFn fun i : Fin xs.length => i) → So E (sortWorldK css E.size w b off n d os) S A c (d.toList.map fun i => xs[i]) ∧ Chg S w (sortWorldK css E.size w b off n d os) := by
  obtain ⟨k1, k2, k3⟩ := h
  obtain ⟨b, off, t, cur, T, rfl, hb, hB, hT1, hT2, hE⟩ := k3 hx
  have hE' : ∀ i : Fin xs.length, ∃ es, E.O w (T i.val) es xs[i] ∧ ∀ j v, es[j]? = some v → cur[off + i.val * E.size + j]? = some v := fun i => hE i.val xs[i] (List.getElem?_eq_getElem i.isLt)
  obtain ⟨css, hcss⟩ : ∃ css : Fin xs.length → List Value, ∀ i, E.O w (T i.val) (css i) xs[i] ∧ ∀ j v, (css i)[j]? = some v → cur[off + i.val * E.size + j]? = some v := ⟨fun i => (hE' i).choose, fun i => (hE' i).choose_spec⟩
  have hlen : ∀ i, (css i).length = E.size := fun i => E.len (E.read (hcss i).1)
  have hkeep : ∀ (d : Array (Fin xs.length)) (n : Nat) (os : Array Obj) (i : Fin xs.length), E.O (sortWorldK css E.size w b off n d os) (T i.val) (css i) xs[i] := fun d n os i =>
    E.okeep (hcss i).1 fun j hj => heap_rowKo d (hS j (hT1 _ _ hj).1) (hT1 _ _ hj).2
  have hsz : ∀ (d : Array (Fin xs.length)) (n : Nat) (os : Array Obj), w.heap.size ≤ (sortWorldK css E.size w b off n d os).heap.size := fun d n os => by simp [sortWorldK, Go.Sort.putRowK]
  refine ⟨b, off, css, rfl, Blk.lt hB, hlen, fun i => h1 _ _ _ _ (E.read (hcss i).1), ?_, fun d n os i => E.more (E.read (hkeep d n os i)) fun j hj => Nat.lt_of_lt_of_le (hS j (hT1 _ _ hj).1) (hsz d n os), ?_⟩
  · intro j hj
    rw [Go.Sort.size_flatK, Array.size_ofFn] at hj
    have hj1 : j / E.size < xs.length := (Nat.div_lt_iff_lt_mul E.pos).2 hj
    have hj2 : j % E.size < E.size := Nat.mod_lt _ E.pos
    refine ⟨?_, by
      have hB' : w.heap[b]? = some (.cells cur t (0, 0)) := hB
      simp [World.frozen?, hB']⟩
    rw [Go.Sort.get_flatK _ _ _ _ (by rw [Array.size_ofFn]; exact hj), getElem!_pos _ (j / E.size) (by simpa using hj1), Array.getElem_ofFn]
    have h2 := (hcss ⟨j / E.size, hj1⟩).2 (j % E.size) _ (List.getElem?_eq_getElem (by rw [hlen]; exact hj2))
    rw [hB.cell, show off + j = off + j / E.size * E.size + j % E.size by have := Nat.div_add_mod j E.size; rw [Nat.mul_comm] at this; omega, h2]
    rw [getElem!_pos _ _ (by rw [hlen]; exact hj2)]; rfl
  · intro d n os hp
    have hds : d.size = xs.length := by have := hp.length_eq; simpa using this
    have hnd : d.toList.Nodup := hp.nodup_iff.2 (by rw [List.nodup_iff_pairwise_ne, List.pairwise_iff_getElem]; intro i j _ _ hij; simp; omega)
    refine ⟨⟨by rw [List.length_map, Array.length_toList]; omega, k2, fun _ => ⟨b, off, t, _, fun i q => ∃ hi : i < d.size, T (d[i]'hi).val q, rfl, hb, heap_rowK d hB, fun i q ⟨_, hq⟩ => hT1 _ _ hq, fun i j q ⟨hi, hq⟩ ⟨hj, hq'⟩ => ?_, fun i x hi => ?_⟩⟩, chg_rowK d hb⟩
    · have e := Fin.ext (hT2 _ _ _ hq hq')
      rw [List.nodup_iff_pairwise_ne, List.pairwise_iff_getElem] at hnd
      rcases Nat.lt_trichotomy i j with h | h | h
      · exact (hnd i j (by simpa using hi) (by simpa using hj) h e).elim
      · exact h
      · exact (hnd j i (by simpa using hj) (by simpa using hi) h e.symm).elim
    · rw [List.getElem?_map] at hi
      have hid : i < d.size := by
        rcases Nat.lt_or_ge i d.size with h | h
        · exact h
        · rw [List.getElem?_eq_none (by simpa using h)] at hi; simp at hi
      rw [List.getElem?_eq_getElem (by simpa using hid)] at hi
      simp at hi
      subst hi
      refine ⟨css d[i], ?_, fun j v hv => ?_⟩
      · exact E.omore (hkeep d n os d[i]) fun q hq => ⟨hid, hq⟩
      · have hj : j < E.size := by have := (List.getElem?_eq_some_iff.1 hv).1; rw [hlen] at this; exact this
        have hlt : i * E.size + j < d.size * E.size := by
          have : (i + 1) * E.size ≤ d.size * E.size := Nat.mul_le_mul_right _ hid
          rw [Nat.succ_mul] at this; omega
        have e1 : (i * E.size + j) / E.size = i := (Go.Sort.blk_iff E.size i _ E.pos).1 ⟨by omega, by omega⟩
        have e2 : (i * E.size + j) % E.size = j := by rw [Nat.mod_eq_sub_div_mul, e1]; omega
        have hcur : off + i * E.size + j < cur.size := by
          have h3 := (hcss ⟨i, by omega⟩).2 j _ (List.getElem?_eq_getElem (by rw [hlen]; exact hj))
          exact (Array.getElem?_eq_some_iff.1 h3).1
        unfold Go.Sort.putCells
        rw [Array.getElem?_mapIdx, Array.getElem?_eq_getElem hcur]
        simp only [Option.map_some, Option.some.injEq]
        rw [if_pos ⟨by omega, by rw [Go.Sort.size_flatK]; omega⟩, show off + i * E.size + j - off = i * E.size + j by omega, Go.Sort.get_flatK _ _ _ _ hlt, e1, e2, getElem!_pos d i hid]
        have hv' := List.getElem?_eq_some_iff.1 hv
        rw [getElem!_pos _ j hv'.1]
        exact hv'.2

def shelf_sortf_ren : Go.Shelf.Ren := ⟨fun | 6 => 119 | 15 => 134 | 14 => 133 | 28 => 146 | 29 => 147 | 20 => 138 | 21 => 139 | 22 => 140 | 23 => 141 | 24 => 142 | 25 => 143 | 26 => 144 | 27 => 145 | 46 => 149 | 47 => 150 | 48 => 151 | 49 => 152 | 50 => 153 | 57 => 162 | n => n, fun | 22 => 53 | 24 => 108 | 25 => 139 | 3 => 3 | 39 => 130 | 0 => 0 | 53 => 168 | 55 => 170 | 4 => 4 | 46 => 162 | 45 => 161 | 50 => 92 | 5 => 5 | 9 => 9 | 66 => 172 | 70 => 176 | 76 => 183 | 77 => 184 | n => n, fun | n => n⟩

theorem shelf_sortf : Go.Proofs.SlLaysF0.n6 Try.prog shelf_sortf_ren := {
  mixed := by kernel_rfl
  f6 := ⟨Try.f119.name, by decide, Try.func119.trans (congrArg some (by kernel_rfl))⟩
  f14 := ⟨Try.f133.name, by decide, Try.func133.trans (congrArg some (by kernel_rfl))⟩
  f15 := Try.func134.trans (congrArg some (by kernel_rfl))
  f20 := ⟨Try.f138.name, by decide, Try.func138.trans (congrArg some (by kernel_rfl))⟩
  f21 := ⟨Try.f139.name, by decide, Try.func139.trans (congrArg some (by kernel_rfl))⟩
  f22 := ⟨Try.f140.name, by decide, Try.func140.trans (congrArg some (by kernel_rfl))⟩
  f23 := ⟨Try.f141.name, by decide, Try.func141.trans (congrArg some (by kernel_rfl))⟩
  f24 := ⟨Try.f142.name, by decide, Try.func142.trans (congrArg some (by kernel_rfl))⟩
  f25 := ⟨Try.f143.name, by decide, Try.func143.trans (congrArg some (by kernel_rfl))⟩
  f26 := ⟨Try.f144.name, by decide, Try.func144.trans (congrArg some (by kernel_rfl))⟩
  f27 := ⟨Try.f145.name, by decide, Try.func145.trans (congrArg some (by kernel_rfl))⟩
  f28 := Try.func146.trans (congrArg some (by kernel_rfl))
  f29 := Try.func147.trans (congrArg some (by kernel_rfl))
  f46 := ⟨Try.f149.name, by decide, Try.func149.trans (congrArg some (by kernel_rfl))⟩
  f47 := Try.func150.trans (congrArg some (by kernel_rfl))
  f48 := Try.func151.trans (congrArg some (by kernel_rfl))
  f49 := ⟨Try.f152.name, by decide, Try.func152.trans (congrArg some (by kernel_rfl))⟩
  f50 := ⟨Try.f153.name, by decide, Try.func153.trans (congrArg some (by kernel_rfl))⟩
  f57 := ⟨Try.f162.name, by decide, Try.func162.trans (congrArg some (by kernel_rfl))⟩
  t0 := Try.underlying0
  a0 := Try.isAgg0
  z0 := Try.sizeOf0
  v0 := Try.zeroValue0
  t3 := Try.underlying3
  a3 := Try.isAgg3
  z3 := Try.sizeOf3
  v3 := Try.zeroValue3
  t4 := Try.underlying4
  a4 := Try.isAgg4
  z4 := Try.sizeOf4
  v4 := Try.zeroValue4
  t5 := Try.underlying5
  a5 := Try.isAgg5
  z5 := Try.sizeOf5
  v5 := Try.zeroValue5
  t9 := Try.underlying9
  a9 := Try.isAgg9
  z9 := Try.sizeOf9
  v9 := Try.zeroValue9
  t22 := Try.underlying53
  a22 := Try.isAgg53
  z22 := Try.sizeOf53
  v22 := Try.zeroValue53
  t25 := Try.underlying139
  a25 := Try.isAgg139
  z25 := Try.sizeOf139
  v25 := Try.zeroValue139
  t39 := Try.underlying130
  a39 := Try.isAgg130
  z39 := Try.sizeOf130
  v39 := Try.zeroValue130
  t45 := Try.underlying161
  a45 := Try.isAgg161
  z45 := Try.sizeOf161
  v45 := Try.zeroValue161
  t46 := Try.underlying162
  a46 := Try.isAgg162
  z46 := Try.sizeOf162
  v46 := Try.zeroValue162
  t50 := Try.underlying92
  a50 := Try.isAgg92
  z50 := Try.sizeOf92
  v50 := Try.zeroValue92
  t53 := Try.underlying168
  a53 := Try.isAgg168
  z53 := Try.sizeOf168
  v53 := Try.zeroValue168
  t55 := Try.underlying170
  a55 := Try.isAgg170
  z55 := Try.sizeOf170
  v55 := Try.zeroValue170
  t66 := Try.underlying172
  a66 := Try.isAgg172
  z66 := Try.sizeOf172
  v66 := Try.zeroValue172
  t70 := Try.underlying176
  a70 := Try.isAgg176
  z70 := Try.sizeOf176
  v70 := Try.zeroValue176
  t76 := Try.underlying183
  a76 := Try.isAgg183
  z76 := Try.sizeOf183
  v76 := Try.zeroValue183
  t77 := Try.underlying184
  a77 := Try.isAgg184
  z77 := Try.sizeOf184
  v77 := Try.zeroValue184 }

theorem SortFunc_MR (M : Nat → Prop) (A : Option Addr) (c : Nat) (a : List tMultiRule) (S : Nat → Prop) (w : World) (HM : Held M w [rSo eMultiRule S A c a] w) (s0 : a.length ≤ 1000000) (s1 : apartMR a) :
    Calls Try.prog 119 #[.slice A a.length c, .func (.func 115) #[] #[]] w fun e w' => ∃ (S' : Nat → Prop), e = .returned (.tuple #[]) ∧ Held M w [rSo eMultiRule S' A c (sortMR a)] w' := by
  by_cases hx : a = []
  · subst hx
    refine (show Calls Try.prog 119 #[.slice A 0 c, .func (.func 115) #[] #[]] w _ from AnyF.slices_SortFunc_none shelf_sortf A c (.func (.func 115) #[] #[]) w).mono ?_
    rintro e w' ⟨rfl, rfl⟩
    exact ⟨S, rfl, HM⟩
  · haveI : Inhabited (Fin a.length) := ⟨⟨0, List.length_pos_iff.2 hx⟩⟩
    obtain ⟨b, off, css, rfl, hlt, hlen, hone, hH, hR, hput⟩ := so_rowK (so_of_o (HM.get (i := 0) rfl)) hx (fun q hq => (HM.rng _ List.mem_cons_self q hq).2) one_MultiRule
    have hc := AnyQ.slices_SortFunc (P := Try.prog) shelf_sortf 5 Try.isAgg108 Try.sizeOf108 css hlen hone (fun x y => cmpMR a[x] a[y]) (swo_MR fun i => a[i]) 115 #[] b off c (Array.ofFn fun i : Fin a.length => i) w en_115
      (fun m os dk _ x y => (impl_compareMultiRulesG (css x) a[x] (css y) a[y] _ (hR dk m os x) (hR dk m os y)).mono fun e w' ⟨h1, h2⟩ => ⟨h1, h2⟩) hH hlt (by rw [Array.size_ofFn]; omega)
    rw [Array.size_ofFn] at hc
    refine (show Calls Try.prog 119 #[.slice (some ⟨b, off, none⟩) a.length c, .func (.func 115) #[] #[]] w _ from hc).mono ?_
    rintro e w' ⟨rfl, d', n, os, hp, hs, rfl⟩
    obtain ⟨p1, p2, p3⟩ := hp
    have hd : d'.size = a.length := by rw [p1, Array.size_ofFn]
    have hp' : d'.toList.Perm (List.ofFn fun i : Fin a.length => i) := by
      have e1 : d'.extract 0 a.length = d' := by have := Array.extract_size (xs := d'); rwa [hd] at this
      have e2 : (Array.ofFn fun i : Fin a.length => i).extract 0 a.length = Array.ofFn fun i : Fin a.length => i := by
        have := Array.extract_size (xs := Array.ofFn fun i : Fin a.length => i); rwa [Array.size_ofFn] at this
      rw [e1, e2, Array.toList_ofFn] at p3; exact p3
    obtain ⟨h1, h2⟩ := hput d' n os hp'
    have hperm : (d'.toList.map fun i => a[i]).Perm a := by
      have := hp'.map fun i : Fin a.length => a[i]
      rw [List.map_ofFn] at this
      exact this.trans (by rw [show ((fun i : Fin a.length => a[i]) ∘ fun i => i) = fun i : Fin a.length => a[i.val] from rfl, List.ofFn_getElem])
    have hap : apartMR (d'.toList.map fun i => a[i]) := List.Perm.pairwise hperm.symm s1 (fun {x y} hxy => by have := cmpMR_anti x y; omega)
    have hup : upMR (d'.toList.map fun i => a[i]) := by
      refine List.pairwise_iff_getElem.2 fun i j hi hj hij => ?_
      have q1 := List.pairwise_iff_getElem.1 hap i j hi hj hij
      rw [List.length_map, Array.length_toList] at hi hj
      have q2 := hs i j (Nat.zero_le _) hij (by omega)
      rw [getElem!_pos d' i hi, getElem!_pos d' j hj] at q2
      simp only [ltOf, decide_eq_false_iff_not] at q2
      simp only [List.getElem_map, Array.getElem_toList] at q1 ⊢
      have q3 := cmpMR_anti a[d'[i]] a[d'[j]]
      omega
    have hfin : (d'.toList.map fun i => a[i]) = sortMR a := upMR_one hup (sortMR_up s1) (hperm.trans (sortMR_perm a).symm)
    rw [hfin] at h1
    exact ⟨S, rfl, HM.mut (i := 0) rfl h2 (rSo eMultiRule S (some ⟨b, off, none⟩) c (sortMR a)) (oSl h1) fun _ hb => .inl hb⟩

def palS : Nat → List tMultiRule
  | 0 => putMR (putMR (putMR [] (two7 0 0 0 0 (-1) 0 1)) (two7 1 0 0 0 1 (-1) 2)) (two7 2 0 0 0 0 0 3)
  | k + 1 => putMR (putMR (putMR (palS k) (two7 0 ((k : Int) + 1) 0 ((k : Int) + 1) 1 1 0)) (two7 1 ((k : Int) + 1) 0 0 (-1) 0 1)) (two7 2 ((k : Int) + 1) ((k : Int) + 1) ((k : Int) + 1) 1 (-1) 2)

theorem palS_len : ∀ k, (palS k).length = 3 * k + 3
  | 0 => by simp only [palS, putMR_len, List.length_nil]
  | k + 1 => by simp only [palS, putMR_len, palS_len k]; omega

def palI (s : Int) : Nat → List tMultiRule
  | 0 => copyRls s ++ [two6 0 0 0 (-1) 0 1, two6 1 0 0 1 (-1) 2, two6 2 0 0 0 0 3]
  | k + 1 => palI s k ++ [two6 1 ((k : Int) + 1) 0 (-1) 0 1, two6 2 ((k : Int) + 1) ((k : Int) + 1) 1 (-1) 2]

theorem palI_succ (s : Int) (k : Nat) : palI s (k + 1) = palI s k ++ [two6 1 ((k : Int) + 1) 0 (-1) 0 1, two6 2 ((k : Int) + 1) ((k : Int) + 1) 1 (-1) 2] := rfl

theorem palI_len (s : Int) : ∀ k, (palI s k).length = (s - 1).toNat + 3 + 2 * k
  | 0 => by rw [palI, List.length_append]; unfold copyRls; rw [copyTo_len]; rfl
  | k + 1 => by rw [palI, List.length_append, palI_len s k]; simp only [List.length_cons, List.length_nil]; omega

theorem palI_apart {s : Int} {k : Nat} (h : (s = 2 ∧ k = 1) ∨ (s = 3 ∧ k = 2)) : apartMR (palI s k) := by
  rcases h with ⟨rfl, rfl⟩ | ⟨rfl, rfl⟩ <;> (unfold apartMR; decide +kernel)

theorem palS_sort {s : Int} {k : Nat} (h2 : 2 ≤ s ∧ s ≤ 3) (hk : (k : Int) + 1 = s) : palS (s - 1).toNat = sortMR (palI s k) := by
  rcases (show (s = 2 ∧ k = 1) ∨ (s = 3 ∧ k = 2) by omega) with ⟨rfl, rfl⟩ | ⟨rfl, rfl⟩ <;> decide +kernel

def sortMulti (m : tMulti) : tMulti := (m.1, m.2.1, m.2.2.1, sortMR m.2.2.2)

def palMulti (s : Int) : tMulti × Int := if withinB s 2 3 = true then ((2, s, 4, palS (s - 1).toNat), 0) else ((0, 0, 0, []), 2)

theorem palMulti_ct (s : Int) : (cv_Multi (palMulti s).1 : Int) ≤ 1000000000 := by
  unfold palMulti
  split
  · rename_i h
    have h0 := withinB_true.1 h
    rcases (show s = 2 ∨ s = 3 by omega) with rfl | rfl <;> decide +kernel
  · exact (by decide : (cv_Multi (0, 0, 0, []) : Int) ≤ 1000000000)

set_option maxRecDepth 100000 in
set_option maxHeartbeats 4000000 in
theorem impl_sortRules (M : Nat → Prop) (p0 : Nat) (es0 : List Value) (a0 : tMulti) (S0 : Nat → Prop) (w : World) (HM : Held M w [rBlk p0 55 es0, rO eMulti S0 es0 a0] w) (s0 : a0.2.2.2.length ≤ 1000000) (s1 : apartMR a0.2.2.2) :
    Calls Try.prog 80 #[.pointer (some ⟨p0, 0, none⟩)] w fun e w' => ∃ (es0' : List Value) (S0' : Nat → Prop), e = .returned (.tuple #[]) ∧ Held M w [rBlk p0 55 es0', rO eMulti S0' es0' (sortMulti a0)] w' := by
  have HH1 := HM
  have R0 := HH1.rd (i := 1) rfl
  obtain ⟨Az0_3, cz0_3, rfl, gz0_0, gz0_1, gz0_2, gz0_3⟩ := shape_Multi R0
  have jz0_0 := gz0_0; unfold I64 at jz0_0
  have jz0_1 := gz0_1; unfold I64 at jz0_1
  have jz0_2 := gz0_2; unfold I64 at jz0_2
  have lz0_3 := gz0_3.len
  clear R0
  have HH2 := HH1.sel [1, 0] (by decide) rfl
  have HH3 := HH2.unF rfl
  have HH4 := HH3.unF rfl
  have HH5 := HH4.unF rfl
  refine enter (n := 7) Try.func80 rfl rfl rfl fun a_6 HE7 => ?_
  refine rg ?_
  refine pl_x HE7 HH5 (wt0 rfl) (x_move rfl) rfl rfl fun a_8 HE9 => ?_
  refine pl_x HE9 HH5 (wt0 rfl) (x_nilCheck rfl) rfl rfl fun a_10 HE11 => ?_
  refine pl_x HE11 HH5 (wt0 rfl) (x_fieldAddr fa_55_3 rfl) rfl rfl fun a_12 HE13 => ?_
  refine pl_x HE13 HH5 (wt0 rfl) (x_load1 tv_53 rfl (c_blk 1 rfl rfl)) rfl rfl fun a_14 HE15 => ?_
  refine pl fun K_16 hK17 => ?_
  have HH18 : Held M w ([rSo eMultiRule S0 Az0_3 cz0_3 a0.2.2.2] ++ [rBlk p0 55 [.int .i64 (a0.1), .int .i64 (a0.2.1), .int .i64 (a0.2.2.1), .slice Az0_3 (a0.2.2.2.length) cz0_3]]) _ := HH5
  refine st_call HE15 (wt0 rfl) rfl rfl rfl en_119 rfl rfl (SortFunc_MR (Foot [rSo eMultiRule S0 Az0_3 cz0_3 a0.2.2.2]) _ _ a0.2.2.2 _ _ HH18.focus (by omega) (by first | assumption | exact pal_apart ‹_›)) fun e w' hr => ?_
  obtain ⟨Sr21_0, rfl, hbr21⟩ := hr
  have HH19 := HH18.back hbr21
  clear hbr21
  have HH20 : Held M w ([rSo eMultiRule Sr21_0 Az0_3 cz0_3 (sortMR a0.2.2.2)] ++ [rBlk p0 55 [.int .i64 (a0.1), .int .i64 (a0.2.1), .int .i64 (a0.2.2.1), .slice Az0_3 (a0.2.2.2.length) cz0_3]]) _ := HH19
  refine ⟨_, rfl, fun a_21 HE22 => hK17 _ _ ?_⟩
  refine wpList_nil ?_
  clear HH1 HH2 HH3 HH4 a_6 HE7 a_8 HE9 a_10 HE11 a_12 HE13 HH5 HH18 HH19 a_14 HE15 hK17 K_16
  refine fin0 HE22 rfl ?_
  have HH23 := HH20.relen (n := a0.2.2.2.length) (by first | exact sortMR_len _ | exact mkL_len _ _ _ _ | (simp; done) | (simp; omega))
  have HH24 := HH23.pairF (E := eInt) (c1 := [.int .i64 (a0.2.2.1)]) (x := a0.2.2.1) (oI (by exact ⟨by omega, by omega⟩))
  have HH25 := HH24.pairF (E := eInt) (c1 := [.int .i64 (a0.2.1)]) (x := a0.2.1) (oI (by exact ⟨by omega, by omega⟩))
  have HH26 := HH25.pairF (E := eInt) (c1 := [.int .i64 (a0.1)]) (x := a0.1) (oI (by exact ⟨by omega, by omega⟩))
  obtain ⟨S22, HH27⟩ : ∃ S, Held M w (rO eMulti S [.int .i64 (a0.1), .int .i64 (a0.2.1), .int .i64 (a0.2.2.1), .slice Az0_3 (a0.2.2.2.length) cz0_3] (a0.1, a0.2.1, a0.2.2.1, (sortMR a0.2.2.2)) :: _) _ := ⟨_, HH26⟩
  have hF : (sortMulti a0) = (a0.1, a0.2.1, a0.2.2.1, (sortMR a0.2.2.2)) := by
    rfl
  exact ⟨_, _, rfl, by rw [hF]; exact HH27.sel [1, 0] (by decide) rfl⟩

end Go.Proofs.Ytcfdkckchbdafaa
