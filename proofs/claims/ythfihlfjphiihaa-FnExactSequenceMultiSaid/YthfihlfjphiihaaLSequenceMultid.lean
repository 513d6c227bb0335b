/- What the proof of FnExactSequenceMulti needs: contracts of the functions that it reaches, each once. -/
import Derived.Test.YthfihlfjphiihaaProg
import Derived.Test.YthfihlfjphiihaaQMem
import Derived.Test.YthfihlfjphiihaaQOpen
import Derived.Test.YthfihlfjphiihaaLSequenceMultia
import Derived.Test.YthfihlfjphiihaaLSequenceMultib
import Derived.Test.YthfihlfjphiihaaLSequenceMultic
import Derived.WalkKit
import Derived.WalkSpells
import Derived.Below
import Derived.LoopTactic
import Derived.Outline
import Derived.Deep.QuietTactic
import Derived.BigQuiet
import Derived.Deep.LoopGhost
import Derived.Handy
import Derived.Lib.Hide
import Derived.Shelf.Abstract
import Derived.StillTailTactics
import Derived.OwnWalk
import Derived.Maps.AppendAt
import Derived.RegionTactic
import Derived.Deep.RegionHeld3
import Derived.IntWalk
import Derived.Deep.Upon
import Derived.Laws.OwnMore
import Derived.Maps.AppendAt
import Derived.Laws.Small
import Derived.Lib.FrozenHead
import Derived.Lib.RuneBytes
import Derived.Lib.LaidTab
import Derived.Laws.StructEq
import Derived.Maps.OwnSet
import Derived.DeepKeys4
import Derived.Lib.SliceRun
import Derived.Lib.AppendZeros
import Derived.Shelf.SortG.Plain
import Derived.Shelf.SortG.SortNone
import Derived.Shelf.SlicesG.CompactI
import Derived.Shelf.SlicesG.SearchI
import Derived.Sort.OwnSortedInts
import Derived.Lib.RowBridge
import Derived.Lib.ItoaLen
import Derived.Lib.Join
import Derived.Shelf.Strconv.Itoa4
import Derived.Shelf.Strings.OnBuilder
import Derived.Shelf.Strings.BuilderK
import Derived.Shelf.Strings.BuilderRune
import Derived.Shelf.LaysM
import Derived.Ground.NamesProg
import Derived.Shelf.SlSortCmp.WholeK
import Derived.Shelf.SlSortCmp.NoneTotal
namespace Go.Proofs.Ythfihlfjphiihaa
open Go.RowKit

set_option maxRecDepth 100000 in
set_option maxHeartbeats 4000000 in
theorem spec_l06Before (p0 o0 : Nat) (es0 : List Value) (a0 : tMultiRule) (p1 o1 : Nat) (es1 : List Value) (a1 : tMultiRule) (w : World) (h0 : eMultiRule.R w (Old w) es0 a0) (hq0 : ∀ j v, es0[j]? = some v → w.cell? ⟨p0, o0 + j, none⟩ = some v) (h1 : eMultiRule.R w (Old w) es1 a1) (hq1 : ∀ j v, es1[j]? = some v → w.cell? ⟨p1, o1 + j, none⟩ = some v) :
    Calls Try.prog 98 #[.pointer (some ⟨p0, o0, none⟩), .pointer (some ⟨p1, o1, none⟩)] w fun e w' => e = .returned (.bool (beforeMR a0 a1)) ∧ Below w.heap.size w w' := by
  have H0 := h0
  obtain ⟨Az0_1, cz0_1, Az0_2, cz0_2, Az0_3, cz0_3, rfl, gz0_0, gz0_1, gz0_2, gz0_3, gz0_4⟩ := shape_MultiRule h0
  have jz0_0 := gz0_0; unfold I64 at jz0_0
  have lz0_1 := gz0_1.len
  have lz0_2 := gz0_2.len
  have lz0_3 := gz0_3.len
  have jz0_4 := gz0_4; unfold I64 at jz0_4
  have H1 := h1
  obtain ⟨Az1_1, cz1_1, Az1_2, cz1_2, Az1_3, cz1_3, rfl, gz1_0, gz1_1, gz1_2, gz1_3, gz1_4⟩ := shape_MultiRule h1
  have jz1_0 := gz1_0; unfold I64 at jz1_0
  have lz1_1 := gz1_1.len
  have lz1_2 := gz1_2.len
  have lz1_3 := gz1_3.len
  have jz1_4 := gz1_4; unfold I64 at jz1_4
  have HH1 := Held.start Nob w
  refine enter (n := 37) Try.func98 rfl rfl rfl fun a_2 HE3 => ?_
  refine wp_seq ?_
  refine rg ?_
  refine pl_x HE3 HH1 (wt0 rfl) (x_assign rfl) rfl rfl fun a_4 HE5 => ?_
  refine wpList_nil ?_
  clear a_2 HE3
  refine nrm ?_
  refine wp_seq ?_
  refine dr_start (Held Nob w []) 33 #[false, false, false, false, false, false, false, false, false, false, false, false, false, false, false, false, false, false, false, false, false, false, false, false, false, false, false, false, false, false, false, false, false] hmix rfl rfl HH1 (fun _ h => h.sel [] (by decide) rfl) fun w' HH6 => ?_
  have HS7 := HH6
  refine dr_take (i := 0) (ls' := #[true, false, false, false, false, false, false, false, false, false, false, false, false, false, false, false, false, false, false, false, false, false, false, false, false, false, false, false, false, false, false, false, false]) HE5 HS7 rfl (by kernel_rfl) (by kernel_rfl) (by kernel_rfl) (fun _ _ _ h => h) rfl (wt0 rfl) (x_move rfl) rfl rfl fun a_8 HE9 => ?_
  refine dr_take (i := 1) (ls' := #[true, true, false, false, false, false, false, false, false, false, false, false, false, false, false, false, false, false, false, false, false, false, false, false, false, false, false, false, false, false, false, false, false]) HE9 HS7 rfl (by kernel_rfl) (by kernel_rfl) (by kernel_rfl) (fun _ _ _ h => h) rfl (wt0 rfl) (x_nilCheck rfl) rfl rfl fun a_10 HE11 => ?_
  refine dr_take (i := 2) (ls' := #[true, true, true, false, false, false, false, false, false, false, false, false, false, false, false, false, false, false, false, false, false, false, false, false, false, false, false, false, false, false, false, false, false]) HE11 HS7 rfl (by kernel_rfl) (by kernel_rfl) (by kernel_rfl) (fun _ _ _ h => h) rfl (wt0 rfl) (x_fieldAddr fa_104_0 rfl) rfl rfl fun a_12 HE13 => ?_
  refine dr_take (i := 3) (ls' := #[true, true, true, true, false, false, false, false, false, false, false, false, false, false, false, false, false, false, false, false, false, false, false, false, false, false, false, false, false, false, false, false, false]) HE13 HS7 rfl (by kernel_rfl) (by kernel_rfl) (by kernel_rfl) (fun _ _ _ h => h) rfl (wt0 rfl) (x_load1 tv_2 rfl (c_old (hq0 0 _ rfl))) rfl rfl fun a_14 HE15 => ?_
  refine dr_take (i := 4) (ls' := #[true, true, true, true, true, false, false, false, false, false, false, false, false, false, false, false, false, false, false, false, false, false, false, false, false, false, false, false, false, false, false, false, false]) HE15 HS7 rfl (by kernel_rfl) (by kernel_rfl) (by kernel_rfl) (fun _ _ _ h => h) rfl (wt0 rfl) (x_move rfl) rfl rfl fun a_16 HE17 => ?_
  refine dr_take (i := 5) (ls' := #[true, true, true, true, true, true, false, false, false, false, false, false, false, false, false, false, false, false, false, false, false, false, false, false, false, false, false, false, false, false, false, false, false]) HE17 HS7 rfl (by kernel_rfl) (by kernel_rfl) (by kernel_rfl) (fun _ _ _ h => h) rfl (wt0 rfl) (x_nilCheck rfl) rfl rfl fun a_18 HE19 => ?_
  refine dr_take (i := 6) (ls' := #[true, true, true, true, true, true, true, false, false, false, false, false, false, false, false, false, false, false, false, false, false, false, false, false, false, false, false, false, false, false, false, false, false]) HE19 HS7 rfl (by kernel_rfl) (by kernel_rfl) (by kernel_rfl) (fun _ _ _ h => h) rfl (wt0 rfl) (x_fieldAddr fa_104_0 rfl) rfl rfl fun a_20 HE21 => ?_
  refine dr_take (i := 7) (ls' := #[true, true, true, true, true, true, true, true, false, false, false, false, false, false, false, false, false, false, false, false, false, false, false, false, false, false, false, false, false, false, false, false, false]) HE21 HS7 rfl (by kernel_rfl) (by kernel_rfl) (by kernel_rfl) (fun _ _ _ h => h) rfl (wt0 rfl) (x_load1 tv_2 rfl (c_old (hq1 0 _ rfl))) rfl rfl fun a_22 HE23 => ?_
  refine dr_take (i := 8) (ls' := #[true, true, true, true, true, true, true, true, true, false, false, false, false, false, false, false, false, false, false, false, false, false, false, false, false, false, false, false, false, false, false, false, false]) HE23 HS7 rfl (by kernel_rfl) (by kernel_rfl) (by kernel_rfl) (fun _ _ _ h => h) rfl (wt0 rfl) (x_lss rfl rfl) rfl rfl fun a_24 HE25 => ?_
  refine dr_take (i := 9) (ls' := #[true, true, true, true, true, true, true, true, true, true, false, false, false, false, false, false, false, false, false, false, false, false, false, false, false, false, false, false, false, false, false, false, false]) HE25 HS7 rfl (by kernel_rfl) (by kernel_rfl) (by kernel_rfl) (fun _ _ _ h => h) rfl (wt0 rfl) (x_move rfl) rfl rfl fun a_26 HE27 => ?_
  by_cases hc21 : a0.1 < a1.1
  · refine dr_takeNo (i := 10) (ls' := #[true, true, true, true, true, true, true, true, true, true, true, false, false, false, false, false, false, false, false, false, false, false, false, false, false, false, false, false, false, false, false, false, false]) HE27 HS7 rfl (by kernel_rfl) (by kernel_rfl) (by kernel_rfl) (fun _ _ _ h => h) rfl (wtF HE27 rfl rfl rfl (decide_eq_true hc21)) rfl rfl fun a_28 HE29 => ?_
    refine dr_takeNo (i := 11) (ls' := #[true, true, true, true, true, true, true, true, true, true, true, true, false, false, false, false, false, false, false, false, false, false, false, false, false, false, false, false, false, false, false, false, false]) HE29 HS7 rfl (by kernel_rfl) (by kernel_rfl) (by kernel_rfl) (fun _ _ _ h => h) rfl (wtF HE29 rfl rfl rfl (decide_eq_true hc21)) rfl rfl fun a_30 HE31 => ?_
    refine dr_takeNo (i := 12) (ls' := #[true, true, true, true, true, true, true, true, true, true, true, true, true, false, false, false, false, false, false, false, false, false, false, false, false, false, false, false, false, false, false, false, false]) HE31 HS7 rfl (by kernel_rfl) (by kernel_rfl) (by kernel_rfl) (fun _ _ _ h => h) rfl (wtF HE31 rfl rfl rfl (decide_eq_true hc21)) rfl rfl fun a_32 HE33 => ?_
    refine dr_takeNo (i := 13) (ls' := #[true, true, true, true, true, true, true, true, true, true, true, true, true, true, false, false, false, false, false, false, false, false, false, false, false, false, false, false, false, false, false, false, false]) HE33 HS7 rfl (by kernel_rfl) (by kernel_rfl) (by kernel_rfl) (fun _ _ _ h => h) rfl (wtF HE33 rfl rfl rfl (decide_eq_true hc21)) rfl rfl fun a_34 HE35 => ?_
    refine dr_takeNo (i := 14) (ls' := #[true, true, true, true, true, true, true, true, true, true, true, true, true, true, true, false, false, false, false, false, false, false, false, false, false, false, false, false, false, false, false, false, false]) HE35 HS7 rfl (by kernel_rfl) (by kernel_rfl) (by kernel_rfl) (fun _ _ _ h => h) rfl (wtF HE35 rfl rfl rfl (decide_eq_true hc21)) rfl rfl fun a_36 HE37 => ?_
    refine dr_takeNo (i := 15) (ls' := #[true, true, true, true, true, true, true, true, true, true, true, true, true, true, true, true, false, false, false, false, false, false, false, false, false, false, false, false, false, false, false, false, false]) HE37 HS7 rfl (by kernel_rfl) (by kernel_rfl) (by kernel_rfl) (fun _ _ _ h => h) rfl (wtF HE37 rfl rfl rfl (decide_eq_true hc21)) rfl rfl fun a_38 HE39 => ?_
    refine dr_takeNo (i := 16) (ls' := #[true, true, true, true, true, true, true, true, true, true, true, true, true, true, true, true, true, false, false, false, false, false, false, false, false, false, false, false, false, false, false, false, false]) HE39 HS7 rfl (by kernel_rfl) (by kernel_rfl) (by kernel_rfl) (fun _ _ _ h => h) rfl (wtF HE39 rfl rfl rfl (decide_eq_true hc21)) rfl rfl fun a_40 HE41 => ?_
    refine dr_takeNo (i := 17) (ls' := #[true, true, true, true, true, true, true, true, true, true, true, true, true, true, true, true, true, true, false, false, false, false, false, false, false, false, false, false, false, false, false, false, false]) HE41 HS7 rfl (by kernel_rfl) (by kernel_rfl) (by kernel_rfl) (fun _ _ _ h => h) rfl (wtF HE41 rfl rfl rfl (decide_eq_true hc21)) rfl rfl fun a_42 HE43 => ?_
    refine dr_takeNo (i := 18) (ls' := #[true, true, true, true, true, true, true, true, true, true, true, true, true, true, true, true, true, true, true, false, false, false, false, false, false, false, false, false, false, false, false, false, false]) HE43 HS7 rfl (by kernel_rfl) (by kernel_rfl) (by kernel_rfl) (fun _ _ _ h => h) rfl (wtF HE43 rfl rfl rfl (decide_eq_true hc21)) rfl rfl fun a_44 HE45 => ?_
    refine dr_takeNo (i := 19) (ls' := #[true, true, true, true, true, true, true, true, true, true, true, true, true, true, true, true, true, true, true, true, false, false, false, false, false, false, false, false, false, false, false, false, false]) HE45 HS7 rfl (by kernel_rfl) (by kernel_rfl) (by kernel_rfl) (fun _ _ _ h => h) rfl (wtF HE45 rfl rfl rfl (decide_eq_true hc21)) rfl rfl fun a_46 HE47 => ?_
    refine dr_takeNo (i := 20) (ls' := #[true, true, true, true, true, true, true, true, true, true, true, true, true, true, true, true, true, true, true, true, true, false, false, false, false, false, false, false, false, false, false, false, false]) HE47 HS7 rfl (by kernel_rfl) (by kernel_rfl) (by kernel_rfl) (fun _ _ _ h => h) rfl (wtU HE47 rfl rfl rfl) rfl rfl fun a_48 HE49 => ?_
    refine dr_takeNo (i := 21) (ls' := #[true, true, true, true, true, true, true, true, true, true, true, true, true, true, true, true, true, true, true, true, true, true, false, false, false, false, false, false, false, false, false, false, false]) HE49 HS7 rfl (by kernel_rfl) (by kernel_rfl) (by kernel_rfl) (fun _ _ _ h => h) rfl (wtU HE49 rfl rfl rfl) rfl rfl fun a_50 HE51 => ?_
    refine dr_takeNo (i := 22) (ls' := #[true, true, true, true, true, true, true, true, true, true, true, true, true, true, true, true, true, true, true, true, true, true, true, false, false, false, false, false, false, false, false, false, false]) HE51 HS7 rfl (by kernel_rfl) (by kernel_rfl) (by kernel_rfl) (fun _ _ _ h => h) rfl (wtU HE51 rfl rfl rfl) rfl rfl fun a_52 HE53 => ?_
    refine dr_takeNo (i := 23) (ls' := #[true, true, true, true, true, true, true, true, true, true, true, true, true, true, true, true, true, true, true, true, true, true, true, true, false, false, false, false, false, false, false, false, false]) HE53 HS7 rfl (by kernel_rfl) (by kernel_rfl) (by kernel_rfl) (fun _ _ _ h => h) rfl (wtU HE53 rfl rfl rfl) rfl rfl fun a_54 HE55 => ?_
    refine dr_takeNo (i := 24) (ls' := #[true, true, true, true, true, true, true, true, true, true, true, true, true, true, true, true, true, true, true, true, true, true, true, true, true, false, false, false, false, false, false, false, false]) HE55 HS7 rfl (by kernel_rfl) (by kernel_rfl) (by kernel_rfl) (fun _ _ _ h => h) rfl (wtU HE55 rfl rfl rfl) rfl rfl fun a_56 HE57 => ?_
    refine dr_takeNo (i := 25) (ls' := #[true, true, true, true, true, true, true, true, true, true, true, true, true, true, true, true, true, true, true, true, true, true, true, true, true, true, false, false, false, false, false, false, false]) HE57 HS7 rfl (by kernel_rfl) (by kernel_rfl) (by kernel_rfl) (fun _ _ _ h => h) rfl (wtU HE57 rfl rfl rfl) rfl rfl fun a_58 HE59 => ?_
    refine dr_takeNo (i := 26) (ls' := #[true, true, true, true, true, true, true, true, true, true, true, true, true, true, true, true, true, true, true, true, true, true, true, true, true, true, true, false, false, false, false, false, false]) HE59 HS7 rfl (by kernel_rfl) (by kernel_rfl) (by kernel_rfl) (fun _ _ _ h => h) rfl (wtU HE59 rfl rfl rfl) rfl rfl fun a_60 HE61 => ?_
    refine dr_takeNo (i := 27) (ls' := #[true, true, true, true, true, true, true, true, true, true, true, true, true, true, true, true, true, true, true, true, true, true, true, true, true, true, true, true, false, false, false, false, false]) HE61 HS7 rfl (by kernel_rfl) (by kernel_rfl) (by kernel_rfl) (fun _ _ _ h => h) rfl (wtU HE61 rfl rfl rfl) rfl rfl fun a_62 HE63 => ?_
    refine dr_takeNo (i := 28) (ls' := #[true, true, true, true, true, true, true, true, true, true, true, true, true, true, true, true, true, true, true, true, true, true, true, true, true, true, true, true, true, false, false, false, false]) HE63 HS7 rfl (by kernel_rfl) (by kernel_rfl) (by kernel_rfl) (fun _ _ _ h => h) rfl (wtU HE63 rfl rfl rfl) rfl rfl fun a_64 HE65 => ?_
    refine dr_takeNo (i := 29) (ls' := #[true, true, true, true, true, true, true, true, true, true, true, true, true, true, true, true, true, true, true, true, true, true, true, true, true, true, true, true, true, true, false, false, false]) HE65 HS7 rfl (by kernel_rfl) (by kernel_rfl) (by kernel_rfl) (fun _ _ _ h => h) rfl (wtU HE65 rfl rfl rfl) rfl rfl fun a_66 HE67 => ?_
    refine dr_takeNo (i := 30) (ls' := #[true, true, true, true, true, true, true, true, true, true, true, true, true, true, true, true, true, true, true, true, true, true, true, true, true, true, true, true, true, true, true, false, false]) HE67 HS7 rfl (by kernel_rfl) (by kernel_rfl) (by kernel_rfl) (fun _ _ _ h => h) rfl (wtF HE67 rfl rfl rfl (decide_eq_true hc21)) rfl rfl fun a_68 HE69 => ?_
    refine dr_take (i := 31) (ls' := #[true, true, true, true, true, true, true, true, true, true, true, true, true, true, true, true, true, true, true, true, true, true, true, true, true, true, true, true, true, true, true, true, false]) HE69 HS7 rfl (by kernel_rfl) (by kernel_rfl) (by kernel_rfl) (fun _ _ _ h => h) rfl (wt0 rfl) (x_pickT rfl (decide_eq_true hc21) rfl) rfl rfl fun a_70 HE71 => ?_
    refine dr_take (i := 32) (ls' := #[true, true, true, true, true, true, true, true, true, true, true, true, true, true, true, true, true, true, true, true, true, true, true, true, true, true, true, true, true, true, true, true, true]) HE71 HS7 rfl (by kernel_rfl) (by kernel_rfl) (by kernel_rfl) (fun _ _ _ h => h) rfl (wt0 rfl) (x_assign rfl) rfl rfl fun a_72 HE73 => ?_
    refine dr_done (by kernel_rfl) ?_
    clear HH1 a_4 HE5 a_8 HE9 a_10 HE11 a_12 HE13 a_14 HE15 a_16 HE17 a_18 HE19 a_20 HE21 a_22 HE23 a_24 HE25 a_26 HE27 a_28 HE29 a_30 HE31 a_32 HE33 a_34 HE35 a_36 HE37 a_38 HE39 a_40 HE41 a_42 HE43 a_44 HE45 a_46 HE47 a_48 HE49 a_50 HE51 a_52 HE53 a_54 HE55 a_56 HE57 a_58 HE59 a_60 HE61 a_62 HE63 a_64 HE65 a_66 HE67 a_68 HE69 a_70 HE71
    refine nrm ?_
    refine wp_ret ?_
    refine ret1 HE73 rfl (rv_tmp rfl) ?_
    have hF : (beforeMR a0 a1) = true := by
      unfold beforeMR cmpMR; grind
    exact ⟨by first | (rw [hF] <;> rfl) | rfl | (rw [hF]; simp only [Ending.returned.injEq, Value.slice.injEq, true_and, and_true]; first | omega | (simp; done)) | (rw [hF]; simp; omega), HH6.below⟩
  · refine dr_take (i := 10) (ls' := #[true, true, true, true, true, true, true, true, true, true, true, false, false, false, false, false, false, false, false, false, false, false, false, false, false, false, false, false, false, false, false, false, false]) HE27 HS7 rfl (by kernel_rfl) (by kernel_rfl) (by kernel_rfl) (fun _ _ _ h => h) rfl (wtT HE27 rfl rfl rfl (decide_eq_false hc21)) (x_move rfl) rfl rfl fun a_74 HE75 => ?_
    refine dr_take (i := 11) (ls' := #[true, true, true, true, true, true, true, true, true, true, true, true, false, false, false, false, false, false, false, false, false, false, false, false, false, false, false, false, false, false, false, false, false]) HE75 HS7 rfl (by kernel_rfl) (by kernel_rfl) (by kernel_rfl) (fun _ _ _ h => h) rfl (wtT HE75 rfl rfl rfl (decide_eq_false hc21)) (x_nilCheck rfl) rfl rfl fun a_76 HE77 => ?_
    refine dr_take (i := 12) (ls' := #[true, true, true, true, true, true, true, true, true, true, true, true, true, false, false, false, false, false, false, false, false, false, false, false, false, false, false, false, false, false, false, false, false]) HE77 HS7 rfl (by kernel_rfl) (by kernel_rfl) (by kernel_rfl) (fun _ _ _ h => h) rfl (wtT HE77 rfl rfl rfl (decide_eq_false hc21)) (x_fieldAddr fa_104_0 rfl) rfl rfl fun a_78 HE79 => ?_
    refine dr_take (i := 13) (ls' := #[true, true, true, true, true, true, true, true, true, true, true, true, true, true, false, false, false, false, false, false, false, false, false, false, false, false, false, false, false, false, false, false, false]) HE79 HS7 rfl (by kernel_rfl) (by kernel_rfl) (by kernel_rfl) (fun _ _ _ h => h) rfl (wtT HE79 rfl rfl rfl (decide_eq_false hc21)) (x_load1 tv_2 rfl (c_old (hq0 0 _ rfl))) rfl rfl fun a_80 HE81 => ?_
    refine dr_take (i := 14) (ls' := #[true, true, true, true, true, true, true, true, true, true, true, true, true, true, true, false, false, false, false, false, false, false, false, false, false, false, false, false, false, false, false, false, false]) HE81 HS7 rfl (by kernel_rfl) (by kernel_rfl) (by kernel_rfl) (fun _ _ _ h => h) rfl (wtT HE81 rfl rfl rfl (decide_eq_false hc21)) (x_move rfl) rfl rfl fun a_82 HE83 => ?_
    refine dr_take (i := 15) (ls' := #[true, true, true, true, true, true, true, true, true, true, true, true, true, true, true, true, false, false, false, false, false, false, false, false, false, false, false, false, false, false, false, false, false]) HE83 HS7 rfl (by kernel_rfl) (by kernel_rfl) (by kernel_rfl) (fun _ _ _ h => h) rfl (wtT HE83 rfl rfl rfl (decide_eq_false hc21)) (x_nilCheck rfl) rfl rfl fun a_84 HE85 => ?_
    refine dr_take (i := 16) (ls' := #[true, true, true, true, true, true, true, true, true, true, true, true, true, true, true, true, true, false, false, false, false, false, false, false, false, false, false, false, false, false, false, false, false]) HE85 HS7 rfl (by kernel_rfl) (by kernel_rfl) (by kernel_rfl) (fun _ _ _ h => h) rfl (wtT HE85 rfl rfl rfl (decide_eq_false hc21)) (x_fieldAddr fa_104_0 rfl) rfl rfl fun a_86 HE87 => ?_
    refine dr_take (i := 17) (ls' := #[true, true, true, true, true, true, true, true, true, true, true, true, true, true, true, true, true, true, false, false, false, false, false, false, false, false, false, false, false, false, false, false, false]) HE87 HS7 rfl (by kernel_rfl) (by kernel_rfl) (by kernel_rfl) (fun _ _ _ h => h) rfl (wtT HE87 rfl rfl rfl (decide_eq_false hc21)) (x_load1 tv_2 rfl (c_old (hq1 0 _ rfl))) rfl rfl fun a_88 HE89 => ?_
    refine dr_take (i := 18) (ls' := #[true, true, true, true, true, true, true, true, true, true, true, true, true, true, true, true, true, true, true, false, false, false, false, false, false, false, false, false, false, false, false, false, false]) HE89 HS7 rfl (by kernel_rfl) (by kernel_rfl) (by kernel_rfl) (fun _ _ _ h => h) rfl (wtT HE89 rfl rfl rfl (decide_eq_false hc21)) (x_eql rfl rfl) rfl rfl fun a_90 HE91 => ?_
    refine dr_take (i := 19) (ls' := #[true, true, true, true, true, true, true, true, true, true, true, true, true, true, true, true, true, true, true, true, false, false, false, false, false, false, false, false, false, false, false, false, false]) HE91 HS7 rfl (by kernel_rfl) (by kernel_rfl) (by kernel_rfl) (fun _ _ _ h => h) rfl (wtT HE91 rfl rfl rfl (decide_eq_false hc21)) (x_move rfl) rfl rfl fun a_92 HE93 => ?_
    by_cases hc22 : a0.1 = a1.1
    · refine dr_take (i := 20) (ls' := #[true, true, true, true, true, true, true, true, true, true, true, true, true, true, true, true, true, true, true, true, true, false, false, false, false, false, false, false, false, false, false, false, false]) HE93 HS7 rfl (by kernel_rfl) (by kernel_rfl) (by kernel_rfl) (fun _ _ _ h => h) rfl (wtT HE93 rfl rfl rfl (beq_t hc22)) (x_move rfl) rfl rfl fun a_94 HE95 => ?_
      refine dr_take (i := 21) (ls' := #[true, true, true, true, true, true, true, true, true, true, true, true, true, true, true, true, true, true, true, true, true, true, false, false, false, false, false, false, false, false, false, false, false]) HE95 HS7 rfl (by kernel_rfl) (by kernel_rfl) (by kernel_rfl) (fun _ _ _ h => h) rfl (wtT HE95 rfl rfl rfl (beq_t hc22)) (x_nilCheck rfl) rfl rfl fun a_96 HE97 => ?_
      refine dr_take (i := 22) (ls' := #[true, true, true, true, true, true, true, true, true, true, true, true, true, true, true, true, true, true, true, true, true, true, true, false, false, false, false, false, false, false, false, false, false]) HE97 HS7 rfl (by kernel_rfl) (by kernel_rfl) (by kernel_rfl) (fun _ _ _ h => h) rfl (wtT HE97 rfl rfl rfl (beq_t hc22)) (x_fieldAddr fa_104_1 rfl) rfl rfl fun a_98 HE99 => ?_
      refine dr_take (i := 23) (ls' := #[true, true, true, true, true, true, true, true, true, true, true, true, true, true, true, true, true, true, true, true, true, true, true, true, false, false, false, false, false, false, false, false, false]) HE99 HS7 rfl (by kernel_rfl) (by kernel_rfl) (by kernel_rfl) (fun _ _ _ h => h) rfl (wtT HE99 rfl rfl rfl (beq_t hc22)) (x_load1 tv_37 rfl (c_old (hq0 1 _ rfl))) rfl rfl fun a_100 HE101 => ?_
      refine dr_take (i := 24) (ls' := #[true, true, true, true, true, true, true, true, true, true, true, true, true, true, true, true, true, true, true, true, true, true, true, true, true, false, false, false, false, false, false, false, false]) HE101 HS7 rfl (by kernel_rfl) (by kernel_rfl) (by kernel_rfl) (fun _ _ _ h => h) rfl (wtT HE101 rfl rfl rfl (beq_t hc22)) (x_move rfl) rfl rfl fun a_102 HE103 => ?_
      refine dr_take (i := 25) (ls' := #[true, true, true, true, true, true, true, true, true, true, true, true, true, true, true, true, true, true, true, true, true, true, true, true, true, true, false, false, false, false, false, false, false]) HE103 HS7 rfl (by kernel_rfl) (by kernel_rfl) (by kernel_rfl) (fun _ _ _ h => h) rfl (wtT HE103 rfl rfl rfl (beq_t hc22)) (x_nilCheck rfl) rfl rfl fun a_104 HE105 => ?_
      refine dr_take (i := 26) (ls' := #[true, true, true, true, true, true, true, true, true, true, true, true, true, true, true, true, true, true, true, true, true, true, true, true, true, true, true, false, false, false, false, false, false]) HE105 HS7 rfl (by kernel_rfl) (by kernel_rfl) (by kernel_rfl) (fun _ _ _ h => h) rfl (wtT HE105 rfl rfl rfl (beq_t hc22)) (x_fieldAddr fa_104_1 rfl) rfl rfl fun a_106 HE107 => ?_
      refine dr_take (i := 27) (ls' := #[true, true, true, true, true, true, true, true, true, true, true, true, true, true, true, true, true, true, true, true, true, true, true, true, true, true, true, true, false, false, false, false, false]) HE107 HS7 rfl (by kernel_rfl) (by kernel_rfl) (by kernel_rfl) (fun _ _ _ h => h) rfl (wtT HE107 rfl rfl rfl (beq_t hc22)) (x_load1 tv_37 rfl (c_old (hq1 1 _ rfl))) rfl rfl fun a_108 HE109 => ?_
      refine dr_one (i := 28) (ls' := #[true, true, true, true, true, true, true, true, true, true, true, true, true, true, true, true, true, true, true, true, true, true, true, true, true, true, true, true, true, false, false, false, false]) rfl (by kernel_rfl) rfl fun K_110 hK111 => ?_
      refine st_call HE109 (wtT HE109 rfl rfl rfl (beq_t hc22)) rfl rfl rfl en_114 rfl rfl (spec_l01Compare _ _ a0.2.1 _ _ a1.2.1 _ (HH6.old gz0_1) (HH6.old gz1_1)) fun e w' hr => ?_
      obtain ⟨rfl, hbr23⟩ := hr
      have HH112 := HH6.on hbr23
      refine ⟨_, rfl, fun a_113 HE114 => hK111 _ _ (by exact HH112.sel [] (by decide) rfl) ?_⟩
      have HS115 := HH112.sel [] (by decide) rfl
      refine dr_take (i := 29) (ls' := #[true, true, true, true, true, true, true, true, true, true, true, true, true, true, true, true, true, true, true, true, true, true, true, true, true, true, true, true, true, true, false, false, false]) HE114 HS115 rfl (by kernel_rfl) (by kernel_rfl) (by kernel_rfl) (fun _ _ _ h => h) rfl (wtT HE114 rfl rfl rfl (beq_t hc22)) (x_lss rfl rfl) rfl rfl fun a_116 HE117 => ?_
      refine dr_take (i := 30) (ls' := #[true, true, true, true, true, true, true, true, true, true, true, true, true, true, true, true, true, true, true, true, true, true, true, true, true, true, true, true, true, true, true, false, false]) HE117 HS115 rfl (by kernel_rfl) (by kernel_rfl) (by kernel_rfl) (fun _ _ _ h => h) rfl (wtT HE117 rfl rfl rfl (decide_eq_false hc21)) (x_pickT rfl (beq_t hc22) rfl) rfl rfl fun a_118 HE119 => ?_
      refine dr_take (i := 31) (ls' := #[true, true, true, true, true, true, true, true, true, true, true, true, true, true, true, true, true, true, true, true, true, true, true, true, true, true, true, true, true, true, true, true, false]) HE119 HS115 rfl (by kernel_rfl) (by kernel_rfl) (by kernel_rfl) (fun _ _ _ h => h) rfl (wt0 rfl) (x_pickF rfl (decide_eq_false hc21) rfl) rfl rfl fun a_120 HE121 => ?_
      refine dr_take (i := 32) (ls' := #[true, true, true, true, true, true, true, true, true, true, true, true, true, true, true, true, true, true, true, true, true, true, true, true, true, true, true, true, true, true, true, true, true]) HE121 HS115 rfl (by kernel_rfl) (by kernel_rfl) (by kernel_rfl) (fun _ _ _ h => h) rfl (wt0 rfl) (x_assign rfl) rfl rfl fun a_122 HE123 => ?_
      refine dr_done (by kernel_rfl) ?_
      clear HH1 a_4 HE5 a_8 HE9 a_10 HE11 a_12 HE13 a_14 HE15 a_16 HE17 a_18 HE19 a_20 HE21 a_22 HE23 a_24 HE25 a_26 HE27 a_74 HE75 a_76 HE77 a_78 HE79 a_80 HE81 a_82 HE83 a_84 HE85 a_86 HE87 a_88 HE89 a_90 HE91 a_92 HE93 a_94 HE95 a_96 HE97 a_98 HE99 a_100 HE101 a_102 HE103 a_104 HE105 a_106 HE107 HH6 a_108 HE109 HS7 a_113 HE114 a_116 HE117 a_118 HE119 a_120 HE121 hK111 K_110
      refine nrm ?_
      refine wp_ret ?_
      refine ret1 HE123 rfl (rv_tmp rfl) ?_
      have hF : (beforeMR a0 a1) = decide ((cmpL a0.2.1 a1.2.1) < 0) := by
        unfold beforeMR cmpMR; grind
      exact ⟨by first | (rw [hF] <;> rfl) | rfl | (rw [hF]; simp only [Ending.returned.injEq, Value.slice.injEq, true_and, and_true]; first | omega | (simp; done)) | (rw [hF]; simp; omega), HH112.below⟩
    · refine dr_takeNo (i := 20) (ls' := #[true, true, true, true, true, true, true, true, true, true, true, true, true, true, true, true, true, true, true, true, true, false, false, false, false, false, false, false, false, false, false, false, false]) HE93 HS7 rfl (by kernel_rfl) (by kernel_rfl) (by kernel_rfl) (fun _ _ _ h => h) rfl (wtF HE93 rfl rfl rfl (beq_f hc22)) rfl rfl fun a_124 HE125 => ?_
      refine dr_takeNo (i := 21) (ls' := #[true, true, true, true, true, true, true, true, true, true, true, true, true, true, true, true, true, true, true, true, true, true, false, false, false, false, false, false, false, false, false, false, false]) HE125 HS7 rfl (by kernel_rfl) (by kernel_rfl) (by kernel_rfl) (fun _ _ _ h => h) rfl (wtF HE125 rfl rfl rfl (beq_f hc22)) rfl rfl fun a_126 HE127 => ?_
      refine dr_takeNo (i := 22) (ls' := #[true, true, true, true, true, true, true, true, true, true, true, true, true, true, true, true, true, true, true, true, true, true, true, false, false, false, false, false, false, false, false, false, false]) HE127 HS7 rfl (by kernel_rfl) (by kernel_rfl) (by kernel_rfl) (fun _ _ _ h => h) rfl (wtF HE127 rfl rfl rfl (beq_f hc22)) rfl rfl fun a_128 HE129 => ?_
      refine dr_takeNo (i := 23) (ls' := #[true, true, true, true, true, true, true, true, true, true, true, true, true, true, true, true, true, true, true, true, true, true, true, true, false, false, false, false, false, false, false, false, false]) HE129 HS7 rfl (by kernel_rfl) (by kernel_rfl) (by kernel_rfl) (fun _ _ _ h => h) rfl (wtF HE129 rfl rfl rfl (beq_f hc22)) rfl rfl fun a_130 HE131 => ?_
      refine dr_takeNo (i := 24) (ls' := #[true, true, true, true, true, true, true, true, true, true, true, true, true, true, true, true, true, true, true, true, true, true, true, true, true, false, false, false, false, false, false, false, false]) HE131 HS7 rfl (by kernel_rfl) (by kernel_rfl) (by kernel_rfl) (fun _ _ _ h => h) rfl (wtF HE131 rfl rfl rfl (beq_f hc22)) rfl rfl fun a_132 HE133 => ?_
      refine dr_takeNo (i := 25) (ls' := #[true, true, true, true, true, true, true, true, true, true, true, true, true, true, true, true, true, true, true, true, true, true, true, true, true, true, false, false, false, false, false, false, false]) HE133 HS7 rfl (by kernel_rfl) (by kernel_rfl) (by kernel_rfl) (fun _ _ _ h => h) rfl (wtF HE133 rfl rfl rfl (beq_f hc22)) rfl rfl fun a_134 HE135 => ?_
      refine dr_takeNo (i := 26) (ls' := #[true, true, true, true, true, true, true, true, true, true, true, true, true, true, true, true, true, true, true, true, true, true, true, true, true, true, true, false, false, false, false, false, false]) HE135 HS7 rfl (by kernel_rfl) (by kernel_rfl) (by kernel_rfl) (fun _ _ _ h => h) rfl (wtF HE135 rfl rfl rfl (beq_f hc22)) rfl rfl fun a_136 HE137 => ?_
      refine dr_takeNo (i := 27) (ls' := #[true, true, true, true, true, true, true, true, true, true, true, true, true, true, true, true, true, true, true, true, true, true, true, true, true, true, true, true, false, false, false, false, false]) HE137 HS7 rfl (by kernel_rfl) (by kernel_rfl) (by kernel_rfl) (fun _ _ _ h => h) rfl (wtF HE137 rfl rfl rfl (beq_f hc22)) rfl rfl fun a_138 HE139 => ?_
      refine dr_takeNo (i := 28) (ls' := #[true, true, true, true, true, true, true, true, true, true, true, true, true, true, true, true, true, true, true, true, true, true, true, true, true, true, true, true, true, false, false, false, false]) HE139 HS7 rfl (by kernel_rfl) (by kernel_rfl) (by kernel_rfl) (fun _ _ _ h => h) rfl (wtF HE139 rfl rfl rfl (beq_f hc22)) rfl rfl fun a_140 HE141 => ?_
      refine dr_takeNo (i := 29) (ls' := #[true, true, true, true, true, true, true, true, true, true, true, true, true, true, true, true, true, true, true, true, true, true, true, true, true, true, true, true, true, true, false, false, false]) HE141 HS7 rfl (by kernel_rfl) (by kernel_rfl) (by kernel_rfl) (fun _ _ _ h => h) rfl (wtF HE141 rfl rfl rfl (beq_f hc22)) rfl rfl fun a_142 HE143 => ?_
      refine dr_take (i := 30) (ls' := #[true, true, true, true, true, true, true, true, true, true, true, true, true, true, true, true, true, true, true, true, true, true, true, true, true, true, true, true, true, true, true, false, false]) HE143 HS7 rfl (by kernel_rfl) (by kernel_rfl) (by kernel_rfl) (fun _ _ _ h => h) rfl (wtT HE143 rfl rfl rfl (decide_eq_false hc21)) (x_pickF rfl (beq_f hc22) rfl) rfl rfl fun a_144 HE145 => ?_
      refine dr_take (i := 31) (ls' := #[true, true, true, true, true, true, true, true, true, true, true, true, true, true, true, true, true, true, true, true, true, true, true, true, true, true, true, true, true, true, true, true, false]) HE145 HS7 rfl (by kernel_rfl) (by kernel_rfl) (by kernel_rfl) (fun _ _ _ h => h) rfl (wt0 rfl) (x_pickF rfl (decide_eq_false hc21) rfl) rfl rfl fun a_146 HE147 => ?_
      refine dr_take (i := 32) (ls' := #[true, true, true, true, true, true, true, true, true, true, true, true, true, true, true, true, true, true, true, true, true, true, true, true, true, true, true, true, true, true, true, true, true]) HE147 HS7 rfl (by kernel_rfl) (by kernel_rfl) (by kernel_rfl) (fun _ _ _ h => h) rfl (wt0 rfl) (x_assign rfl) rfl rfl fun a_148 HE149 => ?_
      refine dr_done (by kernel_rfl) ?_
      clear HH1 a_4 HE5 a_8 HE9 a_10 HE11 a_12 HE13 a_14 HE15 a_16 HE17 a_18 HE19 a_20 HE21 a_22 HE23 a_24 HE25 a_26 HE27 a_74 HE75 a_76 HE77 a_78 HE79 a_80 HE81 a_82 HE83 a_84 HE85 a_86 HE87 a_88 HE89 a_90 HE91 a_92 HE93 a_124 HE125 a_126 HE127 a_128 HE129 a_130 HE131 a_132 HE133 a_134 HE135 a_136 HE137 a_138 HE139 a_140 HE141 a_142 HE143 a_144 HE145 a_146 HE147
      refine nrm ?_
      refine wp_ret ?_
      refine ret1 HE149 rfl (rv_tmp rfl) ?_
      have hF : (beforeMR a0 a1) = false := by
        unfold beforeMR cmpMR; grind
      exact ⟨by first | (rw [hF] <;> rfl) | rfl | (rw [hF]; simp only [Ending.returned.injEq, Value.slice.injEq, true_and, and_true]; first | omega | (simp; done)) | (rw [hF]; simp; omega), HH6.below⟩

set_option maxRecDepth 100000 in
set_option maxHeartbeats 4000000 in
theorem spec_l06RowE (A0 : Option Addr) (c0 : Nat) (a0 : (List Int)) (a1 : Int) (a2 : Int) (a3 : Int) (w : World) (h0 : Sl eInt w (Old w) A0 c0 a0) :
    Calls Try.prog 97 #[.slice A0 a0.length c0, .int .i64 a1, .int .i64 a2, .int .i64 a3] w fun e w' => e = .returned (.bool (rowB a0 a1 a2 a3)) ∧ Below w.heap.size w w' := by
  have l0 := h0.len
  have HH1 := Held.start Nob w
  refine enter (n := 28) Try.func97 rfl rfl rfl fun a_2 HE3 => ?_
  refine wp_seq ?_
  refine rg ?_
  refine pl_x HE3 HH1 (wt0 rfl) (x_assign rfl) rfl rfl fun a_4 HE5 => ?_
  refine wpList_nil ?_
  clear a_2 HE3
  refine nrm ?_
  refine wp_seq ?_
  refine wp_seq ?_
  refine rg ?_
  refine pl_x HE5 HH1 (wt0 rfl) (x_move rfl) rfl rfl fun a_6 HE7 => ?_
  refine pl_x HE7 HH1 (wt0 rfl) (x_len Try.underlying37 rfl) rfl rfl fun a_8 HE9 => ?_
  refine pl_x HE9 HH1 (wt0 rfl) (x_move rfl) rfl rfl fun a_10 HE11 => ?_
  refine pl_x HE11 HH1 (wt0 rfl) (x_neq rfl rfl) rfl rfl fun a_12 HE13 => ?_
  refine wpList_nil ?_
  clear a_4 HE5 a_6 HE7 a_8 HE9 a_10 HE11
  refine nrm ?_
  refine cnd_ne HE13 rfl (fun hc21 => ?_) (fun hc21 => ?_)
  · refine wp_seq ?_
    refine rg ?_
    refine pl_x HE13 HH1 (wt0 rfl) (x_assign rfl) rfl rfl fun a_14 HE15 => ?_
    refine wpList_nil ?_
    clear a_12 HE13
    refine nrm ?_
    refine wp_ret ?_
    refine (thn_ret ?_)
    refine ret1 HE15 rfl (rv_tmp rfl) ?_
    have hF : (rowB a0 a1 a2 a3) = false := by
      first | (unfold rowB; rw [beq_false_of_ne (by omega)]; rfl) | (unfold rowB allW; rw [any_hit (by omega : k < a0.length) (by rw [← xe0, outB_eq, hc21]; rfl)]; simp) | (have hq := p0_1; rw [List.take_of_length_le (by omega)] at hq; unfold rowB allW; rw [hq]; simp; omega)
    exact ⟨by first | (rw [hF] <;> rfl) | rfl | (rw [hF]; simp only [Ending.returned.injEq, Value.slice.injEq, true_and, and_true]; first | omega | (simp; done)) | (rw [hF]; simp; omega), HH1.below⟩
  · refine wp_skip ?_
    refine nrm ?_
    refine wp_seq ?_
    refine wp_seq ?_
    refine rg ?_
    refine pl_x HE13 HH1 (wt0 rfl) (x_assign rfl) rfl rfl fun a_16 HE17 => ?_
    refine wpList_nil ?_
    clear a_12 HE13
    refine nrm ?_
    refine wp_block ?_
    refine lp (fun m a w' => ∃ (k : Nat), m = a0.length - k ∧ Env 28 [(9, .int .i64 (k : Int)), (0, .slice A0 (a0.length) c0), (2, .int .i64 (a2)), (3, .int .i64 (a3))] a ∧ Held Nob w [] w' ∧ (k ≤ a0.length) ∧ ((a0.take k).any (outB a2 a3) = false)) (a0.length - (0)) ?_ ?_
    · exact ⟨0, rfl, HE17.sub ⟨(lkI rfl (by first | rfl | omega | (simp [hc21]; done))), rfl, rfl, rfl, trivial⟩, (HH1.sel [] (by decide) rfl), (by first | omega | assumption | (simp; done) | simp_all), (by rfl)⟩
    · rintro m a_18 w' ⟨k, rfl, HE19, HH20, p22_0, p22_1⟩
      refine wp_seq ?_
      refine wp_seq ?_
      refine rg ?_
      refine pl_x HE19 HH20 (wt0 rfl) (x_move rfl) rfl rfl fun a_21 HE22 => ?_
      refine pl_x HE22 HH20 (wt0 rfl) (x_move rfl) rfl rfl fun a_23 HE24 => ?_
      refine pl_x HE24 HH20 (wt0 rfl) (x_len Try.underlying37 rfl) rfl rfl fun a_25 HE26 => ?_
      refine pl_x HE26 HH20 (wt0 rfl) (x_lss rfl rfl) rfl rfl fun a_27 HE28 => ?_
      refine wpList_nil ?_
      clear a_16 HE17 HH1 a_18 HE19 a_21 HE22 a_23 HE24 a_25 HE26
      refine nrm ?_
      refine cnd_d HE28 rfl (fun hc23 => ?_) (fun hc23 => ?_)
      · refine wp_skip ?_
        refine nrm ?_
        refine wp_seq ?_
        refine wp_block ?_
        refine wp_seq ?_
        refine rg ?_
        refine pl_x HE28 HH20 (wt0 rfl) (x_move rfl) rfl rfl fun a_29 HE30 => ?_
        refine pl_x HE30 HH20 (wt0 rfl) (x_move rfl) rfl rfl fun a_31 HE32 => ?_
        have ke24 : k < a0.length := by omega
        obtain ⟨be24, fe24, ese24, Ae24, Re24, De24⟩ := el_old h0 ke24
        obtain ⟨e24, xe24⟩ : ∃ x_, x_ = a0[k] := ⟨_, rfl⟩
        rw [← xe24] at Re24
        have Qe24 := Re24
        obtain ⟨rfl, ie24⟩ := Re24
        have je24 := ie24; unfold I64 at je24
        refine pl_x HE32 HH20 (wt0 rfl) (x_indexAddr ts_37 rfl rfl Ae24 rfl ke24) rfl rfl fun a_33 HE34 => ?_
        refine pl_x HE34 HH20 (wt0 rfl) (x_load1 tv_2 rfl (c_old (De24 0 _ rfl))) rfl rfl fun a_35 HE36 => ?_
        refine pl_x HE36 HH20 (wt0 rfl) (x_move rfl) rfl rfl fun a_37 HE38 => ?_
        refine pl_x HE38 HH20 (wt0 rfl) (x_move rfl) rfl rfl fun a_39 HE40 => ?_
        refine pl fun K_41 hK42 => ?_
        refine st_call HE40 (wt0 rfl) rfl rfl rfl en_61 rfl rfl (spec_l00In e24 a2 a3 _ ) fun e w' hr => ?_
        obtain ⟨rfl, rfl⟩ := hr
        refine ⟨_, rfl, fun a_43 HE44 => hK42 _ _ ?_⟩
        refine pl_x HE44 HH20 (wt0 rfl) (x_not rfl) rfl rfl fun a_45 HE46 => ?_
        refine wpList_nil ?_
        clear a_27 HE28 a_29 HE30 a_31 HE32 a_33 HE34 a_35 HE36 a_37 HE38 a_39 HE40 a_43 HE44 hK42 K_41
        refine nrm ?_
        refine cnd_nb HE46 rfl (fun hc26 => ?_) (fun hc26 => ?_)
        · refine wp_seq ?_
          refine rg ?_
          refine pl_x HE46 HH20 (wt0 rfl) (x_assign rfl) rfl rfl fun a_47 HE48 => ?_
          refine wpList_nil ?_
          clear a_45 HE46
          refine nrm ?_
          refine wp_ret ?_
          refine (blk_ret (thn_ret (thn_ret (blk_ret (thn_ret ?_)))))
          refine ret1 HE48 rfl (rv_tmp rfl) ?_
          have hF : (rowB a0 a1 a2 a3) = false := by
            first | (unfold rowB; rw [beq_false_of_ne (by omega)]; rfl) | (unfold rowB allW; rw [any_hit (by omega : k < a0.length) (by rw [← xe24, outB_eq, hc26]; rfl)]; simp) | (have hq := p22_1; rw [List.take_of_length_le (by omega)] at hq; unfold rowB allW; rw [hq]; simp; omega)
          exact ⟨by first | (rw [hF] <;> rfl) | rfl | (rw [hF]; simp only [Ending.returned.injEq, Value.slice.injEq, true_and, and_true]; first | omega | (simp; done)) | (rw [hF]; simp; omega), HH20.below⟩
        · refine wp_skip ?_
          refine blk_n ?_
          refine nrm ?_
          refine rg ?_
          refine pl_x HE46 HH20 (wt0 rfl) (x_move rfl) rfl rfl fun a_49 HE50 => ?_
          refine pl_x HE50 HH20 (wt0 rfl) (x_add rfl rfl (by exact ⟨by omega, by omega⟩)) rfl rfl fun a_51 HE52 => ?_
          refine pl_x HE52 HH20 (wt0 rfl) (x_assign rfl) rfl rfl fun a_53 HE54 => ?_
          refine wpList_nil ?_
          clear a_45 HE46 a_49 HE50 a_51 HE52
          exact nrm ⟨a0.length - (k + 1), (by omega), k + 1, rfl, HE54.sub ⟨(lkI rfl (by first | rfl | omega | (simp [hc21, p22_0, p22_1, hc23, xe24, hc26]; done))), rfl, rfl, rfl, trivial⟩, (HH20.sel [] (by decide) rfl), (by first | omega | assumption | (simp; done) | simp_all), (by exact any_step (by omega) p22_1 (by rw [← xe24, outB_eq, hc26]; rfl))⟩
      · refine wp_exit ?_
        refine (thn_exit (thn_exit (blk_hit ?_)))
        refine nrm ?_
        refine wp_seq ?_
        refine rg ?_
        refine pl_x HE28 HH20 (wt0 rfl) (x_assign rfl) rfl rfl fun a_55 HE56 => ?_
        refine wpList_nil ?_
        clear a_27 HE28
        refine nrm ?_
        refine wp_ret ?_
        refine ret1 HE56 rfl (rv_tmp rfl) ?_
        have hF : (rowB a0 a1 a2 a3) = true := by
          first | (unfold rowB; rw [beq_false_of_ne (by omega)]; rfl) | (unfold rowB allW; rw [any_hit (by omega : k < a0.length) (by rw [← xe0, outB_eq, hc23]; rfl)]; simp) | (have hq := p22_1; rw [List.take_of_length_le (by omega)] at hq; unfold rowB allW; rw [hq]; simp; omega)
        exact ⟨by first | (rw [hF] <;> rfl) | rfl | (rw [hF]; simp only [Ending.returned.injEq, Value.slice.injEq, true_and, and_true]; first | omega | (simp; done)) | (rw [hF]; simp; omega), HH20.below⟩

set_option maxRecDepth 100000 in
set_option maxHeartbeats 4000000 in
theorem impl_validMultiRule (es0 : List Value) (a0 : tMulti) (es1 : List Value) (a1 : tMultiRule) (w : World) (h0 : eMulti.R w (Old w) es0 a0) (h1 : eMultiRule.R w (Old w) es1 a1) (s0 : 1 ≤ a0.2.2.1 ∧ a0.2.2.1 ≤ 16) (s1 : 2 ≤ a0.2.1 ∧ a0.2.1 ≤ 3) :
    Calls Try.prog 101 #[.agg es0.toArray, .agg es1.toArray] w fun e w' => e = .returned (.bool (validMR a0 a1)) ∧ Below w.heap.size w w' := by
  have H0 := h0
  obtain ⟨Az0_3, cz0_3, rfl, gz0_0, gz0_1, gz0_2, gz0_3⟩ := shape_Multi h0
  have jz0_0 := gz0_0; unfold I64 at jz0_0
  have jz0_1 := gz0_1; unfold I64 at jz0_1
  have jz0_2 := gz0_2; unfold I64 at jz0_2
  have lz0_3 := gz0_3.len
  have H1 := h1
  obtain ⟨Az1_1, cz1_1, Az1_2, cz1_2, Az1_3, cz1_3, rfl, gz1_0, gz1_1, gz1_2, gz1_3, gz1_4⟩ := shape_MultiRule h1
  have jz1_0 := gz1_0; unfold I64 at jz1_0
  have lz1_1 := gz1_1.len
  have lz1_2 := gz1_2.len
  have lz1_3 := gz1_3.len
  have jz1_4 := gz1_4; unfold I64 at jz1_4
  have HH1 := Held.start Nob w
  refine enter (n := 62) Try.func101 rfl rfl rfl fun a_2 HE3 => ?_
  refine wp_seq ?_
  refine rg ?_
  refine pl fun K_4 hK5 => ?_
  refine st_box (cs := [.int .i64 (a0.1), .int .i64 (a0.2.1), .int .i64 (a0.2.2.1), .slice Az0_3 (a0.2.2.2.length) cz0_3]) HE3 HH1 rfl rfl (wt0 rfl) rfl fun q21 a_6 w' HE7 HH8 => hK5 _ _ ?_
  refine pl fun K_9 hK10 => ?_
  refine st_box (cs := [.int .i64 (a1.1), .slice Az1_1 (a1.2.1.length) cz1_1, .slice Az1_2 (a1.2.2.1.length) cz1_2, .slice Az1_3 (a1.2.2.2.1.length) cz1_3, .int .i64 (a1.2.2.2.2)]) HE7 HH8 rfl rfl (wt0 rfl) rfl fun q22 a_11 w' HE12 HH13 => hK10 _ _ ?_
  refine pl_x HE12 HH13 (wt0 rfl) (x_assign rfl) rfl rfl fun a_14 HE15 => ?_
  refine wpList_nil ?_
  clear a_2 HE3 HH1 K_4 hK5 a_6 HE7 HH8 a_11 HE12 hK10 K_9
  refine nrm ?_
  refine wp_seq ?_
  refine wp_seq ?_
  refine rg ?_
  refine pl_x HE15 HH13 (wt0 rfl) (x_fieldAddr fa_104_0 rfl) rfl rfl fun a_16 HE17 => ?_
  refine pl_x HE17 HH13 (wt0 rfl) (x_load1 tv_2 rfl (c_blk 0 rfl rfl)) rfl rfl fun a_18 HE19 => ?_
  refine pl_x HE19 HH13 (wt0 rfl) (x_fieldAddr fa_55_2 rfl) rfl rfl fun a_20 HE21 => ?_
  refine pl_x HE21 HH13 (wt0 rfl) (x_load1 tv_2 rfl (c_blk 1 rfl rfl)) rfl rfl fun a_22 HE23 => ?_
  refine pl_x HE23 HH13 (wt0 rfl) (x_sub rfl rfl (by exact ⟨by omega, by omega⟩)) rfl rfl fun a_24 HE25 => ?_
  refine pl fun K_26 hK27 => ?_
  refine st_call HE25 (wt0 rfl) rfl rfl rfl en_65 rfl rfl (impl_within a1.1 0 (a0.2.2.1 - 1) _ ) fun e w' hr => ?_
  obtain ⟨rfl, rfl⟩ := hr
  refine ⟨_, rfl, fun a_28 HE29 => hK27 _ _ ?_⟩
  refine pl_x HE29 HH13 (wt0 rfl) (x_not rfl) rfl rfl fun a_30 HE31 => ?_
  refine pl_x HE31 HH13 (wt0 rfl) (x_move rfl) rfl rfl fun a_32 HE33 => ?_
  rcases Bool.eq_false_or_eq_true ((withinB a1.1 0 (a0.2.2.1 - 1))) with hc24 | hc24
  · refine pl_x HE33 HH13 (wtT HE33 rfl rfl rfl (not_f hc24)) (x_fieldAddr fa_104_4 rfl) rfl rfl fun a_34 HE35 => ?_
    refine pl_x HE35 HH13 (wtT HE35 rfl rfl rfl (not_f hc24)) (x_load1 tv_2 rfl (c_blk 0 rfl rfl)) rfl rfl fun a_36 HE37 => ?_
    refine pl_x HE37 HH13 (wtT HE37 rfl rfl rfl (not_f hc24)) (x_fieldAddr fa_55_2 rfl) rfl rfl fun a_38 HE39 => ?_
    refine pl_x HE39 HH13 (wtT HE39 rfl rfl rfl (not_f hc24)) (x_load1 tv_2 rfl (c_blk 1 rfl rfl)) rfl rfl fun a_40 HE41 => ?_
    refine pl_x HE41 HH13 (wtT HE41 rfl rfl rfl (not_f hc24)) (x_sub rfl rfl (by exact ⟨by omega, by omega⟩)) rfl rfl fun a_42 HE43 => ?_
    refine pl fun K_44 hK45 => ?_
    refine st_call HE43 (wtT HE43 rfl rfl rfl (not_f hc24)) rfl rfl rfl en_65 rfl rfl (impl_within a1.2.2.2.2 0 (a0.2.2.1 - 1) _ ) fun e w' hr => ?_
    obtain ⟨rfl, rfl⟩ := hr
    refine ⟨_, rfl, fun a_46 HE47 => hK45 _ _ ?_⟩
    refine pl_x HE47 HH13 (wtT HE47 rfl rfl rfl (not_f hc24)) (x_not rfl) rfl rfl fun a_48 HE49 => ?_
    refine pl_x HE49 HH13 (wt0 rfl) (x_pickF rfl (not_f hc24) rfl) rfl rfl fun a_50 HE51 => ?_
    refine wpList_nil ?_
    clear a_14 HE15 a_16 HE17 a_18 HE19 a_20 HE21 a_22 HE23 a_24 HE25 a_28 HE29 a_30 HE31 a_32 HE33 a_34 HE35 a_36 HE37 a_38 HE39 a_40 HE41 K_26 hK27 a_42 HE43 a_46 HE47 a_48 HE49 hK45 K_44
    refine nrm ?_
    refine cnd_nb HE51 rfl (fun hc26 => ?_) (fun hc26 => ?_)
    · refine wp_seq ?_
      refine rg ?_
      refine pl_x HE51 HH13 (wt0 rfl) (x_assign rfl) rfl rfl fun a_52 HE53 => ?_
      refine wpList_nil ?_
      clear a_50 HE51
      refine nrm ?_
      refine wp_ret ?_
      refine (thn_ret ?_)
      refine ret1 HE53 rfl (rv_tmp rfl) ?_
      have hF : (validMR a0 a1) = false := by
        first | (simp [validMR, hc24, hc26]; done) | (unfold validMR; grind)
      exact ⟨by first | (rw [hF] <;> rfl) | rfl | (rw [hF]; simp only [Ending.returned.injEq, Value.slice.injEq, true_and, and_true]; first | omega | (simp; done)) | (rw [hF]; simp; omega), HH13.below⟩
    · refine wp_skip ?_
      refine nrm ?_
      refine wp_seq ?_
      refine wp_seq ?_
      refine dr_start (Held Nob w [rBlk q22 104 [.int .i64 (a1.1), .slice Az1_1 (a1.2.1.length) cz1_1, .slice Az1_2 (a1.2.2.1.length) cz1_2, .slice Az1_3 (a1.2.2.2.1.length) cz1_3, .int .i64 (a1.2.2.2.2)], rBlk q21 55 [.int .i64 (a0.1), .int .i64 (a0.2.1), .int .i64 (a0.2.2.1), .slice Az0_3 (a0.2.2.2.length) cz0_3]]) 22 #[false, false, false, false, false, false, false, false, false, false, false, false, false, false, false, false, false, false, false, false, false, false] hmix rfl rfl HH13 (fun _ h => h.sel [0, 1] (by decide) rfl) fun w' HH54 => ?_
      have HS55 := HH54
      refine dr_take (i := 0) (ls' := #[true, false, false, false, false, false, false, false, false, false, false, false, false, false, false, false, false, false, false, false, false, false]) HE51 HS55 rfl (by kernel_rfl) (by kernel_rfl) (by kernel_rfl) (fun _ _ _ h => h) rfl (wt0 rfl) (x_fieldAddr fa_104_1 rfl) rfl rfl fun a_56 HE57 => ?_
      refine dr_take (i := 1) (ls' := #[true, true, false, false, false, false, false, false, false, false, false, false, false, false, false, false, false, false, false, false, false, false]) HE57 HS55 rfl (by kernel_rfl) (by kernel_rfl) (by kernel_rfl) (fun _ _ _ h => h) rfl (wt0 rfl) (x_load1 tv_37 rfl (c_blk 0 rfl rfl)) rfl rfl fun a_58 HE59 => ?_
      refine dr_take (i := 3) (ls' := #[true, true, false, true, false, false, false, false, false, false, false, false, false, false, false, false, false, false, false, false, false, false]) HE59 HS55 rfl (by kernel_rfl) (by kernel_rfl) (by kernel_rfl) (fun _ _ _ h => h) rfl (wt0 rfl) (x_fieldAddr fa_55_0 rfl) rfl rfl fun a_60 HE61 => ?_
      refine dr_take (i := 4) (ls' := #[true, true, false, true, true, false, false, false, false, false, false, false, false, false, false, false, false, false, false, false, false, false]) HE61 HS55 rfl (by kernel_rfl) (by kernel_rfl) (by kernel_rfl) (fun _ _ _ h => h) rfl (wt0 rfl) (x_load1 tv_2 rfl (c_blk 1 rfl rfl)) rfl rfl fun a_62 HE63 => ?_
      refine dr_one (i := 2) (ls' := #[true, true, true, true, true, false, false, false, false, false, false, false, false, false, false, false, false, false, false, false, false, false]) rfl (by kernel_rfl) rfl fun K_64 hK65 => ?_
      refine st_call HE63 (wt0 rfl) rfl rfl rfl en_116 rfl rfl (impl_size_Int64 _ _ _ _) fun e w' hr => ?_
      obtain ⟨rfl, rfl⟩ := hr
      refine ⟨_, rfl, fun a_66 HE67 => hK65 _ _ (by exact HH54.sel [0, 1] (by decide) rfl) ?_⟩
      have HS68 := HH54.sel [0, 1] (by decide) rfl
      refine dr_take (i := 5) (ls' := #[true, true, true, true, true, true, false, false, false, false, false, false, false, false, false, false, false, false, false, false, false, false]) HE67 HS68 rfl (by kernel_rfl) (by kernel_rfl) (by kernel_rfl) (fun _ _ _ h => h) rfl (wt0 rfl) (x_neq rfl rfl) rfl rfl fun a_69 HE70 => ?_
      refine dr_take (i := 6) (ls' := #[true, true, true, true, true, true, true, false, false, false, false, false, false, false, false, false, false, false, false, false, false, false]) HE70 HS68 rfl (by kernel_rfl) (by kernel_rfl) (by kernel_rfl) (fun _ _ _ h => h) rfl (wt0 rfl) (x_move rfl) rfl rfl fun a_71 HE72 => ?_
      by_cases hc28 : ¬ (a1.2.1.length : Int) = a0.1
      · refine dr_takeNo (i := 7) (ls' := #[true, true, true, true, true, true, true, true, false, false, false, false, false, false, false, false, false, false, false, false, false, false]) HE72 HS68 rfl (by kernel_rfl) (by kernel_rfl) (by kernel_rfl) (fun _ _ _ h => h) rfl (wtF HE72 rfl rfl rfl (bne_t hc28)) rfl rfl fun a_73 HE74 => ?_
        refine dr_takeNo (i := 8) (ls' := #[true, true, true, true, true, true, true, true, true, false, false, false, false, false, false, false, false, false, false, false, false, false]) HE74 HS68 rfl (by kernel_rfl) (by kernel_rfl) (by kernel_rfl) (fun _ _ _ h => h) rfl (wtF HE74 rfl rfl rfl (bne_t hc28)) rfl rfl fun a_75 HE76 => ?_
        refine dr_takeNo (i := 9) (ls' := #[true, true, true, true, true, true, true, true, true, true, false, false, false, false, false, false, false, false, false, false, false, false]) HE76 HS68 rfl (by kernel_rfl) (by kernel_rfl) (by kernel_rfl) (fun _ _ _ h => h) rfl (wtF HE76 rfl rfl rfl (bne_t hc28)) rfl rfl fun a_77 HE78 => ?_
        refine dr_takeNo (i := 10) (ls' := #[true, true, true, true, true, true, true, true, true, true, true, false, false, false, false, false, false, false, false, false, false, false]) HE78 HS68 rfl (by kernel_rfl) (by kernel_rfl) (by kernel_rfl) (fun _ _ _ h => h) rfl (wtF HE78 rfl rfl rfl (bne_t hc28)) rfl rfl fun a_79 HE80 => ?_
        refine dr_takeNo (i := 11) (ls' := #[true, true, true, true, true, true, true, true, true, true, true, true, false, false, false, false, false, false, false, false, false, false]) HE80 HS68 rfl (by kernel_rfl) (by kernel_rfl) (by kernel_rfl) (fun _ _ _ h => h) rfl (wtF HE80 rfl rfl rfl (bne_t hc28)) rfl rfl fun a_81 HE82 => ?_
        refine dr_takeNo (i := 12) (ls' := #[true, true, true, true, true, true, true, true, true, true, true, true, true, false, false, false, false, false, false, false, false, false]) HE82 HS68 rfl (by kernel_rfl) (by kernel_rfl) (by kernel_rfl) (fun _ _ _ h => h) rfl (wtF HE82 rfl rfl rfl (bne_t hc28)) rfl rfl fun a_83 HE84 => ?_
        refine dr_take (i := 13) (ls' := #[true, true, true, true, true, true, true, true, true, true, true, true, true, true, false, false, false, false, false, false, false, false]) HE84 HS68 rfl (by kernel_rfl) (by kernel_rfl) (by kernel_rfl) (fun _ _ _ h => h) rfl (wt0 rfl) (x_pickT rfl (bne_t hc28) rfl) rfl rfl fun a_85 HE86 => ?_
        refine dr_take (i := 14) (ls' := #[true, true, true, true, true, true, true, true, true, true, true, true, true, true, true, false, false, false, false, false, false, false]) HE86 HS68 rfl (by kernel_rfl) (by kernel_rfl) (by kernel_rfl) (fun _ _ _ h => h) rfl (wt0 rfl) (x_move rfl) rfl rfl fun a_87 HE88 => ?_
        refine dr_takeNo (i := 15) (ls' := #[true, true, true, true, true, true, true, true, true, true, true, true, true, true, true, true, false, false, false, false, false, false]) HE88 HS68 rfl (by kernel_rfl) (by kernel_rfl) (by kernel_rfl) (fun _ _ _ h => h) rfl (wtF HE88 rfl rfl rfl rfl) rfl rfl fun a_89 HE90 => ?_
        refine dr_takeNo (i := 16) (ls' := #[true, true, true, true, true, true, true, true, true, true, true, true, true, true, true, true, true, false, false, false, false, false]) HE90 HS68 rfl (by kernel_rfl) (by kernel_rfl) (by kernel_rfl) (fun _ _ _ h => h) rfl (wtF HE90 rfl rfl rfl rfl) rfl rfl fun a_91 HE92 => ?_
        refine dr_takeNo (i := 17) (ls' := #[true, true, true, true, true, true, true, true, true, true, true, true, true, true, true, true, true, true, false, false, false, false]) HE92 HS68 rfl (by kernel_rfl) (by kernel_rfl) (by kernel_rfl) (fun _ _ _ h => h) rfl (wtF HE92 rfl rfl rfl rfl) rfl rfl fun a_93 HE94 => ?_
        refine dr_takeNo (i := 18) (ls' := #[true, true, true, true, true, true, true, true, true, true, true, true, true, true, true, true, true, true, true, false, false, false]) HE94 HS68 rfl (by kernel_rfl) (by kernel_rfl) (by kernel_rfl) (fun _ _ _ h => h) rfl (wtF HE94 rfl rfl rfl rfl) rfl rfl fun a_95 HE96 => ?_
        refine dr_takeNo (i := 19) (ls' := #[true, true, true, true, true, true, true, true, true, true, true, true, true, true, true, true, true, true, true, true, false, false]) HE96 HS68 rfl (by kernel_rfl) (by kernel_rfl) (by kernel_rfl) (fun _ _ _ h => h) rfl (wtF HE96 rfl rfl rfl rfl) rfl rfl fun a_97 HE98 => ?_
        refine dr_takeNo (i := 20) (ls' := #[true, true, true, true, true, true, true, true, true, true, true, true, true, true, true, true, true, true, true, true, true, false]) HE98 HS68 rfl (by kernel_rfl) (by kernel_rfl) (by kernel_rfl) (fun _ _ _ h => h) rfl (wtF HE98 rfl rfl rfl rfl) rfl rfl fun a_99 HE100 => ?_
        refine dr_take (i := 21) (ls' := #[true, true, true, true, true, true, true, true, true, true, true, true, true, true, true, true, true, true, true, true, true, true]) HE100 HS68 rfl (by kernel_rfl) (by kernel_rfl) (by kernel_rfl) (fun _ _ _ h => h) rfl (wt0 rfl) (x_pickT rfl rfl rfl) rfl rfl fun a_101 HE102 => ?_
        refine dr_done (by kernel_rfl) ?_
        clear HH13 a_50 HE51 a_56 HE57 a_58 HE59 a_60 HE61 a_62 HE63 HS55 a_66 HE67 a_69 HE70 a_71 HE72 a_73 HE74 a_75 HE76 a_77 HE78 a_79 HE80 a_81 HE82 a_83 HE84 a_85 HE86 a_87 HE88 a_89 HE90 a_91 HE92 a_93 HE94 a_95 HE96 a_97 HE98 a_99 HE100 hK65 K_64
        refine nrm ?_
        refine cndT HE102 rfl rfl ?_
        refine wp_seq ?_
        refine rg ?_
        refine pl_x HE102 HH54 (wt0 rfl) (x_assign rfl) rfl rfl fun a_103 HE104 => ?_
        refine wpList_nil ?_
        clear a_101 HE102
        refine nrm ?_
        refine wp_ret ?_
        refine (thn_ret ?_)
        refine ret1 HE104 rfl (rv_tmp rfl) ?_
        have hF : (validMR a0 a1) = false := by
          first | (simp [validMR, hc24, hc26, hc28]; done) | (unfold validMR; grind)
        exact ⟨by first | (rw [hF] <;> rfl) | rfl | (rw [hF]; simp only [Ending.returned.injEq, Value.slice.injEq, true_and, and_true]; first | omega | (simp; done)) | (rw [hF]; simp; omega), HH54.below⟩
      · replace hc28 := Classical.not_not.1 hc28
        refine dr_take (i := 7) (ls' := #[true, true, true, true, true, true, true, true, false, false, false, false, false, false, false, false, false, false, false, false, false, false]) HE72 HS68 rfl (by kernel_rfl) (by kernel_rfl) (by kernel_rfl) (fun _ _ _ h => h) rfl (wtT HE72 rfl rfl rfl (bne_f hc28)) (x_fieldAddr fa_104_2 rfl) rfl rfl fun a_105 HE106 => ?_
        refine dr_take (i := 8) (ls' := #[true, true, true, true, true, true, true, true, true, false, false, false, false, false, false, false, false, false, false, false, false, false]) HE106 HS68 rfl (by kernel_rfl) (by kernel_rfl) (by kernel_rfl) (fun _ _ _ h => h) rfl (wtT HE106 rfl rfl rfl (bne_f hc28)) (x_load1 tv_37 rfl (c_blk 0 rfl rfl)) rfl rfl fun a_107 HE108 => ?_
        refine dr_take (i := 10) (ls' := #[true, true, true, true, true, true, true, true, true, false, true, false, false, false, false, false, false, false, false, false, false, false]) HE108 HS68 rfl (by kernel_rfl) (by kernel_rfl) (by kernel_rfl) (fun _ _ _ h => h) rfl (wtT HE108 rfl rfl rfl (bne_f hc28)) (x_fieldAddr fa_55_0 rfl) rfl rfl fun a_109 HE110 => ?_
        refine dr_take (i := 11) (ls' := #[true, true, true, true, true, true, true, true, true, false, true, true, false, false, false, false, false, false, false, false, false, false]) HE110 HS68 rfl (by kernel_rfl) (by kernel_rfl) (by kernel_rfl) (fun _ _ _ h => h) rfl (wtT HE110 rfl rfl rfl (bne_f hc28)) (x_load1 tv_2 rfl (c_blk 1 rfl rfl)) rfl rfl fun a_111 HE112 => ?_
        refine dr_one (i := 9) (ls' := #[true, true, true, true, true, true, true, true, true, true, true, true, false, false, false, false, false, false, false, false, false, false]) rfl (by kernel_rfl) rfl fun K_113 hK114 => ?_
        refine st_call HE112 (wtT HE112 rfl rfl rfl (bne_f hc28)) rfl rfl rfl en_116 rfl rfl (impl_size_Int64 _ _ _ _) fun e w' hr => ?_
        obtain ⟨rfl, rfl⟩ := hr
        refine ⟨_, rfl, fun a_115 HE116 => hK114 _ _ (by exact HH54.sel [0, 1] (by decide) rfl) ?_⟩
        have HS117 := HH54.sel [0, 1] (by decide) rfl
        refine dr_take (i := 12) (ls' := #[true, true, true, true, true, true, true, true, true, true, true, true, true, false, false, false, false, false, false, false, false, false]) HE116 HS117 rfl (by kernel_rfl) (by kernel_rfl) (by kernel_rfl) (fun _ _ _ h => h) rfl (wtT HE116 rfl rfl rfl (bne_f hc28)) (x_neq rfl rfl) rfl rfl fun a_118 HE119 => ?_
        refine dr_take (i := 13) (ls' := #[true, true, true, true, true, true, true, true, true, true, true, true, true, true, false, false, false, false, false, false, false, false]) HE119 HS117 rfl (by kernel_rfl) (by kernel_rfl) (by kernel_rfl) (fun _ _ _ h => h) rfl (wt0 rfl) (x_pickF rfl (bne_f hc28) rfl) rfl rfl fun a_120 HE121 => ?_
        refine dr_take (i := 14) (ls' := #[true, true, true, true, true, true, true, true, true, true, true, true, true, true, true, false, false, false, false, false, false, false]) HE121 HS117 rfl (by kernel_rfl) (by kernel_rfl) (by kernel_rfl) (fun _ _ _ h => h) rfl (wt0 rfl) (x_move rfl) rfl rfl fun a_122 HE123 => ?_
        by_cases hc30 : ¬ (a1.2.2.1.length : Int) = a0.1
        · refine dr_takeNo (i := 15) (ls' := #[true, true, true, true, true, true, true, true, true, true, true, true, true, true, true, true, false, false, false, false, false, false]) HE123 HS117 rfl (by kernel_rfl) (by kernel_rfl) (by kernel_rfl) (fun _ _ _ h => h) rfl (wtF HE123 rfl rfl rfl (bne_t hc30)) rfl rfl fun a_124 HE125 => ?_
          refine dr_takeNo (i := 16) (ls' := #[true, true, true, true, true, true, true, true, true, true, true, true, true, true, true, true, true, false, false, false, false, false]) HE125 HS117 rfl (by kernel_rfl) (by kernel_rfl) (by kernel_rfl) (fun _ _ _ h => h) rfl (wtF HE125 rfl rfl rfl (bne_t hc30)) rfl rfl fun a_126 HE127 => ?_
          refine dr_takeNo (i := 17) (ls' := #[true, true, true, true, true, true, true, true, true, true, true, true, true, true, true, true, true, true, false, false, false, false]) HE127 HS117 rfl (by kernel_rfl) (by kernel_rfl) (by kernel_rfl) (fun _ _ _ h => h) rfl (wtF HE127 rfl rfl rfl (bne_t hc30)) rfl rfl fun a_128 HE129 => ?_
          refine dr_takeNo (i := 18) (ls' := #[true, true, true, true, true, true, true, true, true, true, true, true, true, true, true, true, true, true, true, false, false, false]) HE129 HS117 rfl (by kernel_rfl) (by kernel_rfl) (by kernel_rfl) (fun _ _ _ h => h) rfl (wtF HE129 rfl rfl rfl (bne_t hc30)) rfl rfl fun a_130 HE131 => ?_
          refine dr_takeNo (i := 19) (ls' := #[true, true, true, true, true, true, true, true, true, true, true, true, true, true, true, true, true, true, true, true, false, false]) HE131 HS117 rfl (by kernel_rfl) (by kernel_rfl) (by kernel_rfl) (fun _ _ _ h => h) rfl (wtF HE131 rfl rfl rfl (bne_t hc30)) rfl rfl fun a_132 HE133 => ?_
          refine dr_takeNo (i := 20) (ls' := #[true, true, true, true, true, true, true, true, true, true, true, true, true, true, true, true, true, true, true, true, true, false]) HE133 HS117 rfl (by kernel_rfl) (by kernel_rfl) (by kernel_rfl) (fun _ _ _ h => h) rfl (wtF HE133 rfl rfl rfl (bne_t hc30)) rfl rfl fun a_134 HE135 => ?_
          refine dr_take (i := 21) (ls' := #[true, true, true, true, true, true, true, true, true, true, true, true, true, true, true, true, true, true, true, true, true, true]) HE135 HS117 rfl (by kernel_rfl) (by kernel_rfl) (by kernel_rfl) (fun _ _ _ h => h) rfl (wt0 rfl) (x_pickT rfl (bne_t hc30) rfl) rfl rfl fun a_136 HE137 => ?_
          refine dr_done (by kernel_rfl) ?_
          clear HH13 a_50 HE51 a_56 HE57 a_58 HE59 a_60 HE61 a_62 HE63 HS55 a_66 HE67 a_69 HE70 a_71 HE72 a_105 HE106 a_107 HE108 a_109 HE110 K_64 hK65 a_111 HE112 HS68 a_115 HE116 a_118 HE119 a_120 HE121 a_122 HE123 a_124 HE125 a_126 HE127 a_128 HE129 a_130 HE131 a_132 HE133 a_134 HE135 hK114 K_113
          refine nrm ?_
          refine cndT HE137 rfl rfl ?_
          refine wp_seq ?_
          refine rg ?_
          refine pl_x HE137 HH54 (wt0 rfl) (x_assign rfl) rfl rfl fun a_138 HE139 => ?_
          refine wpList_nil ?_
          clear a_136 HE137
          refine nrm ?_
          refine wp_ret ?_
          refine (thn_ret ?_)
          refine ret1 HE139 rfl (rv_tmp rfl) ?_
          have hF : (validMR a0 a1) = false := by
            first | (simp [validMR, hc24, hc26, hc28, hc30]; done) | (unfold validMR; grind)
          exact ⟨by first | (rw [hF] <;> rfl) | rfl | (rw [hF]; simp only [Ending.returned.injEq, Value.slice.injEq, true_and, and_true]; first | omega | (simp; done)) | (rw [hF]; simp; omega), HH54.below⟩
        · replace hc30 := Classical.not_not.1 hc30
          refine dr_take (i := 15) (ls' := #[true, true, true, true, true, true, true, true, true, true, true, true, true, true, true, true, false, false, false, false, false, false]) HE123 HS117 rfl (by kernel_rfl) (by kernel_rfl) (by kernel_rfl) (fun _ _ _ h => h) rfl (wtT HE123 rfl rfl rfl (bne_f hc30)) (x_fieldAddr fa_104_3 rfl) rfl rfl fun a_140 HE141 => ?_
          refine dr_take (i := 16) (ls' := #[true, true, true, true, true, true, true, true, true, true, true, true, true, true, true, true, true, false, false, false, false, false]) HE141 HS117 rfl (by kernel_rfl) (by kernel_rfl) (by kernel_rfl) (fun _ _ _ h => h) rfl (wtT HE141 rfl rfl rfl (bne_f hc30)) (x_load1 tv_37 rfl (c_blk 0 rfl rfl)) rfl rfl fun a_142 HE143 => ?_
          refine dr_take (i := 18) (ls' := #[true, true, true, true, true, true, true, true, true, true, true, true, true, true, true, true, true, false, true, false, false, false]) HE143 HS117 rfl (by kernel_rfl) (by kernel_rfl) (by kernel_rfl) (fun _ _ _ h => h) rfl (wtT HE143 rfl rfl rfl (bne_f hc30)) (x_fieldAddr fa_55_0 rfl) rfl rfl fun a_144 HE145 => ?_
          refine dr_take (i := 19) (ls' := #[true, true, true, true, true, true, true, true, true, true, true, true, true, true, true, true, true, false, true, true, false, false]) HE145 HS117 rfl (by kernel_rfl) (by kernel_rfl) (by kernel_rfl) (fun _ _ _ h => h) rfl (wtT HE145 rfl rfl rfl (bne_f hc30)) (x_load1 tv_2 rfl (c_blk 1 rfl rfl)) rfl rfl fun a_146 HE147 => ?_
          refine dr_one (i := 17) (ls' := #[true, true, true, true, true, true, true, true, true, true, true, true, true, true, true, true, true, true, true, true, false, false]) rfl (by kernel_rfl) rfl fun K_148 hK149 => ?_
          refine st_call HE147 (wtT HE147 rfl rfl rfl (bne_f hc30)) rfl rfl rfl en_116 rfl rfl (impl_size_Int64 _ _ _ _) fun e w' hr => ?_
          obtain ⟨rfl, rfl⟩ := hr
          refine ⟨_, rfl, fun a_150 HE151 => hK149 _ _ (by exact HH54.sel [0, 1] (by decide) rfl) ?_⟩
          have HS152 := HH54.sel [0, 1] (by decide) rfl
          refine dr_take (i := 20) (ls' := #[true, true, true, true, true, true, true, true, true, true, true, true, true, true, true, true, true, true, true, true, true, false]) HE151 HS152 rfl (by kernel_rfl) (by kernel_rfl) (by kernel_rfl) (fun _ _ _ h => h) rfl (wtT HE151 rfl rfl rfl (bne_f hc30)) (x_neq rfl rfl) rfl rfl fun a_153 HE154 => ?_
          refine dr_take (i := 21) (ls' := #[true, true, true, true, true, true, true, true, true, true, true, true, true, true, true, true, true, true, true, true, true, true]) HE154 HS152 rfl (by kernel_rfl) (by kernel_rfl) (by kernel_rfl) (fun _ _ _ h => h) rfl (wt0 rfl) (x_pickF rfl (bne_f hc30) rfl) rfl rfl fun a_155 HE156 => ?_
          refine dr_done (by kernel_rfl) ?_
          clear HH13 a_50 HE51 a_56 HE57 a_58 HE59 a_60 HE61 a_62 HE63 HS55 a_66 HE67 a_69 HE70 a_71 HE72 a_105 HE106 a_107 HE108 a_109 HE110 K_64 hK65 a_111 HE112 HS68 a_115 HE116 a_118 HE119 a_120 HE121 a_122 HE123 a_140 HE141 a_142 HE143 a_144 HE145 K_113 hK114 a_146 HE147 HS117 a_150 HE151 a_153 HE154 hK149 K_148
          refine nrm ?_
          refine cnd_ne HE156 rfl (fun hc32 => ?_) (fun hc32 => ?_)
          · refine wp_seq ?_
            refine rg ?_
            refine pl_x HE156 HH54 (wt0 rfl) (x_assign rfl) rfl rfl fun a_157 HE158 => ?_
            refine wpList_nil ?_
            clear a_155 HE156
            refine nrm ?_
            refine wp_ret ?_
            refine (thn_ret ?_)
            refine ret1 HE158 rfl (rv_tmp rfl) ?_
            have hF : (validMR a0 a1) = false := by
              first | (simp [validMR, hc24, hc26, hc28, hc30, hc32]; done) | (unfold validMR; grind)
            exact ⟨by first | (rw [hF] <;> rfl) | rfl | (rw [hF]; simp only [Ending.returned.injEq, Value.slice.injEq, true_and, and_true]; first | omega | (simp; done)) | (rw [hF]; simp; omega), HH54.below⟩
          · refine wp_skip ?_
            refine nrm ?_
            refine wp_seq ?_
            refine rg ?_
            refine pl_x HE156 HH54 (wt0 rfl) (x_fieldAddr fa_104_1 rfl) rfl rfl fun a_159 HE160 => ?_
            refine pl_x HE160 HH54 (wt0 rfl) (x_load1 tv_37 rfl (c_blk 0 rfl rfl)) rfl rfl fun a_161 HE162 => ?_
            refine pl_x HE162 HH54 (wt0 rfl) (x_fieldAddr fa_55_1 rfl) rfl rfl fun a_163 HE164 => ?_
            refine pl_x HE164 HH54 (wt0 rfl) (x_load1 tv_2 rfl (c_blk 1 rfl rfl)) rfl rfl fun a_165 HE166 => ?_
            refine pl_x HE166 HH54 (wt0 rfl) (x_sub rfl rfl (by exact ⟨by omega, by omega⟩)) rfl rfl fun a_167 HE168 => ?_
            refine pl fun K_169 hK170 => ?_
            refine st_call HE168 (wt0 rfl) rfl rfl rfl en_117 rfl rfl (impl_allWithin _ _ a1.2.1 0 (a0.2.1 - 1) _ (HH54.old gz1_1)) fun e w' hr => ?_
            obtain ⟨rfl, rfl⟩ := hr
            refine ⟨_, rfl, fun a_171 HE172 => hK170 _ _ ?_⟩
            refine pl_x HE172 HH54 (wt0 rfl) (x_move rfl) rfl rfl fun a_173 HE174 => ?_
            rcases Bool.eq_false_or_eq_true ((allW a1.2.1 0 (a0.2.1 - 1))) with hc34 | hc34
            · refine pl_x HE174 HH54 (wtT HE174 rfl rfl rfl hc34) (x_fieldAddr fa_104_2 rfl) rfl rfl fun a_175 HE176 => ?_
              refine pl_x HE176 HH54 (wtT HE176 rfl rfl rfl hc34) (x_load1 tv_37 rfl (c_blk 0 rfl rfl)) rfl rfl fun a_177 HE178 => ?_
              refine pl_x HE178 HH54 (wtT HE178 rfl rfl rfl hc34) (x_fieldAddr fa_55_1 rfl) rfl rfl fun a_179 HE180 => ?_
              refine pl_x HE180 HH54 (wtT HE180 rfl rfl rfl hc34) (x_load1 tv_2 rfl (c_blk 1 rfl rfl)) rfl rfl fun a_181 HE182 => ?_
              refine pl_x HE182 HH54 (wtT HE182 rfl rfl rfl hc34) (x_sub rfl rfl (by exact ⟨by omega, by omega⟩)) rfl rfl fun a_183 HE184 => ?_
              refine pl fun K_185 hK186 => ?_
              refine st_call HE184 (wtT HE184 rfl rfl rfl hc34) rfl rfl rfl en_117 rfl rfl (impl_allWithin _ _ a1.2.2.1 0 (a0.2.1 - 1) _ (HH54.old gz1_2)) fun e w' hr => ?_
              obtain ⟨rfl, rfl⟩ := hr
              refine ⟨_, rfl, fun a_187 HE188 => hK186 _ _ ?_⟩
              refine pl_x HE188 HH54 (wt0 rfl) (x_pickT rfl hc34 rfl) rfl rfl fun a_189 HE190 => ?_
              refine pl_x HE190 HH54 (wt0 rfl) (x_move rfl) rfl rfl fun a_191 HE192 => ?_
              rcases Bool.eq_false_or_eq_true ((allW a1.2.2.1 0 (a0.2.1 - 1))) with hc36 | hc36
              · refine pl_x HE192 HH54 (wtT HE192 rfl rfl rfl hc36) (x_fieldAddr fa_104_3 rfl) rfl rfl fun a_193 HE194 => ?_
                refine pl_x HE194 HH54 (wtT HE194 rfl rfl rfl hc36) (x_load1 tv_37 rfl (c_blk 0 rfl rfl)) rfl rfl fun a_195 HE196 => ?_
                refine pl fun K_197 hK198 => ?_
                refine st_call HE196 (wtT HE196 rfl rfl rfl hc36) rfl rfl rfl en_117 rfl rfl (impl_allWithin _ _ a1.2.2.2.1 (-1) 1 _ (HH54.old gz1_3)) fun e w' hr => ?_
                obtain ⟨rfl, rfl⟩ := hr
                refine ⟨_, rfl, fun a_199 HE200 => hK198 _ _ ?_⟩
                refine pl_x HE200 HH54 (wt0 rfl) (x_pickT rfl hc36 rfl) rfl rfl fun a_201 HE202 => ?_
                refine pl_x HE202 HH54 (wt0 rfl) (x_assign rfl) rfl rfl fun a_203 HE204 => ?_
                refine wpList_nil ?_
                clear a_155 HE156 a_159 HE160 a_161 HE162 a_163 HE164 a_165 HE166 a_167 HE168 a_171 HE172 a_173 HE174 a_175 HE176 a_177 HE178 a_179 HE180 a_181 HE182 K_169 hK170 a_183 HE184 a_187 HE188 a_189 HE190 a_191 HE192 a_193 HE194 K_185 hK186 a_195 HE196 a_199 HE200 a_201 HE202 hK198 K_197
                refine nrm ?_
                refine wp_ret ?_
                refine ret1 HE204 rfl (rv_tmp rfl) ?_
                have hF : (validMR a0 a1) = (allW a1.2.2.2.1 (-1) 1) := by
                  first | (simp [validMR, hc24, hc26, hc28, hc30, hc32, hc34, hc36]; done) | (unfold validMR; grind)
                exact ⟨by first | (rw [hF] <;> rfl) | rfl | (rw [hF]; simp only [Ending.returned.injEq, Value.slice.injEq, true_and, and_true]; first | omega | (simp; done)) | (rw [hF]; simp; omega), HH54.below⟩
              · refine pl_no HE192 (wtF HE192 rfl rfl rfl hc36) rfl rfl fun a_205 HE206 => ?_
                refine pl_no HE206 (wtF HE206 rfl rfl rfl hc36) rfl rfl fun a_207 HE208 => ?_
                refine pl_no HE208 (wtF HE208 rfl rfl rfl hc36) rfl rfl fun a_209 HE210 => ?_
                refine pl_x HE210 HH54 (wt0 rfl) (x_pickF rfl hc36 rfl) rfl rfl fun a_211 HE212 => ?_
                refine pl_x HE212 HH54 (wt0 rfl) (x_assign rfl) rfl rfl fun a_213 HE214 => ?_
                refine wpList_nil ?_
                clear a_155 HE156 a_159 HE160 a_161 HE162 a_163 HE164 a_165 HE166 a_167 HE168 a_171 HE172 a_173 HE174 a_175 HE176 a_177 HE178 a_179 HE180 a_181 HE182 K_169 hK170 a_183 HE184 a_187 HE188 a_189 HE190 a_191 HE192 a_205 HE206 a_207 HE208 a_209 HE210 a_211 HE212 hK186 K_185
                refine nrm ?_
                refine wp_ret ?_
                refine ret1 HE214 rfl (rv_tmp rfl) ?_
                have hF : (validMR a0 a1) = false := by
                  first | (simp [validMR, hc24, hc26, hc28, hc30, hc32, hc34, hc36]; done) | (unfold validMR; grind)
                exact ⟨by first | (rw [hF] <;> rfl) | rfl | (rw [hF]; simp only [Ending.returned.injEq, Value.slice.injEq, true_and, and_true]; first | omega | (simp; done)) | (rw [hF]; simp; omega), HH54.below⟩
            · refine pl_no HE174 (wtF HE174 rfl rfl rfl hc34) rfl rfl fun a_215 HE216 => ?_
              refine pl_no HE216 (wtF HE216 rfl rfl rfl hc34) rfl rfl fun a_217 HE218 => ?_
              refine pl_no HE218 (wtF HE218 rfl rfl rfl hc34) rfl rfl fun a_219 HE220 => ?_
              refine pl_no HE220 (wtF HE220 rfl rfl rfl hc34) rfl rfl fun a_221 HE222 => ?_
              refine pl_no HE222 (wtF HE222 rfl rfl rfl hc34) rfl rfl fun a_223 HE224 => ?_
              refine pl_no HE224 (wtF HE224 rfl rfl rfl hc34) rfl rfl fun a_225 HE226 => ?_
              refine pl_x HE226 HH54 (wt0 rfl) (x_pickF rfl hc34 rfl) rfl rfl fun a_227 HE228 => ?_
              refine pl_x HE228 HH54 (wt0 rfl) (x_move rfl) rfl rfl fun a_229 HE230 => ?_
              refine pl_no HE230 (wtF HE230 rfl rfl rfl rfl) rfl rfl fun a_231 HE232 => ?_
              refine pl_no HE232 (wtF HE232 rfl rfl rfl rfl) rfl rfl fun a_233 HE234 => ?_
              refine pl_no HE234 (wtF HE234 rfl rfl rfl rfl) rfl rfl fun a_235 HE236 => ?_
              refine pl_x HE236 HH54 (wt0 rfl) (x_pickF rfl rfl rfl) rfl rfl fun a_237 HE238 => ?_
              refine pl_x HE238 HH54 (wt0 rfl) (x_assign rfl) rfl rfl fun a_239 HE240 => ?_
              refine wpList_nil ?_
              clear a_155 HE156 a_159 HE160 a_161 HE162 a_163 HE164 a_165 HE166 a_167 HE168 a_171 HE172 a_173 HE174 a_215 HE216 a_217 HE218 a_219 HE220 a_221 HE222 a_223 HE224 a_225 HE226 a_227 HE228 a_229 HE230 a_231 HE232 a_233 HE234 a_235 HE236 a_237 HE238 hK170 K_169
              refine nrm ?_
              refine wp_ret ?_
              refine ret1 HE240 rfl (rv_tmp rfl) ?_
              have hF : (validMR a0 a1) = false := by
                first | (simp [validMR, hc24, hc26, hc28, hc30, hc32, hc34]; done) | (unfold validMR; grind)
              exact ⟨by first | (rw [hF] <;> rfl) | rfl | (rw [hF]; simp only [Ending.returned.injEq, Value.slice.injEq, true_and, and_true]; first | omega | (simp; done)) | (rw [hF]; simp; omega), HH54.below⟩
  · refine pl_no HE33 (wtF HE33 rfl rfl rfl (not_t hc24)) rfl rfl fun a_241 HE242 => ?_
    refine pl_no HE242 (wtF HE242 rfl rfl rfl (not_t hc24)) rfl rfl fun a_243 HE244 => ?_
    refine pl_no HE244 (wtF HE244 rfl rfl rfl (not_t hc24)) rfl rfl fun a_245 HE246 => ?_
    refine pl_no HE246 (wtF HE246 rfl rfl rfl (not_t hc24)) rfl rfl fun a_247 HE248 => ?_
    refine pl_no HE248 (wtF HE248 rfl rfl rfl (not_t hc24)) rfl rfl fun a_249 HE250 => ?_
    refine pl_no HE250 (wtF HE250 rfl rfl rfl (not_t hc24)) rfl rfl fun a_251 HE252 => ?_
    refine pl_no HE252 (wtF HE252 rfl rfl rfl (not_t hc24)) rfl rfl fun a_253 HE254 => ?_
    refine pl_x HE254 HH13 (wt0 rfl) (x_pickT rfl (not_t hc24) rfl) rfl rfl fun a_255 HE256 => ?_
    refine wpList_nil ?_
    clear a_14 HE15 a_16 HE17 a_18 HE19 a_20 HE21 a_22 HE23 a_24 HE25 a_28 HE29 a_30 HE31 a_32 HE33 a_241 HE242 a_243 HE244 a_245 HE246 a_247 HE248 a_249 HE250 a_251 HE252 a_253 HE254 hK27 K_26
    refine nrm ?_
    refine cndT HE256 rfl rfl ?_
    refine wp_seq ?_
    refine rg ?_
    refine pl_x HE256 HH13 (wt0 rfl) (x_assign rfl) rfl rfl fun a_257 HE258 => ?_
    refine wpList_nil ?_
    clear a_255 HE256
    refine nrm ?_
    refine wp_ret ?_
    refine (thn_ret ?_)
    refine ret1 HE258 rfl (rv_tmp rfl) ?_
    have hF : (validMR a0 a1) = false := by
      first | (simp [validMR, hc24]; done) | (unfold validMR; grind)
    exact ⟨by first | (rw [hF] <;> rfl) | rfl | (rw [hF]; simp only [Ending.returned.injEq, Value.slice.injEq, true_and, and_true]; first | omega | (simp; done)) | (rw [hF]; simp; omega), HH13.below⟩

set_option maxRecDepth 100000 in
set_option maxHeartbeats 4000000 in
theorem impl_ValidMulti (es0 : List Value) (a0 : tMulti) (w : World) (h0 : eMulti.R w (Old w) es0 a0) :
    Calls Try.prog 64 #[.agg es0.toArray] w fun e w' => e = .returned (.bool (validMulti a0)) ∧ Below w.heap.size w w' := by
  have H0 := h0
  obtain ⟨Az0_3, cz0_3, rfl, gz0_0, gz0_1, gz0_2, gz0_3⟩ := shape_Multi h0
  have jz0_0 := gz0_0; unfold I64 at jz0_0
  have jz0_1 := gz0_1; unfold I64 at jz0_1
  have jz0_2 := gz0_2; unfold I64 at jz0_2
  have lz0_3 := gz0_3.len
  have HH1 := Held.start Nob w
  refine enter (n := 55) Try.func64 rfl rfl rfl fun a_2 HE3 => ?_
  refine wp_seq ?_
  refine rg ?_
  refine pl fun K_4 hK5 => ?_
  refine st_box (cs := [.int .i64 (a0.1), .int .i64 (a0.2.1), .int .i64 (a0.2.2.1), .slice Az0_3 (a0.2.2.2.length) cz0_3]) HE3 HH1 rfl rfl (wt0 rfl) rfl fun q21 a_6 w' HE7 HH8 => hK5 _ _ ?_
  refine pl_x HE7 HH8 (wt0 rfl) (x_assign rfl) rfl rfl fun a_9 HE10 => ?_
  refine wpList_nil ?_
  clear a_2 HE3 HH1 a_6 HE7 hK5 K_4
  refine nrm ?_
  refine wp_seq ?_
  refine wp_seq ?_
  refine rg ?_
  refine pl_x HE10 HH8 (wt0 rfl) (x_fieldAddr fa_55_0 rfl) rfl rfl fun a_11 HE12 => ?_
  refine pl_x HE12 HH8 (wt0 rfl) (x_load1 tv_2 rfl (c_blk 0 rfl rfl)) rfl rfl fun a_13 HE14 => ?_
  refine pl fun K_15 hK16 => ?_
  refine st_call HE14 (wt0 rfl) rfl rfl rfl en_65 rfl rfl (impl_within a0.1 2 3 _ ) fun e w' hr => ?_
  obtain ⟨rfl, rfl⟩ := hr
  refine ⟨_, rfl, fun a_17 HE18 => hK16 _ _ ?_⟩
  refine pl_x HE18 HH8 (wt0 rfl) (x_not rfl) rfl rfl fun a_19 HE20 => ?_
  refine pl_x HE20 HH8 (wt0 rfl) (x_move rfl) rfl rfl fun a_21 HE22 => ?_
  rcases Bool.eq_false_or_eq_true ((withinB a0.1 2 3)) with hc23 | hc23
  · refine pl_x HE22 HH8 (wtT HE22 rfl rfl rfl (not_f hc23)) (x_fieldAddr fa_55_1 rfl) rfl rfl fun a_23 HE24 => ?_
    refine pl_x HE24 HH8 (wtT HE24 rfl rfl rfl (not_f hc23)) (x_load1 tv_2 rfl (c_blk 0 rfl rfl)) rfl rfl fun a_25 HE26 => ?_
    refine pl fun K_27 hK28 => ?_
    refine st_call HE26 (wtT HE26 rfl rfl rfl (not_f hc23)) rfl rfl rfl en_65 rfl rfl (impl_within a0.2.1 2 3 _ ) fun e w' hr => ?_
    obtain ⟨rfl, rfl⟩ := hr
    refine ⟨_, rfl, fun a_29 HE30 => hK28 _ _ ?_⟩
    refine pl_x HE30 HH8 (wtT HE30 rfl rfl rfl (not_f hc23)) (x_not rfl) rfl rfl fun a_31 HE32 => ?_
    refine pl_x HE32 HH8 (wt0 rfl) (x_pickF rfl (not_f hc23) rfl) rfl rfl fun a_33 HE34 => ?_
    refine pl_x HE34 HH8 (wt0 rfl) (x_move rfl) rfl rfl fun a_35 HE36 => ?_
    rcases Bool.eq_false_or_eq_true ((withinB a0.2.1 2 3)) with hc25 | hc25
    · have v1 := withinB_true.1 hc25
      refine pl_x HE36 HH8 (wtT HE36 rfl rfl rfl (not_f hc25)) (x_fieldAddr fa_55_2 rfl) rfl rfl fun a_37 HE38 => ?_
      refine pl_x HE38 HH8 (wtT HE38 rfl rfl rfl (not_f hc25)) (x_load1 tv_2 rfl (c_blk 0 rfl rfl)) rfl rfl fun a_39 HE40 => ?_
      refine pl fun K_41 hK42 => ?_
      refine st_call HE40 (wtT HE40 rfl rfl rfl (not_f hc25)) rfl rfl rfl en_65 rfl rfl (impl_within a0.2.2.1 1 16 _ ) fun e w' hr => ?_
      obtain ⟨rfl, rfl⟩ := hr
      refine ⟨_, rfl, fun a_43 HE44 => hK42 _ _ ?_⟩
      refine pl_x HE44 HH8 (wtT HE44 rfl rfl rfl (not_f hc25)) (x_not rfl) rfl rfl fun a_45 HE46 => ?_
      refine pl_x HE46 HH8 (wt0 rfl) (x_pickF rfl (not_f hc25) rfl) rfl rfl fun a_47 HE48 => ?_
      refine pl_x HE48 HH8 (wt0 rfl) (x_move rfl) rfl rfl fun a_49 HE50 => ?_
      rcases Bool.eq_false_or_eq_true ((withinB a0.2.2.1 1 16)) with hc27 | hc27
      · have v2 := withinB_true.1 hc27
        refine pl_x HE50 HH8 (wtT HE50 rfl rfl rfl (not_f hc27)) (x_fieldAddr fa_55_3 rfl) rfl rfl fun a_51 HE52 => ?_
        refine pl_x HE52 HH8 (wtT HE52 rfl rfl rfl (not_f hc27)) (x_load1 tv_53 rfl (c_blk 0 rfl rfl)) rfl rfl fun a_53 HE54 => ?_
        refine pl_x HE54 HH8 (wtT HE54 rfl rfl rfl (not_f hc27)) (x_len Try.underlying53 rfl) rfl rfl fun a_55 HE56 => ?_
        refine pl_x HE56 HH8 (wtT HE56 rfl rfl rfl (not_f hc27)) (x_gtr rfl rfl) rfl rfl fun a_57 HE58 => ?_
        refine pl_x HE58 HH8 (wt0 rfl) (x_pickF rfl (not_f hc27) rfl) rfl rfl fun a_59 HE60 => ?_
        refine wpList_nil ?_
        clear a_9 HE10 a_11 HE12 a_13 HE14 a_17 HE18 a_19 HE20 a_21 HE22 a_23 HE24 K_15 hK16 a_25 HE26 a_29 HE30 a_31 HE32 a_33 HE34 a_35 HE36 a_37 HE38 K_27 hK28 a_39 HE40 a_43 HE44 a_45 HE46 a_47 HE48 a_49 HE50 a_51 HE52 a_53 HE54 a_55 HE56 a_57 HE58 hK42 K_41
        refine nrm ?_
        refine cnd_d HE60 rfl (fun hc28 => ?_) (fun hc28 => ?_)
        · refine wp_seq ?_
          refine rg ?_
          refine pl_x HE60 HH8 (wt0 rfl) (x_assign rfl) rfl rfl fun a_61 HE62 => ?_
          refine wpList_nil ?_
          clear a_59 HE60
          refine nrm ?_
          refine wp_ret ?_
          refine (thn_ret ?_)
          refine ret1 HE62 rfl (rv_tmp rfl) ?_
          have hF : (validMulti a0) = false := by
            first | (simp [validMulti, hc23, hc25, hc27, hc28]; done) | (unfold validMulti; rw [decide_eq_false (by omega)]; simp) | (unfold validMulti; rw [rg_hit (by omega : k < a0.2.2.2.length) (by unfold badMR; grind [beforeMR, validMR, rowB])]; simp) | (have hq := p0_1; rw [show k = a0.2.2.2.length from by omega] at hq; unfold validMulti; rw [hq, decide_eq_true (by omega)]; simp [hc23, hc25, hc27, hc28])
          exact ⟨by first | (rw [hF] <;> rfl) | rfl | (rw [hF]; simp only [Ending.returned.injEq, Value.slice.injEq, true_and, and_true]; first | omega | (simp; done)) | (rw [hF]; simp; omega), HH8.below⟩
        · refine wp_skip ?_
          refine nrm ?_
          refine wp_seq ?_
          refine wp_seq ?_
          refine rg ?_
          refine pl_x HE60 HH8 (wt0 rfl) (x_fieldAddr fa_55_3 rfl) rfl rfl fun a_63 HE64 => ?_
          refine pl_x HE64 HH8 (wt0 rfl) (x_load1 tv_53 rfl (c_blk 0 rfl rfl)) rfl rfl fun a_65 HE66 => ?_
          refine pl_x HE66 HH8 (wt0 rfl) (x_len Try.underlying53 rfl) rfl rfl fun a_67 HE68 => ?_
          refine pl_x HE68 HH8 (wt0 rfl) (x_move rfl) rfl rfl fun a_69 HE70 => ?_
          refine wpList_nil ?_
          clear a_59 HE60 a_63 HE64 a_65 HE66 a_67 HE68
          refine nrm ?_
          refine wp_block ?_
          refine lp (fun m a w' => ∃ (k : Nat), m = a0.2.2.2.length - k ∧ Env 55 [(30, .int .i64 (k : Int)), (1, .pointer (some ⟨q21, 0, none⟩)), (28, .slice Az0_3 (a0.2.2.2.length) cz0_3), (29, .int .i64 ((a0.2.2.2.length : Int)))] a ∧ Held Nob w [rBlk q21 55 [.int .i64 (a0.1), .int .i64 (a0.2.1), .int .i64 (a0.2.2.1), .slice Az0_3 (a0.2.2.2.length) cz0_3]] w' ∧ (k ≤ a0.2.2.2.length) ∧ ((List.range k).any (badMR a0) = false)) (a0.2.2.2.length - (0)) ?_ ?_
          · exact ⟨0, rfl, HE70.sub ⟨(lkI rfl (by first | rfl | omega | (simp [hc23, hc25, hc27, hc28]; done))), rfl, rfl, rfl, trivial⟩, (HH8.sel [0] (by decide) rfl), (by first | omega | assumption | (simp; done) | simp_all), (by rfl)⟩
          · rintro m a_71 w' ⟨k, rfl, HE72, HH73, p29_0, p29_1⟩
            refine wp_seq ?_
            refine rg ?_
            refine pl_x HE72 HH73 (wt0 rfl) (x_lss rfl rfl) rfl rfl fun a_74 HE75 => ?_
            refine wpList_nil ?_
            clear a_69 HE70 HH8 a_71 HE72
            refine nrm ?_
            refine wp_seq ?_
            refine cnd_d HE75 rfl (fun hc30 => ?_) (fun hc30 => ?_)
            · refine wp_skip ?_
              refine nrm ?_
              refine wp_seq ?_
              refine wp_block ?_
              refine wp_seq ?_
              refine rg ?_
              refine pl_x HE75 HH73 (wt0 rfl) (x_move rfl) rfl rfl fun a_76 HE77 => ?_
              have ke31 : k < a0.2.2.2.length := by omega
              obtain ⟨be31, fe31, ese31, Ae31, Re31, De31⟩ := el_old gz0_3 ke31
              obtain ⟨e31, xe31⟩ : ∃ x_, x_ = a0.2.2.2[k] := ⟨_, rfl⟩
              rw [← xe31] at Re31
              have Qe31 := Re31
              obtain ⟨Ae31_1, ce31_1, Ae31_2, ce31_2, Ae31_3, ce31_3, rfl, ge31_0, ge31_1, ge31_2, ge31_3, ge31_4⟩ := shape_MultiRule Re31
              have je31_0 := ge31_0; unfold I64 at je31_0
              have le31_1 := ge31_1.len
              have le31_2 := ge31_2.len
              have le31_3 := ge31_3.len
              have je31_4 := ge31_4; unfold I64 at je31_4
              have ge31 : a0.2.2.2[k]?.getD default = e31 := by rw [List.getElem?_eq_getElem ke31, xe31]; rfl
              refine pl_x HE77 HH73 (wt0 rfl) (x_indexAddr ts_53 rfl rfl Ae31 rfl ke31) rfl rfl fun a_78 HE79 => ?_
              refine pl_x HE79 HH73 (wt0 rfl) (x_loadN (cs := [.int .i64 (e31.1), .slice Ae31_1 (e31.2.1.length) ce31_1, .slice Ae31_2 (e31.2.2.1.length) ce31_2, .slice Ae31_3 (e31.2.2.2.1.length) ce31_3, .int .i64 (e31.2.2.2.2)]) tv_104 rfl rfl (c_oldN De31)) rfl rfl fun a_80 HE81 => ?_
              refine pl fun K_82 hK83 => ?_
              refine st_alloc HE81 HH73 tv_104 (wt0 rfl) rfl fun q32 a_84 w' HE85 HH86 => hK83 _ _ ?_
              refine pl_x HE85 HH86 (wt0 rfl) (x_assign rfl) rfl rfl fun a_87 HE88 => ?_
              refine pl fun K_89 hK90 => ?_
              refine st_store (vs := [.int .i64 (e31.1), .slice Ae31_1 (e31.2.1.length) ce31_1, .slice Ae31_2 (e31.2.2.1.length) ce31_2, .slice Ae31_3 (e31.2.2.2.1.length) ce31_3, .int .i64 (e31.2.2.2.2)]) 0 HE88 HH86 tv_104 rfl rfl rfl rfl rfl rfl (by simp [Value.oneCell']) (wt0 rfl) fun w' HH91 => hK90 _ _ ?_
              refine wpList_nil ?_
              clear a_74 HE75 a_76 HE77 a_78 HE79 a_80 HE81 HH73 a_84 HE85 K_82 hK83 HH86 hK90 K_89
              refine nrm ?_
              refine wp_seq ?_
              refine dr_start (Held Nob w [rBlk q32 104 [.int .i64 (e31.1), .slice Ae31_1 (e31.2.1.length) ce31_1, .slice Ae31_2 (e31.2.2.1.length) ce31_2, .slice Ae31_3 (e31.2.2.2.1.length) ce31_3, .int .i64 (e31.2.2.2.2)], rBlk q21 55 [.int .i64 (a0.1), .int .i64 (a0.2.1), .int .i64 (a0.2.2.1), .slice Az0_3 (a0.2.2.2.length) cz0_3]]) 19 #[false, false, false, false, false, false, false, false, false, false, false, false, false, false, false, false, false, false, false] hmix rfl rfl HH91 (fun _ h => h.sel [0, 1] (by decide) rfl) fun w' HH92 => ?_
              have HS93 := HH92
              refine dr_take (i := 0) (ls' := #[true, false, false, false, false, false, false, false, false, false, false, false, false, false, false, false, false, false, false]) HE88 HS93 rfl (by kernel_rfl) (by kernel_rfl) (by kernel_rfl) (fun _ _ _ h => h) rfl (wt0 rfl) (x_loadN (cs := [.int .i64 (a0.1), .int .i64 (a0.2.1), .int .i64 (a0.2.2.1), .slice Az0_3 (a0.2.2.2.length) cz0_3]) tv_55 rfl rfl (c_blkN 1 rfl)) rfl rfl fun a_94 HE95 => ?_
              refine dr_take (i := 1) (ls' := #[true, true, false, false, false, false, false, false, false, false, false, false, false, false, false, false, false, false, false]) HE95 HS93 rfl (by kernel_rfl) (by kernel_rfl) (by kernel_rfl) (fun _ _ _ h => h) rfl (wt0 rfl) (x_loadN (cs := [.int .i64 (e31.1), .slice Ae31_1 (e31.2.1.length) ce31_1, .slice Ae31_2 (e31.2.2.1.length) ce31_2, .slice Ae31_3 (e31.2.2.2.1.length) ce31_3, .int .i64 (e31.2.2.2.2)]) tv_104 rfl rfl (c_blkN 0 rfl)) rfl rfl fun a_96 HE97 => ?_
              refine dr_one (i := 2) (ls' := #[true, true, true, false, false, false, false, false, false, false, false, false, false, false, false, false, false, false, false]) rfl (by kernel_rfl) rfl fun K_98 hK99 => ?_
              refine st_call HE97 (wt0 rfl) rfl rfl rfl en_101 rfl rfl (impl_validMultiRule [.int .i64 (a0.1), .int .i64 (a0.2.1), .int .i64 (a0.2.2.1), .slice Az0_3 (a0.2.2.2.length) cz0_3] a0 [.int .i64 (e31.1), .slice Ae31_1 (e31.2.1.length) ce31_1, .slice Ae31_2 (e31.2.2.1.length) ce31_2, .slice Ae31_3 (e31.2.2.2.1.length) ce31_3, .int .i64 (e31.2.2.2.2)] e31 _ (HH92.oldR H0) (HH92.oldR Qe31) (by omega) (by omega)) fun e w' hr => ?_
              obtain ⟨rfl, hbr33⟩ := hr
              have HH100 := HH92.on hbr33
              refine ⟨_, rfl, fun a_101 HE102 => hK99 _ _ (by exact HH100.sel [0, 1] (by decide) rfl) ?_⟩
              have HS103 := HH100.sel [0, 1] (by decide) rfl
              refine dr_take (i := 3) (ls' := #[true, true, true, true, false, false, false, false, false, false, false, false, false, false, false, false, false, false, false]) HE102 HS103 rfl (by kernel_rfl) (by kernel_rfl) (by kernel_rfl) (fun _ _ _ h => h) rfl (wt0 rfl) (x_not rfl) rfl rfl fun a_104 HE105 => ?_
              refine dr_take (i := 4) (ls' := #[true, true, true, true, true, false, false, false, false, false, false, false, false, false, false, false, false, false, false]) HE105 HS103 rfl (by kernel_rfl) (by kernel_rfl) (by kernel_rfl) (fun _ _ _ h => h) rfl (wt0 rfl) (x_move rfl) rfl rfl fun a_106 HE107 => ?_
              rcases Bool.eq_false_or_eq_true ((validMR a0 e31)) with hc34 | hc34
              · refine dr_take (i := 5) (ls' := #[true, true, true, true, true, true, false, false, false, false, false, false, false, false, false, false, false, false, false]) HE107 HS103 rfl (by kernel_rfl) (by kernel_rfl) (by kernel_rfl) (fun _ _ _ h => h) rfl (wtT HE107 rfl rfl rfl (not_f hc34)) (x_move rfl) rfl rfl fun a_108 HE109 => ?_
                refine dr_take (i := 6) (ls' := #[true, true, true, true, true, true, true, false, false, false, false, false, false, false, false, false, false, false, false]) HE109 HS103 rfl (by kernel_rfl) (by kernel_rfl) (by kernel_rfl) (fun _ _ _ h => h) rfl (wtT HE109 rfl rfl rfl (not_f hc34)) (x_gtr rfl rfl) rfl rfl fun a_110 HE111 => ?_
                refine dr_take (i := 7) (ls' := #[true, true, true, true, true, true, true, true, false, false, false, false, false, false, false, false, false, false, false]) HE111 HS103 rfl (by kernel_rfl) (by kernel_rfl) (by kernel_rfl) (fun _ _ _ h => h) rfl (wtT HE111 rfl rfl rfl (not_f hc34)) (x_move rfl) rfl rfl fun a_112 HE113 => ?_
                by_cases hc35 : 0 < (k : Int)
                · refine dr_take (i := 8) (ls' := #[true, true, true, true, true, true, true, true, true, false, false, false, false, false, false, false, false, false, false]) HE113 HS103 rfl (by kernel_rfl) (by kernel_rfl) (by kernel_rfl) (fun _ _ _ h => h) rfl (wtT HE113 rfl rfl rfl (decide_eq_true hc35)) (x_fieldAddr fa_55_3 rfl) rfl rfl fun a_114 HE115 => ?_
                  refine dr_take (i := 9) (ls' := #[true, true, true, true, true, true, true, true, true, true, false, false, false, false, false, false, false, false, false]) HE115 HS103 rfl (by kernel_rfl) (by kernel_rfl) (by kernel_rfl) (fun _ _ _ h => h) rfl (wtT HE115 rfl rfl rfl (decide_eq_true hc35)) (x_load1 tv_53 rfl (c_blk 1 rfl rfl)) rfl rfl fun a_116 HE117 => ?_
                  refine dr_take (i := 10) (ls' := #[true, true, true, true, true, true, true, true, true, true, true, false, false, false, false, false, false, false, false]) HE117 HS103 rfl (by kernel_rfl) (by kernel_rfl) (by kernel_rfl) (fun _ _ _ h => h) rfl (wtT HE117 rfl rfl rfl (decide_eq_true hc35)) (x_move rfl) rfl rfl fun a_118 HE119 => ?_
                  refine dr_take (i := 11) (ls' := #[true, true, true, true, true, true, true, true, true, true, true, true, false, false, false, false, false, false, false]) HE119 HS103 rfl (by kernel_rfl) (by kernel_rfl) (by kernel_rfl) (fun _ _ _ h => h) rfl (wtT HE119 rfl rfl rfl (decide_eq_true hc35)) (x_sub rfl rfl (by exact ⟨by omega, by omega⟩)) rfl rfl fun a_120 HE121 => ?_
                  have ke36 : (k - 1) < a0.2.2.2.length := by omega
                  obtain ⟨be36, fe36, ese36, Ae36, Re36, De36⟩ := el_old gz0_3 ke36
                  obtain ⟨e36, xe36⟩ : ∃ x_, x_ = a0.2.2.2[(k - 1)] := ⟨_, rfl⟩
                  rw [← xe36] at Re36
                  have Qe36 := Re36
                  obtain ⟨Ae36_1, ce36_1, Ae36_2, ce36_2, Ae36_3, ce36_3, rfl, ge36_0, ge36_1, ge36_2, ge36_3, ge36_4⟩ := shape_MultiRule Re36
                  have je36_0 := ge36_0; unfold I64 at je36_0
                  have le36_1 := ge36_1.len
                  have le36_2 := ge36_2.len
                  have le36_3 := ge36_3.len
                  have je36_4 := ge36_4; unfold I64 at je36_4
                  have ge36 : a0.2.2.2[(k - 1)]?.getD default = e36 := by rw [List.getElem?_eq_getElem ke36, xe36]; rfl
                  refine dr_take (i := 12) (ls' := #[true, true, true, true, true, true, true, true, true, true, true, true, true, false, false, false, false, false, false]) HE121 HS103 rfl (by kernel_rfl) (by kernel_rfl) (by kernel_rfl) (fun _ _ _ h => h) rfl (wtT HE121 rfl rfl rfl (decide_eq_true hc35)) (x_indexAddr ts_53 rfl rfl Ae36 (by omega) ke36) rfl rfl fun a_122 HE123 => ?_
                  refine dr_take (i := 13) (ls' := #[true, true, true, true, true, true, true, true, true, true, true, true, true, true, false, false, false, false, false]) HE123 HS103 rfl (by kernel_rfl) (by kernel_rfl) (by kernel_rfl) (fun _ _ _ h => h) rfl (wtT HE123 rfl rfl rfl (decide_eq_true hc35)) (x_loadN (cs := [.int .i64 (e36.1), .slice Ae36_1 (e36.2.1.length) ce36_1, .slice Ae36_2 (e36.2.2.1.length) ce36_2, .slice Ae36_3 (e36.2.2.2.1.length) ce36_3, .int .i64 (e36.2.2.2.2)]) tv_104 rfl rfl (c_oldN De36)) rfl rfl fun a_124 HE125 => ?_
                  refine dr_take (i := 14) (ls' := #[true, true, true, true, true, true, true, true, true, true, true, true, true, true, true, false, false, false, false]) HE125 HS103 rfl (by kernel_rfl) (by kernel_rfl) (by kernel_rfl) (fun _ _ _ h => h) rfl (wtT HE125 rfl rfl rfl (decide_eq_true hc35)) (x_loadN (cs := [.int .i64 (e31.1), .slice Ae31_1 (e31.2.1.length) ce31_1, .slice Ae31_2 (e31.2.2.1.length) ce31_2, .slice Ae31_3 (e31.2.2.2.1.length) ce31_3, .int .i64 (e31.2.2.2.2)]) tv_104 rfl rfl (c_blkN 0 rfl)) rfl rfl fun a_126 HE127 => ?_
                  refine dr_one (i := 15) (ls' := #[true, true, true, true, true, true, true, true, true, true, true, true, true, true, true, true, false, false, false]) rfl (by kernel_rfl) rfl fun K_128 hK129 => ?_
                  refine st_call HE127 (wtT HE127 rfl rfl rfl (decide_eq_true hc35)) rfl rfl rfl en_102 rfl rfl (impl_compareMultiRules [.int .i64 (e36.1), .slice Ae36_1 (e36.2.1.length) ce36_1, .slice Ae36_2 (e36.2.2.1.length) ce36_2, .slice Ae36_3 (e36.2.2.2.1.length) ce36_3, .int .i64 (e36.2.2.2.2)] e36 [.int .i64 (e31.1), .slice Ae31_1 (e31.2.1.length) ce31_1, .slice Ae31_2 (e31.2.2.1.length) ce31_2, .slice Ae31_3 (e31.2.2.2.1.length) ce31_3, .int .i64 (e31.2.2.2.2)] e31 _ (HH100.oldR Qe36) (HH100.oldR Qe31)) fun e w' hr => ?_
                  obtain ⟨rfl, hbr37⟩ := hr
                  have HH130 := HH100.on hbr37
                  refine ⟨_, rfl, fun a_131 HE132 => hK129 _ _ (by exact HH130.sel [0, 1] (by decide) rfl) ?_⟩
                  have HS133 := HH130.sel [0, 1] (by decide) rfl
                  refine dr_take (i := 16) (ls' := #[true, true, true, true, true, true, true, true, true, true, true, true, true, true, true, true, true, false, false]) HE132 HS133 rfl (by kernel_rfl) (by kernel_rfl) (by kernel_rfl) (fun _ _ _ h => h) rfl (wtT HE132 rfl rfl rfl (decide_eq_true hc35)) (x_geq rfl rfl) rfl rfl fun a_134 HE135 => ?_
                  refine dr_take (i := 17) (ls' := #[true, true, true, true, true, true, true, true, true, true, true, true, true, true, true, true, true, true, false]) HE135 HS133 rfl (by kernel_rfl) (by kernel_rfl) (by kernel_rfl) (fun _ _ _ h => h) rfl (wtT HE135 rfl rfl rfl (not_f hc34)) (x_pickT rfl (decide_eq_true hc35) rfl) rfl rfl fun a_136 HE137 => ?_
                  refine dr_take (i := 18) (ls' := #[true, true, true, true, true, true, true, true, true, true, true, true, true, true, true, true, true, true, true]) HE137 HS133 rfl (by kernel_rfl) (by kernel_rfl) (by kernel_rfl) (fun _ _ _ h => h) rfl (wt0 rfl) (x_pickF rfl (not_f hc34) rfl) rfl rfl fun a_138 HE139 => ?_
                  refine dr_done (by kernel_rfl) ?_
                  clear HH91 a_87 HE88 a_94 HE95 HH92 a_96 HE97 HS93 a_101 HE102 a_104 HE105 a_106 HE107 a_108 HE109 a_110 HE111 a_112 HE113 a_114 HE115 a_116 HE117 a_118 HE119 a_120 HE121 a_122 HE123 a_124 HE125 K_98 hK99 HH100 a_126 HE127 HS103 a_131 HE132 a_134 HE135 a_136 HE137 hK129 K_128
                  refine nrm ?_
                  refine cnd_d HE139 rfl (fun hc38 => ?_) (fun hc38 => ?_)
                  · refine wp_seq ?_
                    refine rg ?_
                    refine pl_x HE139 HH130 (wt0 rfl) (x_assign rfl) rfl rfl fun a_140 HE141 => ?_
                    refine wpList_nil ?_
                    clear a_138 HE139
                    refine nrm ?_
                    refine wp_ret ?_
                    refine (blk_ret (thn_ret (thn_ret (blk_ret (thn_ret ?_)))))
                    refine ret1 HE141 rfl (rv_tmp rfl) ?_
                    have hF : (validMulti a0) = false := by
                      first | (simp [validMulti, hc23, hc25, hc27, hc28, p29_0, p29_1, hc30, xe31, hc34, hc35, xe36, hc38]; done) | (unfold validMulti; rw [decide_eq_false (by omega)]; simp) | (unfold validMulti; rw [rg_hit (by omega : k < a0.2.2.2.length) (by unfold badMR; grind [beforeMR, validMR, rowB])]; simp) | (have hq := p29_1; rw [show k = a0.2.2.2.length from by omega] at hq; unfold validMulti; rw [hq, decide_eq_true (by omega)]; simp [hc23, hc25, hc27, hc28, p29_0, p29_1, hc30, xe31, hc34, hc35, xe36, hc38])
                    exact ⟨by first | (rw [hF] <;> rfl) | rfl | (rw [hF]; simp only [Ending.returned.injEq, Value.slice.injEq, true_and, and_true]; first | omega | (simp; done)) | (rw [hF]; simp; omega), HH130.below⟩
                  · refine wp_skip ?_
                    refine blk_n ?_
                    refine nrm ?_
                    refine rg ?_
                    refine pl_x HE139 HH130 (wt0 rfl) (x_add rfl rfl (by exact ⟨by omega, by omega⟩)) rfl rfl fun a_142 HE143 => ?_
                    refine pl_x HE143 HH130 (wt0 rfl) (x_move rfl) rfl rfl fun a_144 HE145 => ?_
                    refine wpList_nil ?_
                    clear a_138 HE139 a_142 HE143
                    exact nrm ⟨a0.2.2.2.length - (k + 1), (by omega), k + 1, rfl, HE145.sub ⟨(lkI rfl (by first | rfl | omega | (simp [hc23, hc25, hc27, hc28, p29_0, p29_1, hc30, xe31, hc34, hc35, xe36, hc38]; done))), rfl, rfl, rfl, trivial⟩, (HH130.sel [1] (by decide) rfl), (by first | omega | assumption | (simp; done) | simp_all), (by exact rg_step p29_1 (by unfold badMR; grind [beforeMR, validMR, rowB]))⟩
                · refine dr_takeNo (i := 8) (ls' := #[true, true, true, true, true, true, true, true, true, false, false, false, false, false, false, false, false, false, false]) HE113 HS103 rfl (by kernel_rfl) (by kernel_rfl) (by kernel_rfl) (fun _ _ _ h => h) rfl (wtF HE113 rfl rfl rfl (decide_eq_false hc35)) rfl rfl fun a_146 HE147 => ?_
                  refine dr_takeNo (i := 9) (ls' := #[true, true, true, true, true, true, true, true, true, true, false, false, false, false, false, false, false, false, false]) HE147 HS103 rfl (by kernel_rfl) (by kernel_rfl) (by kernel_rfl) (fun _ _ _ h => h) rfl (wtF HE147 rfl rfl rfl (decide_eq_false hc35)) rfl rfl fun a_148 HE149 => ?_
                  refine dr_takeNo (i := 10) (ls' := #[true, true, true, true, true, true, true, true, true, true, true, false, false, false, false, false, false, false, false]) HE149 HS103 rfl (by kernel_rfl) (by kernel_rfl) (by kernel_rfl) (fun _ _ _ h => h) rfl (wtF HE149 rfl rfl rfl (decide_eq_false hc35)) rfl rfl fun a_150 HE151 => ?_
                  refine dr_takeNo (i := 11) (ls' := #[true, true, true, true, true, true, true, true, true, true, true, true, false, false, false, false, false, false, false]) HE151 HS103 rfl (by kernel_rfl) (by kernel_rfl) (by kernel_rfl) (fun _ _ _ h => h) rfl (wtF HE151 rfl rfl rfl (decide_eq_false hc35)) rfl rfl fun a_152 HE153 => ?_
                  refine dr_takeNo (i := 12) (ls' := #[true, true, true, true, true, true, true, true, true, true, true, true, true, false, false, false, false, false, false]) HE153 HS103 rfl (by kernel_rfl) (by kernel_rfl) (by kernel_rfl) (fun _ _ _ h => h) rfl (wtF HE153 rfl rfl rfl (decide_eq_false hc35)) rfl rfl fun a_154 HE155 => ?_
                  refine dr_takeNo (i := 13) (ls' := #[true, true, true, true, true, true, true, true, true, true, true, true, true, true, false, false, false, false, false]) HE155 HS103 rfl (by kernel_rfl) (by kernel_rfl) (by kernel_rfl) (fun _ _ _ h => h) rfl (wtF HE155 rfl rfl rfl (decide_eq_false hc35)) rfl rfl fun a_156 HE157 => ?_
                  refine dr_takeNo (i := 14) (ls' := #[true, true, true, true, true, true, true, true, true, true, true, true, true, true, true, false, false, false, false]) HE157 HS103 rfl (by kernel_rfl) (by kernel_rfl) (by kernel_rfl) (fun _ _ _ h => h) rfl (wtF HE157 rfl rfl rfl (decide_eq_false hc35)) rfl rfl fun a_158 HE159 => ?_
                  refine dr_takeNo (i := 15) (ls' := #[true, true, true, true, true, true, true, true, true, true, true, true, true, true, true, true, false, false, false]) HE159 HS103 rfl (by kernel_rfl) (by kernel_rfl) (by kernel_rfl) (fun _ _ _ h => h) rfl (wtF HE159 rfl rfl rfl (decide_eq_false hc35)) rfl rfl fun a_160 HE161 => ?_
                  refine dr_takeNo (i := 16) (ls' := #[true, true, true, true, true, true, true, true, true, true, true, true, true, true, true, true, true, false, false]) HE161 HS103 rfl (by kernel_rfl) (by kernel_rfl) (by kernel_rfl) (fun _ _ _ h => h) rfl (wtF HE161 rfl rfl rfl (decide_eq_false hc35)) rfl rfl fun a_162 HE163 => ?_
                  refine dr_take (i := 17) (ls' := #[true, true, true, true, true, true, true, true, true, true, true, true, true, true, true, true, true, true, false]) HE163 HS103 rfl (by kernel_rfl) (by kernel_rfl) (by kernel_rfl) (fun _ _ _ h => h) rfl (wtT HE163 rfl rfl rfl (not_f hc34)) (x_pickF rfl (decide_eq_false hc35) rfl) rfl rfl fun a_164 HE165 => ?_
                  refine dr_take (i := 18) (ls' := #[true, true, true, true, true, true, true, true, true, true, true, true, true, true, true, true, true, true, true]) HE165 HS103 rfl (by kernel_rfl) (by kernel_rfl) (by kernel_rfl) (fun _ _ _ h => h) rfl (wt0 rfl) (x_pickF rfl (not_f hc34) rfl) rfl rfl fun a_166 HE167 => ?_
                  refine dr_done (by kernel_rfl) ?_
                  clear HH91 a_87 HE88 a_94 HE95 HH92 a_96 HE97 HS93 a_101 HE102 a_104 HE105 a_106 HE107 a_108 HE109 a_110 HE111 a_112 HE113 a_146 HE147 a_148 HE149 a_150 HE151 a_152 HE153 a_154 HE155 a_156 HE157 a_158 HE159 a_160 HE161 a_162 HE163 a_164 HE165 hK99 K_98
                  refine nrm ?_
                  refine cndF HE167 rfl rfl ?_
                  refine wp_skip ?_
                  refine blk_n ?_
                  refine nrm ?_
                  refine rg ?_
                  refine pl_x HE167 HH100 (wt0 rfl) (x_add rfl rfl (by exact ⟨by omega, by omega⟩)) rfl rfl fun a_168 HE169 => ?_
                  refine pl_x HE169 HH100 (wt0 rfl) (x_move rfl) rfl rfl fun a_170 HE171 => ?_
                  refine wpList_nil ?_
                  clear a_166 HE167 a_168 HE169
                  exact nrm ⟨a0.2.2.2.length - (k + 1), (by omega), k + 1, rfl, HE171.sub ⟨(lkI rfl (by first | rfl | omega | (simp [hc23, hc25, hc27, hc28, p29_0, p29_1, hc30, xe31, hc34, hc35]; done))), rfl, rfl, rfl, trivial⟩, (HH100.sel [1] (by decide) rfl), (by first | omega | assumption | (simp; done) | simp_all), (by exact rg_step p29_1 (by unfold badMR; grind [beforeMR, validMR, rowB]))⟩
              · refine dr_takeNo (i := 5) (ls' := #[true, true, true, true, true, true, false, false, false, false, false, false, false, false, false, false, false, false, false]) HE107 HS103 rfl (by kernel_rfl) (by kernel_rfl) (by kernel_rfl) (fun _ _ _ h => h) rfl (wtF HE107 rfl rfl rfl (not_t hc34)) rfl rfl fun a_172 HE173 => ?_
                refine dr_takeNo (i := 6) (ls' := #[true, true, true, true, true, true, true, false, false, false, false, false, false, false, false, false, false, false, false]) HE173 HS103 rfl (by kernel_rfl) (by kernel_rfl) (by kernel_rfl) (fun _ _ _ h => h) rfl (wtF HE173 rfl rfl rfl (not_t hc34)) rfl rfl fun a_174 HE175 => ?_
                refine dr_takeNo (i := 7) (ls' := #[true, true, true, true, true, true, true, true, false, false, false, false, false, false, false, false, false, false, false]) HE175 HS103 rfl (by kernel_rfl) (by kernel_rfl) (by kernel_rfl) (fun _ _ _ h => h) rfl (wtF HE175 rfl rfl rfl (not_t hc34)) rfl rfl fun a_176 HE177 => ?_
                refine dr_takeNo (i := 8) (ls' := #[true, true, true, true, true, true, true, true, true, false, false, false, false, false, false, false, false, false, false]) HE177 HS103 rfl (by kernel_rfl) (by kernel_rfl) (by kernel_rfl) (fun _ _ _ h => h) rfl (wtU HE177 rfl rfl rfl) rfl rfl fun a_178 HE179 => ?_
                refine dr_takeNo (i := 9) (ls' := #[true, true, true, true, true, true, true, true, true, true, false, false, false, false, false, false, false, false, false]) HE179 HS103 rfl (by kernel_rfl) (by kernel_rfl) (by kernel_rfl) (fun _ _ _ h => h) rfl (wtU HE179 rfl rfl rfl) rfl rfl fun a_180 HE181 => ?_
                refine dr_takeNo (i := 10) (ls' := #[true, true, true, true, true, true, true, true, true, true, true, false, false, false, false, false, false, false, false]) HE181 HS103 rfl (by kernel_rfl) (by kernel_rfl) (by kernel_rfl) (fun _ _ _ h => h) rfl (wtU HE181 rfl rfl rfl) rfl rfl fun a_182 HE183 => ?_
                refine dr_takeNo (i := 11) (ls' := #[true, true, true, true, true, true, true, true, true, true, true, true, false, false, false, false, false, false, false]) HE183 HS103 rfl (by kernel_rfl) (by kernel_rfl) (by kernel_rfl) (fun _ _ _ h => h) rfl (wtU HE183 rfl rfl rfl) rfl rfl fun a_184 HE185 => ?_
                refine dr_takeNo (i := 12) (ls' := #[true, true, true, true, true, true, true, true, true, true, true, true, true, false, false, false, false, false, false]) HE185 HS103 rfl (by kernel_rfl) (by kernel_rfl) (by kernel_rfl) (fun _ _ _ h => h) rfl (wtU HE185 rfl rfl rfl) rfl rfl fun a_186 HE187 => ?_
                refine dr_takeNo (i := 13) (ls' := #[true, true, true, true, true, true, true, true, true, true, true, true, true, true, false, false, false, false, false]) HE187 HS103 rfl (by kernel_rfl) (by kernel_rfl) (by kernel_rfl) (fun _ _ _ h => h) rfl (wtU HE187 rfl rfl rfl) rfl rfl fun a_188 HE189 => ?_
                refine dr_takeNo (i := 14) (ls' := #[true, true, true, true, true, true, true, true, true, true, true, true, true, true, true, false, false, false, false]) HE189 HS103 rfl (by kernel_rfl) (by kernel_rfl) (by kernel_rfl) (fun _ _ _ h => h) rfl (wtU HE189 rfl rfl rfl) rfl rfl fun a_190 HE191 => ?_
                refine dr_takeNo (i := 15) (ls' := #[true, true, true, true, true, true, true, true, true, true, true, true, true, true, true, true, false, false, false]) HE191 HS103 rfl (by kernel_rfl) (by kernel_rfl) (by kernel_rfl) (fun _ _ _ h => h) rfl (wtU HE191 rfl rfl rfl) rfl rfl fun a_192 HE193 => ?_
                refine dr_takeNo (i := 16) (ls' := #[true, true, true, true, true, true, true, true, true, true, true, true, true, true, true, true, true, false, false]) HE193 HS103 rfl (by kernel_rfl) (by kernel_rfl) (by kernel_rfl) (fun _ _ _ h => h) rfl (wtU HE193 rfl rfl rfl) rfl rfl fun a_194 HE195 => ?_
                refine dr_takeNo (i := 17) (ls' := #[true, true, true, true, true, true, true, true, true, true, true, true, true, true, true, true, true, true, false]) HE195 HS103 rfl (by kernel_rfl) (by kernel_rfl) (by kernel_rfl) (fun _ _ _ h => h) rfl (wtF HE195 rfl rfl rfl (not_t hc34)) rfl rfl fun a_196 HE197 => ?_
                refine dr_take (i := 18) (ls' := #[true, true, true, true, true, true, true, true, true, true, true, true, true, true, true, true, true, true, true]) HE197 HS103 rfl (by kernel_rfl) (by kernel_rfl) (by kernel_rfl) (fun _ _ _ h => h) rfl (wt0 rfl) (x_pickT rfl (not_t hc34) rfl) rfl rfl fun a_198 HE199 => ?_
                refine dr_done (by kernel_rfl) ?_
                clear HH91 a_87 HE88 a_94 HE95 HH92 a_96 HE97 HS93 a_101 HE102 a_104 HE105 a_106 HE107 a_172 HE173 a_174 HE175 a_176 HE177 a_178 HE179 a_180 HE181 a_182 HE183 a_184 HE185 a_186 HE187 a_188 HE189 a_190 HE191 a_192 HE193 a_194 HE195 a_196 HE197 hK99 K_98
                refine nrm ?_
                refine cndT HE199 rfl rfl ?_
                refine wp_seq ?_
                refine rg ?_
                refine pl_x HE199 HH100 (wt0 rfl) (x_assign rfl) rfl rfl fun a_200 HE201 => ?_
                refine wpList_nil ?_
                clear a_198 HE199
                refine nrm ?_
                refine wp_ret ?_
                refine (blk_ret (thn_ret (thn_ret (blk_ret (thn_ret ?_)))))
                refine ret1 HE201 rfl (rv_tmp rfl) ?_
                have hF : (validMulti a0) = false := by
                  first | (simp [validMulti, hc23, hc25, hc27, hc28, p29_0, p29_1, hc30, xe31, hc34]; done) | (unfold validMulti; rw [decide_eq_false (by omega)]; simp) | (unfold validMulti; rw [rg_hit (by omega : k < a0.2.2.2.length) (by unfold badMR; grind [beforeMR, validMR, rowB])]; simp) | (have hq := p29_1; rw [show k = a0.2.2.2.length from by omega] at hq; unfold validMulti; rw [hq, decide_eq_true (by omega)]; simp [hc23, hc25, hc27, hc28, p29_0, p29_1, hc30, xe31, hc34])
                exact ⟨by first | (rw [hF] <;> rfl) | rfl | (rw [hF]; simp only [Ending.returned.injEq, Value.slice.injEq, true_and, and_true]; first | omega | (simp; done)) | (rw [hF]; simp; omega), HH100.below⟩
            · refine wp_exit ?_
              refine (thn_exit (thn_exit (blk_hit ?_)))
              refine nrm ?_
              refine wp_seq ?_
              refine rg ?_
              refine pl_x HE75 HH73 (wt0 rfl) (x_assign rfl) rfl rfl fun a_202 HE203 => ?_
              refine wpList_nil ?_
              clear a_74 HE75
              refine nrm ?_
              refine wp_ret ?_
              refine ret1 HE203 rfl (rv_tmp rfl) ?_
              have hF : (validMulti a0) = true := by
                first | (simp [validMulti, hc23, hc25, hc27, hc28, p29_0, p29_1, hc30]; done) | (unfold validMulti; rw [decide_eq_false (by omega)]; simp) | (unfold validMulti; rw [rg_hit (by omega : k < a0.2.2.2.length) (by unfold badMR; grind [beforeMR, validMR, rowB])]; simp) | (have hq := p29_1; rw [show k = a0.2.2.2.length from by omega] at hq; unfold validMulti; rw [hq, decide_eq_true (by omega)]; simp [hc23, hc25, hc27, hc28, p29_0, p29_1, hc30])
              exact ⟨by first | (rw [hF] <;> rfl) | rfl | (rw [hF]; simp only [Ending.returned.injEq, Value.slice.injEq, true_and, and_true]; first | omega | (simp; done)) | (rw [hF]; simp; omega), HH73.below⟩
      · refine pl_no HE50 (wtF HE50 rfl rfl rfl (not_t hc27)) rfl rfl fun a_204 HE205 => ?_
        refine pl_no HE205 (wtF HE205 rfl rfl rfl (not_t hc27)) rfl rfl fun a_206 HE207 => ?_
        refine pl_no HE207 (wtF HE207 rfl rfl rfl (not_t hc27)) rfl rfl fun a_208 HE209 => ?_
        refine pl_no HE209 (wtF HE209 rfl rfl rfl (not_t hc27)) rfl rfl fun a_210 HE211 => ?_
        refine pl_x HE211 HH8 (wt0 rfl) (x_pickT rfl (not_t hc27) rfl) rfl rfl fun a_212 HE213 => ?_
        refine wpList_nil ?_
        clear a_9 HE10 a_11 HE12 a_13 HE14 a_17 HE18 a_19 HE20 a_21 HE22 a_23 HE24 K_15 hK16 a_25 HE26 a_29 HE30 a_31 HE32 a_33 HE34 a_35 HE36 a_37 HE38 K_27 hK28 a_39 HE40 a_43 HE44 a_45 HE46 a_47 HE48 a_49 HE50 a_204 HE205 a_206 HE207 a_208 HE209 a_210 HE211 hK42 K_41
        refine nrm ?_
        refine cndT HE213 rfl rfl ?_
        refine wp_seq ?_
        refine rg ?_
        refine pl_x HE213 HH8 (wt0 rfl) (x_assign rfl) rfl rfl fun a_214 HE215 => ?_
        refine wpList_nil ?_
        clear a_212 HE213
        refine nrm ?_
        refine wp_ret ?_
        refine (thn_ret ?_)
        refine ret1 HE215 rfl (rv_tmp rfl) ?_
        have hF : (validMulti a0) = false := by
          first | (simp [validMulti, hc23, hc25, hc27]; done) | (unfold validMulti; rw [decide_eq_false (by omega)]; simp) | (unfold validMulti; rw [rg_hit (by omega : k < a0.2.2.2.length) (by unfold badMR; grind [beforeMR, validMR, rowB])]; simp) | (have hq := p0_1; rw [show k = a0.2.2.2.length from by omega] at hq; unfold validMulti; rw [hq, decide_eq_true (by omega)]; simp [hc23, hc25, hc27])
        exact ⟨by first | (rw [hF] <;> rfl) | rfl | (rw [hF]; simp only [Ending.returned.injEq, Value.slice.injEq, true_and, and_true]; first | omega | (simp; done)) | (rw [hF]; simp; omega), HH8.below⟩
    · refine pl_no HE36 (wtF HE36 rfl rfl rfl (not_t hc25)) rfl rfl fun a_216 HE217 => ?_
      refine pl_no HE217 (wtF HE217 rfl rfl rfl (not_t hc25)) rfl rfl fun a_218 HE219 => ?_
      refine pl_no HE219 (wtF HE219 rfl rfl rfl (not_t hc25)) rfl rfl fun a_220 HE221 => ?_
      refine pl_no HE221 (wtF HE221 rfl rfl rfl (not_t hc25)) rfl rfl fun a_222 HE223 => ?_
      refine pl_x HE223 HH8 (wt0 rfl) (x_pickT rfl (not_t hc25) rfl) rfl rfl fun a_224 HE225 => ?_
      refine pl_x HE225 HH8 (wt0 rfl) (x_move rfl) rfl rfl fun a_226 HE227 => ?_
      refine pl_no HE227 (wtF HE227 rfl rfl rfl rfl) rfl rfl fun a_228 HE229 => ?_
      refine pl_no HE229 (wtF HE229 rfl rfl rfl rfl) rfl rfl fun a_230 HE231 => ?_
      refine pl_no HE231 (wtF HE231 rfl rfl rfl rfl) rfl rfl fun a_232 HE233 => ?_
      refine pl_no HE233 (wtF HE233 rfl rfl rfl rfl) rfl rfl fun a_234 HE235 => ?_
      refine pl_x HE235 HH8 (wt0 rfl) (x_pickT rfl rfl rfl) rfl rfl fun a_236 HE237 => ?_
      refine wpList_nil ?_
      clear a_9 HE10 a_11 HE12 a_13 HE14 a_17 HE18 a_19 HE20 a_21 HE22 a_23 HE24 K_15 hK16 a_25 HE26 a_29 HE30 a_31 HE32 a_33 HE34 a_35 HE36 a_216 HE217 a_218 HE219 a_220 HE221 a_222 HE223 a_224 HE225 a_226 HE227 a_228 HE229 a_230 HE231 a_232 HE233 a_234 HE235 hK28 K_27
      refine nrm ?_
      refine cndT HE237 rfl rfl ?_
      refine wp_seq ?_
      refine rg ?_
      refine pl_x HE237 HH8 (wt0 rfl) (x_assign rfl) rfl rfl fun a_238 HE239 => ?_
      refine wpList_nil ?_
      clear a_236 HE237
      refine nrm ?_
      refine wp_ret ?_
      refine (thn_ret ?_)
      refine ret1 HE239 rfl (rv_tmp rfl) ?_
      have hF : (validMulti a0) = false := by
        first | (simp [validMulti, hc23, hc25]; done) | (unfold validMulti; rw [decide_eq_false (by omega)]; simp) | (unfold validMulti; rw [rg_hit (by omega : k < a0.2.2.2.length) (by unfold badMR; grind [beforeMR, validMR, rowB])]; simp) | (have hq := p0_1; rw [show k = a0.2.2.2.length from by omega] at hq; unfold validMulti; rw [hq, decide_eq_true (by omega)]; simp [hc23, hc25])
      exact ⟨by first | (rw [hF] <;> rfl) | rfl | (rw [hF]; simp only [Ending.returned.injEq, Value.slice.injEq, true_and, and_true]; first | omega | (simp; done)) | (rw [hF]; simp; omega), HH8.below⟩
  · refine pl_no HE22 (wtF HE22 rfl rfl rfl (not_t hc23)) rfl rfl fun a_240 HE241 => ?_
    refine pl_no HE241 (wtF HE241 rfl rfl rfl (not_t hc23)) rfl rfl fun a_242 HE243 => ?_
    refine pl_no HE243 (wtF HE243 rfl rfl rfl (not_t hc23)) rfl rfl fun a_244 HE245 => ?_
    refine pl_no HE245 (wtF HE245 rfl rfl rfl (not_t hc23)) rfl rfl fun a_246 HE247 => ?_
    refine pl_x HE247 HH8 (wt0 rfl) (x_pickT rfl (not_t hc23) rfl) rfl rfl fun a_248 HE249 => ?_
    refine pl_x HE249 HH8 (wt0 rfl) (x_move rfl) rfl rfl fun a_250 HE251 => ?_
    refine pl_no HE251 (wtF HE251 rfl rfl rfl rfl) rfl rfl fun a_252 HE253 => ?_
    refine pl_no HE253 (wtF HE253 rfl rfl rfl rfl) rfl rfl fun a_254 HE255 => ?_
    refine pl_no HE255 (wtF HE255 rfl rfl rfl rfl) rfl rfl fun a_256 HE257 => ?_
    refine pl_no HE257 (wtF HE257 rfl rfl rfl rfl) rfl rfl fun a_258 HE259 => ?_
    refine pl_x HE259 HH8 (wt0 rfl) (x_pickT rfl rfl rfl) rfl rfl fun a_260 HE261 => ?_
    refine pl_x HE261 HH8 (wt0 rfl) (x_move rfl) rfl rfl fun a_262 HE263 => ?_
    refine pl_no HE263 (wtF HE263 rfl rfl rfl rfl) rfl rfl fun a_264 HE265 => ?_
    refine pl_no HE265 (wtF HE265 rfl rfl rfl rfl) rfl rfl fun a_266 HE267 => ?_
    refine pl_no HE267 (wtF HE267 rfl rfl rfl rfl) rfl rfl fun a_268 HE269 => ?_
    refine pl_no HE269 (wtF HE269 rfl rfl rfl rfl) rfl rfl fun a_270 HE271 => ?_
    refine pl_x HE271 HH8 (wt0 rfl) (x_pickT rfl rfl rfl) rfl rfl fun a_272 HE273 => ?_
    refine wpList_nil ?_
    clear a_9 HE10 a_11 HE12 a_13 HE14 a_17 HE18 a_19 HE20 a_21 HE22 a_240 HE241 a_242 HE243 a_244 HE245 a_246 HE247 a_248 HE249 a_250 HE251 a_252 HE253 a_254 HE255 a_256 HE257 a_258 HE259 a_260 HE261 a_262 HE263 a_264 HE265 a_266 HE267 a_268 HE269 a_270 HE271 hK16 K_15
    refine nrm ?_
    refine cndT HE273 rfl rfl ?_
    refine wp_seq ?_
    refine rg ?_
    refine pl_x HE273 HH8 (wt0 rfl) (x_assign rfl) rfl rfl fun a_274 HE275 => ?_
    refine wpList_nil ?_
    clear a_272 HE273
    refine nrm ?_
    refine wp_ret ?_
    refine (thn_ret ?_)
    refine ret1 HE275 rfl (rv_tmp rfl) ?_
    have hF : (validMulti a0) = false := by
      first | (simp [validMulti, hc23]; done) | (unfold validMulti; rw [decide_eq_false (by omega)]; simp) | (unfold validMulti; rw [rg_hit (by omega : k < a0.2.2.2.length) (by unfold badMR; grind [beforeMR, validMR, rowB])]; simp) | (have hq := p0_1; rw [show k = a0.2.2.2.length from by omega] at hq; unfold validMulti; rw [hq, decide_eq_true (by omega)]; simp [hc23])
    exact ⟨by first | (rw [hF] <;> rfl) | rfl | (rw [hF]; simp only [Ending.returned.injEq, Value.slice.injEq, true_and, and_true]; first | omega | (simp; done)) | (rw [hF]; simp; omega), HH8.below⟩

end Go.Proofs.Ythfihlfjphiihaa
