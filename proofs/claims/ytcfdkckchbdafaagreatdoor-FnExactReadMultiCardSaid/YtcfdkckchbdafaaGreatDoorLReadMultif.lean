/- What the proof of FnExactReadMulti needs: contracts of the functions that it reaches, each once. -/
import Derived.Test.YtcfdkckchbdafaaGreatDoorProg
import Derived.Test.YtcfdkckchbdafaaGreatDoorQMem
import Derived.Test.YtcfdkckchbdafaaGreatDoorQOpen
import Derived.Test.YtcfdkckchbdafaaGreatDoorLReadMultia
import Derived.Test.YtcfdkckchbdafaaGreatDoorLReadMultib
import Derived.Test.YtcfdkckchbdafaaGreatDoorLReadMultic
import Derived.Test.YtcfdkckchbdafaaGreatDoorLReadMultid
import Derived.Test.YtcfdkckchbdafaaGreatDoorLReadMultie
import Derived.WalkKit
import Derived.WalkSpells
import Derived.Below
import Derived.LoopTactic
import Derived.Outline
import Derived.Deep.QuietTactic
import Derived.BigQuiet
import Derived.Deep.LoopGhost
import Derived.Handy
import Derived.Lib.Hide
import Derived.Shelf.Abstract
import Derived.StillTailTactics
import Derived.OwnWalk
import Derived.Maps.AppendAt
import Derived.RegionTactic
import Derived.Deep.RegionHeld3
import Derived.IntWalk
import Derived.Deep.Upon
import Derived.Laws.OwnMore
import Derived.Maps.AppendAt
import Derived.Laws.BytesString
import Derived.Laws.Strings
import Derived.Lib.Bytes
import Derived.Lib.Strings
import Derived.Lib.FrozenHead
import Derived.Lib.RuneBytes
import Derived.Lib.LaidTab
import Derived.Laws.StructEq
import Derived.Lib.MapLaws
import Derived.Lib.OthersKept
import Derived.Laws.RangeAny
import Derived.Scope
import Derived.Lib.ItoaLen
import Derived.Lib.Join
import Derived.Shelf.Strconv.Itoa4
import Derived.Shelf.Strings.OnBuilder
import Derived.Shelf.Strings.BuilderK
import Derived.Shelf.Strings.BuilderRune
import Derived.Shelf.LaysM
import Derived.Ground.NamesProg
import Derived.Lib.ParseIntBTie
import Derived.Lib.SplitLaws
import Derived.Lib.Replace
import Derived.Shelf.LaysC
import Derived.Shelf.Strconv.ErrVarParseInt
import Derived.Shelf.Strconv.ParseIntPublic10
import Derived.Shelf.Strings.Prefix
import Derived.Shelf.Strings.Cut
import Derived.Shelf.Strings.Split
import Derived.Shelf.Strings.Replace
import Derived.Shelf.Small.Wraps
import Derived.Stop.IfaceNil
import Derived.Shelf.Small.Utf8
import Derived.Shelf.Strings.Runes
namespace Go.Proofs.YtcfdkckchbdafaaGreatDoor
open Go.RowKit

set_option maxRecDepth 100000 in
set_option maxHeartbeats 4000000 in
theorem spec_l06Text (p0 o0 : Nat) (es0 : List Value) (a0 : tMulti) (w : World) (h0 : eMulti.R w (Old w) es0 a0) (hq0 : ∀ j v, es0[j]? = some v → w.cell? ⟨p0, o0 + j, none⟩ = some v) (v0 : (2 ≤ a0.1 ∧ a0.1 ≤ 3) ∧ (2 ≤ a0.2.1 ∧ a0.2.1 ≤ 3) ∧ 1 ≤ a0.2.2.1 ∧ a0.2.2.1 ≤ 16) (v3 : a0.2.2.2.length ≤ 60) (v4 : ∀ r ∈ a0.2.2.2, okMr r) :
    Calls Tryz.prog 96 #[.pointer (some ⟨p0, o0, none⟩)] w fun e w' => e = .returned (.string (bs (multT a0))) ∧ Below w.heap.size w w' := by
  have H0 := h0
  obtain ⟨Az0_3, cz0_3, rfl, gz0_0, gz0_1, gz0_2, gz0_3⟩ := shape_Multi h0
  have jz0_0 := gz0_0; unfold I64 at jz0_0
  have jz0_1 := gz0_1; unfold I64 at jz0_1
  have jz0_2 := gz0_2; unfold I64 at jz0_2
  have lz0_3 := gz0_3.len
  have v5 := headT_len v0
  have HH1 := Held.start Nob w
  refine enter (n := 77) Tryz.func96 rfl rfl rfl fun a_2 HE3 => ?_
  refine wp_seq ?_
  refine rg ?_
  refine pl_x HE3 HH1 (wt0 rfl) (x_assign rfl) rfl rfl fun a_4 HE5 => ?_
  refine wpList_nil ?_
  clear a_2 HE3
  refine nrm ?_
  refine wp_seq ?_
  refine dr_start (Held Nob w []) 20 #[false, false, false, false, false, false, false, false, false, false, false, false, false, false, false, false, false, false, false, false] hmix rfl rfl HH1 (fun _ h => h.sel [] (by decide) rfl) fun w' HH6 => ?_
  have HS7 := HH6
  refine dr_take (i := 0) (ls' := #[true, false, false, false, false, false, false, false, false, false, false, false, false, false, false, false, false, false, false, false]) HE5 HS7 rfl (by kernel_rfl) (by kernel_rfl) (by kernel_rfl) (fun _ _ _ h => h) rfl (wt0 rfl) (x_move rfl) rfl rfl fun a_8 HE9 => ?_
  refine dr_take (i := 1) (ls' := #[true, true, false, false, false, false, false, false, false, false, false, false, false, false, false, false, false, false, false, false]) HE9 HS7 rfl (by kernel_rfl) (by kernel_rfl) (by kernel_rfl) (fun _ _ _ h => h) rfl (wt0 rfl) (x_nilCheck rfl) rfl rfl fun a_10 HE11 => ?_
  refine dr_take (i := 2) (ls' := #[true, true, true, false, false, false, false, false, false, false, false, false, false, false, false, false, false, false, false, false]) HE11 HS7 rfl (by kernel_rfl) (by kernel_rfl) (by kernel_rfl) (fun _ _ _ h => h) rfl (wt0 rfl) (x_fieldAddr fa_68_0 rfl) rfl rfl fun a_12 HE13 => ?_
  refine dr_take (i := 3) (ls' := #[true, true, true, true, false, false, false, false, false, false, false, false, false, false, false, false, false, false, false, false]) HE13 HS7 rfl (by kernel_rfl) (by kernel_rfl) (by kernel_rfl) (fun _ _ _ h => h) rfl (wt0 rfl) (x_load1 tv_2 rfl (c_old (hq0 0 _ rfl))) rfl rfl fun a_14 HE15 => ?_
  refine dr_take (i := 6) (ls' := #[true, true, true, true, false, false, true, false, false, false, false, false, false, false, false, false, false, false, false, false]) HE15 HS7 rfl (by kernel_rfl) (by kernel_rfl) (by kernel_rfl) (fun _ _ _ h => h) rfl (wt0 rfl) (x_move rfl) rfl rfl fun a_16 HE17 => ?_
  refine dr_take (i := 7) (ls' := #[true, true, true, true, false, false, true, true, false, false, false, false, false, false, false, false, false, false, false, false]) HE17 HS7 rfl (by kernel_rfl) (by kernel_rfl) (by kernel_rfl) (fun _ _ _ h => h) rfl (wt0 rfl) (x_nilCheck rfl) rfl rfl fun a_18 HE19 => ?_
  refine dr_take (i := 8) (ls' := #[true, true, true, true, false, false, true, true, true, false, false, false, false, false, false, false, false, false, false, false]) HE19 HS7 rfl (by kernel_rfl) (by kernel_rfl) (by kernel_rfl) (fun _ _ _ h => h) rfl (wt0 rfl) (x_fieldAddr fa_68_1 rfl) rfl rfl fun a_20 HE21 => ?_
  refine dr_take (i := 9) (ls' := #[true, true, true, true, false, false, true, true, true, true, false, false, false, false, false, false, false, false, false, false]) HE21 HS7 rfl (by kernel_rfl) (by kernel_rfl) (by kernel_rfl) (fun _ _ _ h => h) rfl (wt0 rfl) (x_load1 tv_2 rfl (c_old (hq0 1 _ rfl))) rfl rfl fun a_22 HE23 => ?_
  refine dr_take (i := 13) (ls' := #[true, true, true, true, false, false, true, true, true, true, false, false, false, true, false, false, false, false, false, false]) HE23 HS7 rfl (by kernel_rfl) (by kernel_rfl) (by kernel_rfl) (fun _ _ _ h => h) rfl (wt0 rfl) (x_move rfl) rfl rfl fun a_24 HE25 => ?_
  refine dr_take (i := 14) (ls' := #[true, true, true, true, false, false, true, true, true, true, false, false, false, true, true, false, false, false, false, false]) HE25 HS7 rfl (by kernel_rfl) (by kernel_rfl) (by kernel_rfl) (fun _ _ _ h => h) rfl (wt0 rfl) (x_nilCheck rfl) rfl rfl fun a_26 HE27 => ?_
  refine dr_take (i := 15) (ls' := #[true, true, true, true, false, false, true, true, true, true, false, false, false, true, true, true, false, false, false, false]) HE27 HS7 rfl (by kernel_rfl) (by kernel_rfl) (by kernel_rfl) (fun _ _ _ h => h) rfl (wt0 rfl) (x_fieldAddr fa_68_2 rfl) rfl rfl fun a_28 HE29 => ?_
  refine dr_take (i := 16) (ls' := #[true, true, true, true, false, false, true, true, true, true, false, false, false, true, true, true, true, false, false, false]) HE29 HS7 rfl (by kernel_rfl) (by kernel_rfl) (by kernel_rfl) (fun _ _ _ h => h) rfl (wt0 rfl) (x_load1 tv_2 rfl (c_old (hq0 2 _ rfl))) rfl rfl fun a_30 HE31 => ?_
  refine dr_one (i := 4) (ls' := #[true, true, true, true, true, false, true, true, true, true, false, false, false, true, true, true, true, false, false, false]) rfl (by kernel_rfl) rfl fun K_32 hK33 => ?_
  refine st_call HE31 (wt0 rfl) rfl rfl rfl en_148 rfl rfl (spec_l01Dec a0.1 _ (by omega)) fun e w' hr => ?_
  have hAr21_0 := itoa_len (n := a0.1) (by omega)
  obtain ⟨rfl, hbr21⟩ := hr
  have HH34 := HH6.on hbr21
  refine ⟨_, rfl, fun a_35 HE36 => hK33 _ _ (by exact HH34.sel [] (by decide) rfl) ?_⟩
  have HS37 := HH34.sel [] (by decide) rfl
  refine dr_take (i := 5) (ls' := #[true, true, true, true, true, true, true, true, true, true, false, false, false, true, true, true, true, false, false, false]) HE36 HS37 rfl (by kernel_rfl) (by kernel_rfl) (by kernel_rfl) (fun _ _ _ h => h) rfl (wt0 rfl) (x_sadd rfl rfl (by first | omega | (simp only [List.length_append, List.length_cons, List.length_nil]; omega) | (simp; omega))) rfl rfl fun a_38 HE39 => ?_
  refine dr_one (i := 10) (ls' := #[true, true, true, true, true, true, true, true, true, true, true, false, false, true, true, true, true, false, false, false]) rfl (by kernel_rfl) rfl fun K_40 hK41 => ?_
  refine st_call HE39 (wt0 rfl) rfl rfl rfl en_148 rfl rfl (spec_l01Dec a0.2.1 _ (by omega)) fun e w' hr => ?_
  have hAr22_0 := itoa_len (n := a0.2.1) (by omega)
  obtain ⟨rfl, hbr22⟩ := hr
  have HH42 := HH34.on hbr22
  refine ⟨_, rfl, fun a_43 HE44 => hK41 _ _ (by exact HH42.sel [] (by decide) rfl) ?_⟩
  have HS45 := HH42.sel [] (by decide) rfl
  refine dr_take (i := 11) (ls' := #[true, true, true, true, true, true, true, true, true, true, true, true, false, true, true, true, true, false, false, false]) HE44 HS45 rfl (by kernel_rfl) (by kernel_rfl) (by kernel_rfl) (fun _ _ _ h => h) rfl (wt0 rfl) (x_sadd rfl rfl (by first | omega | (simp only [List.length_append, List.length_cons, List.length_nil]; omega) | (simp; omega))) rfl rfl fun a_46 HE47 => ?_
  refine dr_take (i := 12) (ls' := #[true, true, true, true, true, true, true, true, true, true, true, true, true, true, true, true, true, false, false, false]) HE47 HS45 rfl (by kernel_rfl) (by kernel_rfl) (by kernel_rfl) (fun _ _ _ h => h) rfl (wt0 rfl) (x_sadd rfl rfl (by first | omega | (simp only [List.length_append, List.length_cons, List.length_nil]; omega) | (simp; omega))) rfl rfl fun a_48 HE49 => ?_
  refine dr_one (i := 17) (ls' := #[true, true, true, true, true, true, true, true, true, true, true, true, true, true, true, true, true, true, false, false]) rfl (by kernel_rfl) rfl fun K_50 hK51 => ?_
  refine st_call HE49 (wt0 rfl) rfl rfl rfl en_148 rfl rfl (spec_l01Dec a0.2.2.1 _ (by omega)) fun e w' hr => ?_
  have hAr23_0 := itoa_len (n := a0.2.2.1) (by omega)
  obtain ⟨rfl, hbr23⟩ := hr
  have HH52 := HH42.on hbr23
  refine ⟨_, rfl, fun a_53 HE54 => hK51 _ _ (by exact HH52.sel [] (by decide) rfl) ?_⟩
  have HS55 := HH52.sel [] (by decide) rfl
  refine dr_take (i := 18) (ls' := #[true, true, true, true, true, true, true, true, true, true, true, true, true, true, true, true, true, true, true, false]) HE54 HS55 rfl (by kernel_rfl) (by kernel_rfl) (by kernel_rfl) (fun _ _ _ h => h) rfl (wt0 rfl) (x_sadd rfl rfl (by first | omega | (simp only [List.length_append, List.length_cons, List.length_nil]; omega) | (simp; omega))) rfl rfl fun a_56 HE57 => ?_
  refine dr_take (i := 19) (ls' := #[true, true, true, true, true, true, true, true, true, true, true, true, true, true, true, true, true, true, true, true]) HE57 HS55 rfl (by kernel_rfl) (by kernel_rfl) (by kernel_rfl) (fun _ _ _ h => h) rfl (wt0 rfl) (x_assign rfl) rfl rfl fun a_58 HE59 => ?_
  refine dr_done (by kernel_rfl) ?_
  clear HH1 a_4 HE5 a_8 HE9 a_10 HE11 a_12 HE13 a_14 HE15 a_16 HE17 a_18 HE19 a_20 HE21 a_22 HE23 a_24 HE25 a_26 HE27 a_28 HE29 HH6 a_30 HE31 HS7 a_35 HE36 K_32 hK33 HH34 a_38 HE39 HS37 a_43 HE44 a_46 HE47 K_40 hK41 HH42 a_48 HE49 HS45 a_53 HE54 a_56 HE57 hK51 K_50
  refine nrm ?_
  refine wp_seq ?_
  refine wp_seq ?_
  refine rg ?_
  refine pl_x HE59 HH52 (wt0 rfl) (x_assign rfl) rfl rfl fun a_60 HE61 => ?_
  refine wpList_nil ?_
  clear a_58 HE59
  refine nrm ?_
  refine wp_block ?_
  refine lp (fun m a w' => ∃ (k : Nat), m = a0.2.2.2.length - k ∧ Env 77 [(3, .string (bs (headT a0 ++ Go.Lib.joinTail [10] ((a0.2.2.2.take k).map mrT)))), (4, .int .i64 (k : Int)), (0, .pointer (some ⟨p0, o0, none⟩))] a ∧ Held Nob w [] w' ∧ (k ≤ a0.2.2.2.length)) (a0.2.2.2.length - (0)) ?_ ?_
  · exact ⟨0, rfl, HE61.sub ⟨(lkS rfl (by simp [headT, Go.Lib.joinTail, decs_three2])), (lkI rfl (by first | rfl | omega | (simp []; done))), rfl, trivial⟩, (HH52.sel [] (by decide) rfl), (by first | omega | assumption | (simp; done) | simp_all)⟩
  · rintro m a_62 w' ⟨k, rfl, HE63, HH64, p24_0⟩
    have oj := jt_len v4 k
    refine wp_seq ?_
    refine wp_seq ?_
    refine rg ?_
    refine pl_x HE63 HH64 (wt0 rfl) (x_move rfl) rfl rfl fun a_65 HE66 => ?_
    refine pl_x HE66 HH64 (wt0 rfl) (x_move rfl) rfl rfl fun a_67 HE68 => ?_
    refine pl_x HE68 HH64 (wt0 rfl) (x_nilCheck rfl) rfl rfl fun a_69 HE70 => ?_
    refine pl_x HE70 HH64 (wt0 rfl) (x_fieldAddr fa_68_3 rfl) rfl rfl fun a_71 HE72 => ?_
    refine pl_x HE72 HH64 (wt0 rfl) (x_load1 tv_66 rfl (c_old (hq0 3 _ rfl))) rfl rfl fun a_73 HE74 => ?_
    refine pl_x HE74 HH64 (wt0 rfl) (x_len Tryz.underlying66 rfl) rfl rfl fun a_75 HE76 => ?_
    refine pl_x HE76 HH64 (wt0 rfl) (x_lss rfl rfl) rfl rfl fun a_77 HE78 => ?_
    refine wpList_nil ?_
    clear a_60 HE61 HH52 a_62 HE63 a_65 HE66 a_67 HE68 a_69 HE70 a_71 HE72 a_73 HE74 a_75 HE76
    refine nrm ?_
    refine cnd_d HE78 rfl (fun hc25 => ?_) (fun hc25 => ?_)
    · refine wp_skip ?_
      refine nrm ?_
      refine wp_seq ?_
      refine wp_block ?_
      refine wp_seq ?_
      refine rg ?_
      refine pl_x HE78 HH64 (wt0 rfl) (x_move rfl) rfl rfl fun a_79 HE80 => ?_
      refine pl_x HE80 HH64 (wt0 rfl) (x_nilCheck rfl) rfl rfl fun a_81 HE82 => ?_
      refine pl_x HE82 HH64 (wt0 rfl) (x_fieldAddr fa_68_3 rfl) rfl rfl fun a_83 HE84 => ?_
      refine pl_x HE84 HH64 (wt0 rfl) (x_load1 tv_66 rfl (c_old (hq0 3 _ rfl))) rfl rfl fun a_85 HE86 => ?_
      refine pl_x HE86 HH64 (wt0 rfl) (x_move rfl) rfl rfl fun a_87 HE88 => ?_
      have ke26 : k < a0.2.2.2.length := by omega
      obtain ⟨be26, fe26, ese26, Ae26, Re26, De26⟩ := el_old gz0_3 ke26
      obtain ⟨e26, xe26⟩ : ∃ x_, x_ = a0.2.2.2[k] := ⟨_, rfl⟩
      rw [← xe26] at Re26
      have Qe26 := Re26
      obtain ⟨Ae26_1, ce26_1, Ae26_2, ce26_2, Ae26_3, ce26_3, rfl, ge26_0, ge26_1, ge26_2, ge26_3, ge26_4⟩ := shape_MultiRule Re26
      have je26_0 := ge26_0; unfold I64 at je26_0
      have le26_1 := ge26_1.len
      have le26_2 := ge26_2.len
      have le26_3 := ge26_3.len
      have je26_4 := ge26_4; unfold I64 at je26_4
      have fe26 := v4 e26 (by rw [xe26]; exact List.getElem_mem _)
      obtain ⟨fae26, ⟨fbe26, fce26⟩, ⟨fde26, fee26⟩, ⟨ffe26, fge26⟩, fhe26⟩ := fe26
      refine pl_x HE88 HH64 (wt0 rfl) (x_indexAddr ts_66 rfl rfl Ae26 rfl ke26) rfl rfl fun a_89 HE90 => ?_
      refine pl_x HE90 HH64 (wt0 rfl) (x_assign rfl) rfl rfl fun a_91 HE92 => ?_
      refine wpList_nil ?_
      clear a_77 HE78 a_79 HE80 a_81 HE82 a_83 HE84 a_85 HE86 a_87 HE88 a_89 HE90
      refine nrm ?_
      refine dr_start (Held Nob w []) 37 #[false, false, false, false, false, false, false, false, false, false, false, false, false, false, false, false, false, false, false, false, false, false, false, false, false, false, false, false, false, false, false, false, false, false, false, false, false] hmix rfl rfl HH64 (fun _ h => h.sel [] (by decide) rfl) fun w' HH93 => ?_
      have HS94 := HH93
      refine dr_take (i := 0) (ls' := #[true, false, false, false, false, false, false, false, false, false, false, false, false, false, false, false, false, false, false, false, false, false, false, false, false, false, false, false, false, false, false, false, false, false, false, false, false]) HE92 HS94 rfl (by kernel_rfl) (by kernel_rfl) (by kernel_rfl) (fun _ _ _ h => h) rfl (wt0 rfl) (x_move rfl) rfl rfl fun a_95 HE96 => ?_
      refine dr_take (i := 1) (ls' := #[true, true, false, false, false, false, false, false, false, false, false, false, false, false, false, false, false, false, false, false, false, false, false, false, false, false, false, false, false, false, false, false, false, false, false, false, false]) HE96 HS94 rfl (by kernel_rfl) (by kernel_rfl) (by kernel_rfl) (fun _ _ _ h => h) rfl (wt0 rfl) (x_move rfl) rfl rfl fun a_97 HE98 => ?_
      refine dr_take (i := 2) (ls' := #[true, true, true, false, false, false, false, false, false, false, false, false, false, false, false, false, false, false, false, false, false, false, false, false, false, false, false, false, false, false, false, false, false, false, false, false, false]) HE98 HS94 rfl (by kernel_rfl) (by kernel_rfl) (by kernel_rfl) (fun _ _ _ h => h) rfl (wt0 rfl) (x_nilCheck rfl) rfl rfl fun a_99 HE100 => ?_
      refine dr_take (i := 3) (ls' := #[true, true, true, true, false, false, false, false, false, false, false, false, false, false, false, false, false, false, false, false, false, false, false, false, false, false, false, false, false, false, false, false, false, false, false, false, false]) HE100 HS94 rfl (by kernel_rfl) (by kernel_rfl) (by kernel_rfl) (fun _ _ _ h => h) rfl (wt0 rfl) (x_fieldAddr fa_123_0 rfl) rfl rfl fun a_101 HE102 => ?_
      refine dr_take (i := 4) (ls' := #[true, true, true, true, true, false, false, false, false, false, false, false, false, false, false, false, false, false, false, false, false, false, false, false, false, false, false, false, false, false, false, false, false, false, false, false, false]) HE102 HS94 rfl (by kernel_rfl) (by kernel_rfl) (by kernel_rfl) (fun _ _ _ h => h) rfl (wt0 rfl) (x_load1 tv_2 rfl (c_old (De26 0 _ rfl))) rfl rfl fun a_103 HE104 => ?_
      refine dr_take (i := 8) (ls' := #[true, true, true, true, true, false, false, false, true, false, false, false, false, false, false, false, false, false, false, false, false, false, false, false, false, false, false, false, false, false, false, false, false, false, false, false, false]) HE104 HS94 rfl (by kernel_rfl) (by kernel_rfl) (by kernel_rfl) (fun _ _ _ h => h) rfl (wt0 rfl) (x_move rfl) rfl rfl fun a_105 HE106 => ?_
      refine dr_take (i := 9) (ls' := #[true, true, true, true, true, false, false, false, true, true, false, false, false, false, false, false, false, false, false, false, false, false, false, false, false, false, false, false, false, false, false, false, false, false, false, false, false]) HE106 HS94 rfl (by kernel_rfl) (by kernel_rfl) (by kernel_rfl) (fun _ _ _ h => h) rfl (wt0 rfl) (x_nilCheck rfl) rfl rfl fun a_107 HE108 => ?_
      refine dr_take (i := 10) (ls' := #[true, true, true, true, true, false, false, false, true, true, true, false, false, false, false, false, false, false, false, false, false, false, false, false, false, false, false, false, false, false, false, false, false, false, false, false, false]) HE108 HS94 rfl (by kernel_rfl) (by kernel_rfl) (by kernel_rfl) (fun _ _ _ h => h) rfl (wt0 rfl) (x_fieldAddr fa_123_1 rfl) rfl rfl fun a_109 HE110 => ?_
      refine dr_take (i := 11) (ls' := #[true, true, true, true, true, false, false, false, true, true, true, true, false, false, false, false, false, false, false, false, false, false, false, false, false, false, false, false, false, false, false, false, false, false, false, false, false]) HE110 HS94 rfl (by kernel_rfl) (by kernel_rfl) (by kernel_rfl) (fun _ _ _ h => h) rfl (wt0 rfl) (x_load1 tv_25 rfl (c_old (De26 1 _ rfl))) rfl rfl fun a_111 HE112 => ?_
      refine dr_take (i := 15) (ls' := #[true, true, true, true, true, false, false, false, true, true, true, true, false, false, false, true, false, false, false, false, false, false, false, false, false, false, false, false, false, false, false, false, false, false, false, false, false]) HE112 HS94 rfl (by kernel_rfl) (by kernel_rfl) (by kernel_rfl) (fun _ _ _ h => h) rfl (wt0 rfl) (x_move rfl) rfl rfl fun a_113 HE114 => ?_
      refine dr_take (i := 16) (ls' := #[true, true, true, true, true, false, false, false, true, true, true, true, false, false, false, true, true, false, false, false, false, false, false, false, false, false, false, false, false, false, false, false, false, false, false, false, false]) HE114 HS94 rfl (by kernel_rfl) (by kernel_rfl) (by kernel_rfl) (fun _ _ _ h => h) rfl (wt0 rfl) (x_nilCheck rfl) rfl rfl fun a_115 HE116 => ?_
      refine dr_take (i := 17) (ls' := #[true, true, true, true, true, false, false, false, true, true, true, true, false, false, false, true, true, true, false, false, false, false, false, false, false, false, false, false, false, false, false, false, false, false, false, false, false]) HE116 HS94 rfl (by kernel_rfl) (by kernel_rfl) (by kernel_rfl) (fun _ _ _ h => h) rfl (wt0 rfl) (x_fieldAddr fa_123_2 rfl) rfl rfl fun a_117 HE118 => ?_
      refine dr_take (i := 18) (ls' := #[true, true, true, true, true, false, false, false, true, true, true, true, false, false, false, true, true, true, true, false, false, false, false, false, false, false, false, false, false, false, false, false, false, false, false, false, false]) HE118 HS94 rfl (by kernel_rfl) (by kernel_rfl) (by kernel_rfl) (fun _ _ _ h => h) rfl (wt0 rfl) (x_load1 tv_25 rfl (c_old (De26 2 _ rfl))) rfl rfl fun a_119 HE120 => ?_
      refine dr_take (i := 22) (ls' := #[true, true, true, true, true, false, false, false, true, true, true, true, false, false, false, true, true, true, true, false, false, false, true, false, false, false, false, false, false, false, false, false, false, false, false, false, false]) HE120 HS94 rfl (by kernel_rfl) (by kernel_rfl) (by kernel_rfl) (fun _ _ _ h => h) rfl (wt0 rfl) (x_move rfl) rfl rfl fun a_121 HE122 => ?_
      refine dr_take (i := 23) (ls' := #[true, true, true, true, true, false, false, false, true, true, true, true, false, false, false, true, true, true, true, false, false, false, true, true, false, false, false, false, false, false, false, false, false, false, false, false, false]) HE122 HS94 rfl (by kernel_rfl) (by kernel_rfl) (by kernel_rfl) (fun _ _ _ h => h) rfl (wt0 rfl) (x_nilCheck rfl) rfl rfl fun a_123 HE124 => ?_
      refine dr_take (i := 24) (ls' := #[true, true, true, true, true, false, false, false, true, true, true, true, false, false, false, true, true, true, true, false, false, false, true, true, true, false, false, false, false, false, false, false, false, false, false, false, false]) HE124 HS94 rfl (by kernel_rfl) (by kernel_rfl) (by kernel_rfl) (fun _ _ _ h => h) rfl (wt0 rfl) (x_fieldAddr fa_123_3 rfl) rfl rfl fun a_125 HE126 => ?_
      refine dr_take (i := 25) (ls' := #[true, true, true, true, true, false, false, false, true, true, true, true, false, false, false, true, true, true, true, false, false, false, true, true, true, true, false, false, false, false, false, false, false, false, false, false, false]) HE126 HS94 rfl (by kernel_rfl) (by kernel_rfl) (by kernel_rfl) (fun _ _ _ h => h) rfl (wt0 rfl) (x_load1 tv_25 rfl (c_old (De26 3 _ rfl))) rfl rfl fun a_127 HE128 => ?_
      refine dr_take (i := 29) (ls' := #[true, true, true, true, true, false, false, false, true, true, true, true, false, false, false, true, true, true, true, false, false, false, true, true, true, true, false, false, false, true, false, false, false, false, false, false, false]) HE128 HS94 rfl (by kernel_rfl) (by kernel_rfl) (by kernel_rfl) (fun _ _ _ h => h) rfl (wt0 rfl) (x_move rfl) rfl rfl fun a_129 HE130 => ?_
      refine dr_take (i := 30) (ls' := #[true, true, true, true, true, false, false, false, true, true, true, true, false, false, false, true, true, true, true, false, false, false, true, true, true, true, false, false, false, true, true, false, false, false, false, false, false]) HE130 HS94 rfl (by kernel_rfl) (by kernel_rfl) (by kernel_rfl) (fun _ _ _ h => h) rfl (wt0 rfl) (x_nilCheck rfl) rfl rfl fun a_131 HE132 => ?_
      refine dr_take (i := 31) (ls' := #[true, true, true, true, true, false, false, false, true, true, true, true, false, false, false, true, true, true, true, false, false, false, true, true, true, true, false, false, false, true, true, true, false, false, false, false, false]) HE132 HS94 rfl (by kernel_rfl) (by kernel_rfl) (by kernel_rfl) (fun _ _ _ h => h) rfl (wt0 rfl) (x_fieldAddr fa_123_4 rfl) rfl rfl fun a_133 HE134 => ?_
      refine dr_take (i := 32) (ls' := #[true, true, true, true, true, false, false, false, true, true, true, true, false, false, false, true, true, true, true, false, false, false, true, true, true, true, false, false, false, true, true, true, true, false, false, false, false]) HE134 HS94 rfl (by kernel_rfl) (by kernel_rfl) (by kernel_rfl) (fun _ _ _ h => h) rfl (wt0 rfl) (x_load1 tv_2 rfl (c_old (De26 4 _ rfl))) rfl rfl fun a_135 HE136 => ?_
      refine dr_one (i := 5) (ls' := #[true, true, true, true, true, true, false, false, true, true, true, true, false, false, false, true, true, true, true, false, false, false, true, true, true, true, false, false, false, true, true, true, true, false, false, false, false]) rfl (by kernel_rfl) rfl fun K_137 hK138 => ?_
      refine st_call HE136 (wt0 rfl) rfl rfl rfl en_148 rfl rfl (spec_l01Dec e26.1 _ (by omega)) fun e w' hr => ?_
      have hAr27_0 := itoa_len (n := e26.1) (by omega)
      obtain ⟨rfl, hbr27⟩ := hr
      have HH139 := HH93.on hbr27
      refine ⟨_, rfl, fun a_140 HE141 => hK138 _ _ (by exact HH139.sel [] (by decide) rfl) ?_⟩
      have HS142 := HH139.sel [] (by decide) rfl
      refine dr_take (i := 6) (ls' := #[true, true, true, true, true, true, true, false, true, true, true, true, false, false, false, true, true, true, true, false, false, false, true, true, true, true, false, false, false, true, true, true, true, false, false, false, false]) HE141 HS142 rfl (by kernel_rfl) (by kernel_rfl) (by kernel_rfl) (fun _ _ _ h => h) rfl (wt0 rfl) (x_sadd rfl rfl (by first | omega | (simp only [List.length_append, List.length_cons, List.length_nil]; omega) | (simp; omega))) rfl rfl fun a_143 HE144 => ?_
      refine dr_take (i := 7) (ls' := #[true, true, true, true, true, true, true, true, true, true, true, true, false, false, false, true, true, true, true, false, false, false, true, true, true, true, false, false, false, true, true, true, true, false, false, false, false]) HE144 HS142 rfl (by kernel_rfl) (by kernel_rfl) (by kernel_rfl) (fun _ _ _ h => h) rfl (wt0 rfl) (x_sadd rfl rfl (by first | omega | (simp only [List.length_append, List.length_cons, List.length_nil]; omega) | (simp; omega))) rfl rfl fun a_145 HE146 => ?_
      refine dr_one (i := 12) (ls' := #[true, true, true, true, true, true, true, true, true, true, true, true, true, false, false, true, true, true, true, false, false, false, true, true, true, true, false, false, false, true, true, true, true, false, false, false, false]) rfl (by kernel_rfl) rfl fun K_147 hK148 => ?_
      refine st_call HE146 (wt0 rfl) rfl rfl rfl en_149 rfl rfl (spec_l06Digits _ _ e26.2.1 _ (HH139.old ge26_1) (by assumption) (by omega)) fun e w' hr => ?_
      have hAr28_0 := digT_len e26.2.1
      obtain ⟨rfl, hbr28⟩ := hr
      have HH149 := HH139.on hbr28
      refine ⟨_, rfl, fun a_150 HE151 => hK148 _ _ (by exact HH149.sel [] (by decide) rfl) ?_⟩
      have HS152 := HH149.sel [] (by decide) rfl
      refine dr_take (i := 13) (ls' := #[true, true, true, true, true, true, true, true, true, true, true, true, true, true, false, true, true, true, true, false, false, false, true, true, true, true, false, false, false, true, true, true, true, false, false, false, false]) HE151 HS152 rfl (by kernel_rfl) (by kernel_rfl) (by kernel_rfl) (fun _ _ _ h => h) rfl (wt0 rfl) (x_sadd rfl rfl (by first | omega | (simp only [List.length_append, List.length_cons, List.length_nil]; omega) | (simp; omega))) rfl rfl fun a_153 HE154 => ?_
      refine dr_take (i := 14) (ls' := #[true, true, true, true, true, true, true, true, true, true, true, true, true, true, true, true, true, true, true, false, false, false, true, true, true, true, false, false, false, true, true, true, true, false, false, false, false]) HE154 HS152 rfl (by kernel_rfl) (by kernel_rfl) (by kernel_rfl) (fun _ _ _ h => h) rfl (wt0 rfl) (x_sadd rfl rfl (by first | omega | (simp only [List.length_append, List.length_cons, List.length_nil]; omega) | (simp; omega))) rfl rfl fun a_155 HE156 => ?_
      refine dr_one (i := 19) (ls' := #[true, true, true, true, true, true, true, true, true, true, true, true, true, true, true, true, true, true, true, true, false, false, true, true, true, true, false, false, false, true, true, true, true, false, false, false, false]) rfl (by kernel_rfl) rfl fun K_157 hK158 => ?_
      refine st_call HE156 (wt0 rfl) rfl rfl rfl en_149 rfl rfl (spec_l06Digits _ _ e26.2.2.1 _ (HH149.old ge26_2) (by assumption) (by omega)) fun e w' hr => ?_
      have hAr29_0 := digT_len e26.2.2.1
      obtain ⟨rfl, hbr29⟩ := hr
      have HH159 := HH149.on hbr29
      refine ⟨_, rfl, fun a_160 HE161 => hK158 _ _ (by exact HH159.sel [] (by decide) rfl) ?_⟩
      have HS162 := HH159.sel [] (by decide) rfl
      refine dr_take (i := 20) (ls' := #[true, true, true, true, true, true, true, true, true, true, true, true, true, true, true, true, true, true, true, true, true, false, true, true, true, true, false, false, false, true, true, true, true, false, false, false, false]) HE161 HS162 rfl (by kernel_rfl) (by kernel_rfl) (by kernel_rfl) (fun _ _ _ h => h) rfl (wt0 rfl) (x_sadd rfl rfl (by first | omega | (simp only [List.length_append, List.length_cons, List.length_nil]; omega) | (simp; omega))) rfl rfl fun a_163 HE164 => ?_
      refine dr_take (i := 21) (ls' := #[true, true, true, true, true, true, true, true, true, true, true, true, true, true, true, true, true, true, true, true, true, true, true, true, true, true, false, false, false, true, true, true, true, false, false, false, false]) HE164 HS162 rfl (by kernel_rfl) (by kernel_rfl) (by kernel_rfl) (fun _ _ _ h => h) rfl (wt0 rfl) (x_sadd rfl rfl (by first | omega | (simp only [List.length_append, List.length_cons, List.length_nil]; omega) | (simp; omega))) rfl rfl fun a_165 HE166 => ?_
      refine dr_one (i := 26) (ls' := #[true, true, true, true, true, true, true, true, true, true, true, true, true, true, true, true, true, true, true, true, true, true, true, true, true, true, true, false, false, true, true, true, true, false, false, false, false]) rfl (by kernel_rfl) rfl fun K_167 hK168 => ?_
      refine st_call HE166 (wt0 rfl) rfl rfl rfl en_150 rfl rfl (spec_l06Moves _ _ e26.2.2.2.1 _ (HH159.old ge26_3) (by assumption) (by omega)) fun e w' hr => ?_
      have hAr30_0 := movT_len e26.2.2.2.1
      obtain ⟨rfl, hbr30⟩ := hr
      have HH169 := HH159.on hbr30
      refine ⟨_, rfl, fun a_170 HE171 => hK168 _ _ (by exact HH169.sel [] (by decide) rfl) ?_⟩
      have HS172 := HH169.sel [] (by decide) rfl
      refine dr_take (i := 27) (ls' := #[true, true, true, true, true, true, true, true, true, true, true, true, true, true, true, true, true, true, true, true, true, true, true, true, true, true, true, true, false, true, true, true, true, false, false, false, false]) HE171 HS172 rfl (by kernel_rfl) (by kernel_rfl) (by kernel_rfl) (fun _ _ _ h => h) rfl (wt0 rfl) (x_sadd rfl rfl (by first | omega | (simp only [List.length_append, List.length_cons, List.length_nil]; omega) | (simp; omega))) rfl rfl fun a_173 HE174 => ?_
      refine dr_take (i := 28) (ls' := #[true, true, true, true, true, true, true, true, true, true, true, true, true, true, true, true, true, true, true, true, true, true, true, true, true, true, true, true, true, true, true, true, true, false, false, false, false]) HE174 HS172 rfl (by kernel_rfl) (by kernel_rfl) (by kernel_rfl) (fun _ _ _ h => h) rfl (wt0 rfl) (x_sadd rfl rfl (by first | omega | (simp only [List.length_append, List.length_cons, List.length_nil]; omega) | (simp; omega))) rfl rfl fun a_175 HE176 => ?_
      refine dr_one (i := 33) (ls' := #[true, true, true, true, true, true, true, true, true, true, true, true, true, true, true, true, true, true, true, true, true, true, true, true, true, true, true, true, true, true, true, true, true, true, false, false, false]) rfl (by kernel_rfl) rfl fun K_177 hK178 => ?_
      refine st_call HE176 (wt0 rfl) rfl rfl rfl en_148 rfl rfl (spec_l01Dec e26.2.2.2.2 _ (by omega)) fun e w' hr => ?_
      have hAr31_0 := itoa_len (n := e26.2.2.2.2) (by omega)
      obtain ⟨rfl, hbr31⟩ := hr
      have HH179 := HH169.on hbr31
      refine ⟨_, rfl, fun a_180 HE181 => hK178 _ _ (by exact HH179.sel [] (by decide) rfl) ?_⟩
      have HS182 := HH179.sel [] (by decide) rfl
      refine dr_take (i := 34) (ls' := #[true, true, true, true, true, true, true, true, true, true, true, true, true, true, true, true, true, true, true, true, true, true, true, true, true, true, true, true, true, true, true, true, true, true, true, false, false]) HE181 HS182 rfl (by kernel_rfl) (by kernel_rfl) (by kernel_rfl) (fun _ _ _ h => h) rfl (wt0 rfl) (x_sadd rfl rfl (by first | omega | (simp only [List.length_append, List.length_cons, List.length_nil]; omega) | (simp; omega))) rfl rfl fun a_183 HE184 => ?_
      refine dr_take (i := 35) (ls' := #[true, true, true, true, true, true, true, true, true, true, true, true, true, true, true, true, true, true, true, true, true, true, true, true, true, true, true, true, true, true, true, true, true, true, true, true, false]) HE184 HS182 rfl (by kernel_rfl) (by kernel_rfl) (by kernel_rfl) (fun _ _ _ h => h) rfl (wt0 rfl) (x_sadd rfl rfl (by first | omega | (simp only [List.length_append, List.length_cons, List.length_nil]; omega) | (simp; omega))) rfl rfl fun a_185 HE186 => ?_
      refine dr_take (i := 36) (ls' := #[true, true, true, true, true, true, true, true, true, true, true, true, true, true, true, true, true, true, true, true, true, true, true, true, true, true, true, true, true, true, true, true, true, true, true, true, true]) HE186 HS182 rfl (by kernel_rfl) (by kernel_rfl) (by kernel_rfl) (fun _ _ _ h => h) rfl (wt0 rfl) (x_assign rfl) rfl rfl fun a_187 HE188 => ?_
      refine dr_done (by kernel_rfl) ?_
      clear HH64 HS55 a_91 HE92 a_95 HE96 a_97 HE98 a_99 HE100 a_101 HE102 a_103 HE104 a_105 HE106 a_107 HE108 a_109 HE110 a_111 HE112 a_113 HE114 a_115 HE116 a_117 HE118 a_119 HE120 a_121 HE122 a_123 HE124 a_125 HE126 a_127 HE128 a_129 HE130 a_131 HE132 a_133 HE134 HH93 a_135 HE136 HS94 a_140 HE141 a_143 HE144 K_137 hK138 HH139 a_145 HE146 HS142 a_150 HE151 a_153 HE154 K_147 hK148 HH149 a_155 HE156 HS152 a_160 HE161 a_163 HE164 K_157 hK158 HH159 a_165 HE166 HS162 a_170 HE171 a_173 HE174 K_167 hK168 HH169 a_175 HE176 HS172 a_180 HE181 a_183 HE184 a_185 HE186 hK178 K_177
      refine blk_n ?_
      refine nrm ?_
      refine rg ?_
      refine pl_x HE188 HH179 (wt0 rfl) (x_move rfl) rfl rfl fun a_189 HE190 => ?_
      refine pl_x HE190 HH179 (wt0 rfl) (x_add rfl rfl (by exact ⟨by omega, by omega⟩)) rfl rfl fun a_191 HE192 => ?_
      refine pl_x HE192 HH179 (wt0 rfl) (x_assign rfl) rfl rfl fun a_193 HE194 => ?_
      refine wpList_nil ?_
      clear a_187 HE188 a_189 HE190 a_191 HE192
      exact nrm ⟨a0.2.2.2.length - (k + 1), (by omega), k + 1, rfl, HE194.sub ⟨(lkS rfl (by rw [jt_step _ _ (by omega), ← xe26]; simp [mrT, Go.Lib.join, List.intercalate])), (lkI rfl (by first | rfl | omega | (simp [p24_0, hc25, xe26]; done))), rfl, trivial⟩, (HH179.sel [] (by decide) rfl), (by first | omega | assumption | (simp; done) | simp_all)⟩
    · refine wp_exit ?_
      refine (thn_exit (thn_exit (blk_hit ?_)))
      refine nrm ?_
      refine wp_seq ?_
      refine rg ?_
      refine pl_x HE78 HH64 (wt0 rfl) (x_move rfl) rfl rfl fun a_195 HE196 => ?_
      refine pl_x HE196 HH64 (wt0 rfl) (x_assign rfl) rfl rfl fun a_197 HE198 => ?_
      refine wpList_nil ?_
      clear a_77 HE78 a_195 HE196
      refine nrm ?_
      refine wp_ret ?_
      refine ret1 HE198 rfl (rv_tmp rfl) ?_
      have hF : (multT a0) = (headT a0 ++ Go.Lib.joinTail [10] ((a0.2.2.2.take k).map mrT)) := by
        unfold multT; rw [List.take_of_length_le (by omega)]
      exact ⟨by first | (rw [hF] <;> rfl) | rfl | (rw [hF]; simp only [Ending.returned.injEq, Value.slice.injEq, true_and, and_true]; first | omega | (simp; done)) | (rw [hF]; simp; omega), HH64.below⟩

open Go.Lib in
def isDg (c : UInt8) : Bool := decide (48 ≤ c.toNat) && decide (c.toNat ≤ 57)

open Go.Lib in
def dgv (c : UInt8) : Nat := c.toNat - 48

open Go.Lib in
/-- What digits spell, on from acc. -/
def valD (acc : Nat) (l : List UInt8) : Nat := l.foldl (fun a c => a * 10 + dgv c) acc

open Go.Lib in
theorem valD_cons (acc : Nat) (c : UInt8) (r : List UInt8) : valD acc (c :: r) = valD (acc * 10 + dgv c) r := by unfold valD; rw [List.foldl_cons]

open Go.Lib in
theorem valD_nil (acc : Nat) : valD acc [] = acc := by unfold valD; rw [List.foldl_nil]

open Go.Lib in
theorem valD_snoc (l : List UInt8) (c : UInt8) (acc : Nat) : valD acc (l ++ [c]) = valD acc l * 10 + dgv c := by
  unfold valD; rw [List.foldl_append, List.foldl_cons, List.foldl_nil]

open Go.Lib in
theorem dgv_def (c : UInt8) : dgv c = c.toNat - 48 := rfl

open Go.Lib in
theorem valD_one (c : UInt8) : valD 0 [c] = c.toNat - 48 := by rw [valD_cons, valD_nil, dgv_def]; omega

open Go.Lib in
theorem valD_ge (l : List UInt8) : ∀ acc : Nat, acc ≤ valD acc l := by
  induction l with
  | nil => intro acc; rw [valD_nil]; exact Nat.le_refl _
  | cons c l ih => intro acc; rw [valD_cons]; exact Nat.le_trans (by omega) (ih _)

open Go.Lib in
theorem val_arith {a d p v : Nat} (hd : d ≤ 57) (h1 : v < (a * 10 + (d - 48) + 1) * p) : v < (a + 1) * (p * 10) := by
  refine Nat.lt_of_lt_of_le h1 ?_
  rw [Nat.mul_comm p 10, ← Nat.mul_assoc]
  exact Nat.mul_le_mul_right _ (by omega)

open Go.Lib in
theorem isDg_iff {c : UInt8} : isDg c = true ↔ 48 ≤ c.toNat ∧ c.toNat ≤ 57 := by unfold isDg; simp

open Go.Lib in
theorem valD_lt (l : List UInt8) : ∀ acc : Nat, l.all isDg = true → valD acc l < (acc + 1) * 10 ^ l.length := by
  induction l with
  | nil => intro acc _; rw [List.length_nil, Nat.pow_zero, Nat.mul_one, valD_nil]; exact Nat.lt_succ_self _
  | cons c l ih =>
    intro acc h
    rw [List.all_cons, Bool.and_eq_true] at h
    rw [List.length_cons, Nat.pow_succ, valD_cons]
    exact val_arith (isDg_iff.1 h.1).2 (ih _ h.2)

open Go.Lib in
theorem dec_val : ∀ (n : Nat) (l : List UInt8), l.length = n → l ≠ [] → l.all isDg = true → (l.head? = some 48 → l.length = 1) → decDigits (valD 0 l) = l
  | 0, l, hl, hn, _, _ => absurd (List.eq_nil_of_length_eq_zero hl) hn
  | n + 1, l, hl, hn, hd, h0 => by
    obtain ⟨q, c, rfl⟩ : ∃ q c, l = q ++ [c] := ⟨l.dropLast, l.getLast hn, (List.dropLast_concat_getLast hn).symm⟩
    rw [List.all_append, Bool.and_eq_true] at hd
    have hc : 48 ≤ c.toNat ∧ c.toNat ≤ 57 := by have := hd.2; rw [List.all_cons, List.all_nil, Bool.and_true] at this; exact isDg_iff.1 this
    have hcc : UInt8.ofNat (48 + (c.toNat - 48)) = c := by rw [show 48 + (c.toNat - 48) = c.toNat from by omega]; simp
    rw [valD_snoc, dgv_def]
    by_cases hq : q = []
    · subst hq
      have e0 : valD 0 ([] : List UInt8) * 10 + (c.toNat - 48) = c.toNat - 48 := by rw [valD_nil]; omega
      rw [e0, decDigits, dif_pos (by omega), hcc, List.nil_append]
    · have hq1 : q.head? ≠ some 48 := by
        intro e
        have := h0 (by cases q with | nil => exact absurd rfl hq | cons _ _ => simpa using e)
        rw [List.length_append] at this
        have : q.length = 0 := by simp at this; exact absurd this hq
        exact hq (List.eq_nil_of_length_eq_zero this)
      have ih := dec_val n q (by rw [List.length_append] at hl; simp at hl; omega) hq hd.1 (fun e => absurd e hq1)
      have hpos : 1 ≤ valD 0 q := by
        cases q with
        | nil => exact absurd rfl hq
        | cons d q =>
          have hd1 := hd.1
          rw [List.all_cons, Bool.and_eq_true] at hd1
          have hdd : 48 ≤ d.toNat ∧ d.toNat ≤ 57 := isDg_iff.1 hd1.1
          have hne : d ≠ 48 := fun e => hq1 (by rw [e]; rfl)
          have hne2 : d.toNat ≠ 48 := fun e => hne (UInt8.toNat_inj.1 e)
          rw [valD_cons, dgv_def]
          exact Nat.le_trans (by omega) (valD_ge q _)
      rw [decDigits, dif_neg (by omega), show (valD 0 q * 10 + (c.toNat - 48)) / 10 = valD 0 q from by omega, show (valD 0 q * 10 + (c.toNat - 48)) % 10 = c.toNat - 48 from by omega, ih, hcc]

open Go.Lib in
theorem dec_dig (n : Nat) : (decDigits n).all isDg = true ∧ decDigits n ≠ [] ∧ valD 0 (decDigits n) = n ∧ ((decDigits n).head? = some 48 → n = 0) := by
  induction n using Nat.strongRecOn with
  | _ n ih =>
    by_cases h : n < 10
    · rw [decDigits, dif_pos h]
      have e : (UInt8.ofNat (48 + n)).toNat = 48 + n := by simp; omega
      refine ⟨by rw [List.all_cons, List.all_nil, Bool.and_true]; exact isDg_iff.2 (by rw [e]; omega), by simp, by rw [valD_one, e]; omega, ?_⟩
      intro h2
      simp only [List.head?_cons, Option.some.injEq] at h2
      have := congrArg UInt8.toNat h2
      rw [e] at this
      have h3 : (48 : UInt8).toNat = 48 := rfl
      omega
    · obtain ⟨h1, h2, h3, h4⟩ := ih (n / 10) (by omega)
      rw [decDigits, dif_neg h]
      have e : (UInt8.ofNat (48 + n % 10)).toNat = 48 + n % 10 := by simp; omega
      refine ⟨by rw [List.all_append, h1, List.all_cons, List.all_nil, Bool.and_true, Bool.true_and]; exact isDg_iff.2 (by rw [e]; omega), by simp, by rw [valD_snoc, h3, dgv_def, e]; omega, ?_⟩
      intro h5
      have h6 : (decDigits (n / 10)).head? = some 48 := by
        cases hq : decDigits (n / 10) with
        | nil => exact absurd hq h2
        | cons a b => rw [hq] at h5; exact h5
      have := h4 h6
      omega

open Go.Lib in
theorem parse_dig (M : Nat) (l : List UInt8) : ∀ acc : Nat, l.all isDg = true → valD acc l ≤ M → valD acc l < 18446744073709551615 → parseUintM M acc l = .ok (valD acc l) := by
  induction l with
  | nil => intro acc _ _ _; rw [valD_nil, parseUintM]
  | cons c l ih =>
    intro acc h h1 h2
    rw [List.all_cons, Bool.and_eq_true] at h
    have hc := isDg_iff.1 h.1
    have hg := valD_ge l (acc * 10 + dgv c)
    rw [valD_cons] at h1 h2 ⊢
    have hd := dgv_def c
    rw [parseUintM, if_pos hc, ← hd, if_neg (by omega), if_neg (by omega)]
    exact ih _ h.2 h1 h2

open Go.Lib in
/-- The part of a numeral behind its sign. -/
def unsg (s : List UInt8) : List UInt8 := if s.head? = some 45 then s.tail else s

open Go.Lib in
/-- A numeral of at most 18 digits, in its one form. -/
def okNum (s : List UInt8) : Bool := decide (unsg s ≠ []) && decide ((unsg s).length ≤ 18) && (unsg s).all isDg && !(decide ((unsg s).head? = some 48) && decide (1 < s.length))

open Go.Lib in
def numOf (s : List UInt8) : Int := if s.head? = some 45 then -(valD 0 (unsg s) : Int) else (valD 0 (unsg s) : Int)

open Go.Lib in
def numC (s : List UInt8) : Int × Bool := if okNum s = true then (numOf s, true) else (0, false)

open Go.Lib in
/-- The program's way. -/
def numR (s : List UInt8) : Int × Bool :=
  match parseIntB 64 s with
  | .ok v => if itoa v = s ∧ (unsg s).length ≤ 18 then (v, true) else (0, false)
  | _ => (0, false)

open Go.Lib in
theorem okNum_iff (s : List UInt8) : okNum s = true ↔ unsg s ≠ [] ∧ (unsg s).length ≤ 18 ∧ (unsg s).all isDg = true ∧ ¬ ((unsg s).head? = some 48 ∧ 1 < s.length) := by
  unfold okNum
  simp only [Bool.and_eq_true, decide_eq_true_eq, Bool.not_eq_true', Bool.and_eq_false_iff, decide_eq_false_iff_not]
  constructor
  · rintro ⟨⟨⟨h1, h2⟩, h3⟩, h4⟩; exact ⟨h1, h2, h3, fun ⟨a, b⟩ => h4.elim (fun h => h a) (fun h => h b)⟩
  · rintro ⟨h1, h2, h3, h4⟩
    refine ⟨⟨⟨h1, h2⟩, h3⟩, ?_⟩
    by_cases a : (unsg s).head? = some 48
    · exact .inr fun b => h4 ⟨a, b⟩
    · exact .inl a

open Go.Lib in
theorem dig_head {l : List UInt8} (h : l.all isDg = true) : l.head? ≠ some 45 := by
  cases l with
  | nil => simp
  | cons c l =>
    rw [List.all_cons, Bool.and_eq_true] at h
    intro e
    simp only [List.head?_cons, Option.some.injEq] at e
    have := h.1
    rw [e] at this
    exact absurd this (by decide)

open Go.Lib in
/-- The one form of a number has it again. -/
theorem okNum_itoa {v : Int} (h : -1000000000000000000 < v ∧ v < 1000000000000000000) : okNum (itoa v) = true ∧ numOf (itoa v) = v := by
  have key : ∀ n : Nat, n < 1000000000000000000 → (decDigits n).length ≤ 18 := by
    intro n hn
    rw [decDigits_length]
    exact nDigits_le 17 n (by simpa using hn)
  by_cases hv : v < 0
  · obtain ⟨h1, h2, h3, h4⟩ := dec_dig v.natAbs
    have e : itoa v = 45 :: decDigits v.natAbs := by unfold itoa; rw [if_pos hv]
    rw [e]
    have eu : unsg (45 :: decDigits v.natAbs) = decDigits v.natAbs := rfl
    refine ⟨(okNum_iff _).2 ?_, ?_⟩
    · rw [eu]
      exact ⟨h2, key _ (by omega), h1, fun hq => by have := h4 hq.1; omega⟩
    · unfold numOf
      rw [eu, List.head?_cons, if_pos rfl, h3]; omega
  · obtain ⟨h1, h2, h3, h4⟩ := dec_dig v.toNat
    have e : itoa v = decDigits v.toNat := by unfold itoa; rw [if_neg hv]
    rw [e]
    have eu : unsg (decDigits v.toNat) = decDigits v.toNat := by unfold unsg; rw [if_neg (dig_head h1)]
    refine ⟨(okNum_iff _).2 ?_, ?_⟩
    · rw [eu]
      refine ⟨h2, key _ (by omega), h1, fun hq => ?_⟩
      have h5 := h4 hq.1
      rw [h5] at hq
      rw [decDigits, dif_pos (by omega)] at hq
      exact absurd hq.2 (by simp)
    · unfold numOf
      rw [eu, if_neg (dig_head h1), h3]; omega

open Go.Lib in
theorem itoa_num {s : List UInt8} (h : okNum s = true) : itoa (numOf s) = s ∧ -1000000000000000000 < numOf s ∧ numOf s < 1000000000000000000 := by
  obtain ⟨h1, h2, h3, h4⟩ := (okNum_iff s).1 h
  have hb := valD_lt (unsg s) 0 h3
  have hb2 : valD 0 (unsg s) < 1000000000000000000 := by
    refine Nat.lt_of_lt_of_le hb ?_
    have := Nat.pow_le_pow_right (n := 10) (by omega) h2
    omega
  by_cases hs : s.head? = some 45
  · have eu : unsg s = s.tail := by unfold unsg; rw [if_pos hs]
    have es : s = 45 :: s.tail := by cases s with | nil => cases hs | cons c r => simp at hs; rw [hs]; rfl
    have hl : 1 < s.length := by rw [es]; rw [eu] at h1; cases hq : s.tail with | nil => exact absurd hq h1 | cons _ _ => simp
    have hne : ¬ (unsg s).head? = some 48 := fun e => h4 ⟨e, hl⟩
    have hd := dec_val _ (unsg s) rfl h1 h3 (fun e => absurd e hne)
    have hpos : valD 0 (unsg s) ≠ 0 := by
      intro e0
      rw [e0] at hd
      have : decDigits 0 = [48] := by rw [decDigits, dif_pos (by omega)]; rfl
      rw [this] at hd
      exact hne (by rw [← hd]; rfl)
    unfold numOf
    rw [if_pos hs]
    refine ⟨?_, by omega, by omega⟩
    unfold itoa
    rw [if_pos (by omega), show (-(valD 0 (unsg s) : Int)).natAbs = valD 0 (unsg s) from by omega, hd, eu]
    exact es.symm
  · have eu : unsg s = s := by unfold unsg; rw [if_neg hs]
    have hd := dec_val _ (unsg s) rfl h1 h3 (fun e => by
      rw [eu] at e ⊢
      rcases Nat.lt_or_ge 1 s.length with hl | hl
      · exact absurd ⟨by rw [eu]; exact e, hl⟩ h4
      · have : s.length ≠ 0 := fun e0 => h1 (by rw [eu]; exact List.eq_nil_of_length_eq_zero e0)
        omega)
    unfold numOf
    rw [if_neg hs]
    refine ⟨?_, by omega, by omega⟩
    unfold itoa
    rw [if_neg (by omega), Int.toNat_natCast, hd, eu]

open Go.Lib in
theorem parse_num {s : List UInt8} (h : okNum s = true) : parseIntB 64 s = .ok (numOf s) := by
  obtain ⟨h1, h2, h3, h4⟩ := (okNum_iff s).1 h
  have hb := valD_lt (unsg s) 0 h3
  have hb2 : valD 0 (unsg s) < 1000000000000000000 := by
    refine Nat.lt_of_lt_of_le hb ?_
    have := Nat.pow_le_pow_right (n := 10) (by omega) h2
    omega
  have hp : parseUintB 64 (unsg s) = .ok (valD 0 (unsg s)) := by
    unfold parseUintB
    rw [if_neg h1]
    exact parse_dig _ _ 0 h3 (by omega) (by omega)
  by_cases hs : s.head? = some 45
  · have eu : unsg s = s.tail := by unfold unsg; rw [if_pos hs]
    have es : s = 45 :: s.tail := by cases s with | nil => cases hs | cons c r => simp at hs; rw [hs]; rfl
    rw [eu] at hp hb2
    unfold numOf
    rw [if_pos hs, eu]
    conv => lhs; rw [es]
    rw [parseIntB_minus, hp, signedC, if_neg (by omega)]
  · have eu : unsg s = s := by unfold unsg; rw [if_neg hs]
    rw [eu] at hp hb2 h1 h3
    unfold numOf
    rw [if_neg hs, eu]
    cases s with
    | nil => exact absurd rfl h1
    | cons c r =>
      rw [List.all_cons, Bool.and_eq_true] at h3
      have hc : 48 ≤ c.toNat ∧ c.toNat ≤ 57 := isDg_iff.1 h3.1
      rw [parseIntB_plain 64 c r (by omega) (by omega), hp, signlessC, if_neg (by omega)]

open Go.Lib in
theorem numR_eq (s : List UInt8) : numR s = numC s := by
  unfold numC
  by_cases h : okNum s = true
  · rw [if_pos h]
    unfold numR
    rw [parse_num h]
    exact if_pos ⟨(itoa_num h).1, ((okNum_iff s).1 h).2.1⟩
  · rw [if_neg h]
    unfold numR
    split
    · rename_i v hv
      rw [if_neg]
      rintro ⟨h1, h2⟩
      have hb := parseIntB_bounds hv
      apply h
      have hsm : -1000000000000000000 < v ∧ v < 1000000000000000000 := by
        have hk : ∀ n : Nat, (decDigits n).length ≤ 18 → n < 1000000000000000000 := by
          intro n hn
          rw [decDigits_length] at hn
          have := lt_pow_nDigits n
          have h5 := Nat.pow_le_pow_right (n := 10) (by omega) hn
          omega
        by_cases hv0 : v < 0
        · have e : itoa v = 45 :: decDigits v.natAbs := by unfold itoa; rw [if_pos hv0]
          have : unsg s = decDigits v.natAbs := by rw [← h1, e]; rfl
          rw [this] at h2
          have := hk _ h2
          omega
        · have e : itoa v = decDigits v.toNat := by unfold itoa; rw [if_neg hv0]
          have : unsg s = decDigits v.toNat := by rw [← h1, e]; unfold unsg; rw [if_neg (dig_head (dec_dig _).1)]
          rw [this] at h2
          have := hk _ h2
          omega
      rw [← h1]
      exact (okNum_itoa hsm).1
    · rfl

open Go.Lib in
/-- A text divided at each byte c. -/
def splitR (c : UInt8) : List UInt8 → List (List UInt8)
  | [] => [[]]
  | b :: l => if b = c then [] :: splitR c l else match splitR c l with
    | p :: r => (b :: p) :: r
    | [] => [[b]]

open Go.Lib in
theorem splitR_nil (c : UInt8) : splitR c [] = [[]] := by rw [splitR]

open Go.Lib in
theorem splitR_eq (c : UInt8) (l : List UInt8) : splitR c (c :: l) = [] :: splitR c l := by rw [splitR, if_pos rfl]

open Go.Lib in
theorem splitR_ne {b c : UInt8} (h : ¬ b = c) {l p : List UInt8} {r : List (List UInt8)} (e : splitR c l = p :: r) : splitR c (b :: l) = (b :: p) :: r := by rw [splitR, if_neg h, e]

open Go.Lib in
theorem splitR_some (c : UInt8) (l : List UInt8) : ∃ p r, splitR c l = p :: r := by
  cases l with
  | nil => exact ⟨_, _, splitR_nil c⟩
  | cons b l =>
    by_cases h : b = c
    · subst h; exact ⟨_, _, splitR_eq b l⟩
    · rw [splitR, if_neg h]
      split
      · exact ⟨_, _, rfl⟩
      · exact ⟨_, _, rfl⟩

open Go.Lib in
theorem index_one_ne {b c : UInt8} (l : List UInt8) (h : ¬ b = c) : index (b :: l) [c] = if index l [c] == -1 then -1 else index l [c] + 1 := by
  have hp : ([c] : List UInt8).isPrefixOf (b :: l) = false := by simp [List.isPrefixOf]; exact fun e => h e.symm
  rw [index, hp]; simp

open Go.Lib in
theorem index_one_eq (c : UInt8) (l : List UInt8) : index (c :: l) [c] = 0 := by rw [index]; simp [List.isPrefixOf]

open Go.Lib in
theorem split_one (c : UInt8) : ∀ s : List UInt8, splitK [c] 0 (count s [c]) s = splitR c s
  | [] => by rw [count_miss (by simp [index]), splitR_nil]; rfl
  | b :: l => by
    have ih := split_one c l
    by_cases h : b = c
    · subst h
      rw [count_cons_eq, Nat.add_comm, splitK, if_neg (by rw [index_one_eq]; decide), index_one_eq, splitR_eq, ← ih]
      simp
    · rw [count_cons_ne b c l h]
      cases hk : count l [c] with
      | zero =>
        rw [hk] at ih
        have e : splitR c l = l :: [] := by rw [← ih]; rfl
        rw [splitR_ne h e]; rfl
      | succ k =>
        rw [hk] at ih
        obtain ⟨j, hj⟩ := index_of_count (s := l) (old := [c]) (by omega)
        have hm : ¬ (index l [c] == -1) = true := by rw [hj]; intro e; have := beq_iff_eq.1 e; omega
        rw [splitK, if_neg hm, hj] at ih
        have hj2 : index (b :: l) [c] = ((j + 1 : Nat) : Int) := by rw [index_one_ne l h, if_neg hm, hj]; omega
        rw [splitR_ne h ih.symm, splitK, if_neg (by rw [hj2]; intro e; have := beq_iff_eq.1 e; omega), hj2]
        simp

open Go.Lib in
theorem splitR_no {c : UInt8} : ∀ {l : List UInt8}, c ∉ l → splitR c l = [l]
  | [], _ => splitR_nil c
  | b :: l, h => by
    have h1 := splitR_no (c := c) (l := l) fun hm => h (List.mem_cons_of_mem _ hm)
    exact splitR_ne (fun e => h (by rw [e]; exact List.mem_cons_self)) h1

open Go.Lib in
theorem splitR_app {c : UInt8} {r : List UInt8} : ∀ {p : List UInt8}, c ∉ p → splitR c (p ++ c :: r) = p :: splitR c r
  | [], _ => splitR_eq c r
  | b :: l, h => splitR_ne (fun e => h (by rw [e]; exact List.mem_cons_self)) (splitR_app (p := l) fun hm => h (List.mem_cons_of_mem _ hm))

open Go.Lib in
/-- Pieces without c, joined by c, are divided into themselves. -/
theorem splitR_join {c : UInt8} {x : List UInt8} : ∀ {r : List (List UInt8)}, (∀ p ∈ x :: r, c ∉ p) → splitR c (join (x :: r) [c]) = x :: r
  | [], h => by rw [join_one]; exact splitR_no (h x (by simp))
  | y :: r, h => by
    have ih := splitR_join (x := y) (r := r) fun p hp => h p (List.mem_cons_of_mem _ hp)
    have e : join (x :: y :: r) [c] = x ++ c :: join (y :: r) [c] := by rw [join_cons, join_cons]; simp [joinTail]
    rw [e, splitR_app (h x (by simp)), ih]

open Go.Lib in
theorem splitR_len (c : UInt8) : ∀ l : List UInt8, (splitR c l).length ≤ l.length + 1 ∧ 1 ≤ (splitR c l).length
  | [] => by rw [splitR_nil]; simp
  | b :: l => by
    obtain ⟨h1, h2⟩ := splitR_len c l
    obtain ⟨p, r, e⟩ := splitR_some c l
    by_cases h : b = c
    · subst h; rw [splitR_eq]; simp only [List.length_cons]; omega
    · rw [splitR_ne h e]; rw [e] at h1 h2; simp only [List.length_cons] at h1 h2 ⊢; omega

open Go.Lib in
theorem splitR_piece (c : UInt8) : ∀ (l : List UInt8), ∀ p ∈ splitR c l, p.length ≤ l.length
  | [], p, hp => by rw [splitR_nil] at hp; rw [List.mem_singleton.1 hp]; simp
  | b :: l, p, hp => by
    obtain ⟨q, r, e⟩ := splitR_some c l
    by_cases h : b = c
    · subst h
      rw [splitR_eq] at hp
      rcases List.mem_cons.1 hp with rfl | hp
      · simp
      · have := splitR_piece b l p hp; simp only [List.length_cons]; omega
    · rw [splitR_ne h e] at hp
      rcases List.mem_cons.1 hp with rfl | hp
      · have := splitR_piece c l q (by rw [e]; simp); simp only [List.length_cons]; omega
      · have := splitR_piece c l p (by rw [e]; exact List.mem_cons_of_mem _ hp); simp only [List.length_cons]; omega

open Go.Lib in
def IfVar (w : World) (n : String) : Prop := ∃ tp p, w.var? Tryz.prog n = some #[.iface tp p]

open Go.Lib in
def MaxAt (w : World) : Prop := ∃ m, w.cell? ⟨0, 0, none⟩ = some (.int .i64 m)

open Go.Lib in
/-- What the library's readers look up. -/
def Glob2 (w : World) : Prop := Glob w ∧ (IfVar w "strconv.ErrSyntax" ∧ IfVar w "strconv.ErrRange") ∧ MaxAt w

open Go.Lib in
theorem synNum : Tryz.prog.globalNamed "strconv.ErrSyntax" = some 1 := by kernel_rfl

open Go.Lib in
theorem rngNum : Tryz.prog.globalNamed "strconv.ErrRange" = some 2 := by kernel_rfl

open Go.Lib in
theorem ifvar_below {w w' : World} {n : String} {g : Nat} (hg : Tryz.prog.globalNamed n = some g) (h : IfVar w n) (hb : Below w.heap.size w w') : IfVar w' n := by
  obtain ⟨tp, p, h⟩ := h
  refine ⟨tp, p, ?_⟩
  unfold World.var? at h ⊢
  rw [hg] at h ⊢
  simp only [Option.bind_some] at h ⊢
  have hlt : g < w.heap.size := by
    rcases Nat.lt_or_ge g w.heap.size with hlt | hge
    · exact hlt
    · rw [Array.getElem?_eq_none hge] at h; cases h
  rw [hb.block g hlt]
  exact h

open Go.Lib in
theorem max_below {w w' : World} (h : MaxAt w) (hb : Below w.heap.size w w') : MaxAt w' := by
  obtain ⟨m, h⟩ := h
  refine ⟨m, ?_⟩
  unfold World.cell? at h ⊢
  have hlt : 0 < w.heap.size := by
    rcases Nat.lt_or_ge 0 w.heap.size with hlt | hge
    · exact hlt
    · rw [Array.getElem?_eq_none hge] at h; cases h
  rw [hb.block _ hlt]
  exact h

open Go.Lib in
theorem Held.glob2 {w0 w : World} {rs : List Res} (h : Held Nob w0 rs w) (hG : Glob2 w0) : Glob2 w := ⟨h.glob hG.1, ⟨ifvar_below synNum hG.2.1.1 h.below, ifvar_below rngNum hG.2.1.2 h.below⟩, max_below hG.2.2 h.below⟩

open Go.Lib in
def shelf_C174_ren : Go.Shelf.Ren := ⟨fun | 174 => 119 | 247 => 162 | 245 => 163 | 287 => 198 | 279 => 199 | 280 => 200 | 281 => 201 | 282 => 202 | 321 => 218 | 322 => 219 | 316 => 220 | 171 => 222 | 205 => 221 | 243 => 234 | 246 => 203 | 283 => 223 | 284 => 224 | 285 => 225 | 286 => 226 | 129 => 236 | 317 => 235 | 318 => 237 | 319 => 238 | 320 => 239 | 337 => 240 | 338 => 241 | n => n, fun | 9 => 9 | 3 => 3 | 2 => 2 | 75 => 144 | 85 => 145 | 4 => 4 | 167 => 215 | 5 => 5 | 53 => 216 | 175 => 217 | 46 => 210 | 168 => 219 | 37 => 22 | 0 => 0 | 210 => 240 | 21 => 21 | 127 => 231 | 145 => 254 | 143 => 252 | 171 => 243 | 173 => 246 | 212 => 256 | 51 => 234 | 20 => 20 | 213 => 257 | 232 => 264 | 233 => 265 | 80 => 205 | n => n, fun | 15 => 1 | 16 => 2 | 17 => 3 | 18 => 6 | 19 => 7 | n => n⟩

open Go.Lib in
theorem shelf_C174 : Go.Proofs.LaysC.n174 Tryz.prog shelf_C174_ren := {
  mixed := by kernel_rfl
  f129 := Tryz.func236.trans (congrArg some (by kernel_rfl))
  f171 := Tryz.func222.trans (congrArg some (by kernel_rfl))
  f174 := Tryz.func119.trans (congrArg some (by kernel_rfl))
  f205 := Tryz.func221.trans (congrArg some (by kernel_rfl))
  f243 := Tryz.func234.trans (congrArg some (by kernel_rfl))
  f245 := Tryz.func163.trans (congrArg some (by kernel_rfl))
  f246 := Tryz.func203.trans (congrArg some (by kernel_rfl))
  f247 := Tryz.func162.trans (congrArg some (by kernel_rfl))
  f279 := Tryz.func199.trans (congrArg some (by kernel_rfl))
  f280 := Tryz.func200.trans (congrArg some (by kernel_rfl))
  f281 := Tryz.func201.trans (congrArg some (by kernel_rfl))
  f282 := Tryz.func202.trans (congrArg some (by kernel_rfl))
  f283 := Tryz.func223.trans (congrArg some (by kernel_rfl))
  f284 := Tryz.func224.trans (congrArg some (by kernel_rfl))
  f285 := Tryz.func225.trans (congrArg some (by kernel_rfl))
  f286 := Tryz.func226.trans (congrArg some (by kernel_rfl))
  f287 := Tryz.func198.trans (congrArg some (by kernel_rfl))
  f316 := Tryz.func220.trans (congrArg some (by kernel_rfl))
  f317 := Tryz.func235.trans (congrArg some (by kernel_rfl))
  f318 := Tryz.func237.trans (congrArg some (by kernel_rfl))
  f319 := Tryz.func238.trans (congrArg some (by kernel_rfl))
  f320 := Tryz.func239.trans (congrArg some (by kernel_rfl))
  f321 := Tryz.func218.trans (congrArg some (by kernel_rfl))
  f322 := Tryz.func219.trans (congrArg some (by kernel_rfl))
  f337 := Tryz.func240.trans (congrArg some (by kernel_rfl))
  f338 := Tryz.func241.trans (congrArg some (by kernel_rfl))
  t0 := Tryz.underlying0
  a0 := Tryz.isAgg0
  z0 := Tryz.sizeOf0
  v0 := Tryz.zeroValue0
  t2 := Tryz.underlying2
  a2 := Tryz.isAgg2
  z2 := Tryz.sizeOf2
  v2 := Tryz.zeroValue2
  t3 := Tryz.underlying3
  a3 := Tryz.isAgg3
  z3 := Tryz.sizeOf3
  v3 := Tryz.zeroValue3
  t4 := Tryz.underlying4
  a4 := Tryz.isAgg4
  z4 := Tryz.sizeOf4
  v4 := Tryz.zeroValue4
  t5 := Tryz.underlying5
  a5 := Tryz.isAgg5
  z5 := Tryz.sizeOf5
  v5 := Tryz.zeroValue5
  t9 := Tryz.underlying9
  a9 := Tryz.isAgg9
  z9 := Tryz.sizeOf9
  v9 := Tryz.zeroValue9
  t20 := Tryz.underlying20
  a20 := Tryz.isAgg20
  z20 := Tryz.sizeOf20
  v20 := Tryz.zeroValue20
  t21 := Tryz.underlying21
  a21 := Tryz.isAgg21
  z21 := Tryz.sizeOf21
  v21 := Tryz.zeroValue21
  t37 := Tryz.underlying22
  a37 := Tryz.isAgg22
  z37 := Tryz.sizeOf22
  v37 := Tryz.zeroValue22
  t46 := Tryz.underlying210
  a46 := Tryz.isAgg210
  z46 := Tryz.sizeOf210
  v46 := Tryz.zeroValue210
  t51 := Tryz.underlying234
  a51 := Tryz.isAgg234
  z51 := Tryz.sizeOf234
  v51 := Tryz.zeroValue234
  t53 := Tryz.underlying216
  a53 := Tryz.isAgg216
  z53 := Tryz.sizeOf216
  v53 := Tryz.zeroValue216
  t75 := Tryz.underlying144
  a75 := Tryz.isAgg144
  z75 := Tryz.sizeOf144
  v75 := Tryz.zeroValue144
  t85 := Tryz.underlying145
  a85 := Tryz.isAgg145
  z85 := Tryz.sizeOf145
  v85 := Tryz.zeroValue145
  t127 := Tryz.underlying231
  a127 := Tryz.isAgg231
  z127 := Tryz.sizeOf231
  v127 := Tryz.zeroValue231
  t143 := Tryz.underlying252
  a143 := Tryz.isAgg252
  z143 := Tryz.sizeOf252
  v143 := Tryz.zeroValue252
  t145 := Tryz.underlying254
  a145 := Tryz.isAgg254
  z145 := Tryz.sizeOf254
  v145 := Tryz.zeroValue254
  t167 := Tryz.underlying215
  a167 := Tryz.isAgg215
  z167 := Tryz.sizeOf215
  v167 := Tryz.zeroValue215
  t168 := Tryz.underlying219
  a168 := Tryz.isAgg219
  z168 := Tryz.sizeOf219
  v168 := Tryz.zeroValue219
  t171 := Tryz.underlying243
  a171 := Tryz.isAgg243
  z171 := Tryz.sizeOf243
  v171 := Tryz.zeroValue243
  t173 := Tryz.underlying246
  a173 := Tryz.isAgg246
  z173 := Tryz.sizeOf246
  v173 := Tryz.zeroValue246
  t175 := Tryz.underlying217
  a175 := Tryz.isAgg217
  z175 := Tryz.sizeOf217
  v175 := Tryz.zeroValue217
  t210 := Tryz.underlying240
  a210 := Tryz.isAgg240
  z210 := Tryz.sizeOf240
  v210 := Tryz.zeroValue240
  t212 := Tryz.underlying256
  a212 := Tryz.isAgg256
  z212 := Tryz.sizeOf256
  v212 := Tryz.zeroValue256
  t213 := Tryz.underlying257
  a213 := Tryz.isAgg257
  z213 := Tryz.sizeOf257
  t232 := Tryz.underlying264
  a232 := Tryz.isAgg264
  z232 := Tryz.sizeOf264
  v232 := Tryz.zeroValue264
  t233 := Tryz.underlying265
  a233 := Tryz.isAgg265
  z233 := Tryz.sizeOf265
  v233 := Tryz.zeroValue265
  g15 := by kernel_rfl
  g16 := by kernel_rfl
  g17 := by kernel_rfl
  g18 := by kernel_rfl
  g19 := by kernel_rfl
  t80 := Tryz.underlying205
  a80 := Tryz.isAgg205
  z80 := Tryz.sizeOf205
  v80 := Tryz.zeroValue205
  i0 := by kernel_rfl
  i2 := by kernel_rfl
  i3 := by kernel_rfl
  i4 := by kernel_rfl
  i5 := by kernel_rfl
  i9 := by kernel_rfl
  i20 := by kernel_rfl
  i21 := by kernel_rfl
  i37 := by kernel_rfl
  i46 := by kernel_rfl
  i51 := by kernel_rfl
  i53 := by kernel_rfl
  i75 := by kernel_rfl
  i80 := by kernel_rfl
  i85 := by kernel_rfl
  i127 := by kernel_rfl
  i143 := by kernel_rfl
  i145 := by kernel_rfl
  i167 := by kernel_rfl
  i168 := by kernel_rfl
  i171 := by kernel_rfl
  i173 := by kernel_rfl
  i175 := by kernel_rfl
  i210 := by kernel_rfl
  i212 := by kernel_rfl
  i232 := by kernel_rfl
  i233 := by kernel_rfl
  m15 := by kernel_rfl
  m16 := by kernel_rfl
  m17 := by kernel_rfl
  m18 := by kernel_rfl
  m19 := by kernel_rfl
  c0 := by kernel_rfl
  c2 := by kernel_rfl
  c3 := by kernel_rfl
  c4 := by kernel_rfl
  c5 := by kernel_rfl
  c9 := by kernel_rfl
  c20 := by kernel_rfl
  c21 := by kernel_rfl
  c37 := by kernel_rfl
  c46 := by kernel_rfl
  c51 := by kernel_rfl
  c53 := by kernel_rfl
  c75 := by kernel_rfl
  c80 := by kernel_rfl
  c85 := by kernel_rfl
  c127 := by kernel_rfl
  c143 := by kernel_rfl
  c145 := by kernel_rfl
  c167 := by kernel_rfl
  c168 := by kernel_rfl
  c171 := by kernel_rfl
  c173 := by kernel_rfl
  c175 := by kernel_rfl
  c210 := by kernel_rfl
  c212 := by kernel_rfl
  c213 := by kernel_rfl
  c232 := by kernel_rfl
  c233 := by kernel_rfl }

open Go.Lib in
def shelf_146_ren : Go.Shelf.Ren := ⟨fun | 146 => 78 | 221 => 128 | 268 => 170 | 138 => 171 | 143 => 172 | 195 => 209 | 197 => 210 | 218 => 211 | 219 => 161 | 260 => 229 | 217 => 196 | 225 => 191 | 224 => 190 | 267 => 197 | 266 => 216 | 314 => 217 | n => n, fun | 9 => 9 | 31 => 78 | 3 => 3 | 4 => 4 | 0 => 0 | 105 => 228 | 21 => 21 | 5 => 5 | 46 => 210 | 119 => 259 | 139 => 262 | 138 => 261 | 146 => 235 | 51 => 234 | n => n, fun | 1 => 0 | 3 => 4 | 4 => 5 | n => n⟩

open Go.Lib in
theorem shelf_146 : Go.Proofs.Lays.n146 Tryz.prog shelf_146_ren := {
  mixed := by kernel_rfl
  f138 := Tryz.func171.trans (congrArg some (by kernel_rfl))
  f143 := Tryz.func172.trans (congrArg some (by kernel_rfl))
  f146 := Tryz.func78.trans (congrArg some (by kernel_rfl))
  f195 := Tryz.func209.trans (congrArg some (by kernel_rfl))
  f197 := Tryz.func210.trans (congrArg some (by kernel_rfl))
  f217 := Tryz.func196.trans (congrArg some (by kernel_rfl))
  f218 := Tryz.func211.trans (congrArg some (by kernel_rfl))
  f219 := Tryz.func161.trans (congrArg some (by kernel_rfl))
  f221 := Tryz.func128.trans (congrArg some (by kernel_rfl))
  f224 := Tryz.func190.trans (congrArg some (by kernel_rfl))
  f225 := Tryz.func191.trans (congrArg some (by kernel_rfl))
  f260 := Tryz.func229.trans (congrArg some (by kernel_rfl))
  f266 := Tryz.func216.trans (congrArg some (by kernel_rfl))
  f267 := Tryz.func197.trans (congrArg some (by kernel_rfl))
  f268 := Tryz.func170.trans (congrArg some (by kernel_rfl))
  f314 := Tryz.func217.trans (congrArg some (by kernel_rfl))
  t0 := Tryz.underlying0
  a0 := Tryz.isAgg0
  z0 := Tryz.sizeOf0
  v0 := Tryz.zeroValue0
  t3 := Tryz.underlying3
  a3 := Tryz.isAgg3
  z3 := Tryz.sizeOf3
  v3 := Tryz.zeroValue3
  t4 := Tryz.underlying4
  a4 := Tryz.isAgg4
  z4 := Tryz.sizeOf4
  v4 := Tryz.zeroValue4
  t5 := Tryz.underlying5
  a5 := Tryz.isAgg5
  z5 := Tryz.sizeOf5
  v5 := Tryz.zeroValue5
  t9 := Tryz.underlying9
  a9 := Tryz.isAgg9
  z9 := Tryz.sizeOf9
  v9 := Tryz.zeroValue9
  t21 := Tryz.underlying21
  a21 := Tryz.isAgg21
  z21 := Tryz.sizeOf21
  v21 := Tryz.zeroValue21
  t31 := Tryz.underlying78
  a31 := Tryz.isAgg78
  z31 := Tryz.sizeOf78
  v31 := Tryz.zeroValue78
  t46 := Tryz.underlying210
  a46 := Tryz.isAgg210
  z46 := Tryz.sizeOf210
  v46 := Tryz.zeroValue210
  t51 := Tryz.underlying234
  a51 := Tryz.isAgg234
  z51 := Tryz.sizeOf234
  v51 := Tryz.zeroValue234
  t105 := Tryz.underlying228
  a105 := Tryz.isAgg228
  z105 := Tryz.sizeOf228
  v105 := Tryz.zeroValue228
  t119 := Tryz.underlying259
  a119 := Tryz.isAgg259
  z119 := Tryz.sizeOf259
  t138 := Tryz.underlying261
  a138 := Tryz.isAgg261
  z138 := Tryz.sizeOf261
  v138 := Tryz.zeroValue261
  t139 := Tryz.underlying262
  a139 := Tryz.isAgg262
  z139 := Tryz.sizeOf262
  v139 := Tryz.zeroValue262
  t146 := Tryz.underlying235
  a146 := Tryz.isAgg235
  z146 := Tryz.sizeOf235
  v146 := Tryz.zeroValue235
  g1 := by kernel_rfl
  g3 := by kernel_rfl
  g4 := by kernel_rfl }

open Go.Lib in
def shelf_101_ren : Go.Shelf.Ren := ⟨fun | 101 => 121 | 208 => 165 | 206 => 204 | n => n, fun | 9 => 9 | 4 => 4 | 3 => 3 | n => n, fun | n => n⟩

open Go.Lib in
theorem shelf_101 : Go.Proofs.Lays.n101 Tryz.prog shelf_101_ren := {
  mixed := by kernel_rfl
  f101 := Tryz.func121.trans (congrArg some (by kernel_rfl))
  f206 := Tryz.func204.trans (congrArg some (by kernel_rfl))
  f208 := Tryz.func165.trans (congrArg some (by kernel_rfl))
  t3 := Tryz.underlying3
  a3 := Tryz.isAgg3
  z3 := Tryz.sizeOf3
  v3 := Tryz.zeroValue3
  t4 := Tryz.underlying4
  a4 := Tryz.isAgg4
  z4 := Tryz.sizeOf4
  v4 := Tryz.zeroValue4
  t9 := Tryz.underlying9
  a9 := Tryz.isAgg9
  z9 := Tryz.sizeOf9
  v9 := Tryz.zeroValue9 }

open Go.Lib in
/-- An error value that is nil or not. -/
def IsErr (v : Value) (b : Bool) : Prop := if b = true then ∃ t x, v = .iface t x else v = .nilIface

open Go.Lib in
theorem x_neqNil {P : Program} {S : World → Prop} {L : List (Nat × Value)} {d : Option Tmp} {t t' : TypeId} {x : Operand} {v : Value} {r : Bool} {ty : TypeId} {pos : String} {af : Array Edge} {g : Option (Nat × Bool)} (hv : IsErr v r) (hi : P.isIface t = true) (hx : ev L x = some v) : XS P S L ⟨d, .binOp .neq t x (.const .nilIface) t', ty, pos, af, g⟩ (.bool r) := fun _ a w hE _ => by
  have hn : a.eval (.const .nilIface) = Value.nilIface := rfl
  cases r with
  | true =>
    obtain ⟨u, y, rfl⟩ := hv
    have hg : (eqGuard .neq t x (.const .nilIface) (.iface u y) .nilIface).run P w = .ok () w := rfl
    simp only [execOp, hE.ev hx, hn, Sem.run_bind, hg, Result.andThen_ok, run_neq_iface_nil w t hi u y, Sem.run_pure]
  | false =>
    obtain rfl := hv
    have hg : (eqGuard .neq t x (.const .nilIface) .nilIface .nilIface).run P w = .ok () w := by
      cases x <;> rfl
    simp only [execOp, hE.ev hx, hn, Sem.run_bind, hg, Result.andThen_ok, run_neq_nil_nil_at w t hi, Sem.run_pure]

open Go.Lib in
def parI (s : List UInt8) : Int × Bool := match parseIntB 64 s with
  | .ok v => (v, false)
  | .range => (Go.Lib.intSat 64 s, true)
  | _ => (0, true)

open Go.Lib in
theorem bs_list (s : List UInt8) : (bs s).data.toList = s := by simp [bs]

open Go.Lib in
theorem ParseInt_64 (a0 : List UInt8) (a1 a2 : Int) (w : World) (hG : Glob2 w) (s0 : a0.length ≤ 1000000000) (s1 : a1 = 10) (s2 : a2 = 64) :
    Calls Tryz.prog 119 #[.string (bs a0), .int .i64 a1, .int .i64 a2] w fun e w' => ∃ er, e = .returned (.tuple #[.int .i64 (parI a0).1, er]) ∧ IsErr er (parI a0).2 ∧ Below w.heap.size w w' := by
  subst s1; subst s2
  have hz := bs_size a0
  have hl := bs_list a0
  cases hp : parseIntB 64 a0 with
  | ok v =>
    refine (show Calls Tryz.prog 119 #[.string (bs a0), .int .i64 10, .int .i64 64] w _ from Any.strconv_ParseInt_10_at64_ok shelf_C174 (bs a0) (by omega) v (by rw [hl]; exact hp) w).mono ?_
    rintro e w' ⟨rfl, h⟩
    unfold parI; rw [hp]
    refine ⟨_, rfl, rfl, ?_⟩
    rcases h with rfl | ⟨t, rfl⟩
    · exact Below.refl _ _
    · exact Go.Lib.bytesWorld_below _ _ _
  | range =>
    obtain ⟨tp, p, hv⟩ := hG.2.1.2
    refine (show Calls Tryz.prog 119 #[.string (bs a0), .int .i64 10, .int .i64 64] w _ from Any.strconv_ParseInt_10_at64_range_var shelf_C174 (bs a0) (by omega) (by rw [hl]; exact hp) tp p w hv).mono ?_
    rintro e w' ⟨N, rfl, _, _, h⟩
    unfold parI; rw [hp]
    rw [hl]
    exact ⟨_, rfl, ⟨_, _, rfl⟩, h⟩
  | _ =>
    obtain ⟨tp, p, hv⟩ := hG.2.1.1
    refine (show Calls Tryz.prog 119 #[.string (bs a0), .int .i64 10, .int .i64 64] w _ from Any.strconv_ParseInt_10_at64_syntax_var shelf_C174 (bs a0) (by omega) (by rw [hl]; exact hp) tp p w hv).mono ?_
    rintro e w' ⟨N, rfl, _, _, h⟩
    unfold parI; rw [hp]
    exact ⟨_, rfl, ⟨_, _, rfl⟩, h⟩

open Go.Lib in
theorem so_txt_alloc (w : World) (t : TypeId) (xs : List (List UInt8)) (h : ∀ x ∈ xs, x.length ≤ 9223372036854775807) (hl : xs.length ≤ 1000000000000) : So eTxt (w.alloc (.cells (xs.map fun x => Value.string (bs x)).toArray t)) (Fr w (w.alloc (.cells (xs.map fun x => Value.string (bs x)).toArray t))) (some ⟨w.heap.size, 0, none⟩) xs.length xs := by
  refine ⟨Nat.le_refl _, by unfold maxLen; omega, fun _ => ⟨w.heap.size, 0, t, (xs.map fun x => Value.string (bs x)).toArray, fun _ _ => False, rfl, ⟨Nat.le_refl _, by simp⟩, Blk.new _ _ _, fun _ _ h => h.elim, fun _ _ _ h => h.elim, fun i x hx => ⟨[.string (bs x)], ⟨rfl, h x (List.mem_of_getElem? hx)⟩, fun j v hj => ?_⟩⟩⟩
  match j, hj with
  | 0, hj =>
    simp only [List.getElem?_cons_zero, Option.some.injEq] at hj
    subst hj
    simp [eTxt, hx]

open Go.Lib in
theorem split_bs (c : UInt8) (s : List UInt8) : (splitB (bs [c]) 0 (countB (bs s) (bs [c])) (bs s)).map Value.string = (splitR c s).map fun x => Value.string (bs x) := by
  have h1 := splitB_data (bs [c]) 0 (countB (bs s) (bs [c])) (bs s)
  have h2 : countB (bs s) (bs [c]) = count s [c] := by unfold countB; rw [bs_list, bs_list]
  rw [bs_list, bs_list, h2, split_one] at h1
  rw [← h1, List.map_map, h2]
  exact List.map_congr_left fun x _ => by simp [bs_eta]

open Go.Lib in
theorem split_count (c : UInt8) (s : List UInt8) : countB (bs s) (bs [c]) + 1 = (splitR c s).length := by
  have h := congrArg List.length (split_bs c s)
  rw [List.length_map, List.length_map, splitB_all (bs [c]) (by rw [bs_size]; simp) 0 _ (bs s) rfl] at h
  exact h

open Go.Lib in
theorem Split_1 (a0 a1 : List UInt8) (c : UInt8) (w : World) (hG : Glob2 w) (s0 : a0.length ≤ 1000000000) (s1 : a1 = [c]) :
    Calls Tryz.prog 78 #[.string (bs a0), .string (bs a1)] w fun e w' => ∃ A' c', e = .returned (.slice A' (splitR c a0).length c') ∧ So eTxt w' (Fr w w') A' c' (splitR c a0) ∧ Below w.heap.size w w' := by
  subst s1
  have hz := bs_size a0
  have h1 := splitR_len c a0
  obtain ⟨m, hm⟩ := hG.2.2
  refine (show Calls Tryz.prog 78 #[.string (bs a0), .string (bs [c])] w _ from Any.strings_Split shelf_146 (by kernel_rfl) (bs a0) (bs [c]) m w (by omega) hm (by rw [bs_size]; simp)).mono ?_
  rintro e w' ⟨rfl, rfl⟩
  rw [split_bs, split_count]
  exact ⟨_, _, rfl, so_txt_alloc w _ _ (fun x hx => by have := splitR_piece c a0 x hx; omega) (by omega), (Below.refl _ w).alloc (Nat.le_refl _) _⟩

open Go.Lib in
theorem TrimMinus (a0 a1 : List UInt8) (w : World) (s1 : a1 = [45]) :
    Calls Tryz.prog 121 #[.string (bs a0), .string (bs a1)] w fun e w' => e = .returned (.string (bs (unsg a0))) ∧ Below w.heap.size w w' := by
  subst s1
  refine (show Calls Tryz.prog 121 #[.string (bs a0), .string (bs [45])] w _ from Any.strings_TrimPrefix shelf_101 (bs a0) (bs [45]) w).mono ?_
  rintro e w' ⟨rfl, rfl⟩
  refine ⟨?_, Below.refl _ _⟩
  rw [bs_list, bs_list]
  have : trimPrefix a0 [45] = unsg a0 := by
    unfold trimPrefix unsg
    cases a0 with
    | nil => simp [hasPrefix]
    | cons x r =>
      by_cases h : x = 45
      · subst h; simp [hasPrefix, List.isPrefixOf]
      · have h2 : ¬ (45 : UInt8) = x := fun e => h e.symm
        simp [hasPrefix, h, h2, List.isPrefixOf]
  rw [this]

open Go.Lib in
theorem unsg_len (s : List UInt8) : (unsg s).length ≤ s.length := by
  unfold unsg; split
  · simp
  · exact Nat.le_refl _

open Go.Lib in
theorem parI_bd {s : List UInt8} (h : (parI s).2 = false) : -9223372036854775808 ≤ (parI s).1 ∧ (parI s).1 ≤ 9223372036854775807 := by
  unfold parI at h ⊢
  cases hp : parseIntB 64 s with
  | ok v => have := parseIntB_bounds hp; rw [hp] at h; simp only; omega
  | _ => rw [hp] at h; exact absurd h (by simp)

open Go.Lib in
theorem numR_def (s : List UInt8) : numR s = if (parI s).2 = true then (0, false) else if Go.Lib.itoa (parI s).1 = s ∧ (unsg s).length ≤ 18 then ((parI s).1, true) else (0, false) := by
  unfold numR parI
  cases hp : parseIntB 64 s with
  | ok v => simp
  | _ => simp

open Go.Lib in
theorem numC_bd (s : List UInt8) : -1000000000000000000 < (numC s).1 ∧ (numC s).1 < 1000000000000000000 := by
  unfold numC
  split
  · rename_i h; exact (itoa_num h).2
  · decide

open Go.Lib in
theorem numR_bd (s : List UInt8) : -1000000000000000000 < (numR s).1 ∧ (numR s).1 < 1000000000000000000 := by rw [numR_eq]; exact numC_bd s

open Go.Lib in
/-- What the program looks through. -/
def lrs (s : List UInt8) : Prop := s = [76, 83, 82] ∨ s = [76, 82]

open Go.Lib in
theorem lrs_byte {s : List UInt8} (h : lrs s) : ∀ c ∈ s, c.toNat < 128 := by
  rcases h with rfl | rfl
  · decide
  · decide

open Go.Lib in
theorem lrs_rune {s : List UInt8} (h : lrs s) {p : Nat} (hp : p < s.length) : (rnA s p).1 < 128 ∧ (rnA s p).2 = 1 := by
  have hb := lrs_byte h s[p] (List.getElem_mem _)
  rw [rnA_one hp hb]
  exact ⟨hb, rfl⟩

open Go.Lib in
theorem lrs_len {s : List UInt8} (h : lrs s) : 2 ≤ s.length ∧ s.length ≤ 3 := by
  rcases h with rfl | rfl <;> simp

open Go.Lib in
theorem index_no {s : List UInt8} {c : UInt8} (h : c ∉ s) : indexByte s c = -1 := by
  induction s with
  | nil => rfl
  | cons b l ih =>
    have h1 := ih fun hm => h (List.mem_cons_of_mem _ hm)
    have h2 : ¬ b = c := fun e => h (by rw [e]; exact List.mem_cons_self)
    rw [indexByte]
    simp [h2, h1]

open Go.Lib in
def shelf_137_ren : Go.Shelf.Ren := ⟨fun | 137 => 188 | 217 => 196 | 266 => 216 | n => n, fun | 9 => 9 | 5 => 5 | 3 => 3 | n => n, fun | n => n⟩

open Go.Lib in
theorem shelf_137 : Go.Proofs.Lays.n137 Tryz.prog shelf_137_ren := {
  mixed := by kernel_rfl
  f137 := Tryz.func188.trans (congrArg some (by kernel_rfl))
  f217 := Tryz.func196.trans (congrArg some (by kernel_rfl))
  f266 := Tryz.func216.trans (congrArg some (by kernel_rfl))
  t3 := Tryz.underlying3
  a3 := Tryz.isAgg3
  z3 := Tryz.sizeOf3
  v3 := Tryz.zeroValue3
  t5 := Tryz.underlying5
  a5 := Tryz.isAgg5
  z5 := Tryz.sizeOf5
  v5 := Tryz.zeroValue5
  t9 := Tryz.underlying9
  a9 := Tryz.isAgg9
  z9 := Tryz.sizeOf9
  v9 := Tryz.zeroValue9 }

open Go.Lib in
def shelf_119_ren : Go.Shelf.Ren := ⟨fun | 119 => 189 | n => n, fun | 21 => 21 | 4 => 4 | n => n, fun | n => n⟩

open Go.Lib in
theorem shelf_119 : Go.Proofs.Lays.n119 Tryz.prog shelf_119_ren := {
  mixed := by kernel_rfl
  f119 := Tryz.func189.trans (congrArg some (by kernel_rfl))
  t4 := Tryz.underlying4
  a4 := Tryz.isAgg4
  z4 := Tryz.sizeOf4
  v4 := Tryz.zeroValue4
  t21 := Tryz.underlying21
  a21 := Tryz.isAgg21
  z21 := Tryz.sizeOf21
  v21 := Tryz.zeroValue21 }

open Go.Lib in
def shelf_152_ren : Go.Shelf.Ren := ⟨fun | 152 => 152 | 137 => 188 | 119 => 189 | 224 => 190 | 225 => 191 | 217 => 196 | 266 => 216 | n => n, fun | 9 => 9 | 21 => 21 | 3 => 3 | 4 => 4 | 5 => 5 | 0 => 0 | 46 => 210 | n => n, fun | n => n⟩

open Go.Lib in
theorem shelf_152 : Go.Proofs.Lays.n152 Tryz.prog shelf_152_ren := {
  mixed := by kernel_rfl
  f119 := Tryz.func189.trans (congrArg some (by kernel_rfl))
  f137 := Tryz.func188.trans (congrArg some (by kernel_rfl))
  f152 := Tryz.func152.trans (congrArg some (by kernel_rfl))
  f217 := Tryz.func196.trans (congrArg some (by kernel_rfl))
  f224 := Tryz.func190.trans (congrArg some (by kernel_rfl))
  f225 := Tryz.func191.trans (congrArg some (by kernel_rfl))
  f266 := Tryz.func216.trans (congrArg some (by kernel_rfl))
  t0 := Tryz.underlying0
  a0 := Tryz.isAgg0
  z0 := Tryz.sizeOf0
  v0 := Tryz.zeroValue0
  t3 := Tryz.underlying3
  a3 := Tryz.isAgg3
  z3 := Tryz.sizeOf3
  v3 := Tryz.zeroValue3
  t4 := Tryz.underlying4
  a4 := Tryz.isAgg4
  z4 := Tryz.sizeOf4
  v4 := Tryz.zeroValue4
  t5 := Tryz.underlying5
  a5 := Tryz.isAgg5
  z5 := Tryz.sizeOf5
  v5 := Tryz.zeroValue5
  t9 := Tryz.underlying9
  a9 := Tryz.isAgg9
  z9 := Tryz.sizeOf9
  v9 := Tryz.zeroValue9
  t21 := Tryz.underlying21
  a21 := Tryz.isAgg21
  z21 := Tryz.sizeOf21
  v21 := Tryz.zeroValue21
  t46 := Tryz.underlying210
  a46 := Tryz.isAgg210
  z46 := Tryz.sizeOf210
  v46 := Tryz.zeroValue210 }

open Go.Lib in
theorem IndexByte_no (s : List UInt8) (c : Int) (w : World) (h : UInt8.ofNat c.toNat ∉ s) : Calls Tryz.prog 188 #[.string (bs s), .int .u8 c] w fun e w' => e = .returned (.int .i64 (-1)) ∧ w = w' := by
  refine (Any.strings_IndexByte shelf_137 (bs s) c w).mono fun e w' ⟨he, hw⟩ => ⟨?_, hw.symm⟩
  rw [he, show (bs s).data.toList = s from by simp [bs], show c.toNat.toUInt8 = UInt8.ofNat c.toNat from rfl, index_no h]

open Go.Lib in
theorem valid_eq (r : Int) : Go.Lib.validRune r = Utf8.valid r := by
  unfold Go.Lib.validRune Utf8.valid
  rw [← Bool.coe_iff_coe]
  simp
  omega

open Go.Lib in
theorem ValidRune_r (r : Int) (w : World) : Calls Tryz.prog 189 #[.int .i32 r] w fun e w' => e = .returned (.bool (Utf8.valid r)) ∧ w = w' := by
  refine (Any.utf8_ValidRune shelf_119 r w).mono fun e w' ⟨he, hw⟩ => ⟨?_, hw.symm⟩
  rw [he, valid_eq]

open Go.Lib in
theorem not_big {s : List UInt8} (h : lrs s) {c : UInt8} (hc : 128 ≤ c.toNat) (k : Nat) : UInt8.ofNat ((c.toNat : Int)).toNat ∉ s.drop k := by
  intro hm
  have e : UInt8.ofNat ((c.toNat : Int)).toNat = c := by simp
  rw [e] at hm
  have := lrs_byte h c (List.mem_of_mem_drop hm)
  omega

open Go.Lib in
set_option maxRecDepth 100000 in
set_option maxHeartbeats 4000000 in
theorem IndexRune_hi (a0 : List UInt8) (a1 : Int) (w : World) (s0 : lrs a0) (s1 : 128 ≤ a1 ∧ a1 ≤ 1114111) :
    Calls Tryz.prog 152 #[.string (bs a0), .int .i32 a1] w fun e w' => e = .returned (.int .i64 (-1 : Int)) ∧ Below w.heap.size w w' := by
  have hL := lrs_len s0
  have HH1 := Held.start Nob w
  refine enter (n := 187) Tryz.func152 rfl rfl rfl fun a_2 HE3 => ?_
  refine wp_seq ?_
  refine rg ?_
  refine pl_x HE3 HH1 (wt0 rfl) (x_assign rfl) rfl rfl fun a_4 HE5 => ?_
  refine wpList_nil ?_
  clear a_2 HE3
  refine nrm ?_
  refine wp_block ?_
  refine wp_seq ?_
  refine rg ?_
  refine pl_x HE5 HH1 (wt0 rfl) (x_move rfl) rfl rfl fun a_6 HE7 => ?_
  refine pl_x HE7 HH1 (wt0 rfl) (x_leq rfl rfl) rfl rfl fun a_8 HE9 => ?_
  refine pl_x HE9 HH1 (wt0 rfl) (x_move rfl) rfl rfl fun a_10 HE11 => ?_
  by_cases hc21 : 0 ≤ a1
  · refine pl_x HE11 HH1 (wtT HE11 rfl rfl rfl (decide_eq_true hc21)) (x_move rfl) rfl rfl fun a_12 HE13 => ?_
    refine pl_x HE13 HH1 (wtT HE13 rfl rfl rfl (decide_eq_true hc21)) (x_lss rfl rfl) rfl rfl fun a_14 HE15 => ?_
    refine pl_x HE15 HH1 (wt0 rfl) (x_pickT rfl (decide_eq_true hc21) rfl) rfl rfl fun a_16 HE17 => ?_
    refine pl_x HE17 HH1 (wt0 rfl) (x_assign rfl) rfl rfl fun a_18 HE19 => ?_
    refine wpList_nil ?_
    clear a_4 HE5 a_6 HE7 a_8 HE9 a_10 HE11 a_12 HE13 a_14 HE15 a_16 HE17
    refine nrm ?_
    refine cnd_d HE19 rfl (fun hc22 => ?_) (fun hc22 => ?_)
    · omega
    · refine wp_seq ?_
      refine rg ?_
      refine pl_x HE19 HH1 (wt0 rfl) (x_move rfl) rfl rfl fun a_20 HE21 => ?_
      refine pl_x HE21 HH1 (wt0 rfl) (x_eql rfl rfl) rfl rfl fun a_22 HE23 => ?_
      refine pl_x HE23 HH1 (wt0 rfl) (x_assign rfl) rfl rfl fun a_24 HE25 => ?_
      refine wpList_nil ?_
      clear a_18 HE19 a_20 HE21 a_22 HE23
      refine nrm ?_
      refine cnd_e HE25 rfl (fun hc23 => ?_) (fun hc23 => ?_)
      · refine wp_seq ?_
        refine wp_seq ?_
        refine rg ?_
        refine pl_x HE25 HH1 (wt0 rfl) (x_move rfl) rfl rfl fun a_26 HE27 => ?_
        refine pl fun K_28 hK29 => ?_
        refine st_range HE27 HH1 Tryz.underlying9 rfl (wt0 rfl) rfl fun q24 a_30 w' HE31 HH32 => hK29 _ _ ?_
        refine wpList_nil ?_
        clear a_24 HE25 a_26 HE27 HH1 hK29 K_28
        refine nrm ?_
        refine wp_block ?_
        refine lp (fun m a w' => ∃ (p : Nat), m = a0.length - p ∧ Env 187 [(175, .pointer (some ⟨q24, 0, none⟩))] a ∧ Held Nob w [rIt q24 a0 p] w' ∧ (p ≤ a0.length)) (a0.length - (0)) ?_ ?_
        · exact ⟨0, rfl, HE31.sub ⟨rfl, trivial⟩, (HH32.sel [0] (by decide) rfl), (by first | omega | assumption | (simp; done) | simp_all)⟩
        · rintro m a_33 w' ⟨p, rfl, HE34, HH35, p25_0⟩
          refine wp_seq ?_
          refine rg ?_
          by_cases hc26 : p < List.length a0
          · refine pl fun K_36 hK37 => ?_
            refine st_nextT 0 HE34 HH35 rfl (of_decide_eq_true (decide_eq_true hc26)) rfl (wt0 rfl) rfl fun a_38 w' HE39 HH40 => hK37 _ _ ?_
            have rn27_0 := rnA_pos (of_decide_eq_true (decide_eq_true hc26))
            have rn27_1 := rnA_le (of_decide_eq_true (decide_eq_true hc26))
            have rn27_2 := rnA_top a0 p
            have hR := lrs_rune s0 (p := p) (by omega)
            obtain ⟨hR0, hR1⟩ := hR
            refine pl_x HE39 HH40 (wt0 rfl) (x_extract rfl rfl) rfl rfl fun a_41 HE42 => ?_
            refine wpList_nil ?_
            clear a_30 HE31 HH32 a_33 HE34 HH35 a_38 HE39 hK37 K_36
            refine nrm ?_
            refine wp_seq ?_
            refine cndT HE42 rfl rfl ?_
            refine wp_skip ?_
            refine nrm ?_
            refine wp_block ?_
            refine wp_seq ?_
            refine rg ?_
            refine pl_x HE42 HH40 (wt0 rfl) (x_extract rfl rfl) rfl rfl fun a_43 HE44 => ?_
            refine pl_x HE44 HH40 (wt0 rfl) (x_extract rfl rfl) rfl rfl fun a_45 HE46 => ?_
            refine pl_x HE46 HH40 (wt0 rfl) (x_assign rfl) rfl rfl fun a_47 HE48 => ?_
            refine pl_x HE48 HH40 (wt0 rfl) (x_assign rfl) rfl rfl fun a_49 HE50 => ?_
            refine wpList_nil ?_
            clear a_41 HE42 a_43 HE44 a_45 HE46 a_47 HE48
            refine nrm ?_
            refine wp_seq ?_
            refine rg ?_
            refine pl_x HE50 HH40 (wt0 rfl) (x_move rfl) rfl rfl fun a_51 HE52 => ?_
            refine pl_x HE52 HH40 (wt0 rfl) (x_eql rfl rfl) rfl rfl fun a_53 HE54 => ?_
            refine wpList_nil ?_
            clear a_49 HE50 a_51 HE52
            refine nrm ?_
            refine cnd_e HE54 rfl (fun hc28 => ?_) (fun hc28 => ?_)
            · omega
            · refine wp_skip ?_
              refine blk_n ?_
              have E29 : ((p + 1)) = (p + (rnA a0 p).2) := by first | rfl | omega
              exact nrm ⟨a0.length - ((p + 1)), (by omega), (p + 1), rfl, HE54.sub ⟨rfl, trivial⟩, ((HH40.sel [0] (by decide) rfl).to (by first | rfl | (rw [E29]; done) | (rw [E29]; rfl) | (simp only [E29]; done) | (simp only [E29]; rfl) | (rw [E29]; simp only [List.length_set]; done))), (by first | omega | assumption | (simp; done) | simp_all)⟩
          · refine pl fun K_55 hK56 => ?_
            refine st_nextF 0 HE34 HH35 rfl (of_decide_eq_false (decide_eq_false hc26)) rfl (wt0 rfl) rfl fun a_57 HE58 => hK56 _ _ ?_
            refine pl_x HE58 HH35 (wt0 rfl) (x_extract rfl rfl) rfl rfl fun a_59 HE60 => ?_
            refine wpList_nil ?_
            clear a_30 HE31 HH32 a_33 HE34 a_57 HE58 hK56 K_55
            refine nrm ?_
            refine wp_seq ?_
            refine cndF HE60 rfl rfl ?_
            refine wp_exit ?_
            refine (thn_exit (thn_exit (blk_hit ?_)))
            refine nrm ?_
            refine wp_seq ?_
            refine rg ?_
            refine pl_x HE60 HH35 (wt0 rfl) (x_assign rfl) rfl rfl fun a_61 HE62 => ?_
            refine wpList_nil ?_
            clear a_59 HE60
            refine nrm ?_
            refine wp_ret ?_
            refine (blk_ret ?_)
            refine ret1 HE62 rfl (rv_tmp rfl) ?_
            have hF : (-1 : Int) = -1 := by
              rfl
            exact ⟨by first | (rw [hF] <;> rfl) | rfl | (rw [hF]; simp only [Ending.returned.injEq, Value.slice.injEq, true_and, and_true]; first | omega | (simp; done)) | (rw [hF]; simp; omega), HH35.below⟩
      · refine wp_seq ?_
        refine rg ?_
        refine pl_x HE25 HH1 (wt0 rfl) (x_move rfl) rfl rfl fun a_63 HE64 => ?_
        refine pl fun K_65 hK66 => ?_
        refine st_call HE64 (wt0 rfl) rfl rfl rfl en_189 rfl rfl (ValidRune_r a1 _ ) fun e w' hr => ?_
        obtain ⟨rfl, rfl⟩ := hr
        refine ⟨_, rfl, fun a_67 HE68 => hK66 _ _ ?_⟩
        refine pl_x HE68 HH1 (wt0 rfl) (x_not rfl) rfl rfl fun a_69 HE70 => ?_
        refine pl_x HE70 HH1 (wt0 rfl) (x_assign rfl) rfl rfl fun a_71 HE72 => ?_
        refine wpList_nil ?_
        clear a_24 HE25 a_63 HE64 a_67 HE68 a_69 HE70 hK66 K_65
        refine nrm ?_
        refine cnd_nb HE72 rfl (fun hc31 => ?_) (fun hc31 => ?_)
        · refine wp_seq ?_
          refine rg ?_
          refine pl_x HE72 HH1 (wt0 rfl) (x_assign rfl) rfl rfl fun a_73 HE74 => ?_
          refine wpList_nil ?_
          clear a_71 HE72
          refine nrm ?_
          refine wp_ret ?_
          refine (blk_ret ?_)
          refine ret1 HE74 rfl (rv_tmp rfl) ?_
          have hF : (-1 : Int) = -1 := by
            rfl
          exact ⟨by first | (rw [hF] <;> rfl) | rfl | (rw [hF]; simp only [Ending.returned.injEq, Value.slice.injEq, true_and, and_true]; first | omega | (simp; done)) | (rw [hF]; simp; omega), HH1.below⟩
        · have hE := encR_facts hc31 (by omega)
          have hE0 := hE.1
          have hE1 := hE.2.1
          refine wp_scope_straight ?_
          refine wp_seq ?_
          refine rg ?_
          refine pl_x HE72 HH1 (wt0 rfl) (x_move rfl) rfl rfl fun a_75 HE76 => ?_
          refine pl_x HE76 HH1 (wt0 rfl) (x_convRS (by kernel_rfl) Tryz.underlying9 rfl) rfl rfl fun a_77 HE78 => ?_
          refine pl_x HE78 HH1 (wt0 rfl) (x_assign rfl) rfl rfl fun a_79 HE80 => ?_
          refine wpList_nil ?_
          clear a_71 HE72 a_75 HE76 a_77 HE78
          refine nrm ?_
          refine wp_seq ?_
          refine rg ?_
          refine pl_x HE80 HH1 (wt0 rfl) (x_move rfl) rfl rfl fun a_81 HE82 => ?_
          refine pl_x HE82 HH1 (wt0 rfl) (x_lenB Tryz.underlying9 rfl) rfl rfl fun a_83 HE84 => ?_
          refine pl_x HE84 HH1 (wt0 rfl) (x_sub rfl rfl (by exact ⟨by omega, by omega⟩)) rfl rfl fun a_85 HE86 => ?_
          refine pl_x HE86 HH1 (wt0 rfl) (x_assign rfl) rfl rfl fun a_87 HE88 => ?_
          refine wpList_nil ?_
          clear a_79 HE80 a_81 HE82 a_83 HE84 a_85 HE86
          refine nrm ?_
          refine wp_seq ?_
          refine rg ?_
          refine pl_x HE88 HH1 (wt0 rfl) (x_move rfl) rfl rfl fun a_89 HE90 => ?_
          refine pl_x HE90 HH1 (wt0 rfl) (x_assign rfl) rfl rfl fun a_91 HE92 => ?_
          refine wpList_nil ?_
          clear a_87 HE88 a_89 HE90
          refine nrm ?_
          refine wp_seq ?_
          refine rg ?_
          refine pl_x HE92 HH1 (wt0 rfl) (x_assign rfl) rfl rfl fun a_93 HE94 => ?_
          refine wpList_nil ?_
          clear a_91 HE92
          refine nrm ?_
          refine wp_seq ?_
          refine wp_block ?_
          refine lp (fun m a w' => ∃ (i : Nat), m = 0 + i ∧ Env 187 [(9, .int .i64 (i : Int)), (10, .int .i64 0), (0, .string (bs a0)), (7, .string (bs (encR a1))), (8, .int .i64 (((List.length (encR a1) : Int) - 1)))] a ∧ Held Nob w [] w' ∧ (i + 1 = List.length (encR a1))) (0 + ((List.length (encR a1) - 1))) ?_ ?_
          · exact ⟨(List.length (encR a1) - 1), rfl, HE94.sub ⟨(lkI rfl (by first | rfl | omega | (simp [hc21, hc22, hc23, hc31]; done))), rfl, rfl, rfl, rfl, trivial⟩, (HH1.sel [] (by decide) rfl), (by first | omega | assumption | (simp; done) | simp_all)⟩
          · rintro m a_95 w' ⟨i, rfl, HE96, HH97, p32_0⟩
            refine wp_seq ?_
            refine wp_seq ?_
            refine rg ?_
            refine pl_x HE96 HH97 (wt0 rfl) (x_move rfl) rfl rfl fun a_98 HE99 => ?_
            refine pl_x HE99 HH97 (wt0 rfl) (x_move rfl) rfl rfl fun a_100 HE101 => ?_
            refine pl_x HE101 HH97 (wt0 rfl) (x_lenB Tryz.underlying9 rfl) rfl rfl fun a_102 HE103 => ?_
            refine pl_x HE103 HH97 (wt0 rfl) (x_lss rfl rfl) rfl rfl fun a_104 HE105 => ?_
            refine wpList_nil ?_
            clear a_93 HE94 HH1 a_95 HE96 a_98 HE99 a_100 HE101 a_102 HE103
            refine nrm ?_
            refine cnd_d HE105 rfl (fun hc33 => ?_) (fun hc33 => ?_)
            · refine wp_skip ?_
              refine nrm ?_
              refine wp_block ?_
              refine wp_scope_straight ?_
              refine wp_seq ?_
              refine wp_seq ?_
              refine dr_start (Held Nob w []) 7 #[false, false, false, false, false, false, false] hmix rfl rfl HH97 (fun _ h => h.sel [] (by decide) rfl) fun w' HH106 => ?_
              have HS107 := HH106
              refine dr_take (i := 0) (ls' := #[true, false, false, false, false, false, false]) HE105 HS107 rfl (by kernel_rfl) (by kernel_rfl) (by kernel_rfl) (fun _ _ _ h => h) rfl (wt0 rfl) (x_move rfl) rfl rfl fun a_108 HE109 => ?_
              refine dr_take (i := 1) (ls' := #[true, true, false, false, false, false, false]) HE109 HS107 rfl (by kernel_rfl) (by kernel_rfl) (by kernel_rfl) (fun _ _ _ h => h) rfl (wt0 rfl) (x_move rfl) rfl rfl fun a_110 HE111 => ?_
              have ke34 : i < List.length a0 := by first | omega | (simp only [List.length_cons, List.length_nil]; omega)
              obtain ⟨e34, xe34⟩ : ∃ x_, x_ = a0[i] := ⟨_, rfl⟩
              have je34 : 0 ≤ (e34.toNat : Int) ∧ (e34.toNat : Int) ≤ 255 := by have := e34.toNat_lt; omega
              have hx0 := lrs_byte s0 e34 (by rw [xe34]; exact List.getElem_mem _)
              refine dr_take (i := 2) (ls' := #[true, true, true, false, false, false, false]) HE111 HS107 rfl (by kernel_rfl) (by kernel_rfl) (by kernel_rfl) (fun _ _ _ h => h) rfl (wt0 rfl) (x_idxB Tryz.underlying9 rfl rfl rfl ke34 xe34) rfl rfl fun a_112 HE113 => ?_
              refine dr_take (i := 3) (ls' := #[true, true, true, true, false, false, false]) HE113 HS107 rfl (by kernel_rfl) (by kernel_rfl) (by kernel_rfl) (fun _ _ _ h => h) rfl (wt0 rfl) (x_move rfl) rfl rfl fun a_114 HE115 => ?_
              refine dr_take (i := 4) (ls' := #[true, true, true, true, true, false, false]) HE115 HS107 rfl (by kernel_rfl) (by kernel_rfl) (by kernel_rfl) (fun _ _ _ h => h) rfl (wt0 rfl) (x_move rfl) rfl rfl fun a_116 HE117 => ?_
              have ke35 : (List.length (encR a1) - 1) < List.length (encR a1) := by first | omega | (simp only [List.length_cons, List.length_nil]; omega)
              obtain ⟨e35, xe35⟩ : ∃ x_, x_ = (encR a1)[(List.length (encR a1) - 1)] := ⟨_, rfl⟩
              have je35 : 0 ≤ (e35.toNat : Int) ∧ (e35.toNat : Int) ≤ 255 := by have := e35.toNat_lt; omega
              have hEn := hE.2.2 _ (by omega) (by rfl)
              rw [← xe35] at hEn
              refine dr_take (i := 5) (ls' := #[true, true, true, true, true, true, false]) HE117 HS107 rfl (by kernel_rfl) (by kernel_rfl) (by kernel_rfl) (fun _ _ _ h => h) rfl (wt0 rfl) (x_idxB Tryz.underlying9 rfl rfl (by omega) ke35 xe35) rfl rfl fun a_118 HE119 => ?_
              refine dr_take (i := 6) (ls' := #[true, true, true, true, true, true, true]) HE119 HS107 rfl (by kernel_rfl) (by kernel_rfl) (by kernel_rfl) (fun _ _ _ h => h) rfl (wt0 rfl) (x_neq rfl rfl) rfl rfl fun a_120 HE121 => ?_
              refine dr_done (by kernel_rfl) ?_
              clear HH97 a_104 HE105 a_108 HE109 a_110 HE111 a_112 HE113 a_114 HE115 a_116 HE117 a_118 HE119
              refine nrm ?_
              refine cnd_ne HE121 rfl (fun hc36 => ?_) (fun hc36 => ?_)
              · refine wp_seq ?_
                refine dr_start (Held Nob w []) 9 #[false, false, false, false, false, false, false, false, false] hmix rfl rfl HH106 (fun _ h => h.sel [] (by decide) rfl) fun w' HH122 => ?_
                have HS123 := HH122
                refine dr_take (i := 0) (ls' := #[true, false, false, false, false, false, false, false, false]) HE121 HS123 rfl (by kernel_rfl) (by kernel_rfl) (by kernel_rfl) (fun _ _ _ h => h) rfl (wt0 rfl) (x_move rfl) rfl rfl fun a_124 HE125 => ?_
                refine dr_take (i := 1) (ls' := #[true, true, false, false, false, false, false, false, false]) HE125 HS123 rfl (by kernel_rfl) (by kernel_rfl) (by kernel_rfl) (fun _ _ _ h => h) rfl (wt0 rfl) (x_move rfl) rfl rfl fun a_126 HE127 => ?_
                refine dr_take (i := 2) (ls' := #[true, true, true, false, false, false, false, false, false]) HE127 HS123 rfl (by kernel_rfl) (by kernel_rfl) (by kernel_rfl) (fun _ _ _ h => h) rfl (wt0 rfl) (x_add rfl rfl (by exact ⟨by omega, by omega⟩)) rfl rfl fun a_128 HE129 => ?_
                refine dr_take (i := 3) (ls' := #[true, true, true, true, false, false, false, false, false]) HE129 HS123 rfl (by kernel_rfl) (by kernel_rfl) (by kernel_rfl) (fun _ _ _ h => h) rfl (wt0 rfl) (x_sliceSL (k := (i + 1)) Tryz.underlying9 rfl rfl (by omega) (by first | omega | (simp only [List.length_append, List.length_cons, List.length_nil]; omega) | (simp; omega))) rfl rfl fun a_130 HE131 => ?_
                refine dr_take (i := 4) (ls' := #[true, true, true, true, true, false, false, false, false]) HE131 HS123 rfl (by kernel_rfl) (by kernel_rfl) (by kernel_rfl) (fun _ _ _ h => h) rfl (wt0 rfl) (x_move rfl) rfl rfl fun a_132 HE133 => ?_
                refine dr_take (i := 5) (ls' := #[true, true, true, true, true, true, false, false, false]) HE133 HS123 rfl (by kernel_rfl) (by kernel_rfl) (by kernel_rfl) (fun _ _ _ h => h) rfl (wt0 rfl) (x_move rfl) rfl rfl fun a_134 HE135 => ?_
                refine dr_take (i := 6) (ls' := #[true, true, true, true, true, true, true, false, false]) HE135 HS123 rfl (by kernel_rfl) (by kernel_rfl) (by kernel_rfl) (fun _ _ _ h => h) rfl (wt0 rfl) (x_idxB Tryz.underlying9 rfl rfl (by omega) ke35 xe35) rfl rfl fun a_136 HE137 => ?_
                refine dr_one (i := 7) (ls' := #[true, true, true, true, true, true, true, true, false]) rfl (by kernel_rfl) rfl fun K_138 hK139 => ?_
                refine st_call HE137 (wt0 rfl) rfl rfl rfl en_188 rfl rfl (IndexByte_no (a0.drop (i + 1)) (e35.toNat : Int) _ (by exact not_big s0 hEn _)) fun e w' hr => ?_
                obtain ⟨rfl, rfl⟩ := hr
                refine ⟨_, rfl, fun a_140 HE141 => hK139 _ _ (by exact HH122.sel [] (by decide) rfl) ?_⟩
                have HS142 := HH122.sel [] (by decide) rfl
                refine dr_take (i := 8) (ls' := #[true, true, true, true, true, true, true, true, true]) HE141 HS142 rfl (by kernel_rfl) (by kernel_rfl) (by kernel_rfl) (fun _ _ _ h => h) rfl (wt0 rfl) (x_assign rfl) rfl rfl fun a_143 HE144 => ?_
                refine dr_done (by kernel_rfl) ?_
                clear HH106 HS107 a_120 HE121 a_124 HE125 a_126 HE127 a_128 HE129 a_130 HE131 a_132 HE133 a_134 HE135 a_136 HE137 HS123 a_140 HE141 hK139 K_138
                refine nrm ?_
                refine wp_seq ?_
                refine wp_seq ?_
                refine rg ?_
                refine pl_x HE144 HH122 (wt0 rfl) (x_move rfl) rfl rfl fun a_145 HE146 => ?_
                refine pl_x HE146 HH122 (wt0 rfl) (x_lss rfl rfl) rfl rfl fun a_147 HE148 => ?_
                refine wpList_nil ?_
                clear a_143 HE144 a_145 HE146
                refine nrm ?_
                refine cnd_d HE148 rfl (fun hc38 => ?_) (fun hc38 => ?_)
                · refine wp_seq ?_
                  refine rg ?_
                  refine pl_x HE148 HH122 (wt0 rfl) (x_assign rfl) rfl rfl fun a_149 HE150 => ?_
                  refine wpList_nil ?_
                  clear a_147 HE148
                  refine nrm ?_
                  refine wp_ret ?_
                  refine (thn_ret (thn_ret (scp_ret (blk_ret (thn_ret (blk_ret (thn_ret (scp_ret (blk_ret ?_)))))))))
                  refine ret1 HE150 rfl (rv_tmp rfl) ?_
                  have hF : (-1 : Int) = -1 := by
                    rfl
                  exact ⟨by first | (rw [hF] <;> rfl) | rfl | (rw [hF]; simp only [Ending.returned.injEq, Value.slice.injEq, true_and, and_true]; first | omega | (simp; done)) | (rw [hF]; simp; omega), HH122.below⟩
                · omega
              · omega
            · refine wp_exit ?_
              refine (thn_exit (thn_exit (blk_hit ?_)))
              refine nrm ?_
              refine wp_seq ?_
              refine wp_seq ?_
              refine rg ?_
              refine pl_x HE105 HH97 (wt0 rfl) (x_assign rfl) rfl rfl fun a_151 HE152 => ?_
              refine wpList_nil ?_
              clear a_104 HE105
              refine nrm ?_
              refine wp_ret ?_
              refine (thn_ret (scp_ret (blk_ret ?_)))
              refine ret1 HE152 rfl (rv_tmp rfl) ?_
              have hF : (-1 : Int) = -1 := by
                rfl
              exact ⟨by first | (rw [hF] <;> rfl) | rfl | (rw [hF]; simp only [Ending.returned.injEq, Value.slice.injEq, true_and, and_true]; first | omega | (simp; done)) | (rw [hF]; simp; omega), HH97.below⟩
  · refine pl_no HE11 (wtF HE11 rfl rfl rfl (decide_eq_false hc21)) rfl rfl fun a_153 HE154 => ?_
    refine pl_no HE154 (wtF HE154 rfl rfl rfl (decide_eq_false hc21)) rfl rfl fun a_155 HE156 => ?_
    refine pl_x HE156 HH1 (wt0 rfl) (x_pickF rfl (decide_eq_false hc21) rfl) rfl rfl fun a_157 HE158 => ?_
    refine pl_x HE158 HH1 (wt0 rfl) (x_assign rfl) rfl rfl fun a_159 HE160 => ?_
    refine wpList_nil ?_
    clear a_4 HE5 a_6 HE7 a_8 HE9 a_10 HE11 a_153 HE154 a_155 HE156 a_157 HE158
    refine nrm ?_
    refine cndF HE160 rfl rfl ?_
    refine wp_seq ?_
    refine rg ?_
    refine pl_x HE160 HH1 (wt0 rfl) (x_move rfl) rfl rfl fun a_161 HE162 => ?_
    refine pl_x HE162 HH1 (wt0 rfl) (x_eql rfl rfl) rfl rfl fun a_163 HE164 => ?_
    refine pl_x HE164 HH1 (wt0 rfl) (x_assign rfl) rfl rfl fun a_165 HE166 => ?_
    refine wpList_nil ?_
    clear a_159 HE160 a_161 HE162 a_163 HE164
    refine nrm ?_
    refine cnd_e HE166 rfl (fun hc39 => ?_) (fun hc39 => ?_)
    · refine wp_seq ?_
      refine wp_seq ?_
      refine rg ?_
      refine pl_x HE166 HH1 (wt0 rfl) (x_move rfl) rfl rfl fun a_167 HE168 => ?_
      refine pl fun K_169 hK170 => ?_
      refine st_range HE168 HH1 Tryz.underlying9 rfl (wt0 rfl) rfl fun q40 a_171 w' HE172 HH173 => hK170 _ _ ?_
      refine wpList_nil ?_
      clear a_165 HE166 a_167 HE168 HH1 hK170 K_169
      refine nrm ?_
      refine wp_block ?_
      refine lp (fun m a w' => ∃ (p : Nat), m = a0.length - p ∧ Env 187 [(175, .pointer (some ⟨q40, 0, none⟩))] a ∧ Held Nob w [rIt q40 a0 p] w' ∧ (p ≤ a0.length)) (a0.length - (0)) ?_ ?_
      · exact ⟨0, rfl, HE172.sub ⟨rfl, trivial⟩, (HH173.sel [0] (by decide) rfl), (by first | omega | assumption | (simp; done) | simp_all)⟩
      · rintro m a_174 w' ⟨p, rfl, HE175, HH176, p41_0⟩
        refine wp_seq ?_
        refine rg ?_
        by_cases hc42 : p < List.length a0
        · refine pl fun K_177 hK178 => ?_
          refine st_nextT 0 HE175 HH176 rfl (of_decide_eq_true (decide_eq_true hc42)) rfl (wt0 rfl) rfl fun a_179 w' HE180 HH181 => hK178 _ _ ?_
          have rn43_0 := rnA_pos (of_decide_eq_true (decide_eq_true hc42))
          have rn43_1 := rnA_le (of_decide_eq_true (decide_eq_true hc42))
          have rn43_2 := rnA_top a0 p
          have hR := lrs_rune s0 (p := p) (by omega)
          obtain ⟨hR0, hR1⟩ := hR
          refine pl_x HE180 HH181 (wt0 rfl) (x_extract rfl rfl) rfl rfl fun a_182 HE183 => ?_
          refine wpList_nil ?_
          clear a_171 HE172 HH173 a_174 HE175 HH176 a_179 HE180 hK178 K_177
          refine nrm ?_
          refine wp_seq ?_
          refine cndT HE183 rfl rfl ?_
          refine wp_skip ?_
          refine nrm ?_
          refine wp_block ?_
          refine wp_seq ?_
          refine rg ?_
          refine pl_x HE183 HH181 (wt0 rfl) (x_extract rfl rfl) rfl rfl fun a_184 HE185 => ?_
          refine pl_x HE185 HH181 (wt0 rfl) (x_extract rfl rfl) rfl rfl fun a_186 HE187 => ?_
          refine pl_x HE187 HH181 (wt0 rfl) (x_assign rfl) rfl rfl fun a_188 HE189 => ?_
          refine pl_x HE189 HH181 (wt0 rfl) (x_assign rfl) rfl rfl fun a_190 HE191 => ?_
          refine wpList_nil ?_
          clear a_182 HE183 a_184 HE185 a_186 HE187 a_188 HE189
          refine nrm ?_
          refine wp_seq ?_
          refine rg ?_
          refine pl_x HE191 HH181 (wt0 rfl) (x_move rfl) rfl rfl fun a_192 HE193 => ?_
          refine pl_x HE193 HH181 (wt0 rfl) (x_eql rfl rfl) rfl rfl fun a_194 HE195 => ?_
          refine wpList_nil ?_
          clear a_190 HE191 a_192 HE193
          refine nrm ?_
          refine cnd_e HE195 rfl (fun hc44 => ?_) (fun hc44 => ?_)
          · omega
          · refine wp_skip ?_
            refine blk_n ?_
            have E45 : ((p + 1)) = (p + (rnA a0 p).2) := by first | rfl | omega
            exact nrm ⟨a0.length - ((p + 1)), (by omega), (p + 1), rfl, HE195.sub ⟨rfl, trivial⟩, ((HH181.sel [0] (by decide) rfl).to (by first | rfl | (rw [E45]; done) | (rw [E45]; rfl) | (simp only [E45]; done) | (simp only [E45]; rfl) | (rw [E45]; simp only [List.length_set]; done))), (by first | omega | assumption | (simp; done) | simp_all)⟩
        · refine pl fun K_196 hK197 => ?_
          refine st_nextF 0 HE175 HH176 rfl (of_decide_eq_false (decide_eq_false hc42)) rfl (wt0 rfl) rfl fun a_198 HE199 => hK197 _ _ ?_
          refine pl_x HE199 HH176 (wt0 rfl) (x_extract rfl rfl) rfl rfl fun a_200 HE201 => ?_
          refine wpList_nil ?_
          clear a_171 HE172 HH173 a_174 HE175 a_198 HE199 hK197 K_196
          refine nrm ?_
          refine wp_seq ?_
          refine cndF HE201 rfl rfl ?_
          refine wp_exit ?_
          refine (thn_exit (thn_exit (blk_hit ?_)))
          refine nrm ?_
          refine wp_seq ?_
          refine rg ?_
          refine pl_x HE201 HH176 (wt0 rfl) (x_assign rfl) rfl rfl fun a_202 HE203 => ?_
          refine wpList_nil ?_
          clear a_200 HE201
          refine nrm ?_
          refine wp_ret ?_
          refine (blk_ret ?_)
          refine ret1 HE203 rfl (rv_tmp rfl) ?_
          have hF : (-1 : Int) = -1 := by
            rfl
          exact ⟨by first | (rw [hF] <;> rfl) | rfl | (rw [hF]; simp only [Ending.returned.injEq, Value.slice.injEq, true_and, and_true]; first | omega | (simp; done)) | (rw [hF]; simp; omega), HH176.below⟩
    · refine wp_seq ?_
      refine rg ?_
      refine pl_x HE166 HH1 (wt0 rfl) (x_move rfl) rfl rfl fun a_204 HE205 => ?_
      refine pl fun K_206 hK207 => ?_
      refine st_call HE205 (wt0 rfl) rfl rfl rfl en_189 rfl rfl (ValidRune_r a1 _ ) fun e w' hr => ?_
      obtain ⟨rfl, rfl⟩ := hr
      refine ⟨_, rfl, fun a_208 HE209 => hK207 _ _ ?_⟩
      refine pl_x HE209 HH1 (wt0 rfl) (x_not rfl) rfl rfl fun a_210 HE211 => ?_
      refine pl_x HE211 HH1 (wt0 rfl) (x_assign rfl) rfl rfl fun a_212 HE213 => ?_
      refine wpList_nil ?_
      clear a_165 HE166 a_204 HE205 a_208 HE209 a_210 HE211 hK207 K_206
      refine nrm ?_
      refine cnd_nb HE213 rfl (fun hc47 => ?_) (fun hc47 => ?_)
      · refine wp_seq ?_
        refine rg ?_
        refine pl_x HE213 HH1 (wt0 rfl) (x_assign rfl) rfl rfl fun a_214 HE215 => ?_
        refine wpList_nil ?_
        clear a_212 HE213
        refine nrm ?_
        refine wp_ret ?_
        refine (blk_ret ?_)
        refine ret1 HE215 rfl (rv_tmp rfl) ?_
        have hF : (-1 : Int) = -1 := by
          rfl
        exact ⟨by first | (rw [hF] <;> rfl) | rfl | (rw [hF]; simp only [Ending.returned.injEq, Value.slice.injEq, true_and, and_true]; first | omega | (simp; done)) | (rw [hF]; simp; omega), HH1.below⟩
      · have hE := encR_facts hc47 (by omega)
        have hE0 := hE.1
        have hE1 := hE.2.1
        refine wp_scope_straight ?_
        refine wp_seq ?_
        refine rg ?_
        refine pl_x HE213 HH1 (wt0 rfl) (x_move rfl) rfl rfl fun a_216 HE217 => ?_
        refine pl_x HE217 HH1 (wt0 rfl) (x_convRS (by kernel_rfl) Tryz.underlying9 rfl) rfl rfl fun a_218 HE219 => ?_
        refine pl_x HE219 HH1 (wt0 rfl) (x_assign rfl) rfl rfl fun a_220 HE221 => ?_
        refine wpList_nil ?_
        clear a_212 HE213 a_216 HE217 a_218 HE219
        refine nrm ?_
        refine wp_seq ?_
        refine rg ?_
        refine pl_x HE221 HH1 (wt0 rfl) (x_move rfl) rfl rfl fun a_222 HE223 => ?_
        refine pl_x HE223 HH1 (wt0 rfl) (x_lenB Tryz.underlying9 rfl) rfl rfl fun a_224 HE225 => ?_
        refine pl_x HE225 HH1 (wt0 rfl) (x_sub rfl rfl (by exact ⟨by omega, by omega⟩)) rfl rfl fun a_226 HE227 => ?_
        refine pl_x HE227 HH1 (wt0 rfl) (x_assign rfl) rfl rfl fun a_228 HE229 => ?_
        refine wpList_nil ?_
        clear a_220 HE221 a_222 HE223 a_224 HE225 a_226 HE227
        refine nrm ?_
        refine wp_seq ?_
        refine rg ?_
        refine pl_x HE229 HH1 (wt0 rfl) (x_move rfl) rfl rfl fun a_230 HE231 => ?_
        refine pl_x HE231 HH1 (wt0 rfl) (x_assign rfl) rfl rfl fun a_232 HE233 => ?_
        refine wpList_nil ?_
        clear a_228 HE229 a_230 HE231
        refine nrm ?_
        refine wp_seq ?_
        refine rg ?_
        refine pl_x HE233 HH1 (wt0 rfl) (x_assign rfl) rfl rfl fun a_234 HE235 => ?_
        refine wpList_nil ?_
        clear a_232 HE233
        refine nrm ?_
        refine wp_seq ?_
        refine wp_block ?_
        refine lp (fun m a w' => ∃ (i : Nat), m = 0 + i ∧ Env 187 [(9, .int .i64 (i : Int)), (10, .int .i64 0), (0, .string (bs a0)), (7, .string (bs (encR a1))), (8, .int .i64 (((List.length (encR a1) : Int) - 1)))] a ∧ Held Nob w [] w' ∧ (i + 1 = List.length (encR a1))) (0 + ((List.length (encR a1) - 1))) ?_ ?_
        · exact ⟨(List.length (encR a1) - 1), rfl, HE235.sub ⟨(lkI rfl (by first | rfl | omega | (simp [hc21, hc39, hc47]; done))), rfl, rfl, rfl, rfl, trivial⟩, (HH1.sel [] (by decide) rfl), (by first | omega | assumption | (simp; done) | simp_all)⟩
        · rintro m a_236 w' ⟨i, rfl, HE237, HH238, p48_0⟩
          refine wp_seq ?_
          refine wp_seq ?_
          refine rg ?_
          refine pl_x HE237 HH238 (wt0 rfl) (x_move rfl) rfl rfl fun a_239 HE240 => ?_
          refine pl_x HE240 HH238 (wt0 rfl) (x_move rfl) rfl rfl fun a_241 HE242 => ?_
          refine pl_x HE242 HH238 (wt0 rfl) (x_lenB Tryz.underlying9 rfl) rfl rfl fun a_243 HE244 => ?_
          refine pl_x HE244 HH238 (wt0 rfl) (x_lss rfl rfl) rfl rfl fun a_245 HE246 => ?_
          refine wpList_nil ?_
          clear a_234 HE235 HH1 a_236 HE237 a_239 HE240 a_241 HE242 a_243 HE244
          refine nrm ?_
          refine cnd_d HE246 rfl (fun hc49 => ?_) (fun hc49 => ?_)
          · refine wp_skip ?_
            refine nrm ?_
            refine wp_block ?_
            refine wp_scope_straight ?_
            refine wp_seq ?_
            refine wp_seq ?_
            refine dr_start (Held Nob w []) 7 #[false, false, false, false, false, false, false] hmix rfl rfl HH238 (fun _ h => h.sel [] (by decide) rfl) fun w' HH247 => ?_
            have HS248 := HH247
            refine dr_take (i := 0) (ls' := #[true, false, false, false, false, false, false]) HE246 HS248 rfl (by kernel_rfl) (by kernel_rfl) (by kernel_rfl) (fun _ _ _ h => h) rfl (wt0 rfl) (x_move rfl) rfl rfl fun a_249 HE250 => ?_
            refine dr_take (i := 1) (ls' := #[true, true, false, false, false, false, false]) HE250 HS248 rfl (by kernel_rfl) (by kernel_rfl) (by kernel_rfl) (fun _ _ _ h => h) rfl (wt0 rfl) (x_move rfl) rfl rfl fun a_251 HE252 => ?_
            have ke50 : i < List.length a0 := by first | omega | (simp only [List.length_cons, List.length_nil]; omega)
            obtain ⟨e50, xe50⟩ : ∃ x_, x_ = a0[i] := ⟨_, rfl⟩
            have je50 : 0 ≤ (e50.toNat : Int) ∧ (e50.toNat : Int) ≤ 255 := by have := e50.toNat_lt; omega
            have hx0 := lrs_byte s0 e50 (by rw [xe50]; exact List.getElem_mem _)
            refine dr_take (i := 2) (ls' := #[true, true, true, false, false, false, false]) HE252 HS248 rfl (by kernel_rfl) (by kernel_rfl) (by kernel_rfl) (fun _ _ _ h => h) rfl (wt0 rfl) (x_idxB Tryz.underlying9 rfl rfl rfl ke50 xe50) rfl rfl fun a_253 HE254 => ?_
            refine dr_take (i := 3) (ls' := #[true, true, true, true, false, false, false]) HE254 HS248 rfl (by kernel_rfl) (by kernel_rfl) (by kernel_rfl) (fun _ _ _ h => h) rfl (wt0 rfl) (x_move rfl) rfl rfl fun a_255 HE256 => ?_
            refine dr_take (i := 4) (ls' := #[true, true, true, true, true, false, false]) HE256 HS248 rfl (by kernel_rfl) (by kernel_rfl) (by kernel_rfl) (fun _ _ _ h => h) rfl (wt0 rfl) (x_move rfl) rfl rfl fun a_257 HE258 => ?_
            have ke51 : (List.length (encR a1) - 1) < List.length (encR a1) := by first | omega | (simp only [List.length_cons, List.length_nil]; omega)
            obtain ⟨e51, xe51⟩ : ∃ x_, x_ = (encR a1)[(List.length (encR a1) - 1)] := ⟨_, rfl⟩
            have je51 : 0 ≤ (e51.toNat : Int) ∧ (e51.toNat : Int) ≤ 255 := by have := e51.toNat_lt; omega
            have hEn := hE.2.2 _ (by omega) (by rfl)
            rw [← xe51] at hEn
            refine dr_take (i := 5) (ls' := #[true, true, true, true, true, true, false]) HE258 HS248 rfl (by kernel_rfl) (by kernel_rfl) (by kernel_rfl) (fun _ _ _ h => h) rfl (wt0 rfl) (x_idxB Tryz.underlying9 rfl rfl (by omega) ke51 xe51) rfl rfl fun a_259 HE260 => ?_
            refine dr_take (i := 6) (ls' := #[true, true, true, true, true, true, true]) HE260 HS248 rfl (by kernel_rfl) (by kernel_rfl) (by kernel_rfl) (fun _ _ _ h => h) rfl (wt0 rfl) (x_neq rfl rfl) rfl rfl fun a_261 HE262 => ?_
            refine dr_done (by kernel_rfl) ?_
            clear HH238 a_245 HE246 a_249 HE250 a_251 HE252 a_253 HE254 a_255 HE256 a_257 HE258 a_259 HE260
            refine nrm ?_
            refine cnd_ne HE262 rfl (fun hc52 => ?_) (fun hc52 => ?_)
            · refine wp_seq ?_
              refine dr_start (Held Nob w []) 9 #[false, false, false, false, false, false, false, false, false] hmix rfl rfl HH247 (fun _ h => h.sel [] (by decide) rfl) fun w' HH263 => ?_
              have HS264 := HH263
              refine dr_take (i := 0) (ls' := #[true, false, false, false, false, false, false, false, false]) HE262 HS264 rfl (by kernel_rfl) (by kernel_rfl) (by kernel_rfl) (fun _ _ _ h => h) rfl (wt0 rfl) (x_move rfl) rfl rfl fun a_265 HE266 => ?_
              refine dr_take (i := 1) (ls' := #[true, true, false, false, false, false, false, false, false]) HE266 HS264 rfl (by kernel_rfl) (by kernel_rfl) (by kernel_rfl) (fun _ _ _ h => h) rfl (wt0 rfl) (x_move rfl) rfl rfl fun a_267 HE268 => ?_
              refine dr_take (i := 2) (ls' := #[true, true, true, false, false, false, false, false, false]) HE268 HS264 rfl (by kernel_rfl) (by kernel_rfl) (by kernel_rfl) (fun _ _ _ h => h) rfl (wt0 rfl) (x_add rfl rfl (by exact ⟨by omega, by omega⟩)) rfl rfl fun a_269 HE270 => ?_
              refine dr_take (i := 3) (ls' := #[true, true, true, true, false, false, false, false, false]) HE270 HS264 rfl (by kernel_rfl) (by kernel_rfl) (by kernel_rfl) (fun _ _ _ h => h) rfl (wt0 rfl) (x_sliceSL (k := (i + 1)) Tryz.underlying9 rfl rfl (by omega) (by first | omega | (simp only [List.length_append, List.length_cons, List.length_nil]; omega) | (simp; omega))) rfl rfl fun a_271 HE272 => ?_
              refine dr_take (i := 4) (ls' := #[true, true, true, true, true, false, false, false, false]) HE272 HS264 rfl (by kernel_rfl) (by kernel_rfl) (by kernel_rfl) (fun _ _ _ h => h) rfl (wt0 rfl) (x_move rfl) rfl rfl fun a_273 HE274 => ?_
              refine dr_take (i := 5) (ls' := #[true, true, true, true, true, true, false, false, false]) HE274 HS264 rfl (by kernel_rfl) (by kernel_rfl) (by kernel_rfl) (fun _ _ _ h => h) rfl (wt0 rfl) (x_move rfl) rfl rfl fun a_275 HE276 => ?_
              refine dr_take (i := 6) (ls' := #[true, true, true, true, true, true, true, false, false]) HE276 HS264 rfl (by kernel_rfl) (by kernel_rfl) (by kernel_rfl) (fun _ _ _ h => h) rfl (wt0 rfl) (x_idxB Tryz.underlying9 rfl rfl (by omega) ke51 xe51) rfl rfl fun a_277 HE278 => ?_
              refine dr_one (i := 7) (ls' := #[true, true, true, true, true, true, true, true, false]) rfl (by kernel_rfl) rfl fun K_279 hK280 => ?_
              refine st_call HE278 (wt0 rfl) rfl rfl rfl en_188 rfl rfl (IndexByte_no (a0.drop (i + 1)) (e51.toNat : Int) _ (by exact not_big s0 hEn _)) fun e w' hr => ?_
              obtain ⟨rfl, rfl⟩ := hr
              refine ⟨_, rfl, fun a_281 HE282 => hK280 _ _ (by exact HH263.sel [] (by decide) rfl) ?_⟩
              have HS283 := HH263.sel [] (by decide) rfl
              refine dr_take (i := 8) (ls' := #[true, true, true, true, true, true, true, true, true]) HE282 HS283 rfl (by kernel_rfl) (by kernel_rfl) (by kernel_rfl) (fun _ _ _ h => h) rfl (wt0 rfl) (x_assign rfl) rfl rfl fun a_284 HE285 => ?_
              refine dr_done (by kernel_rfl) ?_
              clear HH247 HS248 a_261 HE262 a_265 HE266 a_267 HE268 a_269 HE270 a_271 HE272 a_273 HE274 a_275 HE276 a_277 HE278 HS264 a_281 HE282 hK280 K_279
              refine nrm ?_
              refine wp_seq ?_
              refine wp_seq ?_
              refine rg ?_
              refine pl_x HE285 HH263 (wt0 rfl) (x_move rfl) rfl rfl fun a_286 HE287 => ?_
              refine pl_x HE287 HH263 (wt0 rfl) (x_lss rfl rfl) rfl rfl fun a_288 HE289 => ?_
              refine wpList_nil ?_
              clear a_284 HE285 a_286 HE287
              refine nrm ?_
              refine cnd_d HE289 rfl (fun hc54 => ?_) (fun hc54 => ?_)
              · refine wp_seq ?_
                refine rg ?_
                refine pl_x HE289 HH263 (wt0 rfl) (x_assign rfl) rfl rfl fun a_290 HE291 => ?_
                refine wpList_nil ?_
                clear a_288 HE289
                refine nrm ?_
                refine wp_ret ?_
                refine (thn_ret (thn_ret (scp_ret (blk_ret (thn_ret (blk_ret (thn_ret (scp_ret (blk_ret ?_)))))))))
                refine ret1 HE291 rfl (rv_tmp rfl) ?_
                have hF : (-1 : Int) = -1 := by
                  rfl
                exact ⟨by first | (rw [hF] <;> rfl) | rfl | (rw [hF]; simp only [Ending.returned.injEq, Value.slice.injEq, true_and, and_true]; first | omega | (simp; done)) | (rw [hF]; simp; omega), HH263.below⟩
              · omega
            · omega
          · refine wp_exit ?_
            refine (thn_exit (thn_exit (blk_hit ?_)))
            refine nrm ?_
            refine wp_seq ?_
            refine wp_seq ?_
            refine rg ?_
            refine pl_x HE246 HH238 (wt0 rfl) (x_assign rfl) rfl rfl fun a_292 HE293 => ?_
            refine wpList_nil ?_
            clear a_245 HE246
            refine nrm ?_
            refine wp_ret ?_
            refine (thn_ret (scp_ret (blk_ret ?_)))
            refine ret1 HE293 rfl (rv_tmp rfl) ?_
            have hF : (-1 : Int) = -1 := by
              rfl
            exact ⟨by first | (rw [hF] <;> rfl) | rfl | (rw [hF]; simp only [Ending.returned.injEq, Value.slice.injEq, true_and, and_true]; first | omega | (simp; done)) | (rw [hF]; simp; omega), HH238.below⟩

open Go.Lib in
def mvR (r : Nat) : Int := if r = 76 then -1 else if r = 83 then 0 else if r = 82 then 1 else -2

open Go.Lib in
theorem mvR_bd (r : Nat) : -2 ≤ mvR r ∧ mvR r ≤ 1 := by
  unfold mvR
  split
  · omega
  · split
    · omega
    · split <;> omega

open Go.Lib in
theorem index_lsr : ∀ r : Nat, r < 128 → indexByte [76, 83, 82] (UInt8.ofNat r) = mvR r + 1 := by decide +kernel

open Go.Lib in
/-- A move's letter. -/
theorem IndexRune_LSR (r : Nat) (w : World) (hr : r ≤ 1114111) : Calls Tryz.prog 152 #[.string (bs [76, 83, 82]), .int .i32 (r : Int)] w fun e w' => e = .returned (.int .i64 (mvR r + 1)) ∧ Below w.heap.size w w' := by
  by_cases h : r < 128
  · refine (Any.strings_IndexRune_ascii shelf_152 (bs [76, 83, 82]) (r : Int) w (by omega) (by omega)).mono fun e w' ⟨he, hw⟩ => ⟨?_, by rw [hw]; exact Below.refl _ _⟩
    rw [he, show (bs [76, 83, 82]).data.toList = [76, 83, 82] from by simp [bs], Int.toNat_natCast, show r.toUInt8 = UInt8.ofNat r from rfl, index_lsr r h]
  · have h1 := IndexRune_hi [76, 83, 82] (r : Int) w (.inl rfl) (by omega)
    have e : mvR r + 1 = -1 := by
      unfold mvR
      rw [if_neg (by omega), if_neg (by omega), if_neg (by omega)]; rfl
    rw [e]; exact h1

open Go.Lib in
def preP (p : List UInt8) : List (List UInt8) → List (List UInt8)
  | [] => [p]
  | q :: r => (p ++ q) :: r

open Go.Lib in
theorem spl_ne {c : UInt8} {s : List UInt8} {l : List (List UInt8)} {j : Int} {k : Nat} (h : splitR c s = l ++ preP ((s.drop j.toNat).take (k - j.toNat)) (splitR c (s.drop k))) (hk : k < s.length) (hj : 0 ≤ j ∧ j ≤ (k : Int)) (hn : ¬ s[k] = c) : splitR c s = l ++ preP ((s.drop j.toNat).take (k + 1 - j.toNat)) (splitR c (s.drop (k + 1))) := by
  rw [h]
  congr 1
  obtain ⟨p, r, e⟩ := splitR_some c (s.drop (k + 1))
  have e2 : (s.drop j.toNat).take (k + 1 - j.toNat) = (s.drop j.toNat).take (k - j.toNat) ++ [s[k]] := by
    rw [show k + 1 - j.toNat = (k - j.toNat) + 1 from by omega, List.take_succ_eq_append_getElem (by rw [List.length_drop]; omega), List.getElem_drop]
    congr 3
    omega
  rw [List.drop_eq_getElem_cons hk, splitR_ne hn e, e, e2, preP, preP]
  simp

open Go.Lib in
theorem spl_eq {c : UInt8} {s : List UInt8} {l : List (List UInt8)} {j : Int} {k : Nat} (h : splitR c s = l ++ preP ((s.drop j.toNat).take (k - j.toNat)) (splitR c (s.drop k))) (hk : k < s.length) (he : s[k] = c) : splitR c s = (l ++ [(s.drop j.toNat).take (k - j.toNat)]) ++ preP ((s.drop ((k : Int) + 1).toNat).take (k + 1 - ((k : Int) + 1).toNat)) (splitR c (s.drop (k + 1))) := by
  rw [h]
  obtain ⟨p, r, e⟩ := splitR_some c (s.drop (k + 1))
  rw [List.drop_eq_getElem_cons hk, he, splitR_eq, e, show k + 1 - ((k : Int) + 1).toNat = 0 from by omega, List.take_zero, preP, preP]
  simp

open Go.Lib in
theorem spl_end {c : UInt8} {s : List UInt8} {l : List (List UInt8)} {j : Int} {k : Nat} (h : splitR c s = l ++ preP ((s.drop j.toNat).take (k - j.toNat)) (splitR c (s.drop k))) (hk : k = s.length) : splitR c s = l ++ [s.drop j.toNat] := by
  rw [h]
  rw [List.drop_eq_nil_of_le (by omega : s.length ≤ k), splitR_nil, preP, List.append_nil, List.take_of_length_le (by rw [List.length_drop]; omega)]

open Go.Lib in
theorem spl_zero (c : UInt8) (s : List UInt8) : splitR c s = [] ++ preP ((s.drop (0 : Int).toNat).take (0 - (0 : Int).toNat)) (splitR c (s.drop 0)) := by
  obtain ⟨p, r, e⟩ := splitR_some c s
  simp [preP, e]

open Go.Lib in
/-- The place of the first digit. -/
def ofP (s : List UInt8) : Nat := if s.head? = some 45 then 1 else 0

open Go.Lib in
theorem unsg_drop (s : List UInt8) : unsg s = s.drop (ofP s) := by
  unfold unsg ofP; split
  · simp
  · rw [List.drop_zero]

open Go.Lib in
theorem ofP_neg {s : List UInt8} {e : UInt8} (h : 0 < s.length) (he : e = s[0]) (h45 : (e.toNat : Int) = 45) : ofP s = 1 := by
  have : e = 45 := UInt8.toNat_inj.1 (by have : (45 : UInt8).toNat = 45 := rfl; omega)
  unfold ofP
  cases s with
  | nil => simp at h
  | cons x r => simp only [List.getElem_cons_zero] at he; rw [← he, this]; rfl

open Go.Lib in
theorem ofP_pos {s : List UInt8} {e : UInt8} (h : 0 < s.length) (he : e = s[0]) (h45 : ¬ (e.toNat : Int) = 45) : ofP s = 0 := by
  unfold ofP
  cases s with
  | nil => simp at h
  | cons x r =>
    simp only [List.getElem_cons_zero] at he
    rw [if_neg]
    intro h2
    simp only [List.head?_cons, Option.some.injEq] at h2
    apply h45
    rw [he, h2]; rfl

open Go.Lib in
theorem ofP_nil {s : List UInt8} (h : ¬ 0 < s.length) : ofP s = 0 := by
  have : s = [] := List.eq_nil_of_length_eq_zero (by omega)
  subst this; rfl

open Go.Lib in
/-- The digits from the first one up to i. -/
def dgs (s : List UInt8) (i : Nat) : List UInt8 := (s.drop (ofP s)).take (i - ofP s)

open Go.Lib in
theorem dgs_step {s : List UInt8} {i : Nat} {e : UInt8} (h0 : ofP s ≤ i) (h1 : i < s.length) (he : e = s[i]) : dgs s (i + 1) = dgs s i ++ [e] := by
  unfold dgs
  rw [show i + 1 - ofP s = (i - ofP s) + 1 from by omega, List.take_succ_eq_append_getElem (by rw [List.length_drop]; omega), List.getElem_drop, he]
  congr 3
  omega

open Go.Lib in
theorem dgs_all {s : List UInt8} {i : Nat} {e : UInt8} (h : (dgs s i).all isDg = true) (h0 : ofP s ≤ i) (h1 : i < s.length) (he : e = s[i]) (hd : 48 ≤ (e.toNat : Int) ∧ (e.toNat : Int) ≤ 57) : (dgs s (i + 1)).all isDg = true := by
  rw [dgs_step h0 h1 he, List.all_append, h]
  simp only [List.all_cons, List.all_nil, Bool.and_true, Bool.true_and]
  exact isDg_iff.2 (by omega)

open Go.Lib in
theorem dgs_bd {s : List UInt8} {i : Nat} (h : (dgs s i).all isDg = true) (h1 : i < s.length) (h2 : s.length ≤ ofP s + 18) : valD 0 (dgs s i) < 100000000000000000 := by
  refine Nat.lt_of_lt_of_le (valD_lt _ 0 h) ?_
  have h3 : (dgs s i).length ≤ 17 := by unfold dgs; rw [List.length_take]; omega
  have := Nat.pow_le_pow_right (n := 10) (by omega) h3
  omega

open Go.Lib in
theorem dgs_full {s : List UInt8} {i : Nat} (h : s.length ≤ i) : dgs s i = unsg s := by
  unfold dgs; rw [unsg_drop, List.take_of_length_le (by rw [List.length_drop]; omega)]

open Go.Lib in
theorem numC_bad {s : List UInt8} (h : okNum s = false) : numC s = (0, false) := by unfold numC; rw [h]; rfl

open Go.Lib in
theorem numC_len0 {s : List UInt8} (h : s.length = ofP s) : numC s = (0, false) := by
  refine numC_bad ?_
  cases hq : okNum s with
  | false => rfl
  | true =>
    have h1 := ((okNum_iff s).1 hq).1
    rw [unsg_drop, List.drop_eq_nil_of_le (by omega)] at h1
    exact absurd rfl h1

open Go.Lib in
theorem numC_len18 {s : List UInt8} (h : ofP s + 18 < s.length) : numC s = (0, false) := by
  refine numC_bad ?_
  cases hq : okNum s with
  | false => rfl
  | true =>
    have h1 := ((okNum_iff s).1 hq).2.1
    rw [unsg_drop, List.length_drop] at h1
    omega

open Go.Lib in
theorem numC_zero {s : List UInt8} {i : Nat} {e : UInt8} (hi : i = ofP s) (h1 : i < s.length) (he : e = s[i]) (h48 : (e.toNat : Int) = 48) (h2 : 1 < s.length) : numC s = (0, false) := by
  refine numC_bad ?_
  cases hq : okNum s with
  | false => rfl
  | true =>
    have h3 := ((okNum_iff s).1 hq).2.2.2
    refine absurd ⟨?_, h2⟩ h3
    have e48 : e = 48 := UInt8.toNat_inj.1 (by have : (48 : UInt8).toNat = 48 := rfl; omega)
    subst hi
    rw [unsg_drop, List.drop_eq_getElem_cons h1, ← he, e48]; rfl

open Go.Lib in
theorem numC_dig {s : List UInt8} {i : Nat} {e : UInt8} (h0 : ofP s ≤ i) (h1 : i < s.length) (he : e = s[i]) (hd : ¬ (48 ≤ (e.toNat : Int) ∧ (e.toNat : Int) ≤ 57)) : numC s = (0, false) := by
  refine numC_bad ?_
  cases hq : okNum s with
  | false => rfl
  | true =>
    have h3 := ((okNum_iff s).1 hq).2.2.1
    rw [List.all_eq_true] at h3
    have hm : e ∈ unsg s := by
      rw [unsg_drop, he]
      exact List.mem_drop_iff_getElem.2 ⟨i - ofP s, by omega, by congr 1; omega⟩
    have := isDg_iff.1 (h3 e hm)
    exact absurd (by omega) hd

open Go.Lib in
theorem numC_ok {s : List UInt8} {i : Nat} {e : UInt8} {k : Nat} (hk : k = ofP s) (hl : k < s.length) (h18 : s.length ≤ ofP s + 18) (he : e = s[k]) (hz : ¬ ((e.toNat : Int) = 48 ∧ 1 < s.length)) (hi : s.length ≤ i) (ha : (dgs s i).all isDg = true) : okNum s = true := by
  rw [dgs_full hi] at ha
  subst hk
  refine (okNum_iff s).2 ⟨?_, by rw [unsg_drop, List.length_drop]; omega, ha, ?_⟩
  · rw [unsg_drop]; intro h; have := congrArg List.length h; rw [List.length_drop, List.length_nil] at this; omega
  · rintro ⟨h1, h2⟩
    rw [unsg_drop, List.drop_eq_getElem_cons hl, ← he] at h1
    simp only [List.head?_cons, Option.some.injEq] at h1
    exact hz ⟨by rw [h1]; rfl, h2⟩

open Go.Lib in
theorem numC_yes {s : List UInt8} {i : Nat} (hi : s.length ≤ i) (h : okNum s = true) : numC s = (if ofP s = 1 then -(valD 0 (dgs s i) : Int) else (valD 0 (dgs s i) : Int), true) := by
  unfold numC
  rw [if_pos h, dgs_full hi]
  unfold numOf ofP
  by_cases h45 : s.head? = some 45
  · rw [if_pos h45, if_pos h45, if_pos rfl]
  · rw [if_neg h45, if_neg h45, if_neg (by decide)]

open Go.Lib in
def digB (x : Int) : Bool := decide (48 ≤ x) && decide (x ≤ 57)

open Go.Lib in
theorem dgs_zero (s : List UInt8) : dgs s (ofP s) = [] := by unfold dgs; rw [Nat.sub_self, List.take_zero]

open Go.Lib in
theorem dgs_bd18 {s : List UInt8} {i : Nat} (h : (dgs s i).all isDg = true) (h2 : s.length ≤ ofP s + 18) : valD 0 (dgs s i) < 1000000000000000000 := by
  refine Nat.lt_of_lt_of_le (valD_lt _ 0 h) ?_
  have h3 : (dgs s i).length ≤ 18 := by unfold dgs; rw [List.length_take, List.length_drop]; omega
  have := Nat.pow_le_pow_right (n := 10) (by omega) h3
  omega

open Go.Lib in
theorem ff {b : Bool} (h : b = true) (h2 : b = false) : False := by rw [h] at h2; exact Bool.noConfusion h2

open Go.Lib in
theorem itoa_no {c : UInt8} (h45 : ¬ c = 45) (hd : isDg c = false) (v : Int) : c ∉ Go.Lib.itoa v := by
  have key : ∀ n : Nat, c ∉ decDigits n := fun n hm => ff (List.all_eq_true.1 (dec_dig n).1 c hm) hd
  unfold Go.Lib.itoa
  split
  · intro hm
    rcases List.mem_cons.1 hm with hm | hm
    · exact h45 hm
    · exact key _ hm
  · exact key _

open Go.Lib in
theorem numC_itoa {v : Int} (h : -1000000000000000000 < v ∧ v < 1000000000000000000) : numC (Go.Lib.itoa v) = (v, true) := by
  obtain ⟨h1, h2⟩ := okNum_itoa h
  unfold numC; rw [if_pos h1, h2]

open Go.Lib in
theorem numR_itoa {v : Int} (h : -1000000000000000000 < v ∧ v < 1000000000000000000) : numR (Go.Lib.itoa v) = (v, true) := by rw [numR_eq]; exact numC_itoa h

open Go.Lib in
theorem split_decs {c : UInt8} (h45 : ¬ c = 45) (hd : isDg c = false) {l : List Int} (hl : l ≠ []) : splitR c (decs l [c]) = l.map Go.Lib.itoa := by
  cases l with
  | nil => exact absurd rfl hl
  | cons v l =>
    unfold decs
    rw [List.map_cons]
    refine splitR_join fun p hp => ?_
    rw [← List.map_cons] at hp
    obtain ⟨u, _, rfl⟩ := List.mem_map.1 hp
    exact itoa_no h45 hd u

open Go.Lib in
set_option maxRecDepth 100000 in
set_option maxHeartbeats 4000000 in
theorem impl_ReadDecimal (a0 : List UInt8) (w : World) (hG : Glob2 w) (s0 : a0.length ≤ 2000000) :
    Calls Tryz.prog 70 #[.string (bs a0)] w fun e w' => e = .returned (.tuple #[.int .i64 (numR a0).1, .bool (numR a0).2]) ∧ Below w.heap.size w w' := by
  have HH1 := Held.start Nob w
  refine enter (n := 26) Tryz.func70 rfl rfl rfl fun a_2 HE3 => ?_
  refine wp_seq ?_
  refine rg ?_
  refine pl_x HE3 HH1 (wt0 rfl) (x_assign rfl) rfl rfl fun a_4 HE5 => ?_
  refine pl_x HE5 HH1 (wt0 rfl) (x_assign rfl) rfl rfl fun a_6 HE7 => ?_
  refine wpList_nil ?_
  clear a_2 HE3 a_4 HE5
  refine nrm ?_
  refine wp_seq ?_
  refine rg ?_
  refine pl_x HE7 HH1 (wt0 rfl) (x_move rfl) rfl rfl fun a_8 HE9 => ?_
  refine pl fun K_10 hK11 => ?_
  refine st_call HE9 (wt0 rfl) rfl rfl rfl en_119 rfl rfl (ParseInt_64 a0 10 64 _ (HH1.glob2 hG) (by omega) (by rfl) (by rfl)) fun e w' hr => ?_
  obtain ⟨err21_1, rfl, her21_1, hbr21⟩ := hr
  have HH12 := HH1.on hbr21
  refine ⟨_, rfl, fun a_13 HE14 => hK11 _ _ ?_⟩
  refine pl_x HE14 HH12 (wt0 rfl) (x_move rfl) rfl rfl fun a_15 HE16 => ?_
  refine pl_x HE16 HH12 (wt0 rfl) (x_extract rfl rfl) rfl rfl fun a_17 HE18 => ?_
  refine pl_x HE18 HH12 (wt0 rfl) (x_extract rfl rfl) rfl rfl fun a_19 HE20 => ?_
  refine pl_x HE20 HH12 (wt0 rfl) (x_assign rfl) rfl rfl fun a_21 HE22 => ?_
  refine pl_x HE22 HH12 (wt0 rfl) (x_assign rfl) rfl rfl fun a_23 HE24 => ?_
  refine wpList_nil ?_
  clear a_6 HE7 HH1 a_8 HE9 a_13 HE14 a_15 HE16 a_17 HE18 a_19 HE20 a_21 HE22 hK11 K_10
  refine nrm ?_
  refine wp_seq ?_
  refine wp_seq ?_
  refine rg ?_
  refine pl_x HE24 HH12 (wt0 rfl) (x_move rfl) rfl rfl fun a_25 HE26 => ?_
  refine pl_x HE26 HH12 (wt0 rfl) (x_neqNil her21_1 (by kernel_rfl) rfl) rfl rfl fun a_27 HE28 => ?_
  refine pl_x HE28 HH12 (wt0 rfl) (x_move rfl) rfl rfl fun a_29 HE30 => ?_
  rcases Bool.eq_false_or_eq_true ((parI a0).2) with hc22 | hc22
  · refine pl_no HE30 (wtF HE30 rfl rfl rfl hc22) rfl rfl fun a_31 HE32 => ?_
    refine pl_no HE32 (wtF HE32 rfl rfl rfl hc22) rfl rfl fun a_33 HE34 => ?_
    refine pl_no HE34 (wtF HE34 rfl rfl rfl hc22) rfl rfl fun a_35 HE36 => ?_
    refine pl_no HE36 (wtF HE36 rfl rfl rfl hc22) rfl rfl fun a_37 HE38 => ?_
    refine pl_x HE38 HH12 (wt0 rfl) (x_pickT rfl hc22 rfl) rfl rfl fun a_39 HE40 => ?_
    refine pl_x HE40 HH12 (wt0 rfl) (x_move rfl) rfl rfl fun a_41 HE42 => ?_
    refine pl_no HE42 (wtF HE42 rfl rfl rfl rfl) rfl rfl fun a_43 HE44 => ?_
    refine pl_no HE44 (wtF HE44 rfl rfl rfl rfl) rfl rfl fun a_45 HE46 => ?_
    refine pl_no HE46 (wtF HE46 rfl rfl rfl rfl) rfl rfl fun a_47 HE48 => ?_
    refine pl_no HE48 (wtF HE48 rfl rfl rfl rfl) rfl rfl fun a_49 HE50 => ?_
    refine pl_x HE50 HH12 (wt0 rfl) (x_pickT rfl rfl rfl) rfl rfl fun a_51 HE52 => ?_
    refine wpList_nil ?_
    clear a_23 HE24 a_25 HE26 a_27 HE28 a_29 HE30 a_31 HE32 a_33 HE34 a_35 HE36 a_37 HE38 a_39 HE40 a_41 HE42 a_43 HE44 a_45 HE46 a_47 HE48 a_49 HE50
    refine nrm ?_
    refine cndT HE52 rfl rfl ?_
    refine wp_seq ?_
    refine rg ?_
    refine pl_x HE52 HH12 (wt0 rfl) (x_assign rfl) rfl rfl fun a_53 HE54 => ?_
    refine pl_x HE54 HH12 (wt0 rfl) (x_assign rfl) rfl rfl fun a_55 HE56 => ?_
    refine wpList_nil ?_
    clear a_51 HE52 a_53 HE54
    refine nrm ?_
    refine wp_ret ?_
    refine (thn_ret ?_)
    refine ret2 HE56 rfl (rv_tmp rfl) (rv_tmp rfl) ?_
    have hF : (numR a0) = (0, false) := by
      rw [numR_def]; first | (simp [hc22]; done) | (simp [hc22]; omega)
    exact ⟨by first | (rw [hF] <;> rfl) | rfl | (rw [hF]; simp only [Ending.returned.injEq, Value.slice.injEq, true_and, and_true]; first | omega | (simp; done)) | (rw [hF]; simp; omega), HH12.below⟩
  · have q0 := parI_bd hc22
    refine pl_x HE30 HH12 (wtT HE30 rfl rfl rfl hc22) (x_move rfl) rfl rfl fun a_57 HE58 => ?_
    refine pl fun K_59 hK60 => ?_
    refine st_call HE58 (wtT HE58 rfl rfl rfl hc22) rfl rfl rfl en_120 rfl rfl (impl_Decimal ((parI a0).1) _ (HH12.glob hG.1) (by omega)) fun e w' hr => ?_
    have hAr23_0 := itoa_len (n := ((parI a0).1)) (by omega)
    obtain ⟨rfl, hbr23⟩ := hr
    have HH61 := HH12.on hbr23
    refine ⟨_, rfl, fun a_62 HE63 => hK60 _ _ ?_⟩
    refine pl_x HE63 HH61 (wtT HE63 rfl rfl rfl hc22) (x_move rfl) rfl rfl fun a_64 HE65 => ?_
    refine pl_x HE65 HH61 (wtT HE65 rfl rfl rfl hc22) (x_sneqB rfl rfl) rfl rfl fun a_66 HE67 => ?_
    refine pl_x HE67 HH61 (wt0 rfl) (x_pickF rfl hc22 rfl) rfl rfl fun a_68 HE69 => ?_
    refine pl_x HE69 HH61 (wt0 rfl) (x_move rfl) rfl rfl fun a_70 HE71 => ?_
    by_cases hc24 : (Go.Lib.itoa ((parI a0).1)) = a0
    · refine pl_x HE71 HH61 (wtT HE71 rfl rfl rfl (not_f (decide_eq_true hc24))) (x_move rfl) rfl rfl fun a_72 HE73 => ?_
      refine pl fun K_74 hK75 => ?_
      refine st_call HE73 (wtT HE73 rfl rfl rfl (not_f (decide_eq_true hc24))) rfl rfl rfl en_121 rfl rfl (TrimMinus a0 ([45]) _ (by rfl)) fun e w' hr => ?_
      have hAr25_0 := unsg_len a0
      obtain ⟨rfl, hbr25⟩ := hr
      have HH76 := HH61.on hbr25
      refine ⟨_, rfl, fun a_77 HE78 => hK75 _ _ ?_⟩
      refine pl_x HE78 HH76 (wtT HE78 rfl rfl rfl (not_f (decide_eq_true hc24))) (x_lenB Tryz.underlying9 rfl) rfl rfl fun a_79 HE80 => ?_
      refine pl_x HE80 HH76 (wtT HE80 rfl rfl rfl (not_f (decide_eq_true hc24))) (x_gtr rfl rfl) rfl rfl fun a_81 HE82 => ?_
      refine pl_x HE82 HH76 (wt0 rfl) (x_pickF rfl (not_f (decide_eq_true hc24)) rfl) rfl rfl fun a_83 HE84 => ?_
      refine wpList_nil ?_
      clear a_23 HE24 a_25 HE26 a_27 HE28 a_29 HE30 HH12 a_57 HE58 a_62 HE63 a_64 HE65 a_66 HE67 a_68 HE69 a_70 HE71 K_59 hK60 HH61 a_72 HE73 a_77 HE78 a_79 HE80 a_81 HE82 hK75 K_74
      refine nrm ?_
      refine cnd_d HE84 rfl (fun hc26 => ?_) (fun hc26 => ?_)
      · refine wp_seq ?_
        refine rg ?_
        refine pl_x HE84 HH76 (wt0 rfl) (x_assign rfl) rfl rfl fun a_85 HE86 => ?_
        refine pl_x HE86 HH76 (wt0 rfl) (x_assign rfl) rfl rfl fun a_87 HE88 => ?_
        refine wpList_nil ?_
        clear a_83 HE84 a_85 HE86
        refine nrm ?_
        refine wp_ret ?_
        refine (thn_ret ?_)
        refine ret2 HE88 rfl (rv_tmp rfl) (rv_tmp rfl) ?_
        have hF : (numR a0) = (0, false) := by
          rw [numR_def]; first | (simp [hc22, hc24, hc26]; done) | (simp [hc22, hc24, hc26]; omega)
        exact ⟨by first | (rw [hF] <;> rfl) | rfl | (rw [hF]; simp only [Ending.returned.injEq, Value.slice.injEq, true_and, and_true]; first | omega | (simp; done)) | (rw [hF]; simp; omega), HH76.below⟩
      · refine wp_skip ?_
        refine nrm ?_
        refine wp_seq ?_
        refine rg ?_
        refine pl_x HE84 HH76 (wt0 rfl) (x_move rfl) rfl rfl fun a_89 HE90 => ?_
        refine pl_x HE90 HH76 (wt0 rfl) (x_assign rfl) rfl rfl fun a_91 HE92 => ?_
        refine pl_x HE92 HH76 (wt0 rfl) (x_assign rfl) rfl rfl fun a_93 HE94 => ?_
        refine wpList_nil ?_
        clear a_83 HE84 a_89 HE90 a_91 HE92
        refine nrm ?_
        refine wp_ret ?_
        refine ret2 HE94 rfl (rv_tmp rfl) (rv_tmp rfl) ?_
        have hF : (numR a0) = ((parI a0).1, true) := by
          rw [numR_def]; first | (simp [hc22, hc24, hc26]; done) | (simp [hc22, hc24, hc26]; omega)
        exact ⟨by first | (rw [hF] <;> rfl) | rfl | (rw [hF]; simp only [Ending.returned.injEq, Value.slice.injEq, true_and, and_true]; first | omega | (simp; done)) | (rw [hF]; simp; omega), HH76.below⟩
    · refine pl_no HE71 (wtF HE71 rfl rfl rfl (not_t (decide_eq_false hc24))) rfl rfl fun a_95 HE96 => ?_
      refine pl_no HE96 (wtF HE96 rfl rfl rfl (not_t (decide_eq_false hc24))) rfl rfl fun a_97 HE98 => ?_
      refine pl_no HE98 (wtF HE98 rfl rfl rfl (not_t (decide_eq_false hc24))) rfl rfl fun a_99 HE100 => ?_
      refine pl_no HE100 (wtF HE100 rfl rfl rfl (not_t (decide_eq_false hc24))) rfl rfl fun a_101 HE102 => ?_
      refine pl_x HE102 HH61 (wt0 rfl) (x_pickT rfl (not_t (decide_eq_false hc24)) rfl) rfl rfl fun a_103 HE104 => ?_
      refine wpList_nil ?_
      clear a_23 HE24 a_25 HE26 a_27 HE28 a_29 HE30 HH12 a_57 HE58 a_62 HE63 a_64 HE65 a_66 HE67 a_68 HE69 a_70 HE71 a_95 HE96 a_97 HE98 a_99 HE100 a_101 HE102 hK60 K_59
      refine nrm ?_
      refine cndT HE104 rfl rfl ?_
      refine wp_seq ?_
      refine rg ?_
      refine pl_x HE104 HH61 (wt0 rfl) (x_assign rfl) rfl rfl fun a_105 HE106 => ?_
      refine pl_x HE106 HH61 (wt0 rfl) (x_assign rfl) rfl rfl fun a_107 HE108 => ?_
      refine wpList_nil ?_
      clear a_103 HE104 a_105 HE106
      refine nrm ?_
      refine wp_ret ?_
      refine (thn_ret ?_)
      refine ret2 HE108 rfl (rv_tmp rfl) (rv_tmp rfl) ?_
      have hF : (numR a0) = (0, false) := by
        rw [numR_def]; first | (simp [hc22, hc24]; done) | (simp [hc22, hc24]; omega)
      exact ⟨by first | (rw [hF] <;> rfl) | rfl | (rw [hF]; simp only [Ending.returned.injEq, Value.slice.injEq, true_and, and_true]; first | omega | (simp; done)) | (rw [hF]; simp; omega), HH61.below⟩

end Go.Proofs.YtcfdkckchbdafaaGreatDoor
