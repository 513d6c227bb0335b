/- What the proof of FnExactSequenceMulti needs: contracts of the functions that it reaches, each once. -/
import Derived.Test.YthfihlfjphiihaaProg
import Derived.Test.YthfihlfjphiihaaQMem
import Derived.Test.YthfihlfjphiihaaQOpen
import Derived.Test.YthfihlfjphiihaaLSequenceMultia
import Derived.Test.YthfihlfjphiihaaLSequenceMultib
import Derived.Test.YthfihlfjphiihaaLSequenceMultic
import Derived.Test.YthfihlfjphiihaaLSequenceMultid
import Derived.Test.YthfihlfjphiihaaLSequenceMultie
import Derived.Test.YthfihlfjphiihaaLSequenceMultif
import Derived.Test.YthfihlfjphiihaaLSequenceMultig
import Derived.Test.YthfihlfjphiihaaLSequenceMultih
import Derived.Test.YthfihlfjphiihaaLSequenceMultii
import Derived.WalkKit
import Derived.WalkSpells
import Derived.Below
import Derived.LoopTactic
import Derived.Outline
import Derived.Deep.QuietTactic
import Derived.BigQuiet
import Derived.Deep.LoopGhost
import Derived.Handy
import Derived.Lib.Hide
import Derived.Shelf.Abstract
import Derived.StillTailTactics
import Derived.OwnWalk
import Derived.Maps.AppendAt
import Derived.RegionTactic
import Derived.Deep.RegionHeld3
import Derived.IntWalk
import Derived.Deep.Upon
import Derived.Laws.OwnMore
import Derived.Maps.AppendAt
import Derived.Laws.Small
import Derived.Lib.FrozenHead
import Derived.Lib.RuneBytes
import Derived.Lib.LaidTab
import Derived.Laws.StructEq
import Derived.Maps.OwnSet
import Derived.DeepKeys4
import Derived.Lib.SliceRun
import Derived.Lib.AppendZeros
import Derived.Shelf.SortG.Plain
import Derived.Shelf.SortG.SortNone
import Derived.Shelf.SlicesG.CompactI
import Derived.Shelf.SlicesG.SearchI
import Derived.Sort.OwnSortedInts
import Derived.Lib.RowBridge
import Derived.Lib.ItoaLen
import Derived.Lib.Join
import Derived.Shelf.Strconv.Itoa4
import Derived.Shelf.Strings.OnBuilder
import Derived.Shelf.Strings.BuilderK
import Derived.Shelf.Strings.BuilderRune
import Derived.Shelf.LaysM
import Derived.Ground.NamesProg
import Derived.Shelf.SlSortCmp.WholeK
import Derived.Shelf.SlSortCmp.NoneTotal
namespace Go.Proofs.Ythfihlfjphiihaa
open Go.RowKit

set_option maxRecDepth 100000 in
set_option maxHeartbeats 4000000 in
theorem law_SequenceMulti (es0 : List Value) (a0 : tMulti) (es1 : List Value) (a1 : tMulti) (w : World) (h0 : eMulti.R w (Old w) es0 a0) (h1 : eMulti.R w (Old w) es1 a1) :
    Calls Try.prog 6 #[.agg es0.toArray, .agg es1.toArray] w fun e w' => e = .returned (.bool true) ∧ Below w.heap.size w w' := by
  have H0 := h0
  obtain ⟨Az0_3, cz0_3, rfl, gz0_0, gz0_1, gz0_2, gz0_3⟩ := shape_Multi h0
  have jz0_0 := gz0_0; unfold I64 at jz0_0
  have jz0_1 := gz0_1; unfold I64 at jz0_1
  have jz0_2 := gz0_2; unfold I64 at jz0_2
  have lz0_3 := gz0_3.len
  have H1 := h1
  obtain ⟨Az1_3, cz1_3, rfl, gz1_0, gz1_1, gz1_2, gz1_3⟩ := shape_Multi h1
  have jz1_0 := gz1_0; unfold I64 at jz1_0
  have jz1_1 := gz1_1; unfold I64 at jz1_1
  have jz1_2 := gz1_2; unfold I64 at jz1_2
  have lz1_3 := gz1_3.len
  have m0 := cv_cost_Multi a0
  have m1 := cv_cost_Multi a1
  have n0 : (cv_Multi (seqMulti a0 a1).1 : Int) ≤ 1000000000 := seqMulti_ct a0 a1
  have HH1 := Held.start Nob w
  refine enter (n := 119) Try.func6 rfl rfl rfl fun a_2 HE3 => ?_
  refine wp_seq ?_
  refine rg ?_
  refine pl fun K_4 hK5 => ?_
  refine st_box (cs := [.int .i64 (a0.1), .int .i64 (a0.2.1), .int .i64 (a0.2.2.1), .slice Az0_3 (a0.2.2.2.length) cz0_3]) HE3 HH1 rfl rfl (wt0 rfl) rfl fun q21 a_6 w' HE7 HH8 => hK5 _ _ ?_
  refine pl fun K_9 hK10 => ?_
  refine st_box (cs := [.int .i64 (a1.1), .int .i64 (a1.2.1), .int .i64 (a1.2.2.1), .slice Az1_3 (a1.2.2.2.length) cz1_3]) HE7 HH8 rfl rfl (wt0 rfl) rfl fun q22 a_11 w' HE12 HH13 => hK10 _ _ ?_
  refine pl_x HE12 HH13 (wt0 rfl) (x_assign rfl) rfl rfl fun a_14 HE15 => ?_
  refine wpList_nil ?_
  clear a_2 HE3 HH1 K_4 hK5 a_6 HE7 HH8 a_11 HE12 hK10 K_9
  refine nrm ?_
  refine wp_seq ?_
  refine rg ?_
  refine pl_x HE15 HH13 (wt0 rfl) (x_assign rfl) rfl rfl fun a_16 HE17 => ?_
  refine wpList_nil ?_
  clear a_14 HE15
  refine nrm ?_
  refine wp_seq ?_
  refine rg ?_
  refine pl_x HE17 HH13 (wt0 rfl) (x_loadN (cs := [.int .i64 (a0.1), .int .i64 (a0.2.1), .int .i64 (a0.2.2.1), .slice Az0_3 (a0.2.2.2.length) cz0_3]) tv_48 rfl rfl (c_blkN 1 rfl)) rfl rfl fun a_18 HE19 => ?_
  refine pl_x HE19 HH13 (wt0 rfl) (x_move rfl) rfl rfl fun a_20 HE21 => ?_
  refine pl fun K_22 hK23 => ?_
  refine st_call HE21 (wt0 rfl) rfl rfl rfl en_26 rfl rfl (sz_Multi [.int .i64 (a0.1), .int .i64 (a0.2.1), .int .i64 (a0.2.2.1), .slice Az0_3 (a0.2.2.2.length) cz0_3] a0 1048576 _ (HH13.oldR H0) (by omega) (by omega)) fun e w' hr => ?_
  obtain ⟨rfl, hbr23⟩ := hr
  have HH24 := HH13.on hbr23
  clear hbr23
  refine ⟨_, rfl, fun a_25 HE26 => hK23 _ _ ?_⟩
  refine pl_x HE26 HH24 (wt0 rfl) (x_assign rfl) rfl rfl fun a_27 HE28 => ?_
  refine wpList_nil ?_
  clear a_16 HE17 a_18 HE19 HH13 a_20 HE21 a_25 HE26 hK23 K_22
  refine nrm ?_
  refine wp_seq ?_
  refine wp_seq ?_
  refine rg ?_
  refine pl_x HE28 HH24 (wt0 rfl) (x_move rfl) rfl rfl fun a_29 HE30 => ?_
  refine pl_x HE30 HH24 (wt0 rfl) (x_lss rfl rfl) rfl rfl fun a_31 HE32 => ?_
  refine wpList_nil ?_
  clear a_27 HE28 a_29 HE30
  refine nrm ?_
  refine cnd_d HE32 rfl (fun hc24 => ?_) (fun hc24 => ?_)
  · refine wp_seq ?_
    refine rg ?_
    refine pl_x HE32 HH24 (wt0 rfl) (x_assign rfl) rfl rfl fun a_33 HE34 => ?_
    refine wpList_nil ?_
    clear a_31 HE32
    refine nrm ?_
    refine wp_ret ?_
    refine (thn_ret ?_)
    refine ret1 HE34 rfl (rv_tmp rfl) ?_
    have hF : true = true := by
      first | rfl | (exfalso; omega)
    exact ⟨by first | (rw [hF] <;> rfl) | rfl | (rw [hF]; simp only [Ending.returned.injEq, Value.slice.injEq, true_and, and_true]; first | omega | (simp; done)) | (rw [hF]; simp; omega), HH24.below⟩
  · have zr23 := left_ok hc24
    refine wp_skip ?_
    refine nrm ?_
    refine wp_seq ?_
    refine rg ?_
    refine pl_x HE32 HH24 (wt0 rfl) (x_loadN (cs := [.int .i64 (a1.1), .int .i64 (a1.2.1), .int .i64 (a1.2.2.1), .slice Az1_3 (a1.2.2.2.length) cz1_3]) tv_48 rfl rfl (c_blkN 0 rfl)) rfl rfl fun a_35 HE36 => ?_
    refine pl_x HE36 HH24 (wt0 rfl) (x_move rfl) rfl rfl fun a_37 HE38 => ?_
    refine pl fun K_39 hK40 => ?_
    refine st_call HE38 (wt0 rfl) rfl rfl rfl en_26 rfl rfl (sz_Multi [.int .i64 (a1.1), .int .i64 (a1.2.1), .int .i64 (a1.2.2.1), .slice Az1_3 (a1.2.2.2.length) cz1_3] a1 (left 1048576 (cost_Multi a0)) _ (HH24.oldR H1) (by omega) (by omega)) fun e w' hr => ?_
    obtain ⟨rfl, hbr25⟩ := hr
    have HH41 := HH24.on hbr25
    clear hbr25
    refine ⟨_, rfl, fun a_42 HE43 => hK40 _ _ ?_⟩
    refine pl_x HE43 HH41 (wt0 rfl) (x_assign rfl) rfl rfl fun a_44 HE45 => ?_
    refine wpList_nil ?_
    clear a_31 HE32 a_35 HE36 HH24 a_37 HE38 a_42 HE43 hK40 K_39
    refine nrm ?_
    refine wp_seq ?_
    refine wp_seq ?_
    refine rg ?_
    refine pl_x HE45 HH41 (wt0 rfl) (x_move rfl) rfl rfl fun a_46 HE47 => ?_
    refine pl_x HE47 HH41 (wt0 rfl) (x_lss rfl rfl) rfl rfl fun a_48 HE49 => ?_
    refine wpList_nil ?_
    clear a_44 HE45 a_46 HE47
    refine nrm ?_
    refine cnd_d HE49 rfl (fun hc26 => ?_) (fun hc26 => ?_)
    · refine wp_seq ?_
      refine rg ?_
      refine pl_x HE49 HH41 (wt0 rfl) (x_assign rfl) rfl rfl fun a_50 HE51 => ?_
      refine wpList_nil ?_
      clear a_48 HE49
      refine nrm ?_
      refine wp_ret ?_
      refine (thn_ret ?_)
      refine ret1 HE51 rfl (rv_tmp rfl) ?_
      have hF : true = true := by
        first | rfl | (exfalso; omega)
      exact ⟨by first | (rw [hF] <;> rfl) | rfl | (rw [hF]; simp only [Ending.returned.injEq, Value.slice.injEq, true_and, and_true]; first | omega | (simp; done)) | (rw [hF]; simp; omega), HH41.below⟩
    · have zr25 := left_ok hc26
      refine wp_skip ?_
      refine nrm ?_
      refine wp_seq ?_
      refine wp_join (fun a w' => ∃ (q30 : Nat), ∃ (Ar29_0_3 : Option Addr), ∃ (cr29_0_3 : Nat), ∃ (Sr29 : Nat → Prop), ∃ (Sr28 : Nat → Prop), ∃ (Ar28_3 : Option Addr), ∃ (cr28_3 : Nat), ∃ (Sr27 : Nat → Prop), ∃ (Ar27_3 : Option Addr), ∃ (cr27_3 : Nat), Env 119 [(2, .pointer (some ⟨q21, 0, none⟩)), (3, .pointer (some ⟨q22, 0, none⟩)), (6, .pointer (some ⟨q30, 0, none⟩)), (7, .int .i64 ((seqMulti a0 a1).2))] a ∧ Held Nob w [rBlk q30 55 [.int .i64 ((seqMulti a0 a1).1.1), .int .i64 ((seqMulti a0 a1).1.2.1), .int .i64 ((seqMulti a0 a1).1.2.2.1), .slice Ar29_0_3 ((seqMulti a0 a1).1.2.2.2.length) cr29_0_3], rO eMulti Sr29 [.int .i64 ((seqMulti a0 a1).1.1), .int .i64 ((seqMulti a0 a1).1.2.1), .int .i64 ((seqMulti a0 a1).1.2.2.1), .slice Ar29_0_3 ((seqMulti a0 a1).1.2.2.2.length) cr29_0_3] ((seqMulti a0 a1).1), rO eMulti Sr28 [.int .i64 (a1.1), .int .i64 (a1.2.1), .int .i64 (a1.2.2.1), .slice Ar28_3 (a1.2.2.2.length) cr28_3] a1, rO eMulti Sr27 [.int .i64 (a0.1), .int .i64 (a0.2.1), .int .i64 (a0.2.2.1), .slice Ar27_3 (a0.2.2.2.length) cr27_3] a0, rBlk q22 48 [.int .i64 (a1.1), .int .i64 (a1.2.1), .int .i64 (a1.2.2.1), .slice Az1_3 (a1.2.2.2.length) cz1_3], rBlk q21 48 [.int .i64 (a0.1), .int .i64 (a0.2.1), .int .i64 (a0.2.2.1), .slice Az0_3 (a0.2.2.2.length) cz0_3]] w') ?_ ?_
      · refine dr_start (Held Nob w [rBlk q22 48 [.int .i64 (a1.1), .int .i64 (a1.2.1), .int .i64 (a1.2.2.1), .slice Az1_3 (a1.2.2.2.length) cz1_3], rBlk q21 48 [.int .i64 (a0.1), .int .i64 (a0.2.1), .int .i64 (a0.2.2.1), .slice Az0_3 (a0.2.2.2.length) cz0_3]]) 11 #[false, false, false, false, false, false, false, false, false, false, false] hmix rfl rfl HH41 (fun _ h => h.sel [0, 1] (by decide) rfl) fun w' HH52 => ?_
        have HS53 := HH52
        refine dr_take (i := 0) (ls' := #[true, false, false, false, false, false, false, false, false, false, false]) HE49 HS53 rfl (by kernel_rfl) (by kernel_rfl) (by kernel_rfl) (fun _ _ _ h => h) rfl (wt0 rfl) (x_loadN (cs := [.int .i64 (a0.1), .int .i64 (a0.2.1), .int .i64 (a0.2.2.1), .slice Az0_3 (a0.2.2.2.length) cz0_3]) tv_48 rfl rfl (c_blkN 1 rfl)) rfl rfl fun a_54 HE55 => ?_
        refine dr_take (i := 2) (ls' := #[true, false, true, false, false, false, false, false, false, false, false]) HE55 HS53 rfl (by kernel_rfl) (by kernel_rfl) (by kernel_rfl) (fun _ _ _ h => h) rfl (wt0 rfl) (x_loadN (cs := [.int .i64 (a1.1), .int .i64 (a1.2.1), .int .i64 (a1.2.2.1), .slice Az1_3 (a1.2.2.2.length) cz1_3]) tv_48 rfl rfl (c_blkN 0 rfl)) rfl rfl fun a_56 HE57 => ?_
        refine dr_two (i := 1) (j := 8) (ls' := #[true, true, true, false, false, false, false, false, false, false, false]) (ls'' := #[true, false, true, false, false, false, false, false, true, false, false]) rfl rfl (by kernel_rfl) rfl rfl (fun K_58 hK59 => ?_) (fun K_58 hK59 => ?_)
        · refine st_call HE57 (wt0 rfl) rfl rfl rfl en_28 rfl rfl (to_Multi [.int .i64 (a0.1), .int .i64 (a0.2.1), .int .i64 (a0.2.2.1), .slice Az0_3 (a0.2.2.2.length) cz0_3] a0 _ (HH52.oldR H0) (by omega)) fun e w' hr => ?_
          obtain ⟨esr27, rfl, hor27, hbr27⟩ := hr
          have hr := eMulti.read hor27
          obtain ⟨Sr27, HH60⟩ := HH52.newO hbr27 hor27
          obtain ⟨Ar27_3, cr27_3, rfl, gr27_0, gr27_1, gr27_2, gr27_3⟩ := shape_Multi hr
          clear hbr27 hor27 gr27_0 gr27_1 gr27_2 gr27_3
          refine ⟨_, rfl, fun a_61 HE62 => hK59 _ _ (by exact HH60.sel [1, 2] (by decide) rfl) ?_⟩
          have HS63 := HH60.sel [1, 2] (by decide) rfl
          refine dr_two (i := 3) (j := 8) (ls' := #[true, true, true, true, false, false, false, false, false, false, false]) (ls'' := #[true, true, true, false, false, false, false, false, true, false, false]) rfl rfl (by kernel_rfl) rfl rfl (fun K_64 hK65 => ?_) (fun K_64 hK65 => ?_)
          · refine st_call HE62 (wt0 rfl) rfl rfl rfl en_28 rfl rfl (to_Multi [.int .i64 (a1.1), .int .i64 (a1.2.1), .int .i64 (a1.2.2.1), .slice Az1_3 (a1.2.2.2.length) cz1_3] a1 _ (HH60.oldR H1) (by omega)) fun e w' hr => ?_
            obtain ⟨esr28, rfl, hor28, hbr28⟩ := hr
            have hr := eMulti.read hor28
            obtain ⟨Sr28, HH66⟩ := HH60.newO hbr28 hor28
            obtain ⟨Ar28_3, cr28_3, rfl, gr28_0, gr28_1, gr28_2, gr28_3⟩ := shape_Multi hr
            clear hbr28 hor28 gr28_0 gr28_1 gr28_2 gr28_3
            refine ⟨_, rfl, fun a_67 HE68 => hK65 _ _ (by exact HH66.sel [2, 3] (by decide) rfl) ?_⟩
            have HS69 := HH66.sel [2, 3] (by decide) rfl
            refine dr_two (i := 4) (j := 8) (ls' := #[true, true, true, true, true, false, false, false, false, false, false]) (ls'' := #[true, true, true, true, false, false, false, false, true, false, false]) rfl rfl (by kernel_rfl) rfl rfl (fun K_70 hK71 => ?_) (fun K_70 hK71 => ?_)
            · refine st_call HE68 (wt0 rfl) rfl rfl rfl en_35 rfl rfl (spec_SequenceMulti [.int .i64 (a0.1), .int .i64 (a0.2.1), .int .i64 (a0.2.2.1), .slice Ar27_3 (a0.2.2.2.length) cr27_3] a0 [.int .i64 (a1.1), .int .i64 (a1.2.1), .int .i64 (a1.2.2.1), .slice Ar28_3 (a1.2.2.2.length) cr28_3] a1 _ (HH66.rd (i := 1) rfl) (HH66.rd (i := 0) rfl)) fun e w' hr => ?_
              obtain ⟨esr29_0, rfl, hor29_0, hbr29⟩ := hr
              have hr := eMulti.read hor29_0
              obtain ⟨Sr29, HH72⟩ := HH66.newO hbr29 hor29_0
              obtain ⟨Ar29_0_3, cr29_0_3, rfl, gr29_0_0, gr29_0_1, gr29_0_2, gr29_0_3⟩ := shape_Multi hr
              have jr29_0_0 := gr29_0_0; unfold I64 at jr29_0_0
              have jr29_0_1 := gr29_0_1; unfold I64 at jr29_0_1
              have jr29_0_2 := gr29_0_2; unfold I64 at jr29_0_2
              refine ⟨_, rfl, fun a_73 HE74 => hK71 _ _ (by exact HH72.sel [3, 4] (by decide) rfl) ?_⟩
              have HS75 := HH72.sel [3, 4] (by decide) rfl
              refine dr_take (i := 5) (ls' := #[true, true, true, true, true, true, false, false, false, false, false]) HE74 HS75 rfl (by kernel_rfl) (by kernel_rfl) (by kernel_rfl) (fun _ _ _ h => h) rfl (wt0 rfl) (x_move rfl) rfl rfl fun a_76 HE77 => ?_
              refine dr_take (i := 6) (ls' := #[true, true, true, true, true, true, true, false, false, false, false]) HE77 HS75 rfl (by kernel_rfl) (by kernel_rfl) (by kernel_rfl) (fun _ _ _ h => h) rfl (wt0 rfl) (x_extract rfl rfl) rfl rfl fun a_78 HE79 => ?_
              refine dr_take (i := 7) (ls' := #[true, true, true, true, true, true, true, true, false, false, false]) HE79 HS75 rfl (by kernel_rfl) (by kernel_rfl) (by kernel_rfl) (fun _ _ _ h => h) rfl (wt0 rfl) (x_extract rfl rfl) rfl rfl fun a_80 HE81 => ?_
              refine dr_one (i := 8) (ls' := #[true, true, true, true, true, true, true, true, true, false, false]) rfl (by kernel_rfl) rfl fun K_82 hK83 => ?_
              refine st_alloc HE81 HH72 tv_55 (wt0 rfl) rfl fun q30 a_84 w' HE85 HH86 => hK83 _ _ (by exact HH86.sel [4, 5] (by decide) rfl) ?_
              have HS87 := HH86.sel [4, 5] (by decide) rfl
              refine dr_one (i := 9) (ls' := #[true, true, true, true, true, true, true, true, true, true, false]) rfl (by kernel_rfl) rfl fun K_88 hK89 => ?_
              refine st_store (vs := [.int .i64 ((seqMulti a0 a1).1.1), .int .i64 ((seqMulti a0 a1).1.2.1), .int .i64 ((seqMulti a0 a1).1.2.2.1), .slice Ar29_0_3 ((seqMulti a0 a1).1.2.2.2.length) cr29_0_3]) 0 HE85 HH86 tv_55 rfl rfl rfl rfl rfl rfl (by simp [Value.oneCell']) (wt0 rfl) fun w' HH90 => hK89 _ _ (by exact HH90.sel [4, 5] (by decide) rfl) ?_
              have HS91 := HH90.sel [4, 5] (by decide) rfl
              refine dr_take (i := 10) (ls' := #[true, true, true, true, true, true, true, true, true, true, true]) HE85 HS91 rfl (by kernel_rfl) (by kernel_rfl) (by kernel_rfl) (fun _ _ _ h => h) rfl (wt0 rfl) (x_assign rfl) rfl rfl fun a_92 HE93 => ?_
              refine dr_done (by kernel_rfl) ?_
              clear HH41 a_48 HE49 a_54 HE55 HH52 a_56 HE57 HS53 K_58 hK59 HH60 a_61 HE62 HS63 K_64 hK65 HH66 a_67 HE68 HS69 a_73 HE74 a_76 HE77 a_78 HE79 K_70 hK71 a_80 HE81 HH72 HS75 K_82 hK83 HH86 HS87 a_84 HE85 hK89 K_88
              exact nrm ⟨_, _, _, _, _, _, _, _, _, _, HE93.sub ⟨rfl, rfl, rfl, rfl, trivial⟩, HH90.sel [0, 1, 2, 3, 4, 5] (by decide) rfl⟩
            · refine st_alloc HE68 HH66 tv_55 (wt0 rfl) rfl fun q31 a_94 w' HE95 HH96 => hK71 _ _ (by exact HH96.sel [3, 4] (by decide) rfl) ?_
              have HS97 := HH96.sel [3, 4] (by decide) rfl
              refine dr_one (i := 4) (ls' := #[true, true, true, true, true, false, false, false, true, false, false]) rfl (by kernel_rfl) rfl fun K_98 hK99 => ?_
              refine st_call HE95 (wt0 rfl) rfl rfl rfl en_35 rfl rfl (spec_SequenceMulti [.int .i64 (a0.1), .int .i64 (a0.2.1), .int .i64 (a0.2.2.1), .slice Ar27_3 (a0.2.2.2.length) cr27_3] a0 [.int .i64 (a1.1), .int .i64 (a1.2.1), .int .i64 (a1.2.2.1), .slice Ar28_3 (a1.2.2.2.length) cr28_3] a1 _ (HH96.rd (i := 2) rfl) (HH96.rd (i := 1) rfl)) fun e w' hr => ?_
              obtain ⟨esr32_0, rfl, hor32_0, hbr32⟩ := hr
              have hr := eMulti.read hor32_0
              obtain ⟨Sr32, HH100⟩ := HH96.newO hbr32 hor32_0
              obtain ⟨Ar32_0_3, cr32_0_3, rfl, gr32_0_0, gr32_0_1, gr32_0_2, gr32_0_3⟩ := shape_Multi hr
              have jr32_0_0 := gr32_0_0; unfold I64 at jr32_0_0
              have jr32_0_1 := gr32_0_1; unfold I64 at jr32_0_1
              have jr32_0_2 := gr32_0_2; unfold I64 at jr32_0_2
              refine ⟨_, rfl, fun a_101 HE102 => hK99 _ _ (by exact HH100.sel [4, 5] (by decide) rfl) ?_⟩
              have HS103 := HH100.sel [4, 5] (by decide) rfl
              refine dr_take (i := 5) (ls' := #[true, true, true, true, true, true, false, false, true, false, false]) HE102 HS103 rfl (by kernel_rfl) (by kernel_rfl) (by kernel_rfl) (fun _ _ _ h => h) rfl (wt0 rfl) (x_move rfl) rfl rfl fun a_104 HE105 => ?_
              refine dr_take (i := 6) (ls' := #[true, true, true, true, true, true, true, false, true, false, false]) HE105 HS103 rfl (by kernel_rfl) (by kernel_rfl) (by kernel_rfl) (fun _ _ _ h => h) rfl (wt0 rfl) (x_extract rfl rfl) rfl rfl fun a_106 HE107 => ?_
              refine dr_take (i := 7) (ls' := #[true, true, true, true, true, true, true, true, true, false, false]) HE107 HS103 rfl (by kernel_rfl) (by kernel_rfl) (by kernel_rfl) (fun _ _ _ h => h) rfl (wt0 rfl) (x_extract rfl rfl) rfl rfl fun a_108 HE109 => ?_
              refine dr_one (i := 9) (ls' := #[true, true, true, true, true, true, true, true, true, true, false]) rfl (by kernel_rfl) rfl fun K_110 hK111 => ?_
              refine st_store (vs := [.int .i64 ((seqMulti a0 a1).1.1), .int .i64 ((seqMulti a0 a1).1.2.1), .int .i64 ((seqMulti a0 a1).1.2.2.1), .slice Ar32_0_3 ((seqMulti a0 a1).1.2.2.2.length) cr32_0_3]) 1 HE109 HH100 tv_55 rfl rfl rfl rfl rfl rfl (by simp [Value.oneCell']) (wt0 rfl) fun w' HH112 => hK111 _ _ (by exact HH112.sel [4, 5] (by decide) rfl) ?_
              have HS113 := HH112.sel [4, 5] (by decide) rfl
              refine dr_take (i := 10) (ls' := #[true, true, true, true, true, true, true, true, true, true, true]) HE109 HS113 rfl (by kernel_rfl) (by kernel_rfl) (by kernel_rfl) (fun _ _ _ h => h) rfl (wt0 rfl) (x_assign rfl) rfl rfl fun a_114 HE115 => ?_
              refine dr_done (by kernel_rfl) ?_
              clear HH41 a_48 HE49 a_54 HE55 HH52 a_56 HE57 HS53 K_58 hK59 HH60 a_61 HE62 HS63 K_64 hK65 a_67 HE68 HH66 HS69 K_70 hK71 HH96 a_94 HE95 HS97 a_101 HE102 a_104 HE105 a_106 HE107 K_98 hK99 HH100 HS103 a_108 HE109 hK111 K_110
              exact nrm ⟨_, _, _, _, _, _, _, _, _, _, HE115.sub ⟨rfl, rfl, rfl, rfl, trivial⟩, HH112.sel [1, 0, 2, 3, 4, 5] (by decide) rfl⟩
          · refine st_alloc HE62 HH60 tv_55 (wt0 rfl) rfl fun q33 a_116 w' HE117 HH118 => hK65 _ _ (by exact HH118.sel [2, 3] (by decide) rfl) ?_
            have HS119 := HH118.sel [2, 3] (by decide) rfl
            refine dr_one (i := 3) (ls' := #[true, true, true, true, false, false, false, false, true, false, false]) rfl (by kernel_rfl) rfl fun K_120 hK121 => ?_
            refine st_call HE117 (wt0 rfl) rfl rfl rfl en_28 rfl rfl (to_Multi [.int .i64 (a1.1), .int .i64 (a1.2.1), .int .i64 (a1.2.2.1), .slice Az1_3 (a1.2.2.2.length) cz1_3] a1 _ (HH118.oldR H1) (by omega)) fun e w' hr => ?_
            obtain ⟨esr34, rfl, hor34, hbr34⟩ := hr
            have hr := eMulti.read hor34
            obtain ⟨Sr34, HH122⟩ := HH118.newO hbr34 hor34
            obtain ⟨Ar34_3, cr34_3, rfl, gr34_0, gr34_1, gr34_2, gr34_3⟩ := shape_Multi hr
            clear hbr34 hor34 gr34_0 gr34_1 gr34_2 gr34_3
            refine ⟨_, rfl, fun a_123 HE124 => hK121 _ _ (by exact HH122.sel [3, 4] (by decide) rfl) ?_⟩
            have HS125 := HH122.sel [3, 4] (by decide) rfl
            refine dr_one (i := 4) (ls' := #[true, true, true, true, true, false, false, false, true, false, false]) rfl (by kernel_rfl) rfl fun K_126 hK127 => ?_
            refine st_call HE124 (wt0 rfl) rfl rfl rfl en_35 rfl rfl (spec_SequenceMulti [.int .i64 (a0.1), .int .i64 (a0.2.1), .int .i64 (a0.2.2.1), .slice Ar27_3 (a0.2.2.2.length) cr27_3] a0 [.int .i64 (a1.1), .int .i64 (a1.2.1), .int .i64 (a1.2.2.1), .slice Ar34_3 (a1.2.2.2.length) cr34_3] a1 _ (HH122.rd (i := 2) rfl) (HH122.rd (i := 0) rfl)) fun e w' hr => ?_
            obtain ⟨esr35_0, rfl, hor35_0, hbr35⟩ := hr
            have hr := eMulti.read hor35_0
            obtain ⟨Sr35, HH128⟩ := HH122.newO hbr35 hor35_0
            obtain ⟨Ar35_0_3, cr35_0_3, rfl, gr35_0_0, gr35_0_1, gr35_0_2, gr35_0_3⟩ := shape_Multi hr
            have jr35_0_0 := gr35_0_0; unfold I64 at jr35_0_0
            have jr35_0_1 := gr35_0_1; unfold I64 at jr35_0_1
            have jr35_0_2 := gr35_0_2; unfold I64 at jr35_0_2
            refine ⟨_, rfl, fun a_129 HE130 => hK127 _ _ (by exact HH128.sel [4, 5] (by decide) rfl) ?_⟩
            have HS131 := HH128.sel [4, 5] (by decide) rfl
            refine dr_take (i := 5) (ls' := #[true, true, true, true, true, true, false, false, true, false, false]) HE130 HS131 rfl (by kernel_rfl) (by kernel_rfl) (by kernel_rfl) (fun _ _ _ h => h) rfl (wt0 rfl) (x_move rfl) rfl rfl fun a_132 HE133 => ?_
            refine dr_take (i := 6) (ls' := #[true, true, true, true, true, true, true, false, true, false, false]) HE133 HS131 rfl (by kernel_rfl) (by kernel_rfl) (by kernel_rfl) (fun _ _ _ h => h) rfl (wt0 rfl) (x_extract rfl rfl) rfl rfl fun a_134 HE135 => ?_
            refine dr_take (i := 7) (ls' := #[true, true, true, true, true, true, true, true, true, false, false]) HE135 HS131 rfl (by kernel_rfl) (by kernel_rfl) (by kernel_rfl) (fun _ _ _ h => h) rfl (wt0 rfl) (x_extract rfl rfl) rfl rfl fun a_136 HE137 => ?_
            refine dr_one (i := 9) (ls' := #[true, true, true, true, true, true, true, true, true, true, false]) rfl (by kernel_rfl) rfl fun K_138 hK139 => ?_
            refine st_store (vs := [.int .i64 ((seqMulti a0 a1).1.1), .int .i64 ((seqMulti a0 a1).1.2.1), .int .i64 ((seqMulti a0 a1).1.2.2.1), .slice Ar35_0_3 ((seqMulti a0 a1).1.2.2.2.length) cr35_0_3]) 2 HE137 HH128 tv_55 rfl rfl rfl rfl rfl rfl (by simp [Value.oneCell']) (wt0 rfl) fun w' HH140 => hK139 _ _ (by exact HH140.sel [4, 5] (by decide) rfl) ?_
            have HS141 := HH140.sel [4, 5] (by decide) rfl
            refine dr_take (i := 10) (ls' := #[true, true, true, true, true, true, true, true, true, true, true]) HE137 HS141 rfl (by kernel_rfl) (by kernel_rfl) (by kernel_rfl) (fun _ _ _ h => h) rfl (wt0 rfl) (x_assign rfl) rfl rfl fun a_142 HE143 => ?_
            refine dr_done (by kernel_rfl) ?_
            clear HH41 a_48 HE49 a_54 HE55 HH52 a_56 HE57 HS53 K_58 hK59 a_61 HE62 HH60 HS63 K_64 hK65 HH118 a_116 HE117 HS119 K_120 hK121 HH122 a_123 HE124 HS125 a_129 HE130 a_132 HE133 a_134 HE135 K_126 hK127 HH128 HS131 a_136 HE137 hK139 K_138
            exact nrm ⟨_, _, _, _, _, _, _, _, _, _, HE143.sub ⟨rfl, rfl, rfl, rfl, trivial⟩, HH140.sel [2, 0, 1, 3, 4, 5] (by decide) rfl⟩
        · refine st_alloc HE57 HH52 tv_55 (wt0 rfl) rfl fun q36 a_144 w' HE145 HH146 => hK59 _ _ (by exact HH146.sel [1, 2] (by decide) rfl) ?_
          have HS147 := HH146.sel [1, 2] (by decide) rfl
          refine dr_one (i := 1) (ls' := #[true, true, true, false, false, false, false, false, true, false, false]) rfl (by kernel_rfl) rfl fun K_148 hK149 => ?_
          refine st_call HE145 (wt0 rfl) rfl rfl rfl en_28 rfl rfl (to_Multi [.int .i64 (a0.1), .int .i64 (a0.2.1), .int .i64 (a0.2.2.1), .slice Az0_3 (a0.2.2.2.length) cz0_3] a0 _ (HH146.oldR H0) (by omega)) fun e w' hr => ?_
          obtain ⟨esr37, rfl, hor37, hbr37⟩ := hr
          have hr := eMulti.read hor37
          obtain ⟨Sr37, HH150⟩ := HH146.newO hbr37 hor37
          obtain ⟨Ar37_3, cr37_3, rfl, gr37_0, gr37_1, gr37_2, gr37_3⟩ := shape_Multi hr
          clear hbr37 hor37 gr37_0 gr37_1 gr37_2 gr37_3
          refine ⟨_, rfl, fun a_151 HE152 => hK149 _ _ (by exact HH150.sel [2, 3] (by decide) rfl) ?_⟩
          have HS153 := HH150.sel [2, 3] (by decide) rfl
          refine dr_one (i := 3) (ls' := #[true, true, true, true, false, false, false, false, true, false, false]) rfl (by kernel_rfl) rfl fun K_154 hK155 => ?_
          refine st_call HE152 (wt0 rfl) rfl rfl rfl en_28 rfl rfl (to_Multi [.int .i64 (a1.1), .int .i64 (a1.2.1), .int .i64 (a1.2.2.1), .slice Az1_3 (a1.2.2.2.length) cz1_3] a1 _ (HH150.oldR H1) (by omega)) fun e w' hr => ?_
          obtain ⟨esr38, rfl, hor38, hbr38⟩ := hr
          have hr := eMulti.read hor38
          obtain ⟨Sr38, HH156⟩ := HH150.newO hbr38 hor38
          obtain ⟨Ar38_3, cr38_3, rfl, gr38_0, gr38_1, gr38_2, gr38_3⟩ := shape_Multi hr
          clear hbr38 hor38 gr38_0 gr38_1 gr38_2 gr38_3
          refine ⟨_, rfl, fun a_157 HE158 => hK155 _ _ (by exact HH156.sel [3, 4] (by decide) rfl) ?_⟩
          have HS159 := HH156.sel [3, 4] (by decide) rfl
          refine dr_one (i := 4) (ls' := #[true, true, true, true, true, false, false, false, true, false, false]) rfl (by kernel_rfl) rfl fun K_160 hK161 => ?_
          refine st_call HE158 (wt0 rfl) rfl rfl rfl en_35 rfl rfl (spec_SequenceMulti [.int .i64 (a0.1), .int .i64 (a0.2.1), .int .i64 (a0.2.2.1), .slice Ar37_3 (a0.2.2.2.length) cr37_3] a0 [.int .i64 (a1.1), .int .i64 (a1.2.1), .int .i64 (a1.2.2.1), .slice Ar38_3 (a1.2.2.2.length) cr38_3] a1 _ (HH156.rd (i := 1) rfl) (HH156.rd (i := 0) rfl)) fun e w' hr => ?_
          obtain ⟨esr39_0, rfl, hor39_0, hbr39⟩ := hr
          have hr := eMulti.read hor39_0
          obtain ⟨Sr39, HH162⟩ := HH156.newO hbr39 hor39_0
          obtain ⟨Ar39_0_3, cr39_0_3, rfl, gr39_0_0, gr39_0_1, gr39_0_2, gr39_0_3⟩ := shape_Multi hr
          have jr39_0_0 := gr39_0_0; unfold I64 at jr39_0_0
          have jr39_0_1 := gr39_0_1; unfold I64 at jr39_0_1
          have jr39_0_2 := gr39_0_2; unfold I64 at jr39_0_2
          refine ⟨_, rfl, fun a_163 HE164 => hK161 _ _ (by exact HH162.sel [4, 5] (by decide) rfl) ?_⟩
          have HS165 := HH162.sel [4, 5] (by decide) rfl
          refine dr_take (i := 5) (ls' := #[true, true, true, true, true, true, false, false, true, false, false]) HE164 HS165 rfl (by kernel_rfl) (by kernel_rfl) (by kernel_rfl) (fun _ _ _ h => h) rfl (wt0 rfl) (x_move rfl) rfl rfl fun a_166 HE167 => ?_
          refine dr_take (i := 6) (ls' := #[true, true, true, true, true, true, true, false, true, false, false]) HE167 HS165 rfl (by kernel_rfl) (by kernel_rfl) (by kernel_rfl) (fun _ _ _ h => h) rfl (wt0 rfl) (x_extract rfl rfl) rfl rfl fun a_168 HE169 => ?_
          refine dr_take (i := 7) (ls' := #[true, true, true, true, true, true, true, true, true, false, false]) HE169 HS165 rfl (by kernel_rfl) (by kernel_rfl) (by kernel_rfl) (fun _ _ _ h => h) rfl (wt0 rfl) (x_extract rfl rfl) rfl rfl fun a_170 HE171 => ?_
          refine dr_one (i := 9) (ls' := #[true, true, true, true, true, true, true, true, true, true, false]) rfl (by kernel_rfl) rfl fun K_172 hK173 => ?_
          refine st_store (vs := [.int .i64 ((seqMulti a0 a1).1.1), .int .i64 ((seqMulti a0 a1).1.2.1), .int .i64 ((seqMulti a0 a1).1.2.2.1), .slice Ar39_0_3 ((seqMulti a0 a1).1.2.2.2.length) cr39_0_3]) 3 HE171 HH162 tv_55 rfl rfl rfl rfl rfl rfl (by simp [Value.oneCell']) (wt0 rfl) fun w' HH174 => hK173 _ _ (by exact HH174.sel [4, 5] (by decide) rfl) ?_
          have HS175 := HH174.sel [4, 5] (by decide) rfl
          refine dr_take (i := 10) (ls' := #[true, true, true, true, true, true, true, true, true, true, true]) HE171 HS175 rfl (by kernel_rfl) (by kernel_rfl) (by kernel_rfl) (fun _ _ _ h => h) rfl (wt0 rfl) (x_assign rfl) rfl rfl fun a_176 HE177 => ?_
          refine dr_done (by kernel_rfl) ?_
          clear HH41 a_48 HE49 a_54 HE55 a_56 HE57 HH52 HS53 K_58 hK59 HH146 a_144 HE145 HS147 K_148 hK149 HH150 a_151 HE152 HS153 K_154 hK155 HH156 a_157 HE158 HS159 a_163 HE164 a_166 HE167 a_168 HE169 K_160 hK161 HH162 HS165 a_170 HE171 hK173 K_172
          exact nrm ⟨_, _, _, _, _, _, _, _, _, _, HE177.sub ⟨rfl, rfl, rfl, rfl, trivial⟩, HH174.sel [3, 0, 1, 2, 4, 5] (by decide) rfl⟩
      · rintro a_178 w' ⟨q30, Ar29_0_3, cr29_0_3, Sr29, Sr28, Ar28_3, cr28_3, Sr27, Ar27_3, cr27_3, HE179, HH180⟩
        refine nrm ?_
        refine wp_seq ?_
        refine rg ?_
        refine pl_x HE179 HH180 (wt0 rfl) (x_loadN (cs := [.int .i64 (a0.1), .int .i64 (a0.2.1), .int .i64 (a0.2.2.1), .slice Az0_3 (a0.2.2.2.length) cz0_3]) tv_48 rfl rfl (c_blkN 5 rfl)) rfl rfl fun a_181 HE182 => ?_
        refine pl fun K_183 hK184 => ?_
        refine st_call HE182 (wt0 rfl) rfl rfl rfl en_28 rfl rfl (to_Multi [.int .i64 (a0.1), .int .i64 (a0.2.1), .int .i64 (a0.2.2.1), .slice Az0_3 (a0.2.2.2.length) cz0_3] a0 _ (HH180.oldR H0) (by omega)) fun e w' hr => ?_
        obtain ⟨esr40, rfl, hor40, hbr40⟩ := hr
        have hr := eMulti.read hor40
        obtain ⟨Sr40, HH185⟩ := HH180.newO hbr40 hor40
        obtain ⟨Ar40_3, cr40_3, rfl, gr40_0, gr40_1, gr40_2, gr40_3⟩ := shape_Multi hr
        clear hbr40 hor40 gr40_0 gr40_1 gr40_2 gr40_3
        refine ⟨_, rfl, fun a_186 HE187 => hK184 _ _ ?_⟩
        refine pl fun K_188 hK189 => ?_
        refine st_alloc HE187 HH185 tv_55 (wt0 rfl) rfl fun q41 a_190 w' HE191 HH192 => hK189 _ _ ?_
        refine pl fun K_193 hK194 => ?_
        refine st_store (vs := [.int .i64 (a0.1), .int .i64 (a0.2.1), .int .i64 (a0.2.2.1), .slice Ar40_3 (a0.2.2.2.length) cr40_3]) 0 HE191 HH192 tv_55 rfl rfl rfl rfl rfl rfl (by simp [Value.oneCell']) (wt0 rfl) fun w' HH195 => hK194 _ _ ?_
        refine wpList_nil ?_
        clear a_48 HE49 HH41 a_178 HE179 HH180 a_181 HE182 K_183 hK184 a_186 HE187 HH185 K_188 hK189 HH192 hK194 K_193
        refine nrm ?_
        refine wp_seq ?_
        refine rg ?_
        refine pl_x HE191 HH195 (wt0 rfl) (x_loadN (cs := [.int .i64 (a1.1), .int .i64 (a1.2.1), .int .i64 (a1.2.2.1), .slice Az1_3 (a1.2.2.2.length) cz1_3]) tv_48 rfl rfl (c_blkN 6 rfl)) rfl rfl fun a_196 HE197 => ?_
        refine pl fun K_198 hK199 => ?_
        refine st_call HE197 (wt0 rfl) rfl rfl rfl en_28 rfl rfl (to_Multi [.int .i64 (a1.1), .int .i64 (a1.2.1), .int .i64 (a1.2.2.1), .slice Az1_3 (a1.2.2.2.length) cz1_3] a1 _ (HH195.oldR H1) (by omega)) fun e w' hr => ?_
        obtain ⟨esr42, rfl, hor42, hbr42⟩ := hr
        have hr := eMulti.read hor42
        obtain ⟨Sr42, HH200⟩ := HH195.newO hbr42 hor42
        obtain ⟨Ar42_3, cr42_3, rfl, gr42_0, gr42_1, gr42_2, gr42_3⟩ := shape_Multi hr
        clear hbr42 hor42 gr42_0 gr42_1 gr42_2 gr42_3
        refine ⟨_, rfl, fun a_201 HE202 => hK199 _ _ ?_⟩
        refine pl fun K_203 hK204 => ?_
        refine st_alloc HE202 HH200 tv_55 (wt0 rfl) rfl fun q43 a_205 w' HE206 HH207 => hK204 _ _ ?_
        refine pl fun K_208 hK209 => ?_
        refine st_store (vs := [.int .i64 (a1.1), .int .i64 (a1.2.1), .int .i64 (a1.2.2.1), .slice Ar42_3 (a1.2.2.2.length) cr42_3]) 0 HE206 HH207 tv_55 rfl rfl rfl rfl rfl rfl (by simp [Value.oneCell']) (wt0 rfl) fun w' HH210 => hK209 _ _ ?_
        refine wpList_nil ?_
        clear a_190 HE191 HH195 a_196 HE197 K_198 hK199 a_201 HE202 HH200 K_203 hK204 HH207 hK209 K_208
        refine nrm ?_
        refine wp_seq ?_
        refine rg ?_
        refine pl_x HE206 HH210 (wt0 rfl) (x_loadN (cs := [.int .i64 (a0.1), .int .i64 (a0.2.1), .int .i64 (a0.2.2.1), .slice Ar40_3 (a0.2.2.2.length) cr40_3]) tv_55 rfl rfl (c_blkN 2 rfl)) rfl rfl fun a_211 HE212 => ?_
        refine pl_x HE212 HH210 (wt0 rfl) (x_loadN (cs := [.int .i64 (a1.1), .int .i64 (a1.2.1), .int .i64 (a1.2.2.1), .slice Ar42_3 (a1.2.2.2.length) cr42_3]) tv_55 rfl rfl (c_blkN 0 rfl)) rfl rfl fun a_213 HE214 => ?_
        refine pl fun K_215 hK216 => ?_
        refine st_call HE214 (wt0 rfl) rfl rfl rfl en_36 rfl rfl (impl_SequenceMulti [.int .i64 (a0.1), .int .i64 (a0.2.1), .int .i64 (a0.2.2.1), .slice Ar40_3 (a0.2.2.2.length) cr40_3] a0 [.int .i64 (a1.1), .int .i64 (a1.2.1), .int .i64 (a1.2.2.1), .slice Ar42_3 (a1.2.2.2.length) cr42_3] a1 _ (HH210.rd (i := 3) rfl) (HH210.rd (i := 1) rfl)) fun e w' hr => ?_
        obtain ⟨esr44_0, rfl, hor44_0, hbr44⟩ := hr
        have hr := eMulti.read hor44_0
        obtain ⟨Sr44, HH217⟩ := HH210.newO hbr44 hor44_0
        obtain ⟨Ar44_0_3, cr44_0_3, rfl, gr44_0_0, gr44_0_1, gr44_0_2, gr44_0_3⟩ := shape_Multi hr
        have jr44_0_0 := gr44_0_0; unfold I64 at jr44_0_0
        have jr44_0_1 := gr44_0_1; unfold I64 at jr44_0_1
        have jr44_0_2 := gr44_0_2; unfold I64 at jr44_0_2
        refine ⟨_, rfl, fun a_218 HE219 => hK216 _ _ ?_⟩
        refine pl_x HE219 HH217 (wt0 rfl) (x_move rfl) rfl rfl fun a_220 HE221 => ?_
        refine pl_x HE221 HH217 (wt0 rfl) (x_extract rfl rfl) rfl rfl fun a_222 HE223 => ?_
        refine pl_x HE223 HH217 (wt0 rfl) (x_extract rfl rfl) rfl rfl fun a_224 HE225 => ?_
        refine pl fun K_226 hK227 => ?_
        refine st_alloc HE225 HH217 tv_55 (wt0 rfl) rfl fun q45 a_228 w' HE229 HH230 => hK227 _ _ ?_
        refine pl fun K_231 hK232 => ?_
        refine st_store (vs := [.int .i64 ((seqMulti a0 a1).1.1), .int .i64 ((seqMulti a0 a1).1.2.1), .int .i64 ((seqMulti a0 a1).1.2.2.1), .slice Ar44_0_3 ((seqMulti a0 a1).1.2.2.2.length) cr44_0_3]) 0 HE229 HH230 tv_55 rfl rfl rfl rfl rfl rfl (by simp [Value.oneCell']) (wt0 rfl) fun w' HH233 => hK232 _ _ ?_
        refine pl_x HE229 HH233 (wt0 rfl) (x_assign rfl) rfl rfl fun a_234 HE235 => ?_
        refine wpList_nil ?_
        clear a_205 HE206 a_211 HE212 HH210 a_213 HE214 a_218 HE219 a_220 HE221 a_222 HE223 K_215 hK216 a_224 HE225 HH217 K_226 hK227 HH230 a_228 HE229 hK232 K_231
        refine nrm ?_
        refine wp_seq ?_
        refine wp_seq ?_
        refine rg ?_
        refine pl_x HE235 HH233 (wt0 rfl) (x_loadN (cs := [.int .i64 ((seqMulti a0 a1).1.1), .int .i64 ((seqMulti a0 a1).1.2.1), .int .i64 ((seqMulti a0 a1).1.2.2.1), .slice Ar44_0_3 ((seqMulti a0 a1).1.2.2.2.length) cr44_0_3]) tv_55 rfl rfl (c_blkN 0 rfl)) rfl rfl fun a_236 HE237 => ?_
        refine pl_x HE237 HH233 (wt0 rfl) (x_loadN (cs := [.int .i64 ((seqMulti a0 a1).1.1), .int .i64 ((seqMulti a0 a1).1.2.1), .int .i64 ((seqMulti a0 a1).1.2.2.1), .slice Ar29_0_3 ((seqMulti a0 a1).1.2.2.2.length) cr29_0_3]) tv_55 rfl rfl (c_blkN 6 rfl)) rfl rfl fun a_238 HE239 => ?_
        refine pl fun K_240 hK241 => ?_
        refine st_call HE239 (wt0 rfl) rfl rfl rfl en_31 rfl rfl (eq_Multi_c [.int .i64 ((seqMulti a0 a1).1.1), .int .i64 ((seqMulti a0 a1).1.2.1), .int .i64 ((seqMulti a0 a1).1.2.2.1), .slice Ar44_0_3 ((seqMulti a0 a1).1.2.2.2.length) cr44_0_3] [.int .i64 ((seqMulti a0 a1).1.1), .int .i64 ((seqMulti a0 a1).1.2.1), .int .i64 ((seqMulti a0 a1).1.2.2.1), .slice Ar29_0_3 ((seqMulti a0 a1).1.2.2.2.length) cr29_0_3] ((seqMulti a0 a1).1) ((seqMulti a0 a1).1) _ (HH233.rd (i := 1) rfl) (HH233.rd (i := 7) rfl)) fun e w' hr => ?_
        obtain ⟨rfl, hbr46⟩ := hr
        have HH242 := HH233.on hbr46
        clear hbr46
        refine ⟨_, rfl, fun a_243 HE244 => hK241 _ _ ?_⟩
        refine pl_x HE244 HH242 (wt0 rfl) (x_not rfl) rfl rfl fun a_245 HE246 => ?_
        refine pl_x HE246 HH242 (wt0 rfl) (x_move rfl) rfl rfl fun a_247 HE248 => ?_
        refine pl_x HE248 HH242 (wtT HE248 rfl rfl rfl (not_f (eq_Multi_refl _))) (x_move rfl) rfl rfl fun a_249 HE250 => ?_
        refine pl_x HE250 HH242 (wtT HE250 rfl rfl rfl (not_f (eq_Multi_refl _))) (x_move rfl) rfl rfl fun a_251 HE252 => ?_
        refine pl_x HE252 HH242 (wtT HE252 rfl rfl rfl (not_f (eq_Multi_refl _))) (x_neq rfl rfl) rfl rfl fun a_253 HE254 => ?_
        refine pl_x HE254 HH242 (wt0 rfl) (x_pickF rfl (not_f (eq_Multi_refl _)) rfl) rfl rfl fun a_255 HE256 => ?_
        refine wpList_nil ?_
        clear a_234 HE235 a_236 HE237 HH233 a_238 HE239 a_243 HE244 a_245 HE246 a_247 HE248 a_249 HE250 a_251 HE252 a_253 HE254 hK241 K_240
        refine nrm ?_
        refine cndF HE256 rfl (bne_f rfl) ?_
        refine wp_skip ?_
        refine nrm ?_
        refine wp_seq ?_
        refine wp_seq ?_
        refine dr_start (Held Nob w [rBlk q45 55 [.int .i64 ((seqMulti a0 a1).1.1), .int .i64 ((seqMulti a0 a1).1.2.1), .int .i64 ((seqMulti a0 a1).1.2.2.1), .slice Ar44_0_3 ((seqMulti a0 a1).1.2.2.2.length) cr44_0_3], rO eMulti Sr44 [.int .i64 ((seqMulti a0 a1).1.1), .int .i64 ((seqMulti a0 a1).1.2.1), .int .i64 ((seqMulti a0 a1).1.2.2.1), .slice Ar44_0_3 ((seqMulti a0 a1).1.2.2.2.length) cr44_0_3] ((seqMulti a0 a1).1), rBlk q43 55 [.int .i64 (a1.1), .int .i64 (a1.2.1), .int .i64 (a1.2.2.1), .slice Ar42_3 (a1.2.2.2.length) cr42_3], rO eMulti Sr42 [.int .i64 (a1.1), .int .i64 (a1.2.1), .int .i64 (a1.2.2.1), .slice Ar42_3 (a1.2.2.2.length) cr42_3] a1, rBlk q41 55 [.int .i64 (a0.1), .int .i64 (a0.2.1), .int .i64 (a0.2.2.1), .slice Ar40_3 (a0.2.2.2.length) cr40_3], rO eMulti Sr40 [.int .i64 (a0.1), .int .i64 (a0.2.1), .int .i64 (a0.2.2.1), .slice Ar40_3 (a0.2.2.2.length) cr40_3] a0, rBlk q30 55 [.int .i64 ((seqMulti a0 a1).1.1), .int .i64 ((seqMulti a0 a1).1.2.1), .int .i64 ((seqMulti a0 a1).1.2.2.1), .slice Ar29_0_3 ((seqMulti a0 a1).1.2.2.2.length) cr29_0_3], rO eMulti Sr29 [.int .i64 ((seqMulti a0 a1).1.1), .int .i64 ((seqMulti a0 a1).1.2.1), .int .i64 ((seqMulti a0 a1).1.2.2.1), .slice Ar29_0_3 ((seqMulti a0 a1).1.2.2.2.length) cr29_0_3] ((seqMulti a0 a1).1), rO eMulti Sr28 [.int .i64 (a1.1), .int .i64 (a1.2.1), .int .i64 (a1.2.2.1), .slice Ar28_3 (a1.2.2.2.length) cr28_3] a1, rO eMulti Sr27 [.int .i64 (a0.1), .int .i64 (a0.2.1), .int .i64 (a0.2.2.1), .slice Ar27_3 (a0.2.2.2.length) cr27_3] a0, rBlk q22 48 [.int .i64 (a1.1), .int .i64 (a1.2.1), .int .i64 (a1.2.2.1), .slice Az1_3 (a1.2.2.2.length) cz1_3], rBlk q21 48 [.int .i64 (a0.1), .int .i64 (a0.2.1), .int .i64 (a0.2.2.1), .slice Az0_3 (a0.2.2.2.length) cz0_3]]) 5 #[false, false, false, false, false] hmix rfl rfl HH242 (fun _ h => h.sel [0, 1, 2, 3, 4, 5, 6, 7, 8, 9, 10, 11] (by decide) rfl) fun w' HH257 => ?_
        have HS258 := HH257
        refine dr_take (i := 0) (ls' := #[true, false, false, false, false]) HE256 HS258 rfl (by kernel_rfl) (by kernel_rfl) (by kernel_rfl) (fun _ _ _ h => h) rfl (wt0 rfl) (x_loadN (cs := [.int .i64 (a0.1), .int .i64 (a0.2.1), .int .i64 (a0.2.2.1), .slice Ar40_3 (a0.2.2.2.length) cr40_3]) tv_55 rfl rfl (c_blkN 4 rfl)) rfl rfl fun a_259 HE260 => ?_
        refine dr_take (i := 1) (ls' := #[true, true, false, false, false]) HE260 HS258 rfl (by kernel_rfl) (by kernel_rfl) (by kernel_rfl) (fun _ _ _ h => h) rfl (wt0 rfl) (x_loadN (cs := [.int .i64 (a0.1), .int .i64 (a0.2.1), .int .i64 (a0.2.2.1), .slice Az0_3 (a0.2.2.2.length) cz0_3]) tv_48 rfl rfl (c_blkN 11 rfl)) rfl rfl fun a_261 HE262 => ?_
        refine dr_one (i := 2) (ls' := #[true, true, true, false, false]) rfl (by kernel_rfl) rfl fun K_263 hK264 => ?_
        refine st_call HE262 (wt0 rfl) rfl rfl rfl en_28 rfl rfl (to_Multi [.int .i64 (a0.1), .int .i64 (a0.2.1), .int .i64 (a0.2.2.1), .slice Az0_3 (a0.2.2.2.length) cz0_3] a0 _ (HH257.oldR H0) (by omega)) fun e w' hr => ?_
        obtain ⟨esr47, rfl, hor47, hbr47⟩ := hr
        have hr := eMulti.read hor47
        obtain ⟨Sr47, HH265⟩ := HH257.newO hbr47 hor47
        obtain ⟨Ar47_3, cr47_3, rfl, gr47_0, gr47_1, gr47_2, gr47_3⟩ := shape_Multi hr
        clear hbr47 hor47 gr47_0 gr47_1 gr47_2 gr47_3
        refine ⟨_, rfl, fun a_266 HE267 => hK264 _ _ (by exact HH265.sel [1, 2, 3, 4, 5, 6, 7, 8, 9, 10, 11, 12] (by decide) rfl) ?_⟩
        have HS268 := HH265.sel [1, 2, 3, 4, 5, 6, 7, 8, 9, 10, 11, 12] (by decide) rfl
        refine dr_one (i := 3) (ls' := #[true, true, true, true, false]) rfl (by kernel_rfl) rfl fun K_269 hK270 => ?_
        refine st_call HE267 (wt0 rfl) rfl rfl rfl en_31 rfl rfl (eq_Multi_c [.int .i64 (a0.1), .int .i64 (a0.2.1), .int .i64 (a0.2.2.1), .slice Ar40_3 (a0.2.2.2.length) cr40_3] [.int .i64 (a0.1), .int .i64 (a0.2.1), .int .i64 (a0.2.2.1), .slice Ar47_3 (a0.2.2.2.length) cr47_3] a0 a0 _ (HH265.rd (i := 6) rfl) (HH265.rd (i := 0) rfl)) fun e w' hr => ?_
        obtain ⟨rfl, hbr48⟩ := hr
        have HH271 := HH265.on hbr48
        clear hbr48
        refine ⟨_, rfl, fun a_272 HE273 => hK270 _ _ (by exact HH271.sel [1, 2, 3, 4, 5, 6, 7, 8, 9, 10, 11, 12] (by decide) rfl) ?_⟩
        have HS274 := HH271.sel [1, 2, 3, 4, 5, 6, 7, 8, 9, 10, 11, 12] (by decide) rfl
        refine dr_take (i := 4) (ls' := #[true, true, true, true, true]) HE273 HS274 rfl (by kernel_rfl) (by kernel_rfl) (by kernel_rfl) (fun _ _ _ h => h) rfl (wt0 rfl) (x_not rfl) rfl rfl fun a_275 HE276 => ?_
        refine dr_done (by kernel_rfl) ?_
        clear HH242 a_255 HE256 a_259 HE260 HH257 a_261 HE262 HS258 K_263 hK264 HH265 a_266 HE267 HS268 a_272 HE273 hK270 K_269
        refine nrm ?_
        refine cndF HE276 rfl (not_f (eq_Multi_refl _)) ?_
        refine wp_skip ?_
        refine nrm ?_
        refine wp_seq ?_
        refine wp_seq ?_
        refine dr_start (Held Nob w [rO eMulti Sr47 [.int .i64 (a0.1), .int .i64 (a0.2.1), .int .i64 (a0.2.2.1), .slice Ar47_3 (a0.2.2.2.length) cr47_3] a0, rBlk q45 55 [.int .i64 ((seqMulti a0 a1).1.1), .int .i64 ((seqMulti a0 a1).1.2.1), .int .i64 ((seqMulti a0 a1).1.2.2.1), .slice Ar44_0_3 ((seqMulti a0 a1).1.2.2.2.length) cr44_0_3], rO eMulti Sr44 [.int .i64 ((seqMulti a0 a1).1.1), .int .i64 ((seqMulti a0 a1).1.2.1), .int .i64 ((seqMulti a0 a1).1.2.2.1), .slice Ar44_0_3 ((seqMulti a0 a1).1.2.2.2.length) cr44_0_3] ((seqMulti a0 a1).1), rBlk q43 55 [.int .i64 (a1.1), .int .i64 (a1.2.1), .int .i64 (a1.2.2.1), .slice Ar42_3 (a1.2.2.2.length) cr42_3], rO eMulti Sr42 [.int .i64 (a1.1), .int .i64 (a1.2.1), .int .i64 (a1.2.2.1), .slice Ar42_3 (a1.2.2.2.length) cr42_3] a1, rBlk q41 55 [.int .i64 (a0.1), .int .i64 (a0.2.1), .int .i64 (a0.2.2.1), .slice Ar40_3 (a0.2.2.2.length) cr40_3], rO eMulti Sr40 [.int .i64 (a0.1), .int .i64 (a0.2.1), .int .i64 (a0.2.2.1), .slice Ar40_3 (a0.2.2.2.length) cr40_3] a0, rBlk q30 55 [.int .i64 ((seqMulti a0 a1).1.1), .int .i64 ((seqMulti a0 a1).1.2.1), .int .i64 ((seqMulti a0 a1).1.2.2.1), .slice Ar29_0_3 ((seqMulti a0 a1).1.2.2.2.length) cr29_0_3], rO eMulti Sr29 [.int .i64 ((seqMulti a0 a1).1.1), .int .i64 ((seqMulti a0 a1).1.2.1), .int .i64 ((seqMulti a0 a1).1.2.2.1), .slice Ar29_0_3 ((seqMulti a0 a1).1.2.2.2.length) cr29_0_3] ((seqMulti a0 a1).1), rO eMulti Sr28 [.int .i64 (a1.1), .int .i64 (a1.2.1), .int .i64 (a1.2.2.1), .slice Ar28_3 (a1.2.2.2.length) cr28_3] a1, rO eMulti Sr27 [.int .i64 (a0.1), .int .i64 (a0.2.1), .int .i64 (a0.2.2.1), .slice Ar27_3 (a0.2.2.2.length) cr27_3] a0, rBlk q22 48 [.int .i64 (a1.1), .int .i64 (a1.2.1), .int .i64 (a1.2.2.1), .slice Az1_3 (a1.2.2.2.length) cz1_3], rBlk q21 48 [.int .i64 (a0.1), .int .i64 (a0.2.1), .int .i64 (a0.2.2.1), .slice Az0_3 (a0.2.2.2.length) cz0_3]]) 5 #[false, false, false, false, false] hmix rfl rfl HH271 (fun _ h => h.sel [0, 1, 2, 3, 4, 5, 6, 7, 8, 9, 10, 11, 12] (by decide) rfl) fun w' HH277 => ?_
        have HS278 := HH277
        refine dr_take (i := 0) (ls' := #[true, false, false, false, false]) HE276 HS278 rfl (by kernel_rfl) (by kernel_rfl) (by kernel_rfl) (fun _ _ _ h => h) rfl (wt0 rfl) (x_loadN (cs := [.int .i64 (a1.1), .int .i64 (a1.2.1), .int .i64 (a1.2.2.1), .slice Ar42_3 (a1.2.2.2.length) cr42_3]) tv_55 rfl rfl (c_blkN 3 rfl)) rfl rfl fun a_279 HE280 => ?_
        refine dr_take (i := 1) (ls' := #[true, true, false, false, false]) HE280 HS278 rfl (by kernel_rfl) (by kernel_rfl) (by kernel_rfl) (fun _ _ _ h => h) rfl (wt0 rfl) (x_loadN (cs := [.int .i64 (a1.1), .int .i64 (a1.2.1), .int .i64 (a1.2.2.1), .slice Az1_3 (a1.2.2.2.length) cz1_3]) tv_48 rfl rfl (c_blkN 11 rfl)) rfl rfl fun a_281 HE282 => ?_
        refine dr_one (i := 2) (ls' := #[true, true, true, false, false]) rfl (by kernel_rfl) rfl fun K_283 hK284 => ?_
        refine st_call HE282 (wt0 rfl) rfl rfl rfl en_28 rfl rfl (to_Multi [.int .i64 (a1.1), .int .i64 (a1.2.1), .int .i64 (a1.2.2.1), .slice Az1_3 (a1.2.2.2.length) cz1_3] a1 _ (HH277.oldR H1) (by omega)) fun e w' hr => ?_
        obtain ⟨esr49, rfl, hor49, hbr49⟩ := hr
        have hr := eMulti.read hor49
        obtain ⟨Sr49, HH285⟩ := HH277.newO hbr49 hor49
        obtain ⟨Ar49_3, cr49_3, rfl, gr49_0, gr49_1, gr49_2, gr49_3⟩ := shape_Multi hr
        clear hbr49 hor49 gr49_0 gr49_1 gr49_2 gr49_3
        refine ⟨_, rfl, fun a_286 HE287 => hK284 _ _ (by exact HH285.sel [1, 2, 3, 4, 5, 6, 7, 8, 9, 10, 11, 12, 13] (by decide) rfl) ?_⟩
        have HS288 := HH285.sel [1, 2, 3, 4, 5, 6, 7, 8, 9, 10, 11, 12, 13] (by decide) rfl
        refine dr_one (i := 3) (ls' := #[true, true, true, true, false]) rfl (by kernel_rfl) rfl fun K_289 hK290 => ?_
        refine st_call HE287 (wt0 rfl) rfl rfl rfl en_31 rfl rfl (eq_Multi_c [.int .i64 (a1.1), .int .i64 (a1.2.1), .int .i64 (a1.2.2.1), .slice Ar42_3 (a1.2.2.2.length) cr42_3] [.int .i64 (a1.1), .int .i64 (a1.2.1), .int .i64 (a1.2.2.1), .slice Ar49_3 (a1.2.2.2.length) cr49_3] a1 a1 _ (HH285.rd (i := 5) rfl) (HH285.rd (i := 0) rfl)) fun e w' hr => ?_
        obtain ⟨rfl, hbr50⟩ := hr
        have HH291 := HH285.on hbr50
        clear hbr50
        refine ⟨_, rfl, fun a_292 HE293 => hK290 _ _ (by exact HH291.sel [1, 2, 3, 4, 5, 6, 7, 8, 9, 10, 11, 12, 13] (by decide) rfl) ?_⟩
        have HS294 := HH291.sel [1, 2, 3, 4, 5, 6, 7, 8, 9, 10, 11, 12, 13] (by decide) rfl
        refine dr_take (i := 4) (ls' := #[true, true, true, true, true]) HE293 HS294 rfl (by kernel_rfl) (by kernel_rfl) (by kernel_rfl) (fun _ _ _ h => h) rfl (wt0 rfl) (x_not rfl) rfl rfl fun a_295 HE296 => ?_
        refine dr_done (by kernel_rfl) ?_
        clear HH271 HS274 a_275 HE276 a_279 HE280 HH277 a_281 HE282 HS278 K_283 hK284 HH285 a_286 HE287 HS288 a_292 HE293 hK290 K_289
        refine nrm ?_
        refine cndF HE296 rfl (not_f (eq_Multi_refl _)) ?_
        refine wp_skip ?_
        refine nrm ?_
        refine wp_seq ?_
        refine rg ?_
        refine pl_x HE296 HH291 (wt0 rfl) (x_assign rfl) rfl rfl fun a_297 HE298 => ?_
        refine wpList_nil ?_
        clear a_295 HE296
        refine nrm ?_
        refine wp_seq ?_
        refine rg ?_
        refine pl_x HE298 HH291 (wt0 rfl) (x_loadN (cs := [.int .i64 (a0.1), .int .i64 (a0.2.1), .int .i64 (a0.2.2.1), .slice Ar40_3 (a0.2.2.2.length) cr40_3]) tv_55 rfl rfl (c_blkN 6 rfl)) rfl rfl fun a_299 HE300 => ?_
        refine pl_x HE300 HH291 (wt0 rfl) (x_move rfl) rfl rfl fun a_301 HE302 => ?_
        refine pl fun K_303 hK304 => ?_
        have HH305 := HH291.sel [7, 0, 1, 2, 3, 4, 5, 6, 8, 9, 10, 11, 12, 13] (by decide) rfl
        have HH306 : Held Nob w ([rO eMulti Sr40 [.int .i64 (a0.1), .int .i64 (a0.2.1), .int .i64 (a0.2.2.1), .slice Ar40_3 (a0.2.2.2.length) cr40_3] a0] ++ [rO eMulti Sr49 [.int .i64 (a1.1), .int .i64 (a1.2.1), .int .i64 (a1.2.2.1), .slice Ar49_3 (a1.2.2.2.length) cr49_3] a1, rO eMulti Sr47 [.int .i64 (a0.1), .int .i64 (a0.2.1), .int .i64 (a0.2.2.1), .slice Ar47_3 (a0.2.2.2.length) cr47_3] a0, rBlk q45 55 [.int .i64 ((seqMulti a0 a1).1.1), .int .i64 ((seqMulti a0 a1).1.2.1), .int .i64 ((seqMulti a0 a1).1.2.2.1), .slice Ar44_0_3 ((seqMulti a0 a1).1.2.2.2.length) cr44_0_3], rO eMulti Sr44 [.int .i64 ((seqMulti a0 a1).1.1), .int .i64 ((seqMulti a0 a1).1.2.1), .int .i64 ((seqMulti a0 a1).1.2.2.1), .slice Ar44_0_3 ((seqMulti a0 a1).1.2.2.2.length) cr44_0_3] ((seqMulti a0 a1).1), rBlk q43 55 [.int .i64 (a1.1), .int .i64 (a1.2.1), .int .i64 (a1.2.2.1), .slice Ar42_3 (a1.2.2.2.length) cr42_3], rO eMulti Sr42 [.int .i64 (a1.1), .int .i64 (a1.2.1), .int .i64 (a1.2.2.1), .slice Ar42_3 (a1.2.2.2.length) cr42_3] a1, rBlk q41 55 [.int .i64 (a0.1), .int .i64 (a0.2.1), .int .i64 (a0.2.2.1), .slice Ar40_3 (a0.2.2.2.length) cr40_3], rBlk q30 55 [.int .i64 ((seqMulti a0 a1).1.1), .int .i64 ((seqMulti a0 a1).1.2.1), .int .i64 ((seqMulti a0 a1).1.2.2.1), .slice Ar29_0_3 ((seqMulti a0 a1).1.2.2.2.length) cr29_0_3], rO eMulti Sr29 [.int .i64 ((seqMulti a0 a1).1.1), .int .i64 ((seqMulti a0 a1).1.2.1), .int .i64 ((seqMulti a0 a1).1.2.2.1), .slice Ar29_0_3 ((seqMulti a0 a1).1.2.2.2.length) cr29_0_3] ((seqMulti a0 a1).1), rO eMulti Sr28 [.int .i64 (a1.1), .int .i64 (a1.2.1), .int .i64 (a1.2.2.1), .slice Ar28_3 (a1.2.2.2.length) cr28_3] a1, rO eMulti Sr27 [.int .i64 (a0.1), .int .i64 (a0.2.1), .int .i64 (a0.2.2.1), .slice Ar27_3 (a0.2.2.2.length) cr27_3] a0, rBlk q22 48 [.int .i64 (a1.1), .int .i64 (a1.2.1), .int .i64 (a1.2.2.1), .slice Az1_3 (a1.2.2.2.length) cz1_3], rBlk q21 48 [.int .i64 (a0.1), .int .i64 (a0.2.1), .int .i64 (a0.2.2.1), .slice Az0_3 (a0.2.2.2.length) cz0_3]]) _ := HH305
        refine st_call HE302 (wt0 rfl) rfl rfl rfl en_32 rfl rfl (mark_Multi_h (Foot [rO eMulti Sr40 [.int .i64 (a0.1), .int .i64 (a0.2.1), .int .i64 (a0.2.2.1), .slice Ar40_3 (a0.2.2.2.length) cr40_3] a0]) [.int .i64 (a0.1), .int .i64 (a0.2.1), .int .i64 (a0.2.2.1), .slice Ar40_3 (a0.2.2.2.length) cr40_3] a0 _ 1 _ HH306.focus (by omega) (by omega)) fun e w' hr => ?_
        obtain ⟨Sr51, rfl, hbr51⟩ := hr
        have HH307 := HH306.back hbr51
        clear hbr51
        have HH308 : Held Nob w (rO eMulti Sr51 [.int .i64 (a0.1), .int .i64 (a0.2.1), .int .i64 (a0.2.2.1), .slice Ar40_3 (a0.2.2.2.length) cr40_3] (mv_Multi a0 1) :: [rO eMulti Sr49 [.int .i64 (a1.1), .int .i64 (a1.2.1), .int .i64 (a1.2.2.1), .slice Ar49_3 (a1.2.2.2.length) cr49_3] a1, rO eMulti Sr47 [.int .i64 (a0.1), .int .i64 (a0.2.1), .int .i64 (a0.2.2.1), .slice Ar47_3 (a0.2.2.2.length) cr47_3] a0, rBlk q45 55 [.int .i64 ((seqMulti a0 a1).1.1), .int .i64 ((seqMulti a0 a1).1.2.1), .int .i64 ((seqMulti a0 a1).1.2.2.1), .slice Ar44_0_3 ((seqMulti a0 a1).1.2.2.2.length) cr44_0_3], rO eMulti Sr44 [.int .i64 ((seqMulti a0 a1).1.1), .int .i64 ((seqMulti a0 a1).1.2.1), .int .i64 ((seqMulti a0 a1).1.2.2.1), .slice Ar44_0_3 ((seqMulti a0 a1).1.2.2.2.length) cr44_0_3] ((seqMulti a0 a1).1), rBlk q43 55 [.int .i64 (a1.1), .int .i64 (a1.2.1), .int .i64 (a1.2.2.1), .slice Ar42_3 (a1.2.2.2.length) cr42_3], rO eMulti Sr42 [.int .i64 (a1.1), .int .i64 (a1.2.1), .int .i64 (a1.2.2.1), .slice Ar42_3 (a1.2.2.2.length) cr42_3] a1, rBlk q41 55 [.int .i64 (a0.1), .int .i64 (a0.2.1), .int .i64 (a0.2.2.1), .slice Ar40_3 (a0.2.2.2.length) cr40_3], rBlk q30 55 [.int .i64 ((seqMulti a0 a1).1.1), .int .i64 ((seqMulti a0 a1).1.2.1), .int .i64 ((seqMulti a0 a1).1.2.2.1), .slice Ar29_0_3 ((seqMulti a0 a1).1.2.2.2.length) cr29_0_3], rO eMulti Sr29 [.int .i64 ((seqMulti a0 a1).1.1), .int .i64 ((seqMulti a0 a1).1.2.1), .int .i64 ((seqMulti a0 a1).1.2.2.1), .slice Ar29_0_3 ((seqMulti a0 a1).1.2.2.2.length) cr29_0_3] ((seqMulti a0 a1).1), rO eMulti Sr28 [.int .i64 (a1.1), .int .i64 (a1.2.1), .int .i64 (a1.2.2.1), .slice Ar28_3 (a1.2.2.2.length) cr28_3] a1, rO eMulti Sr27 [.int .i64 (a0.1), .int .i64 (a0.2.1), .int .i64 (a0.2.2.1), .slice Ar27_3 (a0.2.2.2.length) cr27_3] a0, rBlk q22 48 [.int .i64 (a1.1), .int .i64 (a1.2.1), .int .i64 (a1.2.2.1), .slice Az1_3 (a1.2.2.2.length) cz1_3], rBlk q21 48 [.int .i64 (a0.1), .int .i64 (a0.2.1), .int .i64 (a0.2.2.1), .slice Az0_3 (a0.2.2.2.length) cz0_3]]) _ := HH307
        refine ⟨_, rfl, fun a_309 HE310 => hK304 _ _ ?_⟩
        refine pl_x HE310 HH308 (wt0 rfl) (x_assign rfl) rfl rfl fun a_311 HE312 => ?_
        refine wpList_nil ?_
        clear a_297 HE298 a_299 HE300 HH291 HH305 HH306 HH307 a_301 HE302 a_309 HE310 hK304 K_303
        refine nrm ?_
        refine wp_seq ?_
        refine rg ?_
        refine pl_x HE312 HH308 (wt0 rfl) (x_loadN (cs := [.int .i64 (a1.1), .int .i64 (a1.2.1), .int .i64 (a1.2.2.1), .slice Ar42_3 (a1.2.2.2.length) cr42_3]) tv_55 rfl rfl (c_blkN 5 rfl)) rfl rfl fun a_313 HE314 => ?_
        refine pl_x HE314 HH308 (wt0 rfl) (x_move rfl) rfl rfl fun a_315 HE316 => ?_
        refine pl fun K_317 hK318 => ?_
        have HH319 := HH308.sel [6, 0, 1, 2, 3, 4, 5, 7, 8, 9, 10, 11, 12, 13] (by decide) rfl
        have HH320 : Held Nob w ([rO eMulti Sr42 [.int .i64 (a1.1), .int .i64 (a1.2.1), .int .i64 (a1.2.2.1), .slice Ar42_3 (a1.2.2.2.length) cr42_3] a1] ++ [rO eMulti Sr51 [.int .i64 (a0.1), .int .i64 (a0.2.1), .int .i64 (a0.2.2.1), .slice Ar40_3 (a0.2.2.2.length) cr40_3] (mv_Multi a0 1), rO eMulti Sr49 [.int .i64 (a1.1), .int .i64 (a1.2.1), .int .i64 (a1.2.2.1), .slice Ar49_3 (a1.2.2.2.length) cr49_3] a1, rO eMulti Sr47 [.int .i64 (a0.1), .int .i64 (a0.2.1), .int .i64 (a0.2.2.1), .slice Ar47_3 (a0.2.2.2.length) cr47_3] a0, rBlk q45 55 [.int .i64 ((seqMulti a0 a1).1.1), .int .i64 ((seqMulti a0 a1).1.2.1), .int .i64 ((seqMulti a0 a1).1.2.2.1), .slice Ar44_0_3 ((seqMulti a0 a1).1.2.2.2.length) cr44_0_3], rO eMulti Sr44 [.int .i64 ((seqMulti a0 a1).1.1), .int .i64 ((seqMulti a0 a1).1.2.1), .int .i64 ((seqMulti a0 a1).1.2.2.1), .slice Ar44_0_3 ((seqMulti a0 a1).1.2.2.2.length) cr44_0_3] ((seqMulti a0 a1).1), rBlk q43 55 [.int .i64 (a1.1), .int .i64 (a1.2.1), .int .i64 (a1.2.2.1), .slice Ar42_3 (a1.2.2.2.length) cr42_3], rBlk q41 55 [.int .i64 (a0.1), .int .i64 (a0.2.1), .int .i64 (a0.2.2.1), .slice Ar40_3 (a0.2.2.2.length) cr40_3], rBlk q30 55 [.int .i64 ((seqMulti a0 a1).1.1), .int .i64 ((seqMulti a0 a1).1.2.1), .int .i64 ((seqMulti a0 a1).1.2.2.1), .slice Ar29_0_3 ((seqMulti a0 a1).1.2.2.2.length) cr29_0_3], rO eMulti Sr29 [.int .i64 ((seqMulti a0 a1).1.1), .int .i64 ((seqMulti a0 a1).1.2.1), .int .i64 ((seqMulti a0 a1).1.2.2.1), .slice Ar29_0_3 ((seqMulti a0 a1).1.2.2.2.length) cr29_0_3] ((seqMulti a0 a1).1), rO eMulti Sr28 [.int .i64 (a1.1), .int .i64 (a1.2.1), .int .i64 (a1.2.2.1), .slice Ar28_3 (a1.2.2.2.length) cr28_3] a1, rO eMulti Sr27 [.int .i64 (a0.1), .int .i64 (a0.2.1), .int .i64 (a0.2.2.1), .slice Ar27_3 (a0.2.2.2.length) cr27_3] a0, rBlk q22 48 [.int .i64 (a1.1), .int .i64 (a1.2.1), .int .i64 (a1.2.2.1), .slice Az1_3 (a1.2.2.2.length) cz1_3], rBlk q21 48 [.int .i64 (a0.1), .int .i64 (a0.2.1), .int .i64 (a0.2.2.1), .slice Az0_3 (a0.2.2.2.length) cz0_3]]) _ := HH319
        refine st_call HE316 (wt0 rfl) rfl rfl rfl en_32 rfl rfl (mark_Multi_h (Foot [rO eMulti Sr42 [.int .i64 (a1.1), .int .i64 (a1.2.1), .int .i64 (a1.2.2.1), .slice Ar42_3 (a1.2.2.2.length) cr42_3] a1]) [.int .i64 (a1.1), .int .i64 (a1.2.1), .int .i64 (a1.2.2.1), .slice Ar42_3 (a1.2.2.2.length) cr42_3] a1 _ (1 + (cv_Multi a0 : Int)) _ HH320.focus (by omega) (by omega)) fun e w' hr => ?_
        obtain ⟨Sr52, rfl, hbr52⟩ := hr
        have HH321 := HH320.back hbr52
        clear hbr52
        have HH322 : Held Nob w (rO eMulti Sr52 [.int .i64 (a1.1), .int .i64 (a1.2.1), .int .i64 (a1.2.2.1), .slice Ar42_3 (a1.2.2.2.length) cr42_3] (mv_Multi a1 (1 + (cv_Multi a0 : Int))) :: [rO eMulti Sr51 [.int .i64 (a0.1), .int .i64 (a0.2.1), .int .i64 (a0.2.2.1), .slice Ar40_3 (a0.2.2.2.length) cr40_3] (mv_Multi a0 1), rO eMulti Sr49 [.int .i64 (a1.1), .int .i64 (a1.2.1), .int .i64 (a1.2.2.1), .slice Ar49_3 (a1.2.2.2.length) cr49_3] a1, rO eMulti Sr47 [.int .i64 (a0.1), .int .i64 (a0.2.1), .int .i64 (a0.2.2.1), .slice Ar47_3 (a0.2.2.2.length) cr47_3] a0, rBlk q45 55 [.int .i64 ((seqMulti a0 a1).1.1), .int .i64 ((seqMulti a0 a1).1.2.1), .int .i64 ((seqMulti a0 a1).1.2.2.1), .slice Ar44_0_3 ((seqMulti a0 a1).1.2.2.2.length) cr44_0_3], rO eMulti Sr44 [.int .i64 ((seqMulti a0 a1).1.1), .int .i64 ((seqMulti a0 a1).1.2.1), .int .i64 ((seqMulti a0 a1).1.2.2.1), .slice Ar44_0_3 ((seqMulti a0 a1).1.2.2.2.length) cr44_0_3] ((seqMulti a0 a1).1), rBlk q43 55 [.int .i64 (a1.1), .int .i64 (a1.2.1), .int .i64 (a1.2.2.1), .slice Ar42_3 (a1.2.2.2.length) cr42_3], rBlk q41 55 [.int .i64 (a0.1), .int .i64 (a0.2.1), .int .i64 (a0.2.2.1), .slice Ar40_3 (a0.2.2.2.length) cr40_3], rBlk q30 55 [.int .i64 ((seqMulti a0 a1).1.1), .int .i64 ((seqMulti a0 a1).1.2.1), .int .i64 ((seqMulti a0 a1).1.2.2.1), .slice Ar29_0_3 ((seqMulti a0 a1).1.2.2.2.length) cr29_0_3], rO eMulti Sr29 [.int .i64 ((seqMulti a0 a1).1.1), .int .i64 ((seqMulti a0 a1).1.2.1), .int .i64 ((seqMulti a0 a1).1.2.2.1), .slice Ar29_0_3 ((seqMulti a0 a1).1.2.2.2.length) cr29_0_3] ((seqMulti a0 a1).1), rO eMulti Sr28 [.int .i64 (a1.1), .int .i64 (a1.2.1), .int .i64 (a1.2.2.1), .slice Ar28_3 (a1.2.2.2.length) cr28_3] a1, rO eMulti Sr27 [.int .i64 (a0.1), .int .i64 (a0.2.1), .int .i64 (a0.2.2.1), .slice Ar27_3 (a0.2.2.2.length) cr27_3] a0, rBlk q22 48 [.int .i64 (a1.1), .int .i64 (a1.2.1), .int .i64 (a1.2.2.1), .slice Az1_3 (a1.2.2.2.length) cz1_3], rBlk q21 48 [.int .i64 (a0.1), .int .i64 (a0.2.1), .int .i64 (a0.2.2.1), .slice Az0_3 (a0.2.2.2.length) cz0_3]]) _ := HH321
        refine ⟨_, rfl, fun a_323 HE324 => hK318 _ _ ?_⟩
        refine pl_x HE324 HH322 (wt0 rfl) (x_assign rfl) rfl rfl fun a_325 HE326 => ?_
        refine wpList_nil ?_
        clear a_311 HE312 a_313 HE314 HH308 HH319 HH320 HH321 a_315 HE316 a_323 HE324 hK318 K_317
        refine nrm ?_
        refine wp_seq ?_
        refine wp_seq ?_
        refine rg ?_
        refine pl_x HE326 HH322 (wt0 rfl) (x_move rfl) rfl rfl fun a_327 HE328 => ?_
        refine pl_x HE328 HH322 (wt0 rfl) (x_lss rfl rfl) rfl rfl fun a_329 HE330 => ?_
        refine pl_x HE330 HH322 (wt0 rfl) (x_move rfl) rfl rfl fun a_331 HE332 => ?_
        by_cases hc53 : ((1 + (cv_Multi a0 : Int)) + (cv_Multi a1 : Int)) < 0
        · refine pl_no HE332 (wtF HE332 rfl rfl rfl (decide_eq_true hc53)) rfl rfl fun a_333 HE334 => ?_
          refine pl_no HE334 (wtF HE334 rfl rfl rfl (decide_eq_true hc53)) rfl rfl fun a_335 HE336 => ?_
          refine pl_no HE336 (wtF HE336 rfl rfl rfl (decide_eq_true hc53)) rfl rfl fun a_337 HE338 => ?_
          refine pl_no HE338 (wtF HE338 rfl rfl rfl (decide_eq_true hc53)) rfl rfl fun a_339 HE340 => ?_
          refine pl_x HE340 HH322 (wt0 rfl) (x_pickT rfl (decide_eq_true hc53) rfl) rfl rfl fun a_341 HE342 => ?_
          refine pl_x HE342 HH322 (wt0 rfl) (x_move rfl) rfl rfl fun a_343 HE344 => ?_
          refine pl_no HE344 (wtF HE344 rfl rfl rfl rfl) rfl rfl fun a_345 HE346 => ?_
          refine pl_no HE346 (wtF HE346 rfl rfl rfl rfl) rfl rfl fun a_347 HE348 => ?_
          refine pl_no HE348 (wtF HE348 rfl rfl rfl rfl) rfl rfl fun a_349 HE350 => ?_
          refine pl_x HE350 HH322 (wt0 rfl) (x_pickT rfl rfl rfl) rfl rfl fun a_351 HE352 => ?_
          refine wpList_nil ?_
          clear a_325 HE326 a_327 HE328 a_329 HE330 a_331 HE332 a_333 HE334 a_335 HE336 a_337 HE338 a_339 HE340 a_341 HE342 a_343 HE344 a_345 HE346 a_347 HE348 a_349 HE350
          refine nrm ?_
          refine cndT HE352 rfl rfl ?_
          refine wp_seq ?_
          refine rg ?_
          refine pl_x HE352 HH322 (wt0 rfl) (x_assign rfl) rfl rfl fun a_353 HE354 => ?_
          refine wpList_nil ?_
          clear a_351 HE352
          refine nrm ?_
          refine wp_ret ?_
          refine (thn_ret ?_)
          refine ret1 HE354 rfl (rv_tmp rfl) ?_
          have hF : true = false := by
            first | rfl | (exfalso; omega)
          exact ⟨by first | (rw [hF] <;> rfl) | rfl | (rw [hF]; simp only [Ending.returned.injEq, Value.slice.injEq, true_and, and_true]; first | omega | (simp; done)) | (rw [hF]; simp; omega), HH322.below⟩
        · refine pl_x HE332 HH322 (wtT HE332 rfl rfl rfl (decide_eq_false hc53)) (x_loadN (cs := [.int .i64 ((seqMulti a0 a1).1.1), .int .i64 ((seqMulti a0 a1).1.2.1), .int .i64 ((seqMulti a0 a1).1.2.2.1), .slice Ar44_0_3 ((seqMulti a0 a1).1.2.2.2.length) cr44_0_3]) tv_55 rfl rfl (c_blkN 4 rfl)) rfl rfl fun a_355 HE356 => ?_
          refine pl_x HE356 HH322 (wtT HE356 rfl rfl rfl (decide_eq_false hc53)) (x_loadN (cs := [.int .i64 ((seqMulti a0 a1).1.1), .int .i64 ((seqMulti a0 a1).1.2.1), .int .i64 ((seqMulti a0 a1).1.2.2.1), .slice Ar29_0_3 ((seqMulti a0 a1).1.2.2.2.length) cr29_0_3]) tv_55 rfl rfl (c_blkN 8 rfl)) rfl rfl fun a_357 HE358 => ?_
          refine pl fun K_359 hK360 => ?_
          refine st_call HE358 (wtT HE358 rfl rfl rfl (decide_eq_false hc53)) rfl rfl rfl en_31 rfl rfl (eq_Multi_c [.int .i64 ((seqMulti a0 a1).1.1), .int .i64 ((seqMulti a0 a1).1.2.1), .int .i64 ((seqMulti a0 a1).1.2.2.1), .slice Ar44_0_3 ((seqMulti a0 a1).1.2.2.2.length) cr44_0_3] [.int .i64 ((seqMulti a0 a1).1.1), .int .i64 ((seqMulti a0 a1).1.2.1), .int .i64 ((seqMulti a0 a1).1.2.2.1), .slice Ar29_0_3 ((seqMulti a0 a1).1.2.2.2.length) cr29_0_3] ((seqMulti a0 a1).1) ((seqMulti a0 a1).1) _ (HH322.rd (i := 5) rfl) (HH322.rd (i := 9) rfl)) fun e w' hr => ?_
          obtain ⟨rfl, hbr54⟩ := hr
          have HH361 := HH322.on hbr54
          clear hbr54
          refine ⟨_, rfl, fun a_362 HE363 => hK360 _ _ ?_⟩
          refine pl_x HE363 HH361 (wtT HE363 rfl rfl rfl (decide_eq_false hc53)) (x_not rfl) rfl rfl fun a_364 HE365 => ?_
          refine pl_x HE365 HH361 (wt0 rfl) (x_pickF rfl (decide_eq_false hc53) rfl) rfl rfl fun a_366 HE367 => ?_
          refine pl_x HE367 HH361 (wt0 rfl) (x_move rfl) rfl rfl fun a_368 HE369 => ?_
          refine pl_x HE369 HH361 (wtT HE369 rfl rfl rfl (not_f (eq_Multi_refl _))) (x_move rfl) rfl rfl fun a_370 HE371 => ?_
          refine pl_x HE371 HH361 (wtT HE371 rfl rfl rfl (not_f (eq_Multi_refl _))) (x_move rfl) rfl rfl fun a_372 HE373 => ?_
          refine pl_x HE373 HH361 (wtT HE373 rfl rfl rfl (not_f (eq_Multi_refl _))) (x_neq rfl rfl) rfl rfl fun a_374 HE375 => ?_
          refine pl_x HE375 HH361 (wt0 rfl) (x_pickF rfl (not_f (eq_Multi_refl _)) rfl) rfl rfl fun a_376 HE377 => ?_
          refine wpList_nil ?_
          clear a_325 HE326 a_327 HE328 a_329 HE330 a_331 HE332 a_355 HE356 HH322 a_357 HE358 a_362 HE363 a_364 HE365 a_366 HE367 a_368 HE369 a_370 HE371 a_372 HE373 a_374 HE375 hK360 K_359
          refine nrm ?_
          refine cndF HE377 rfl (bne_f rfl) ?_
          refine wp_skip ?_
          refine nrm ?_
          refine wp_seq ?_
          refine rg ?_
          refine pl_x HE377 HH361 (wt0 rfl) (x_assign rfl) rfl rfl fun a_378 HE379 => ?_
          refine wpList_nil ?_
          clear a_376 HE377
          refine nrm ?_
          refine wp_seq ?_
          refine rg ?_
          refine pl_x HE379 HH361 (wt0 rfl) (x_loadN (cs := [.int .i64 ((seqMulti a0 a1).1.1), .int .i64 ((seqMulti a0 a1).1.2.1), .int .i64 ((seqMulti a0 a1).1.2.2.1), .slice Ar44_0_3 ((seqMulti a0 a1).1.2.2.2.length) cr44_0_3]) tv_55 rfl rfl (c_blkN 4 rfl)) rfl rfl fun a_380 HE381 => ?_
          refine pl_x HE381 HH361 (wt0 rfl) (x_move rfl) rfl rfl fun a_382 HE383 => ?_
          refine pl fun K_384 hK385 => ?_
          have HH386 := HH361.sel [5, 0, 1, 2, 3, 4, 6, 7, 8, 9, 10, 11, 12, 13] (by decide) rfl
          have HH387 : Held Nob w ([rO eMulti Sr44 [.int .i64 ((seqMulti a0 a1).1.1), .int .i64 ((seqMulti a0 a1).1.2.1), .int .i64 ((seqMulti a0 a1).1.2.2.1), .slice Ar44_0_3 ((seqMulti a0 a1).1.2.2.2.length) cr44_0_3] ((seqMulti a0 a1).1)] ++ [rO eMulti Sr52 [.int .i64 (a1.1), .int .i64 (a1.2.1), .int .i64 (a1.2.2.1), .slice Ar42_3 (a1.2.2.2.length) cr42_3] (mv_Multi a1 (1 + (cv_Multi a0 : Int))), rO eMulti Sr51 [.int .i64 (a0.1), .int .i64 (a0.2.1), .int .i64 (a0.2.2.1), .slice Ar40_3 (a0.2.2.2.length) cr40_3] (mv_Multi a0 1), rO eMulti Sr49 [.int .i64 (a1.1), .int .i64 (a1.2.1), .int .i64 (a1.2.2.1), .slice Ar49_3 (a1.2.2.2.length) cr49_3] a1, rO eMulti Sr47 [.int .i64 (a0.1), .int .i64 (a0.2.1), .int .i64 (a0.2.2.1), .slice Ar47_3 (a0.2.2.2.length) cr47_3] a0, rBlk q45 55 [.int .i64 ((seqMulti a0 a1).1.1), .int .i64 ((seqMulti a0 a1).1.2.1), .int .i64 ((seqMulti a0 a1).1.2.2.1), .slice Ar44_0_3 ((seqMulti a0 a1).1.2.2.2.length) cr44_0_3], rBlk q43 55 [.int .i64 (a1.1), .int .i64 (a1.2.1), .int .i64 (a1.2.2.1), .slice Ar42_3 (a1.2.2.2.length) cr42_3], rBlk q41 55 [.int .i64 (a0.1), .int .i64 (a0.2.1), .int .i64 (a0.2.2.1), .slice Ar40_3 (a0.2.2.2.length) cr40_3], rBlk q30 55 [.int .i64 ((seqMulti a0 a1).1.1), .int .i64 ((seqMulti a0 a1).1.2.1), .int .i64 ((seqMulti a0 a1).1.2.2.1), .slice Ar29_0_3 ((seqMulti a0 a1).1.2.2.2.length) cr29_0_3], rO eMulti Sr29 [.int .i64 ((seqMulti a0 a1).1.1), .int .i64 ((seqMulti a0 a1).1.2.1), .int .i64 ((seqMulti a0 a1).1.2.2.1), .slice Ar29_0_3 ((seqMulti a0 a1).1.2.2.2.length) cr29_0_3] ((seqMulti a0 a1).1), rO eMulti Sr28 [.int .i64 (a1.1), .int .i64 (a1.2.1), .int .i64 (a1.2.2.1), .slice Ar28_3 (a1.2.2.2.length) cr28_3] a1, rO eMulti Sr27 [.int .i64 (a0.1), .int .i64 (a0.2.1), .int .i64 (a0.2.2.1), .slice Ar27_3 (a0.2.2.2.length) cr27_3] a0, rBlk q22 48 [.int .i64 (a1.1), .int .i64 (a1.2.1), .int .i64 (a1.2.2.1), .slice Az1_3 (a1.2.2.2.length) cz1_3], rBlk q21 48 [.int .i64 (a0.1), .int .i64 (a0.2.1), .int .i64 (a0.2.2.1), .slice Az0_3 (a0.2.2.2.length) cz0_3]]) _ := HH386
          refine st_call HE383 (wt0 rfl) rfl rfl rfl en_32 rfl rfl (mark_Multi_h (Foot [rO eMulti Sr44 [.int .i64 ((seqMulti a0 a1).1.1), .int .i64 ((seqMulti a0 a1).1.2.1), .int .i64 ((seqMulti a0 a1).1.2.2.1), .slice Ar44_0_3 ((seqMulti a0 a1).1.2.2.2.length) cr44_0_3] ((seqMulti a0 a1).1)]) [.int .i64 ((seqMulti a0 a1).1.1), .int .i64 ((seqMulti a0 a1).1.2.1), .int .i64 ((seqMulti a0 a1).1.2.2.1), .slice Ar44_0_3 ((seqMulti a0 a1).1.2.2.2.length) cr44_0_3] ((seqMulti a0 a1).1) _ 1 _ HH387.focus (by omega) (by omega)) fun e w' hr => ?_
          obtain ⟨Sr55, rfl, hbr55⟩ := hr
          have HH388 := HH387.back hbr55
          clear hbr55
          have HH389 : Held Nob w (rO eMulti Sr55 [.int .i64 ((seqMulti a0 a1).1.1), .int .i64 ((seqMulti a0 a1).1.2.1), .int .i64 ((seqMulti a0 a1).1.2.2.1), .slice Ar44_0_3 ((seqMulti a0 a1).1.2.2.2.length) cr44_0_3] (mv_Multi ((seqMulti a0 a1).1) 1) :: [rO eMulti Sr52 [.int .i64 (a1.1), .int .i64 (a1.2.1), .int .i64 (a1.2.2.1), .slice Ar42_3 (a1.2.2.2.length) cr42_3] (mv_Multi a1 (1 + (cv_Multi a0 : Int))), rO eMulti Sr51 [.int .i64 (a0.1), .int .i64 (a0.2.1), .int .i64 (a0.2.2.1), .slice Ar40_3 (a0.2.2.2.length) cr40_3] (mv_Multi a0 1), rO eMulti Sr49 [.int .i64 (a1.1), .int .i64 (a1.2.1), .int .i64 (a1.2.2.1), .slice Ar49_3 (a1.2.2.2.length) cr49_3] a1, rO eMulti Sr47 [.int .i64 (a0.1), .int .i64 (a0.2.1), .int .i64 (a0.2.2.1), .slice Ar47_3 (a0.2.2.2.length) cr47_3] a0, rBlk q45 55 [.int .i64 ((seqMulti a0 a1).1.1), .int .i64 ((seqMulti a0 a1).1.2.1), .int .i64 ((seqMulti a0 a1).1.2.2.1), .slice Ar44_0_3 ((seqMulti a0 a1).1.2.2.2.length) cr44_0_3], rBlk q43 55 [.int .i64 (a1.1), .int .i64 (a1.2.1), .int .i64 (a1.2.2.1), .slice Ar42_3 (a1.2.2.2.length) cr42_3], rBlk q41 55 [.int .i64 (a0.1), .int .i64 (a0.2.1), .int .i64 (a0.2.2.1), .slice Ar40_3 (a0.2.2.2.length) cr40_3], rBlk q30 55 [.int .i64 ((seqMulti a0 a1).1.1), .int .i64 ((seqMulti a0 a1).1.2.1), .int .i64 ((seqMulti a0 a1).1.2.2.1), .slice Ar29_0_3 ((seqMulti a0 a1).1.2.2.2.length) cr29_0_3], rO eMulti Sr29 [.int .i64 ((seqMulti a0 a1).1.1), .int .i64 ((seqMulti a0 a1).1.2.1), .int .i64 ((seqMulti a0 a1).1.2.2.1), .slice Ar29_0_3 ((seqMulti a0 a1).1.2.2.2.length) cr29_0_3] ((seqMulti a0 a1).1), rO eMulti Sr28 [.int .i64 (a1.1), .int .i64 (a1.2.1), .int .i64 (a1.2.2.1), .slice Ar28_3 (a1.2.2.2.length) cr28_3] a1, rO eMulti Sr27 [.int .i64 (a0.1), .int .i64 (a0.2.1), .int .i64 (a0.2.2.1), .slice Ar27_3 (a0.2.2.2.length) cr27_3] a0, rBlk q22 48 [.int .i64 (a1.1), .int .i64 (a1.2.1), .int .i64 (a1.2.2.1), .slice Az1_3 (a1.2.2.2.length) cz1_3], rBlk q21 48 [.int .i64 (a0.1), .int .i64 (a0.2.1), .int .i64 (a0.2.2.1), .slice Az0_3 (a0.2.2.2.length) cz0_3]]) _ := HH388
          refine ⟨_, rfl, fun a_390 HE391 => hK385 _ _ ?_⟩
          refine pl_x HE391 HH389 (wt0 rfl) (x_assign rfl) rfl rfl fun a_392 HE393 => ?_
          refine wpList_nil ?_
          clear a_378 HE379 a_380 HE381 HH361 HH386 HH387 HH388 a_382 HE383 a_390 HE391 hK385 K_384
          refine nrm ?_
          refine wp_seq ?_
          refine rg ?_
          refine pl_x HE393 HH389 (wt0 rfl) (x_assign rfl) rfl rfl fun a_394 HE395 => ?_
          refine wpList_nil ?_
          clear a_392 HE393
          refine nrm ?_
          refine wp_seq ?_
          refine rg ?_
          refine pl_x HE395 HH389 (wt0 rfl) (x_loadN (cs := [.int .i64 ((seqMulti a0 a1).1.1), .int .i64 ((seqMulti a0 a1).1.2.1), .int .i64 ((seqMulti a0 a1).1.2.2.1), .slice Ar44_0_3 ((seqMulti a0 a1).1.2.2.2.length) cr44_0_3]) tv_55 rfl rfl (c_blkN 5 rfl)) rfl rfl fun a_396 HE397 => ?_
          refine pl_x HE397 HH389 (wt0 rfl) (x_move rfl) rfl rfl fun a_398 HE399 => ?_
          refine pl fun K_400 hK401 => ?_
          refine st_call HE399 (wt0 rfl) rfl rfl rfl en_37 rfl rfl (held_Multi_e [.int .i64 ((seqMulti a0 a1).1.1), .int .i64 ((seqMulti a0 a1).1.2.1), .int .i64 ((seqMulti a0 a1).1.2.2.1), .slice Ar44_0_3 ((seqMulti a0 a1).1.2.2.2.length) cr44_0_3] (mv_Multi ((seqMulti a0 a1).1) 1) 1 ((seqMulti a0 a1).1) _ (HH389.rd (i := 0) rfl) rfl (by omega) (by omega)) fun e w' hr => ?_
          obtain ⟨rfl, hbr56⟩ := hr
          have HH402 := HH389.on hbr56
          clear hbr56
          refine ⟨_, rfl, fun a_403 HE404 => hK401 _ _ ?_⟩
          refine pl_x HE404 HH402 (wt0 rfl) (x_assign rfl) rfl rfl fun a_405 HE406 => ?_
          refine wpList_nil ?_
          clear a_394 HE395 a_396 HE397 HH389 a_398 HE399 a_403 HE404 hK401 K_400
          refine nrm ?_
          refine wp_seq ?_
          refine wp_seq ?_
          refine rg ?_
          refine pl_x HE406 HH402 (wt0 rfl) (x_move rfl) rfl rfl fun a_407 HE408 => ?_
          refine pl_x HE408 HH402 (wt0 rfl) (x_lss rfl rfl) rfl rfl fun a_409 HE410 => ?_
          refine wpList_nil ?_
          clear a_405 HE406 a_407 HE408
          refine nrm ?_
          refine cnd_d HE410 rfl (fun hc57 => ?_) (fun hc57 => ?_)
          · refine wp_seq ?_
            refine rg ?_
            refine pl_x HE410 HH402 (wt0 rfl) (x_assign rfl) rfl rfl fun a_411 HE412 => ?_
            refine wpList_nil ?_
            clear a_409 HE410
            refine nrm ?_
            refine wp_ret ?_
            refine (thn_ret ?_)
            refine ret1 HE412 rfl (rv_tmp rfl) ?_
            have hF : true = false := by
              first | rfl | (exfalso; omega)
            exact ⟨by first | (rw [hF] <;> rfl) | rfl | (rw [hF]; simp only [Ending.returned.injEq, Value.slice.injEq, true_and, and_true]; first | omega | (simp; done)) | (rw [hF]; simp; omega), HH402.below⟩
          · refine wp_skip ?_
            refine nrm ?_
            refine wp_seq ?_
            refine wp_seq ?_
            refine rg ?_
            refine pl_x HE410 HH402 (wt0 rfl) (x_move rfl) rfl rfl fun a_413 HE414 => ?_
            refine pl_x HE414 HH402 (wt0 rfl) (x_move rfl) rfl rfl fun a_415 HE416 => ?_
            refine pl_x HE416 HH402 (wt0 rfl) (x_neq rfl rfl) rfl rfl fun a_417 HE418 => ?_
            refine wpList_nil ?_
            clear a_409 HE410 a_413 HE414 a_415 HE416
            refine nrm ?_
            refine cndF HE418 rfl (bne_f rfl) ?_
            refine wp_skip ?_
            refine nrm ?_
            refine wp_seq ?_
            refine wp_join (fun a w' => ∃ (q61 : Nat), ∃ (Ar60_0_3 : Option Addr), ∃ (cr60_0_3 : Nat), ∃ (Sr60 : Nat → Prop), ∃ (Sr59 : Nat → Prop), ∃ (Ar59_3 : Option Addr), ∃ (cr59_3 : Nat), ∃ (Sr58 : Nat → Prop), ∃ (Ar58_3 : Option Addr), ∃ (cr58_3 : Nat), Env 119 [(6, .pointer (some ⟨q30, 0, none⟩)), (7, .int .i64 ((seqMulti a0 a1).2)), (10, .pointer (some ⟨q45, 0, none⟩)), (13, .int .i64 ((1 + (cv_Multi ((seqMulti a0 a1).1) : Int)))), (15, .pointer (some ⟨q61, 0, none⟩)), (16, .int .i64 ((seqMulti a0 a1).2))] a ∧ Held Nob w [rBlk q61 55 [.int .i64 ((seqMulti a0 a1).1.1), .int .i64 ((seqMulti a0 a1).1.2.1), .int .i64 ((seqMulti a0 a1).1.2.2.1), .slice Ar60_0_3 ((seqMulti a0 a1).1.2.2.2.length) cr60_0_3], rO eMulti Sr60 [.int .i64 ((seqMulti a0 a1).1.1), .int .i64 ((seqMulti a0 a1).1.2.1), .int .i64 ((seqMulti a0 a1).1.2.2.1), .slice Ar60_0_3 ((seqMulti a0 a1).1.2.2.2.length) cr60_0_3] ((seqMulti a0 a1).1), rO eMulti Sr59 [.int .i64 (a1.1), .int .i64 (a1.2.1), .int .i64 (a1.2.2.1), .slice Ar59_3 (a1.2.2.2.length) cr59_3] a1, rO eMulti Sr58 [.int .i64 (a0.1), .int .i64 (a0.2.1), .int .i64 (a0.2.2.1), .slice Ar58_3 (a0.2.2.2.length) cr58_3] a0, rO eMulti Sr55 [.int .i64 ((seqMulti a0 a1).1.1), .int .i64 ((seqMulti a0 a1).1.2.1), .int .i64 ((seqMulti a0 a1).1.2.2.1), .slice Ar44_0_3 ((seqMulti a0 a1).1.2.2.2.length) cr44_0_3] (mv_Multi ((seqMulti a0 a1).1) 1), rO eMulti Sr52 [.int .i64 (a1.1), .int .i64 (a1.2.1), .int .i64 (a1.2.2.1), .slice Ar42_3 (a1.2.2.2.length) cr42_3] (mv_Multi a1 (1 + (cv_Multi a0 : Int))), rO eMulti Sr51 [.int .i64 (a0.1), .int .i64 (a0.2.1), .int .i64 (a0.2.2.1), .slice Ar40_3 (a0.2.2.2.length) cr40_3] (mv_Multi a0 1), rO eMulti Sr49 [.int .i64 (a1.1), .int .i64 (a1.2.1), .int .i64 (a1.2.2.1), .slice Ar49_3 (a1.2.2.2.length) cr49_3] a1, rO eMulti Sr47 [.int .i64 (a0.1), .int .i64 (a0.2.1), .int .i64 (a0.2.2.1), .slice Ar47_3 (a0.2.2.2.length) cr47_3] a0, rBlk q45 55 [.int .i64 ((seqMulti a0 a1).1.1), .int .i64 ((seqMulti a0 a1).1.2.1), .int .i64 ((seqMulti a0 a1).1.2.2.1), .slice Ar44_0_3 ((seqMulti a0 a1).1.2.2.2.length) cr44_0_3], rBlk q43 55 [.int .i64 (a1.1), .int .i64 (a1.2.1), .int .i64 (a1.2.2.1), .slice Ar42_3 (a1.2.2.2.length) cr42_3], rBlk q41 55 [.int .i64 (a0.1), .int .i64 (a0.2.1), .int .i64 (a0.2.2.1), .slice Ar40_3 (a0.2.2.2.length) cr40_3], rBlk q30 55 [.int .i64 ((seqMulti a0 a1).1.1), .int .i64 ((seqMulti a0 a1).1.2.1), .int .i64 ((seqMulti a0 a1).1.2.2.1), .slice Ar29_0_3 ((seqMulti a0 a1).1.2.2.2.length) cr29_0_3], rO eMulti Sr29 [.int .i64 ((seqMulti a0 a1).1.1), .int .i64 ((seqMulti a0 a1).1.2.1), .int .i64 ((seqMulti a0 a1).1.2.2.1), .slice Ar29_0_3 ((seqMulti a0 a1).1.2.2.2.length) cr29_0_3] ((seqMulti a0 a1).1), rO eMulti Sr28 [.int .i64 (a1.1), .int .i64 (a1.2.1), .int .i64 (a1.2.2.1), .slice Ar28_3 (a1.2.2.2.length) cr28_3] a1, rO eMulti Sr27 [.int .i64 (a0.1), .int .i64 (a0.2.1), .int .i64 (a0.2.2.1), .slice Ar27_3 (a0.2.2.2.length) cr27_3] a0, rBlk q22 48 [.int .i64 (a1.1), .int .i64 (a1.2.1), .int .i64 (a1.2.2.1), .slice Az1_3 (a1.2.2.2.length) cz1_3], rBlk q21 48 [.int .i64 (a0.1), .int .i64 (a0.2.1), .int .i64 (a0.2.2.1), .slice Az0_3 (a0.2.2.2.length) cz0_3]] w') ?_ ?_
            · refine dr_start (Held Nob w [rO eMulti Sr55 [.int .i64 ((seqMulti a0 a1).1.1), .int .i64 ((seqMulti a0 a1).1.2.1), .int .i64 ((seqMulti a0 a1).1.2.2.1), .slice Ar44_0_3 ((seqMulti a0 a1).1.2.2.2.length) cr44_0_3] (mv_Multi ((seqMulti a0 a1).1) 1), rO eMulti Sr52 [.int .i64 (a1.1), .int .i64 (a1.2.1), .int .i64 (a1.2.2.1), .slice Ar42_3 (a1.2.2.2.length) cr42_3] (mv_Multi a1 (1 + (cv_Multi a0 : Int))), rO eMulti Sr51 [.int .i64 (a0.1), .int .i64 (a0.2.1), .int .i64 (a0.2.2.1), .slice Ar40_3 (a0.2.2.2.length) cr40_3] (mv_Multi a0 1), rO eMulti Sr49 [.int .i64 (a1.1), .int .i64 (a1.2.1), .int .i64 (a1.2.2.1), .slice Ar49_3 (a1.2.2.2.length) cr49_3] a1, rO eMulti Sr47 [.int .i64 (a0.1), .int .i64 (a0.2.1), .int .i64 (a0.2.2.1), .slice Ar47_3 (a0.2.2.2.length) cr47_3] a0, rBlk q45 55 [.int .i64 ((seqMulti a0 a1).1.1), .int .i64 ((seqMulti a0 a1).1.2.1), .int .i64 ((seqMulti a0 a1).1.2.2.1), .slice Ar44_0_3 ((seqMulti a0 a1).1.2.2.2.length) cr44_0_3], rBlk q43 55 [.int .i64 (a1.1), .int .i64 (a1.2.1), .int .i64 (a1.2.2.1), .slice Ar42_3 (a1.2.2.2.length) cr42_3], rBlk q41 55 [.int .i64 (a0.1), .int .i64 (a0.2.1), .int .i64 (a0.2.2.1), .slice Ar40_3 (a0.2.2.2.length) cr40_3], rBlk q30 55 [.int .i64 ((seqMulti a0 a1).1.1), .int .i64 ((seqMulti a0 a1).1.2.1), .int .i64 ((seqMulti a0 a1).1.2.2.1), .slice Ar29_0_3 ((seqMulti a0 a1).1.2.2.2.length) cr29_0_3], rO eMulti Sr29 [.int .i64 ((seqMulti a0 a1).1.1), .int .i64 ((seqMulti a0 a1).1.2.1), .int .i64 ((seqMulti a0 a1).1.2.2.1), .slice Ar29_0_3 ((seqMulti a0 a1).1.2.2.2.length) cr29_0_3] ((seqMulti a0 a1).1), rO eMulti Sr28 [.int .i64 (a1.1), .int .i64 (a1.2.1), .int .i64 (a1.2.2.1), .slice Ar28_3 (a1.2.2.2.length) cr28_3] a1, rO eMulti Sr27 [.int .i64 (a0.1), .int .i64 (a0.2.1), .int .i64 (a0.2.2.1), .slice Ar27_3 (a0.2.2.2.length) cr27_3] a0, rBlk q22 48 [.int .i64 (a1.1), .int .i64 (a1.2.1), .int .i64 (a1.2.2.1), .slice Az1_3 (a1.2.2.2.length) cz1_3], rBlk q21 48 [.int .i64 (a0.1), .int .i64 (a0.2.1), .int .i64 (a0.2.2.1), .slice Az0_3 (a0.2.2.2.length) cz0_3]]) 11 #[false, false, false, false, false, false, false, false, false, false, false] hmix rfl rfl HH402 (fun _ h => h.sel [0, 1, 2, 3, 4, 5, 6, 7, 8, 9, 10, 11, 12, 13] (by decide) rfl) fun w' HH419 => ?_
              have HS420 := HH419
              refine dr_take (i := 0) (ls' := #[true, false, false, false, false, false, false, false, false, false, false]) HE418 HS420 rfl (by kernel_rfl) (by kernel_rfl) (by kernel_rfl) (fun _ _ _ h => h) rfl (wt0 rfl) (x_loadN (cs := [.int .i64 (a0.1), .int .i64 (a0.2.1), .int .i64 (a0.2.2.1), .slice Az0_3 (a0.2.2.2.length) cz0_3]) tv_48 rfl rfl (c_blkN 13 rfl)) rfl rfl fun a_421 HE422 => ?_
              refine dr_take (i := 2) (ls' := #[true, false, true, false, false, false, false, false, false, false, false]) HE422 HS420 rfl (by kernel_rfl) (by kernel_rfl) (by kernel_rfl) (fun _ _ _ h => h) rfl (wt0 rfl) (x_loadN (cs := [.int .i64 (a1.1), .int .i64 (a1.2.1), .int .i64 (a1.2.2.1), .slice Az1_3 (a1.2.2.2.length) cz1_3]) tv_48 rfl rfl (c_blkN 12 rfl)) rfl rfl fun a_423 HE424 => ?_
              refine dr_two (i := 1) (j := 8) (ls' := #[true, true, true, false, false, false, false, false, false, false, false]) (ls'' := #[true, false, true, false, false, false, false, false, true, false, false]) rfl rfl (by kernel_rfl) rfl rfl (fun K_425 hK426 => ?_) (fun K_425 hK426 => ?_)
              · refine st_call HE424 (wt0 rfl) rfl rfl rfl en_28 rfl rfl (to_Multi [.int .i64 (a0.1), .int .i64 (a0.2.1), .int .i64 (a0.2.2.1), .slice Az0_3 (a0.2.2.2.length) cz0_3] a0 _ (HH419.oldR H0) (by omega)) fun e w' hr => ?_
                obtain ⟨esr58, rfl, hor58, hbr58⟩ := hr
                have hr := eMulti.read hor58
                obtain ⟨Sr58, HH427⟩ := HH419.newO hbr58 hor58
                obtain ⟨Ar58_3, cr58_3, rfl, gr58_0, gr58_1, gr58_2, gr58_3⟩ := shape_Multi hr
                clear hbr58 hor58 gr58_0 gr58_1 gr58_2 gr58_3
                refine ⟨_, rfl, fun a_428 HE429 => hK426 _ _ (by exact HH427.sel [1, 2, 3, 4, 5, 6, 7, 8, 9, 10, 11, 12, 13, 14] (by decide) rfl) ?_⟩
                have HS430 := HH427.sel [1, 2, 3, 4, 5, 6, 7, 8, 9, 10, 11, 12, 13, 14] (by decide) rfl
                refine dr_two (i := 3) (j := 8) (ls' := #[true, true, true, true, false, false, false, false, false, false, false]) (ls'' := #[true, true, true, false, false, false, false, false, true, false, false]) rfl rfl (by kernel_rfl) rfl rfl (fun K_431 hK432 => ?_) (fun K_431 hK432 => ?_)
                · refine st_call HE429 (wt0 rfl) rfl rfl rfl en_28 rfl rfl (to_Multi [.int .i64 (a1.1), .int .i64 (a1.2.1), .int .i64 (a1.2.2.1), .slice Az1_3 (a1.2.2.2.length) cz1_3] a1 _ (HH427.oldR H1) (by omega)) fun e w' hr => ?_
                  obtain ⟨esr59, rfl, hor59, hbr59⟩ := hr
                  have hr := eMulti.read hor59
                  obtain ⟨Sr59, HH433⟩ := HH427.newO hbr59 hor59
                  obtain ⟨Ar59_3, cr59_3, rfl, gr59_0, gr59_1, gr59_2, gr59_3⟩ := shape_Multi hr
                  clear hbr59 hor59 gr59_0 gr59_1 gr59_2 gr59_3
                  refine ⟨_, rfl, fun a_434 HE435 => hK432 _ _ (by exact HH433.sel [2, 3, 4, 5, 6, 7, 8, 9, 10, 11, 12, 13, 14, 15] (by decide) rfl) ?_⟩
                  have HS436 := HH433.sel [2, 3, 4, 5, 6, 7, 8, 9, 10, 11, 12, 13, 14, 15] (by decide) rfl
                  refine dr_two (i := 4) (j := 8) (ls' := #[true, true, true, true, true, false, false, false, false, false, false]) (ls'' := #[true, true, true, true, false, false, false, false, true, false, false]) rfl rfl (by kernel_rfl) rfl rfl (fun K_437 hK438 => ?_) (fun K_437 hK438 => ?_)
                  · refine st_call HE435 (wt0 rfl) rfl rfl rfl en_36 rfl rfl (impl_SequenceMulti [.int .i64 (a0.1), .int .i64 (a0.2.1), .int .i64 (a0.2.2.1), .slice Ar58_3 (a0.2.2.2.length) cr58_3] a0 [.int .i64 (a1.1), .int .i64 (a1.2.1), .int .i64 (a1.2.2.1), .slice Ar59_3 (a1.2.2.2.length) cr59_3] a1 _ (HH433.rd (i := 1) rfl) (HH433.rd (i := 0) rfl)) fun e w' hr => ?_
                    obtain ⟨esr60_0, rfl, hor60_0, hbr60⟩ := hr
                    have hr := eMulti.read hor60_0
                    obtain ⟨Sr60, HH439⟩ := HH433.newO hbr60 hor60_0
                    obtain ⟨Ar60_0_3, cr60_0_3, rfl, gr60_0_0, gr60_0_1, gr60_0_2, gr60_0_3⟩ := shape_Multi hr
                    have jr60_0_0 := gr60_0_0; unfold I64 at jr60_0_0
                    have jr60_0_1 := gr60_0_1; unfold I64 at jr60_0_1
                    have jr60_0_2 := gr60_0_2; unfold I64 at jr60_0_2
                    refine ⟨_, rfl, fun a_440 HE441 => hK438 _ _ (by exact HH439.sel [3, 4, 5, 6, 7, 8, 9, 10, 11, 12, 13, 14, 15, 16] (by decide) rfl) ?_⟩
                    have HS442 := HH439.sel [3, 4, 5, 6, 7, 8, 9, 10, 11, 12, 13, 14, 15, 16] (by decide) rfl
                    refine dr_take (i := 5) (ls' := #[true, true, true, true, true, true, false, false, false, false, false]) HE441 HS442 rfl (by kernel_rfl) (by kernel_rfl) (by kernel_rfl) (fun _ _ _ h => h) rfl (wt0 rfl) (x_move rfl) rfl rfl fun a_443 HE444 => ?_
                    refine dr_take (i := 6) (ls' := #[true, true, true, true, true, true, true, false, false, false, false]) HE444 HS442 rfl (by kernel_rfl) (by kernel_rfl) (by kernel_rfl) (fun _ _ _ h => h) rfl (wt0 rfl) (x_extract rfl rfl) rfl rfl fun a_445 HE446 => ?_
                    refine dr_take (i := 7) (ls' := #[true, true, true, true, true, true, true, true, false, false, false]) HE446 HS442 rfl (by kernel_rfl) (by kernel_rfl) (by kernel_rfl) (fun _ _ _ h => h) rfl (wt0 rfl) (x_extract rfl rfl) rfl rfl fun a_447 HE448 => ?_
                    refine dr_one (i := 8) (ls' := #[true, true, true, true, true, true, true, true, true, false, false]) rfl (by kernel_rfl) rfl fun K_449 hK450 => ?_
                    refine st_alloc HE448 HH439 tv_55 (wt0 rfl) rfl fun q61 a_451 w' HE452 HH453 => hK450 _ _ (by exact HH453.sel [4, 5, 6, 7, 8, 9, 10, 11, 12, 13, 14, 15, 16, 17] (by decide) rfl) ?_
                    have HS454 := HH453.sel [4, 5, 6, 7, 8, 9, 10, 11, 12, 13, 14, 15, 16, 17] (by decide) rfl
                    refine dr_one (i := 9) (ls' := #[true, true, true, true, true, true, true, true, true, true, false]) rfl (by kernel_rfl) rfl fun K_455 hK456 => ?_
                    refine st_store (vs := [.int .i64 ((seqMulti a0 a1).1.1), .int .i64 ((seqMulti a0 a1).1.2.1), .int .i64 ((seqMulti a0 a1).1.2.2.1), .slice Ar60_0_3 ((seqMulti a0 a1).1.2.2.2.length) cr60_0_3]) 0 HE452 HH453 tv_55 rfl rfl rfl rfl rfl rfl (by simp [Value.oneCell']) (wt0 rfl) fun w' HH457 => hK456 _ _ (by exact HH457.sel [4, 5, 6, 7, 8, 9, 10, 11, 12, 13, 14, 15, 16, 17] (by decide) rfl) ?_
                    have HS458 := HH457.sel [4, 5, 6, 7, 8, 9, 10, 11, 12, 13, 14, 15, 16, 17] (by decide) rfl
                    refine dr_take (i := 10) (ls' := #[true, true, true, true, true, true, true, true, true, true, true]) HE452 HS458 rfl (by kernel_rfl) (by kernel_rfl) (by kernel_rfl) (fun _ _ _ h => h) rfl (wt0 rfl) (x_assign rfl) rfl rfl fun a_459 HE460 => ?_
                    refine dr_done (by kernel_rfl) ?_
                    clear HH402 HS294 a_417 HE418 a_421 HE422 HH419 a_423 HE424 HS420 K_425 hK426 HH427 a_428 HE429 HS430 K_431 hK432 HH433 a_434 HE435 HS436 a_440 HE441 a_443 HE444 a_445 HE446 K_437 hK438 a_447 HE448 HH439 HS442 K_449 hK450 HH453 HS454 a_451 HE452 hK456 K_455
                    exact nrm ⟨_, _, _, _, _, _, _, _, _, _, HE460.sub ⟨rfl, rfl, rfl, rfl, rfl, rfl, trivial⟩, HH457.sel [0, 1, 2, 3, 4, 5, 6, 7, 8, 9, 10, 11, 12, 13, 14, 15, 16, 17] (by decide) rfl⟩
                  · refine st_alloc HE435 HH433 tv_55 (wt0 rfl) rfl fun q62 a_461 w' HE462 HH463 => hK438 _ _ (by exact HH463.sel [3, 4, 5, 6, 7, 8, 9, 10, 11, 12, 13, 14, 15, 16] (by decide) rfl) ?_
                    have HS464 := HH463.sel [3, 4, 5, 6, 7, 8, 9, 10, 11, 12, 13, 14, 15, 16] (by decide) rfl
                    refine dr_one (i := 4) (ls' := #[true, true, true, true, true, false, false, false, true, false, false]) rfl (by kernel_rfl) rfl fun K_465 hK466 => ?_
                    refine st_call HE462 (wt0 rfl) rfl rfl rfl en_36 rfl rfl (impl_SequenceMulti [.int .i64 (a0.1), .int .i64 (a0.2.1), .int .i64 (a0.2.2.1), .slice Ar58_3 (a0.2.2.2.length) cr58_3] a0 [.int .i64 (a1.1), .int .i64 (a1.2.1), .int .i64 (a1.2.2.1), .slice Ar59_3 (a1.2.2.2.length) cr59_3] a1 _ (HH463.rd (i := 2) rfl) (HH463.rd (i := 1) rfl)) fun e w' hr => ?_
                    obtain ⟨esr63_0, rfl, hor63_0, hbr63⟩ := hr
                    have hr := eMulti.read hor63_0
                    obtain ⟨Sr63, HH467⟩ := HH463.newO hbr63 hor63_0
                    obtain ⟨Ar63_0_3, cr63_0_3, rfl, gr63_0_0, gr63_0_1, gr63_0_2, gr63_0_3⟩ := shape_Multi hr
                    have jr63_0_0 := gr63_0_0; unfold I64 at jr63_0_0
                    have jr63_0_1 := gr63_0_1; unfold I64 at jr63_0_1
                    have jr63_0_2 := gr63_0_2; unfold I64 at jr63_0_2
                    refine ⟨_, rfl, fun a_468 HE469 => hK466 _ _ (by exact HH467.sel [4, 5, 6, 7, 8, 9, 10, 11, 12, 13, 14, 15, 16, 17] (by decide) rfl) ?_⟩
                    have HS470 := HH467.sel [4, 5, 6, 7, 8, 9, 10, 11, 12, 13, 14, 15, 16, 17] (by decide) rfl
                    refine dr_take (i := 5) (ls' := #[true, true, true, true, true, true, false, false, true, false, false]) HE469 HS470 rfl (by kernel_rfl) (by kernel_rfl) (by kernel_rfl) (fun _ _ _ h => h) rfl (wt0 rfl) (x_move rfl) rfl rfl fun a_471 HE472 => ?_
                    refine dr_take (i := 6) (ls' := #[true, true, true, true, true, true, true, false, true, false, false]) HE472 HS470 rfl (by kernel_rfl) (by kernel_rfl) (by kernel_rfl) (fun _ _ _ h => h) rfl (wt0 rfl) (x_extract rfl rfl) rfl rfl fun a_473 HE474 => ?_
                    refine dr_take (i := 7) (ls' := #[true, true, true, true, true, true, true, true, true, false, false]) HE474 HS470 rfl (by kernel_rfl) (by kernel_rfl) (by kernel_rfl) (fun _ _ _ h => h) rfl (wt0 rfl) (x_extract rfl rfl) rfl rfl fun a_475 HE476 => ?_
                    refine dr_one (i := 9) (ls' := #[true, true, true, true, true, true, true, true, true, true, false]) rfl (by kernel_rfl) rfl fun K_477 hK478 => ?_
                    refine st_store (vs := [.int .i64 ((seqMulti a0 a1).1.1), .int .i64 ((seqMulti a0 a1).1.2.1), .int .i64 ((seqMulti a0 a1).1.2.2.1), .slice Ar63_0_3 ((seqMulti a0 a1).1.2.2.2.length) cr63_0_3]) 1 HE476 HH467 tv_55 rfl rfl rfl rfl rfl rfl (by simp [Value.oneCell']) (wt0 rfl) fun w' HH479 => hK478 _ _ (by exact HH479.sel [4, 5, 6, 7, 8, 9, 10, 11, 12, 13, 14, 15, 16, 17] (by decide) rfl) ?_
                    have HS480 := HH479.sel [4, 5, 6, 7, 8, 9, 10, 11, 12, 13, 14, 15, 16, 17] (by decide) rfl
                    refine dr_take (i := 10) (ls' := #[true, true, true, true, true, true, true, true, true, true, true]) HE476 HS480 rfl (by kernel_rfl) (by kernel_rfl) (by kernel_rfl) (fun _ _ _ h => h) rfl (wt0 rfl) (x_assign rfl) rfl rfl fun a_481 HE482 => ?_
                    refine dr_done (by kernel_rfl) ?_
                    clear HH402 HS294 a_417 HE418 a_421 HE422 HH419 a_423 HE424 HS420 K_425 hK426 HH427 a_428 HE429 HS430 K_431 hK432 a_434 HE435 HH433 HS436 K_437 hK438 HH463 a_461 HE462 HS464 a_468 HE469 a_471 HE472 a_473 HE474 K_465 hK466 HH467 HS470 a_475 HE476 hK478 K_477
                    exact nrm ⟨_, _, _, _, _, _, _, _, _, _, HE482.sub ⟨rfl, rfl, rfl, rfl, rfl, rfl, trivial⟩, HH479.sel [1, 0, 2, 3, 4, 5, 6, 7, 8, 9, 10, 11, 12, 13, 14, 15, 16, 17] (by decide) rfl⟩
                · refine st_alloc HE429 HH427 tv_55 (wt0 rfl) rfl fun q64 a_483 w' HE484 HH485 => hK432 _ _ (by exact HH485.sel [2, 3, 4, 5, 6, 7, 8, 9, 10, 11, 12, 13, 14, 15] (by decide) rfl) ?_
                  have HS486 := HH485.sel [2, 3, 4, 5, 6, 7, 8, 9, 10, 11, 12, 13, 14, 15] (by decide) rfl
                  refine dr_one (i := 3) (ls' := #[true, true, true, true, false, false, false, false, true, false, false]) rfl (by kernel_rfl) rfl fun K_487 hK488 => ?_
                  refine st_call HE484 (wt0 rfl) rfl rfl rfl en_28 rfl rfl (to_Multi [.int .i64 (a1.1), .int .i64 (a1.2.1), .int .i64 (a1.2.2.1), .slice Az1_3 (a1.2.2.2.length) cz1_3] a1 _ (HH485.oldR H1) (by omega)) fun e w' hr => ?_
                  obtain ⟨esr65, rfl, hor65, hbr65⟩ := hr
                  have hr := eMulti.read hor65
                  obtain ⟨Sr65, HH489⟩ := HH485.newO hbr65 hor65
                  obtain ⟨Ar65_3, cr65_3, rfl, gr65_0, gr65_1, gr65_2, gr65_3⟩ := shape_Multi hr
                  clear hbr65 hor65 gr65_0 gr65_1 gr65_2 gr65_3
                  refine ⟨_, rfl, fun a_490 HE491 => hK488 _ _ (by exact HH489.sel [3, 4, 5, 6, 7, 8, 9, 10, 11, 12, 13, 14, 15, 16] (by decide) rfl) ?_⟩
                  have HS492 := HH489.sel [3, 4, 5, 6, 7, 8, 9, 10, 11, 12, 13, 14, 15, 16] (by decide) rfl
                  refine dr_one (i := 4) (ls' := #[true, true, true, true, true, false, false, false, true, false, false]) rfl (by kernel_rfl) rfl fun K_493 hK494 => ?_
                  refine st_call HE491 (wt0 rfl) rfl rfl rfl en_36 rfl rfl (impl_SequenceMulti [.int .i64 (a0.1), .int .i64 (a0.2.1), .int .i64 (a0.2.2.1), .slice Ar58_3 (a0.2.2.2.length) cr58_3] a0 [.int .i64 (a1.1), .int .i64 (a1.2.1), .int .i64 (a1.2.2.1), .slice Ar65_3 (a1.2.2.2.length) cr65_3] a1 _ (HH489.rd (i := 2) rfl) (HH489.rd (i := 0) rfl)) fun e w' hr => ?_
                  obtain ⟨esr66_0, rfl, hor66_0, hbr66⟩ := hr
                  have hr := eMulti.read hor66_0
                  obtain ⟨Sr66, HH495⟩ := HH489.newO hbr66 hor66_0
                  obtain ⟨Ar66_0_3, cr66_0_3, rfl, gr66_0_0, gr66_0_1, gr66_0_2, gr66_0_3⟩ := shape_Multi hr
                  have jr66_0_0 := gr66_0_0; unfold I64 at jr66_0_0
                  have jr66_0_1 := gr66_0_1; unfold I64 at jr66_0_1
                  have jr66_0_2 := gr66_0_2; unfold I64 at jr66_0_2
                  refine ⟨_, rfl, fun a_496 HE497 => hK494 _ _ (by exact HH495.sel [4, 5, 6, 7, 8, 9, 10, 11, 12, 13, 14, 15, 16, 17] (by decide) rfl) ?_⟩
                  have HS498 := HH495.sel [4, 5, 6, 7, 8, 9, 10, 11, 12, 13, 14, 15, 16, 17] (by decide) rfl
                  refine dr_take (i := 5) (ls' := #[true, true, true, true, true, true, false, false, true, false, false]) HE497 HS498 rfl (by kernel_rfl) (by kernel_rfl) (by kernel_rfl) (fun _ _ _ h => h) rfl (wt0 rfl) (x_move rfl) rfl rfl fun a_499 HE500 => ?_
                  refine dr_take (i := 6) (ls' := #[true, true, true, true, true, true, true, false, true, false, false]) HE500 HS498 rfl (by kernel_rfl) (by kernel_rfl) (by kernel_rfl) (fun _ _ _ h => h) rfl (wt0 rfl) (x_extract rfl rfl) rfl rfl fun a_501 HE502 => ?_
                  refine dr_take (i := 7) (ls' := #[true, true, true, true, true, true, true, true, true, false, false]) HE502 HS498 rfl (by kernel_rfl) (by kernel_rfl) (by kernel_rfl) (fun _ _ _ h => h) rfl (wt0 rfl) (x_extract rfl rfl) rfl rfl fun a_503 HE504 => ?_
                  refine dr_one (i := 9) (ls' := #[true, true, true, true, true, true, true, true, true, true, false]) rfl (by kernel_rfl) rfl fun K_505 hK506 => ?_
                  refine st_store (vs := [.int .i64 ((seqMulti a0 a1).1.1), .int .i64 ((seqMulti a0 a1).1.2.1), .int .i64 ((seqMulti a0 a1).1.2.2.1), .slice Ar66_0_3 ((seqMulti a0 a1).1.2.2.2.length) cr66_0_3]) 2 HE504 HH495 tv_55 rfl rfl rfl rfl rfl rfl (by simp [Value.oneCell']) (wt0 rfl) fun w' HH507 => hK506 _ _ (by exact HH507.sel [4, 5, 6, 7, 8, 9, 10, 11, 12, 13, 14, 15, 16, 17] (by decide) rfl) ?_
                  have HS508 := HH507.sel [4, 5, 6, 7, 8, 9, 10, 11, 12, 13, 14, 15, 16, 17] (by decide) rfl
                  refine dr_take (i := 10) (ls' := #[true, true, true, true, true, true, true, true, true, true, true]) HE504 HS508 rfl (by kernel_rfl) (by kernel_rfl) (by kernel_rfl) (fun _ _ _ h => h) rfl (wt0 rfl) (x_assign rfl) rfl rfl fun a_509 HE510 => ?_
                  refine dr_done (by kernel_rfl) ?_
                  clear HH402 HS294 a_417 HE418 a_421 HE422 HH419 a_423 HE424 HS420 K_425 hK426 a_428 HE429 HH427 HS430 K_431 hK432 HH485 a_483 HE484 HS486 K_487 hK488 HH489 a_490 HE491 HS492 a_496 HE497 a_499 HE500 a_501 HE502 K_493 hK494 HH495 HS498 a_503 HE504 hK506 K_505
                  exact nrm ⟨_, _, _, _, _, _, _, _, _, _, HE510.sub ⟨rfl, rfl, rfl, rfl, rfl, rfl, trivial⟩, HH507.sel [2, 0, 1, 3, 4, 5, 6, 7, 8, 9, 10, 11, 12, 13, 14, 15, 16, 17] (by decide) rfl⟩
              · refine st_alloc HE424 HH419 tv_55 (wt0 rfl) rfl fun q67 a_511 w' HE512 HH513 => hK426 _ _ (by exact HH513.sel [1, 2, 3, 4, 5, 6, 7, 8, 9, 10, 11, 12, 13, 14] (by decide) rfl) ?_
                have HS514 := HH513.sel [1, 2, 3, 4, 5, 6, 7, 8, 9, 10, 11, 12, 13, 14] (by decide) rfl
                refine dr_one (i := 1) (ls' := #[true, true, true, false, false, false, false, false, true, false, false]) rfl (by kernel_rfl) rfl fun K_515 hK516 => ?_
                refine st_call HE512 (wt0 rfl) rfl rfl rfl en_28 rfl rfl (to_Multi [.int .i64 (a0.1), .int .i64 (a0.2.1), .int .i64 (a0.2.2.1), .slice Az0_3 (a0.2.2.2.length) cz0_3] a0 _ (HH513.oldR H0) (by omega)) fun e w' hr => ?_
                obtain ⟨esr68, rfl, hor68, hbr68⟩ := hr
                have hr := eMulti.read hor68
                obtain ⟨Sr68, HH517⟩ := HH513.newO hbr68 hor68
                obtain ⟨Ar68_3, cr68_3, rfl, gr68_0, gr68_1, gr68_2, gr68_3⟩ := shape_Multi hr
                clear hbr68 hor68 gr68_0 gr68_1 gr68_2 gr68_3
                refine ⟨_, rfl, fun a_518 HE519 => hK516 _ _ (by exact HH517.sel [2, 3, 4, 5, 6, 7, 8, 9, 10, 11, 12, 13, 14, 15] (by decide) rfl) ?_⟩
                have HS520 := HH517.sel [2, 3, 4, 5, 6, 7, 8, 9, 10, 11, 12, 13, 14, 15] (by decide) rfl
                refine dr_one (i := 3) (ls' := #[true, true, true, true, false, false, false, false, true, false, false]) rfl (by kernel_rfl) rfl fun K_521 hK522 => ?_
                refine st_call HE519 (wt0 rfl) rfl rfl rfl en_28 rfl rfl (to_Multi [.int .i64 (a1.1), .int .i64 (a1.2.1), .int .i64 (a1.2.2.1), .slice Az1_3 (a1.2.2.2.length) cz1_3] a1 _ (HH517.oldR H1) (by omega)) fun e w' hr => ?_
                obtain ⟨esr69, rfl, hor69, hbr69⟩ := hr
                have hr := eMulti.read hor69
                obtain ⟨Sr69, HH523⟩ := HH517.newO hbr69 hor69
                obtain ⟨Ar69_3, cr69_3, rfl, gr69_0, gr69_1, gr69_2, gr69_3⟩ := shape_Multi hr
                clear hbr69 hor69 gr69_0 gr69_1 gr69_2 gr69_3
                refine ⟨_, rfl, fun a_524 HE525 => hK522 _ _ (by exact HH523.sel [3, 4, 5, 6, 7, 8, 9, 10, 11, 12, 13, 14, 15, 16] (by decide) rfl) ?_⟩
                have HS526 := HH523.sel [3, 4, 5, 6, 7, 8, 9, 10, 11, 12, 13, 14, 15, 16] (by decide) rfl
                refine dr_one (i := 4) (ls' := #[true, true, true, true, true, false, false, false, true, false, false]) rfl (by kernel_rfl) rfl fun K_527 hK528 => ?_
                refine st_call HE525 (wt0 rfl) rfl rfl rfl en_36 rfl rfl (impl_SequenceMulti [.int .i64 (a0.1), .int .i64 (a0.2.1), .int .i64 (a0.2.2.1), .slice Ar68_3 (a0.2.2.2.length) cr68_3] a0 [.int .i64 (a1.1), .int .i64 (a1.2.1), .int .i64 (a1.2.2.1), .slice Ar69_3 (a1.2.2.2.length) cr69_3] a1 _ (HH523.rd (i := 1) rfl) (HH523.rd (i := 0) rfl)) fun e w' hr => ?_
                obtain ⟨esr70_0, rfl, hor70_0, hbr70⟩ := hr
                have hr := eMulti.read hor70_0
                obtain ⟨Sr70, HH529⟩ := HH523.newO hbr70 hor70_0
                obtain ⟨Ar70_0_3, cr70_0_3, rfl, gr70_0_0, gr70_0_1, gr70_0_2, gr70_0_3⟩ := shape_Multi hr
                have jr70_0_0 := gr70_0_0; unfold I64 at jr70_0_0
                have jr70_0_1 := gr70_0_1; unfold I64 at jr70_0_1
                have jr70_0_2 := gr70_0_2; unfold I64 at jr70_0_2
                refine ⟨_, rfl, fun a_530 HE531 => hK528 _ _ (by exact HH529.sel [4, 5, 6, 7, 8, 9, 10, 11, 12, 13, 14, 15, 16, 17] (by decide) rfl) ?_⟩
                have HS532 := HH529.sel [4, 5, 6, 7, 8, 9, 10, 11, 12, 13, 14, 15, 16, 17] (by decide) rfl
                refine dr_take (i := 5) (ls' := #[true, true, true, true, true, true, false, false, true, false, false]) HE531 HS532 rfl (by kernel_rfl) (by kernel_rfl) (by kernel_rfl) (fun _ _ _ h => h) rfl (wt0 rfl) (x_move rfl) rfl rfl fun a_533 HE534 => ?_
                refine dr_take (i := 6) (ls' := #[true, true, true, true, true, true, true, false, true, false, false]) HE534 HS532 rfl (by kernel_rfl) (by kernel_rfl) (by kernel_rfl) (fun _ _ _ h => h) rfl (wt0 rfl) (x_extract rfl rfl) rfl rfl fun a_535 HE536 => ?_
                refine dr_take (i := 7) (ls' := #[true, true, true, true, true, true, true, true, true, false, false]) HE536 HS532 rfl (by kernel_rfl) (by kernel_rfl) (by kernel_rfl) (fun _ _ _ h => h) rfl (wt0 rfl) (x_extract rfl rfl) rfl rfl fun a_537 HE538 => ?_
                refine dr_one (i := 9) (ls' := #[true, true, true, true, true, true, true, true, true, true, false]) rfl (by kernel_rfl) rfl fun K_539 hK540 => ?_
                refine st_store (vs := [.int .i64 ((seqMulti a0 a1).1.1), .int .i64 ((seqMulti a0 a1).1.2.1), .int .i64 ((seqMulti a0 a1).1.2.2.1), .slice Ar70_0_3 ((seqMulti a0 a1).1.2.2.2.length) cr70_0_3]) 3 HE538 HH529 tv_55 rfl rfl rfl rfl rfl rfl (by simp [Value.oneCell']) (wt0 rfl) fun w' HH541 => hK540 _ _ (by exact HH541.sel [4, 5, 6, 7, 8, 9, 10, 11, 12, 13, 14, 15, 16, 17] (by decide) rfl) ?_
                have HS542 := HH541.sel [4, 5, 6, 7, 8, 9, 10, 11, 12, 13, 14, 15, 16, 17] (by decide) rfl
                refine dr_take (i := 10) (ls' := #[true, true, true, true, true, true, true, true, true, true, true]) HE538 HS542 rfl (by kernel_rfl) (by kernel_rfl) (by kernel_rfl) (fun _ _ _ h => h) rfl (wt0 rfl) (x_assign rfl) rfl rfl fun a_543 HE544 => ?_
                refine dr_done (by kernel_rfl) ?_
                clear HH402 HS294 a_417 HE418 a_421 HE422 a_423 HE424 HH419 HS420 K_425 hK426 HH513 a_511 HE512 HS514 K_515 hK516 HH517 a_518 HE519 HS520 K_521 hK522 HH523 a_524 HE525 HS526 a_530 HE531 a_533 HE534 a_535 HE536 K_527 hK528 HH529 HS532 a_537 HE538 hK540 K_539
                exact nrm ⟨_, _, _, _, _, _, _, _, _, _, HE544.sub ⟨rfl, rfl, rfl, rfl, rfl, rfl, trivial⟩, HH541.sel [3, 0, 1, 2, 4, 5, 6, 7, 8, 9, 10, 11, 12, 13, 14, 15, 16, 17] (by decide) rfl⟩
            · rintro a_545 w' ⟨q61, Ar60_0_3, cr60_0_3, Sr60, Sr59, Ar59_3, cr59_3, Sr58, Ar58_3, cr58_3, HE546, HH547⟩
              refine nrm ?_
              refine wp_seq ?_
              refine wp_seq ?_
              refine rg ?_
              refine pl_x HE546 HH547 (wt0 rfl) (x_loadN (cs := [.int .i64 ((seqMulti a0 a1).1.1), .int .i64 ((seqMulti a0 a1).1.2.1), .int .i64 ((seqMulti a0 a1).1.2.2.1), .slice Ar60_0_3 ((seqMulti a0 a1).1.2.2.2.length) cr60_0_3]) tv_55 rfl rfl (c_blkN 0 rfl)) rfl rfl fun a_548 HE549 => ?_
              refine pl_x HE549 HH547 (wt0 rfl) (x_loadN (cs := [.int .i64 ((seqMulti a0 a1).1.1), .int .i64 ((seqMulti a0 a1).1.2.1), .int .i64 ((seqMulti a0 a1).1.2.2.1), .slice Ar29_0_3 ((seqMulti a0 a1).1.2.2.2.length) cr29_0_3]) tv_55 rfl rfl (c_blkN 12 rfl)) rfl rfl fun a_550 HE551 => ?_
              refine pl fun K_552 hK553 => ?_
              refine st_call HE551 (wt0 rfl) rfl rfl rfl en_31 rfl rfl (eq_Multi_c [.int .i64 ((seqMulti a0 a1).1.1), .int .i64 ((seqMulti a0 a1).1.2.1), .int .i64 ((seqMulti a0 a1).1.2.2.1), .slice Ar60_0_3 ((seqMulti a0 a1).1.2.2.2.length) cr60_0_3] [.int .i64 ((seqMulti a0 a1).1.1), .int .i64 ((seqMulti a0 a1).1.2.1), .int .i64 ((seqMulti a0 a1).1.2.2.1), .slice Ar29_0_3 ((seqMulti a0 a1).1.2.2.2.length) cr29_0_3] ((seqMulti a0 a1).1) ((seqMulti a0 a1).1) _ (HH547.rd (i := 1) rfl) (HH547.rd (i := 13) rfl)) fun e w' hr => ?_
              obtain ⟨rfl, hbr71⟩ := hr
              have HH554 := HH547.on hbr71
              clear hbr71
              refine ⟨_, rfl, fun a_555 HE556 => hK553 _ _ ?_⟩
              refine pl_x HE556 HH554 (wt0 rfl) (x_not rfl) rfl rfl fun a_557 HE558 => ?_
              refine pl_x HE558 HH554 (wt0 rfl) (x_move rfl) rfl rfl fun a_559 HE560 => ?_
              refine pl_x HE560 HH554 (wtT HE560 rfl rfl rfl (not_f (eq_Multi_refl _))) (x_move rfl) rfl rfl fun a_561 HE562 => ?_
              refine pl_x HE562 HH554 (wtT HE562 rfl rfl rfl (not_f (eq_Multi_refl _))) (x_move rfl) rfl rfl fun a_563 HE564 => ?_
              refine pl_x HE564 HH554 (wtT HE564 rfl rfl rfl (not_f (eq_Multi_refl _))) (x_neq rfl rfl) rfl rfl fun a_565 HE566 => ?_
              refine pl_x HE566 HH554 (wt0 rfl) (x_pickF rfl (not_f (eq_Multi_refl _)) rfl) rfl rfl fun a_567 HE568 => ?_
              refine wpList_nil ?_
              clear a_417 HE418 HH402 a_545 HE546 a_548 HE549 HH547 a_550 HE551 a_555 HE556 a_557 HE558 a_559 HE560 a_561 HE562 a_563 HE564 a_565 HE566 hK553 K_552
              refine nrm ?_
              refine cndF HE568 rfl (bne_f rfl) ?_
              refine wp_skip ?_
              refine nrm ?_
              refine wp_seq ?_
              refine rg ?_
              refine pl_x HE568 HH554 (wt0 rfl) (x_assign rfl) rfl rfl fun a_569 HE570 => ?_
              refine wpList_nil ?_
              clear a_567 HE568
              refine nrm ?_
              refine wp_seq ?_
              refine rg ?_
              refine pl_x HE570 HH554 (wt0 rfl) (x_loadN (cs := [.int .i64 ((seqMulti a0 a1).1.1), .int .i64 ((seqMulti a0 a1).1.2.1), .int .i64 ((seqMulti a0 a1).1.2.2.1), .slice Ar44_0_3 ((seqMulti a0 a1).1.2.2.2.length) cr44_0_3]) tv_55 rfl rfl (c_blkN 9 rfl)) rfl rfl fun a_571 HE572 => ?_
              refine pl_x HE572 HH554 (wt0 rfl) (x_move rfl) rfl rfl fun a_573 HE574 => ?_
              refine pl fun K_575 hK576 => ?_
              refine st_call HE574 (wt0 rfl) rfl rfl rfl en_37 rfl rfl (held_Multi_e [.int .i64 ((seqMulti a0 a1).1.1), .int .i64 ((seqMulti a0 a1).1.2.1), .int .i64 ((seqMulti a0 a1).1.2.2.1), .slice Ar44_0_3 ((seqMulti a0 a1).1.2.2.2.length) cr44_0_3] (mv_Multi ((seqMulti a0 a1).1) 1) 1 ((seqMulti a0 a1).1) _ (HH554.rd (i := 4) rfl) rfl (by omega) (by omega)) fun e w' hr => ?_
              obtain ⟨rfl, hbr72⟩ := hr
              have HH577 := HH554.on hbr72
              clear hbr72
              refine ⟨_, rfl, fun a_578 HE579 => hK576 _ _ ?_⟩
              refine pl_x HE579 HH577 (wt0 rfl) (x_assign rfl) rfl rfl fun a_580 HE581 => ?_
              refine wpList_nil ?_
              clear a_569 HE570 a_571 HE572 HH554 a_573 HE574 a_578 HE579 hK576 K_575
              refine nrm ?_
              refine wp_seq ?_
              refine wp_seq ?_
              refine rg ?_
              refine pl_x HE581 HH577 (wt0 rfl) (x_move rfl) rfl rfl fun a_582 HE583 => ?_
              refine pl_x HE583 HH577 (wt0 rfl) (x_lss rfl rfl) rfl rfl fun a_584 HE585 => ?_
              refine wpList_nil ?_
              clear a_580 HE581 a_582 HE583
              refine nrm ?_
              refine cndF HE585 rfl (decide_eq_false hc57) ?_
              refine wp_skip ?_
              refine nrm ?_
              refine wp_seq ?_
              refine wp_seq ?_
              refine rg ?_
              refine pl_x HE585 HH577 (wt0 rfl) (x_move rfl) rfl rfl fun a_586 HE587 => ?_
              refine pl_x HE587 HH577 (wt0 rfl) (x_move rfl) rfl rfl fun a_588 HE589 => ?_
              refine pl_x HE589 HH577 (wt0 rfl) (x_neq rfl rfl) rfl rfl fun a_590 HE591 => ?_
              refine wpList_nil ?_
              clear a_584 HE585 a_586 HE587 a_588 HE589
              refine nrm ?_
              refine cndF HE591 rfl (bne_f rfl) ?_
              refine wp_skip ?_
              refine nrm ?_
              refine wp_seq ?_
              refine rg ?_
              refine pl_x HE591 HH577 (wt0 rfl) (x_assign rfl) rfl rfl fun a_592 HE593 => ?_
              refine wpList_nil ?_
              clear a_590 HE591
              refine nrm ?_
              refine wp_ret ?_
              refine ret1 HE593 rfl (rv_tmp rfl) ?_
              have hF : true = true := by
                first | rfl | (exfalso; omega)
              exact ⟨by first | (rw [hF] <;> rfl) | rfl | (rw [hF]; simp only [Ending.returned.injEq, Value.slice.injEq, true_and, and_true]; first | omega | (simp; done)) | (rw [hF]; simp; omega), HH577.below⟩

end Go.Proofs.Ythfihlfjphiihaa
