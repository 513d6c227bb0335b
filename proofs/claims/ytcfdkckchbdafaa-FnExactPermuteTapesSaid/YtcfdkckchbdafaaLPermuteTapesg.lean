/- What the proof of FnExactPermuteTapes needs: contracts of the functions that it reaches, each once. -/
import Derived.Test.YtcfdkckchbdafaaProg
import Derived.Test.YtcfdkckchbdafaaQMem
import Derived.Test.YtcfdkckchbdafaaQOpen
import Derived.Test.YtcfdkckchbdafaaLPermuteTapesa
import Derived.Test.YtcfdkckchbdafaaLPermuteTapesb
import Derived.Test.YtcfdkckchbdafaaLPermuteTapesc
import Derived.Test.YtcfdkckchbdafaaLPermuteTapesd
import Derived.Test.YtcfdkckchbdafaaLPermuteTapese
import Derived.Test.YtcfdkckchbdafaaLPermuteTapesf
import Derived.WalkKit
import Derived.WalkSpells
import Derived.Below
import Derived.LoopTactic
import Derived.Outline
import Derived.Deep.QuietTactic
import Derived.BigQuiet
import Derived.Deep.LoopGhost
import Derived.Handy
import Derived.Lib.Hide
import Derived.Shelf.Abstract
import Derived.StillTailTactics
import Derived.OwnWalk
import Derived.Maps.AppendAt
import Derived.RegionTactic
import Derived.Deep.RegionHeld3
import Derived.IntWalk
import Derived.Deep.Upon
import Derived.Laws.OwnMore
import Derived.Maps.AppendAt
import Derived.Lib.FrozenHead
import Derived.Lib.RuneBytes
import Derived.Lib.LaidTab
import Derived.Laws.StructEq
import Derived.Lib.SliceRun
import Derived.Lib.AppendZeros
import Derived.Shelf.SortG.Plain
import Derived.Shelf.SortG.SortNone
import Derived.Shelf.SlicesG.CompactI
import Derived.Shelf.SlicesG.SearchI
import Derived.Sort.OwnSortedInts
import Derived.Lib.RowBridge
import Derived.Lib.ItoaLen
import Derived.Lib.Join
import Derived.Shelf.Strconv.Itoa4
import Derived.Shelf.Strings.OnBuilder
import Derived.Shelf.Strings.BuilderK
import Derived.Shelf.Strings.BuilderRune
import Derived.Shelf.LaysM
import Derived.Ground.NamesProg
import Derived.Shelf.SlSortCmp.WholeK
import Derived.Shelf.SlSortCmp.NoneTotal
namespace Go.Proofs.Ytcfdkckchbdafaa
open Go.RowKit

set_option maxRecDepth 100000 in
set_option maxHeartbeats 4000000 in
theorem spec_PermuteTapes (es0 : List Value) (a0 : tMulti) (A1 : Option Addr) (c1 : Nat) (a1 : (List Int)) (w : World) (h0 : eMulti.R w (Old w) es0 a0) (h1 : Sl eInt w (Old w) A1 c1 a1) :
    Calls Try.prog 42 #[.agg es0.toArray, .slice A1 a1.length c1] w fun e w' => ∃ (es0' : List Value), e = .returned (.tuple #[.agg es0'.toArray, .int .i64 (permTapes a0 a1).2]) ∧ eMulti.O w' (Fr w w') es0' (permTapes a0 a1).1 ∧ Below w.heap.size w w' := by
  have H0 := h0
  obtain ⟨Az0_3, cz0_3, rfl, gz0_0, gz0_1, gz0_2, gz0_3⟩ := shape_Multi h0
  have jz0_0 := gz0_0; unfold I64 at jz0_0
  have jz0_1 := gz0_1; unfold I64 at jz0_1
  have jz0_2 := gz0_2; unfold I64 at jz0_2
  have lz0_3 := gz0_3.len
  have l1 := h1.len
  have HH1 := Held.start Nob w
  refine enter (n := 70) Try.func42 rfl rfl rfl fun a_2 HE3 => ?_
  refine wp_seq ?_
  refine rg ?_
  refine pl fun K_4 hK5 => ?_
  refine st_box (cs := [.int .i64 (a0.1), .int .i64 (a0.2.1), .int .i64 (a0.2.2.1), .slice Az0_3 (a0.2.2.2.length) cz0_3]) HE3 HH1 rfl rfl (wt0 rfl) rfl fun q21 a_6 w' HE7 HH8 => hK5 _ _ ?_
  refine pl fun K_9 hK10 => ?_
  refine st_alloc HE7 HH8 tv_55 (wt0 rfl) rfl fun q22 a_11 w' HE12 HH13 => hK10 _ _ ?_
  refine pl_x HE12 HH13 (wt0 rfl) (x_assign rfl) rfl rfl fun a_14 HE15 => ?_
  refine wpList_nil ?_
  clear a_2 HE3 HH1 K_4 hK5 a_6 HE7 HH8 a_11 HE12 hK10 K_9
  refine nrm ?_
  refine wp_seq ?_
  refine wp_seq ?_
  refine rg ?_
  refine pl fun K_16 hK17 => ?_
  refine st_call HE15 (wt0 rfl) rfl rfl rfl en_67 rfl rfl (spec_l06Is _ _ _ a0 _ (HH13.oldR H0) (c_blkN 1 rfl _ HH13)) fun e w' hr => ?_
  obtain ⟨rfl, hbr23⟩ := hr
  have HH18 := HH13.on hbr23
  refine ⟨_, rfl, fun a_19 HE20 => hK17 _ _ ?_⟩
  refine pl_x HE20 HH18 (wt0 rfl) (x_not rfl) rfl rfl fun a_21 HE22 => ?_
  refine wpList_nil ?_
  clear HH13 a_14 HE15 a_19 HE20 hK17 K_16
  refine nrm ?_
  refine cnd_nb HE22 rfl (fun hc24 => ?_) (fun hc24 => ?_)
  · refine wp_seq ?_
    refine rg ?_
    refine pl_x HE22 HH18 (wt0 rfl) (show XS _ _ _ _ (.agg #[.int .i64 (0), .int .i64 (0), .int .i64 (0), .slice none (0) 0]) from x_build (vs := []) tb_55 rfl (by simp [Value.oneCell'])) rfl rfl fun a_23 HE24 => ?_
    refine pl fun K_25 hK26 => ?_
    refine st_store (vs := [.int .i64 (0), .int .i64 (0), .int .i64 (0), .slice none (0) 0]) 0 HE24 HH18 tv_55 rfl rfl rfl rfl rfl rfl (by simp [Value.oneCell']) (wt0 rfl) fun w' HH27 => hK26 _ _ ?_
    refine pl_x HE24 HH27 (wt0 rfl) (x_assign rfl) rfl rfl fun a_28 HE29 => ?_
    refine wpList_nil ?_
    clear a_21 HE22 HH18 a_23 HE24 hK26 K_25
    refine nrm ?_
    refine wp_ret ?_
    refine (thn_ret ?_)
    refine ret2 HE29 rfl (rv_cell rfl (tv_55.loadN (cs := [.int .i64 (0), .int .i64 (0), .int .i64 (0), .slice none (0) 0]) rfl (c_blkN 0 rfl _ HH27))) (rv_tmp rfl) ?_
    have HH30 := HH27.flatO (E := eMulti) (cs := [.int .i64 (0), .int .i64 (0), .int .i64 (0), .slice none (0) 0]) (x := (0, 0, 0, [])) (fun _ => (oPrN (oI (by exact ⟨by omega, by omega⟩)) (oPrN (oI (by exact ⟨by omega, by omega⟩)) (oPrN (oI (by exact ⟨by omega, by omega⟩)) (oSl (So.nil (Nat.zero_le _)))))))
    have hF : (permTapes a0 a1) = ((0, 0, 0, []), 1) := by
      first | (simp [permTapes, hc24]; done) | (unfold permTapes; rw [if_pos hvm, if_pos hwo, List.take_of_length_le (by omega)])
    exact ⟨_, by first | (rw [hF] <;> rfl) | rfl | (rw [hF]; simp only [Ending.returned.injEq, Value.slice.injEq, true_and, and_true]; first | omega | (simp; done)) | (rw [hF]; simp; omega), by rw [hF]; exact (HH30.o (i := 0) rfl), HH30.below⟩
  · have hvm := hc24
    obtain ⟨v0, v1, v2, v3⟩ := validMulti_facts hc24
    refine wp_skip ?_
    refine nrm ?_
    refine wp_seq ?_
    refine wp_seq ?_
    refine rg ?_
    refine pl_x HE22 HH18 (wt0 rfl) (x_move rfl) rfl rfl fun a_31 HE32 => ?_
    refine pl_x HE32 HH18 (wt0 rfl) (x_fieldAddr fa_55_0 rfl) rfl rfl fun a_33 HE34 => ?_
    refine pl_x HE34 HH18 (wt0 rfl) (x_load1 tv_2 rfl (c_blk 1 rfl rfl)) rfl rfl fun a_35 HE36 => ?_
    refine pl fun K_37 hK38 => ?_
    refine st_call HE36 (wt0 rfl) rfl rfl rfl en_85 rfl rfl (spec_l06Order _ _ a1 a0.1 _ (HH18.old h1) (by omega)) fun e w' hr => ?_
    obtain ⟨rfl, hbr25⟩ := hr
    have HH39 := HH18.on hbr25
    refine ⟨_, rfl, fun a_40 HE41 => hK38 _ _ ?_⟩
    refine pl_x HE41 HH39 (wt0 rfl) (x_not rfl) rfl rfl fun a_42 HE43 => ?_
    refine wpList_nil ?_
    clear a_21 HE22 a_31 HE32 a_33 HE34 HH18 a_35 HE36 a_40 HE41 hK38 K_37
    refine nrm ?_
    refine cnd_nb HE43 rfl (fun hc26 => ?_) (fun hc26 => ?_)
    · refine wp_seq ?_
      refine rg ?_
      refine pl_x HE43 HH39 (wt0 rfl) (show XS _ _ _ _ (.agg #[.int .i64 (0), .int .i64 (0), .int .i64 (0), .slice none (0) 0]) from x_build (vs := []) tb_55 rfl (by simp [Value.oneCell'])) rfl rfl fun a_44 HE45 => ?_
      refine pl fun K_46 hK47 => ?_
      refine st_store (vs := [.int .i64 (0), .int .i64 (0), .int .i64 (0), .slice none (0) 0]) 0 HE45 HH39 tv_55 rfl rfl rfl rfl rfl rfl (by simp [Value.oneCell']) (wt0 rfl) fun w' HH48 => hK47 _ _ ?_
      refine pl_x HE45 HH48 (wt0 rfl) (x_assign rfl) rfl rfl fun a_49 HE50 => ?_
      refine wpList_nil ?_
      clear a_42 HE43 HH39 a_44 HE45 hK47 K_46
      refine nrm ?_
      refine wp_ret ?_
      refine (thn_ret ?_)
      refine ret2 HE50 rfl (rv_cell rfl (tv_55.loadN (cs := [.int .i64 (0), .int .i64 (0), .int .i64 (0), .slice none (0) 0]) rfl (c_blkN 0 rfl _ HH48))) (rv_tmp rfl) ?_
      have HH51 := HH48.flatO (E := eMulti) (cs := [.int .i64 (0), .int .i64 (0), .int .i64 (0), .slice none (0) 0]) (x := (0, 0, 0, [])) (fun _ => (oPrN (oI (by exact ⟨by omega, by omega⟩)) (oPrN (oI (by exact ⟨by omega, by omega⟩)) (oPrN (oI (by exact ⟨by omega, by omega⟩)) (oSl (So.nil (Nat.zero_le _)))))))
      have hF : (permTapes a0 a1) = ((0, 0, 0, []), 2) := by
        first | (simp [permTapes, hc24, hc26]; done) | (unfold permTapes; rw [if_pos hvm, if_pos hwo, List.take_of_length_le (by omega)])
      exact ⟨_, by first | (rw [hF] <;> rfl) | rfl | (rw [hF]; simp only [Ending.returned.injEq, Value.slice.injEq, true_and, and_true]; first | omega | (simp; done)) | (rw [hF]; simp; omega), by rw [hF]; exact (HH51.o (i := 0) rfl), HH51.below⟩
    · have hwo := hc26
      have w0 := (order_iff _ _).1 hc26
      refine wp_skip ?_
      refine nrm ?_
      refine wp_seq ?_
      refine rg ?_
      refine pl_x HE43 HH39 (wt0 rfl) (x_fieldAddr fa_55_0 rfl) rfl rfl fun a_52 HE53 => ?_
      refine pl_x HE53 HH39 (wt0 rfl) (x_load1 tv_2 rfl (c_blk 1 rfl rfl)) rfl rfl fun a_54 HE55 => ?_
      refine pl_x HE55 HH39 (wt0 rfl) (x_fieldAddr fa_55_1 rfl) rfl rfl fun a_56 HE57 => ?_
      refine pl_x HE57 HH39 (wt0 rfl) (x_load1 tv_2 rfl (c_blk 1 rfl rfl)) rfl rfl fun a_58 HE59 => ?_
      refine pl_x HE59 HH39 (wt0 rfl) (x_fieldAddr fa_55_2 rfl) rfl rfl fun a_60 HE61 => ?_
      refine pl_x HE61 HH39 (wt0 rfl) (x_load1 tv_2 rfl (c_blk 1 rfl rfl)) rfl rfl fun a_62 HE63 => ?_
      refine pl_x HE63 HH39 (wt0 rfl) (show XS _ _ _ _ (.agg #[.int .i64 (a0.1), .int .i64 (a0.2.1), .int .i64 (a0.2.2.1), .slice none (0) 0]) from x_build (vs := [(0, .int .i64 (a0.1)), (1, .int .i64 (a0.2.1)), (2, .int .i64 (a0.2.2.1))]) tb_55 rfl (by simp [Value.oneCell'])) rfl rfl fun a_64 HE65 => ?_
      refine pl fun K_66 hK67 => ?_
      refine st_alloc HE65 HH39 tv_55 (wt0 rfl) rfl fun q27 a_68 w' HE69 HH70 => hK67 _ _ ?_
      refine pl fun K_71 hK72 => ?_
      refine st_store (vs := [.int .i64 (a0.1), .int .i64 (a0.2.1), .int .i64 (a0.2.2.1), .slice none (0) 0]) 0 HE69 HH70 tv_55 rfl rfl rfl rfl rfl rfl (by simp [Value.oneCell']) (wt0 rfl) fun w' HH73 => hK72 _ _ ?_
      refine wpList_nil ?_
      clear a_42 HE43 a_52 HE53 a_54 HE55 a_56 HE57 a_58 HE59 a_60 HE61 a_62 HE63 a_64 HE65 HH39 K_66 hK67 HH70 hK72 K_71
      refine nrm ?_
      refine wp_seq ?_
      refine wp_seq ?_
      refine rg ?_
      refine pl_x HE69 HH73 (wt0 rfl) (x_assign rfl) rfl rfl fun a_74 HE75 => ?_
      refine wpList_nil ?_
      clear a_68 HE69
      refine nrm ?_
      refine wp_block ?_
      have HH76 := HH73.vecNil eMultiRule 108
      refine lp (fun m a w' => ∃ (k : Nat) (A_6_3 : Option Addr) (c_6_3 : Nat) (S_6_3 : Nat → Prop), m = a0.2.2.2.length - k ∧ Env 70 [(7, .int .i64 (k : Int)), (1, .slice A1 (a1.length) c1), (2, .pointer (some ⟨q21, 0, none⟩)), (4, .pointer (some ⟨q22, 0, none⟩)), (6, .pointer (some ⟨q27, 0, none⟩))] a ∧ Held Nob w [rVec eMultiRule 108 S_6_3 A_6_3 c_6_3 (sortMR ((a0.2.2.2.take k).map (permMR a1))), rBlk q27 55 [.int .i64 a0.1, .int .i64 a0.2.1, .int .i64 a0.2.2.1, .slice A_6_3 (List.length (sortMR ((a0.2.2.2.take k).map (permMR a1)))) c_6_3], rBlk q22 55 [.int .i64 (0), .int .i64 (0), .int .i64 (0), .slice none (0) 0], rBlk q21 55 [.int .i64 (a0.1), .int .i64 (a0.2.1), .int .i64 (a0.2.2.1), .slice Az0_3 (a0.2.2.2.length) cz0_3]] w' ∧ (k ≤ a0.2.2.2.length)) (a0.2.2.2.length - (0)) ?_ ?_
      · have E28 : sortMR ((a0.2.2.2.take 0).map (permMR a1)) = [] := by
          rfl
        exact ⟨0, none, 0, Nob, rfl, HE75.sub ⟨(lkI rfl (by first | rfl | omega | (simp [hc24, hc26]; done))), rfl, rfl, rfl, rfl, trivial⟩, ((HH76.sel [0, 1, 2, 3] (by decide) rfl).to (by first | rfl | (rw [E28]; done) | (rw [E28]; rfl) | (simp only [E28]; done) | (simp only [E28]; rfl) | (rw [E28]; simp only [List.length_set]; done))), (by first | omega | assumption | (simp; done) | simp_all)⟩
      · rintro m a_77 w' ⟨k, A_6_3, c_6_3, S_6_3, rfl, HE78, HH79, p29_0⟩
        have ol : (sortMR ((a0.2.2.2.take k).map (permMR a1))).length ≤ 60 := by rw [sortMR_len, List.length_map, List.length_take]; omega
        refine wp_seq ?_
        refine wp_seq ?_
        refine rg ?_
        refine pl_x HE78 HH79 (wt0 rfl) (x_move rfl) rfl rfl fun a_80 HE81 => ?_
        refine pl_x HE81 HH79 (wt0 rfl) (x_fieldAddr fa_55_3 rfl) rfl rfl fun a_82 HE83 => ?_
        refine pl_x HE83 HH79 (wt0 rfl) (x_load1 tv_53 rfl (c_blk 3 rfl rfl)) rfl rfl fun a_84 HE85 => ?_
        refine pl_x HE85 HH79 (wt0 rfl) (x_len Try.underlying53 rfl) rfl rfl fun a_86 HE87 => ?_
        refine pl_x HE87 HH79 (wt0 rfl) (x_lss rfl rfl) rfl rfl fun a_88 HE89 => ?_
        refine wpList_nil ?_
        clear HH73 a_74 HE75 HH76 a_77 HE78 a_80 HE81 a_82 HE83 a_84 HE85 a_86 HE87
        refine nrm ?_
        refine cnd_d HE89 rfl (fun hc30 => ?_) (fun hc30 => ?_)
        · refine wp_skip ?_
          refine nrm ?_
          refine wp_seq ?_
          refine wp_block ?_
          refine wp_seq ?_
          refine rg ?_
          refine pl_x HE89 HH79 (wt0 rfl) (x_fieldAddr fa_55_3 rfl) rfl rfl fun a_90 HE91 => ?_
          refine pl_x HE91 HH79 (wt0 rfl) (x_load1 tv_53 rfl (c_blk 3 rfl rfl)) rfl rfl fun a_92 HE93 => ?_
          refine pl_x HE93 HH79 (wt0 rfl) (x_move rfl) rfl rfl fun a_94 HE95 => ?_
          have ke31 : k < a0.2.2.2.length := by omega
          obtain ⟨be31, fe31, ese31, Ae31, Re31, De31⟩ := el_old gz0_3 ke31
          obtain ⟨e31, xe31⟩ : ∃ x_, x_ = a0.2.2.2[k] := ⟨_, rfl⟩
          rw [← xe31] at Re31
          have Qe31 := Re31
          obtain ⟨Ae31_1, ce31_1, Ae31_2, ce31_2, Ae31_3, ce31_3, rfl, ge31_0, ge31_1, ge31_2, ge31_3, ge31_4⟩ := shape_MultiRule Re31
          have je31_0 := ge31_0; unfold I64 at je31_0
          have le31_1 := ge31_1.len
          have le31_2 := ge31_2.len
          have le31_3 := ge31_3.len
          have je31_4 := ge31_4; unfold I64 at je31_4
          have bbe31 := (validMulti_rule hvm ke31).1
          rw [← xe31] at bbe31
          refine pl_x HE95 HH79 (wt0 rfl) (x_indexAddr ts_53 rfl rfl Ae31 rfl ke31) rfl rfl fun a_96 HE97 => ?_
          refine pl_x HE97 HH79 (wt0 rfl) (x_assign rfl) rfl rfl fun a_98 HE99 => ?_
          refine wpList_nil ?_
          clear a_88 HE89 a_90 HE91 a_92 HE93 a_94 HE95 a_96 HE97
          refine nrm ?_
          refine wp_seq ?_
          refine wp_join (fun a w' => ∃ (q35 : Nat), ∃ (Ar32_0 : Option Addr), ∃ (cr32_0 : Nat), ∃ (Ar33_0 : Option Addr), ∃ (cr33_0 : Nat), ∃ (Ar34_0 : Option Addr), ∃ (cr34_0 : Nat), ∃ (Sr34 : Nat → Prop), ∃ (Sr33 : Nat → Prop), ∃ (Sr32 : Nat → Prop), Env 70 [(1, .slice A1 (a1.length) c1), (2, .pointer (some ⟨q21, 0, none⟩)), (4, .pointer (some ⟨q22, 0, none⟩)), (6, .pointer (some ⟨q27, 0, none⟩)), (7, .int .i64 ((k : Int))), (9, .pointer (some ⟨q35, 0, none⟩))] a ∧ Held Nob w [rBlk q35 108 [.int .i64 (e31.1), .slice Ar32_0 ((permL e31.2.1 a1).length) cr32_0, .slice Ar33_0 ((permL e31.2.2.1 a1).length) cr33_0, .slice Ar34_0 ((permL e31.2.2.2.1 a1).length) cr34_0, .int .i64 (e31.2.2.2.2)], rSo eInt Sr34 Ar34_0 cr34_0 (permL e31.2.2.2.1 a1), rSo eInt Sr33 Ar33_0 cr33_0 (permL e31.2.2.1 a1), rSo eInt Sr32 Ar32_0 cr32_0 (permL e31.2.1 a1), rVec eMultiRule 108 S_6_3 A_6_3 c_6_3 (sortMR ((a0.2.2.2.take k).map (permMR a1))), rBlk q27 55 [.int .i64 (a0.1), .int .i64 (a0.2.1), .int .i64 (a0.2.2.1), .slice A_6_3 ((List.length (sortMR ((a0.2.2.2.take k).map (permMR a1))))) c_6_3], rBlk q22 55 [.int .i64 (0), .int .i64 (0), .int .i64 (0), .slice none (0) 0], rBlk q21 55 [.int .i64 (a0.1), .int .i64 (a0.2.1), .int .i64 (a0.2.2.1), .slice Az0_3 (a0.2.2.2.length) cz0_3]] w') ?_ ?_
          · refine dr_start (Held Nob w [rVec eMultiRule 108 S_6_3 A_6_3 c_6_3 (sortMR ((a0.2.2.2.take k).map (permMR a1))), rBlk q27 55 [.int .i64 (a0.1), .int .i64 (a0.2.1), .int .i64 (a0.2.2.1), .slice A_6_3 ((List.length (sortMR ((a0.2.2.2.take k).map (permMR a1))))) c_6_3], rBlk q22 55 [.int .i64 (0), .int .i64 (0), .int .i64 (0), .slice none (0) 0], rBlk q21 55 [.int .i64 (a0.1), .int .i64 (a0.2.1), .int .i64 (a0.2.2.1), .slice Az0_3 (a0.2.2.2.length) cz0_3]]) 29 #[false, false, false, false, false, false, false, false, false, false, false, false, false, false, false, false, false, false, false, false, false, false, false, false, false, false, false, false, false] hmix rfl rfl HH79 (fun _ h => h.sel [0, 1, 2, 3] (by decide) rfl) fun w' HH100 => ?_
            have HS101 := HH100
            refine dr_take (i := 0) (ls' := #[true, false, false, false, false, false, false, false, false, false, false, false, false, false, false, false, false, false, false, false, false, false, false, false, false, false, false, false, false]) HE99 HS101 rfl (by kernel_rfl) (by kernel_rfl) (by kernel_rfl) (fun _ _ _ h => h) rfl (wt0 rfl) (x_move rfl) rfl rfl fun a_102 HE103 => ?_
            refine dr_take (i := 1) (ls' := #[true, true, false, false, false, false, false, false, false, false, false, false, false, false, false, false, false, false, false, false, false, false, false, false, false, false, false, false, false]) HE103 HS101 rfl (by kernel_rfl) (by kernel_rfl) (by kernel_rfl) (fun _ _ _ h => h) rfl (wt0 rfl) (x_nilCheck rfl) rfl rfl fun a_104 HE105 => ?_
            refine dr_take (i := 2) (ls' := #[true, true, true, false, false, false, false, false, false, false, false, false, false, false, false, false, false, false, false, false, false, false, false, false, false, false, false, false, false]) HE105 HS101 rfl (by kernel_rfl) (by kernel_rfl) (by kernel_rfl) (fun _ _ _ h => h) rfl (wt0 rfl) (x_fieldAddr fa_108_0 rfl) rfl rfl fun a_106 HE107 => ?_
            refine dr_take (i := 3) (ls' := #[true, true, true, true, false, false, false, false, false, false, false, false, false, false, false, false, false, false, false, false, false, false, false, false, false, false, false, false, false]) HE107 HS101 rfl (by kernel_rfl) (by kernel_rfl) (by kernel_rfl) (fun _ _ _ h => h) rfl (wt0 rfl) (x_load1 tv_2 rfl (c_old (De31 0 _ rfl))) rfl rfl fun a_108 HE109 => ?_
            refine dr_take (i := 4) (ls' := #[true, true, true, true, true, false, false, false, false, false, false, false, false, false, false, false, false, false, false, false, false, false, false, false, false, false, false, false, false]) HE109 HS101 rfl (by kernel_rfl) (by kernel_rfl) (by kernel_rfl) (fun _ _ _ h => h) rfl (wt0 rfl) (x_move rfl) rfl rfl fun a_110 HE111 => ?_
            refine dr_take (i := 5) (ls' := #[true, true, true, true, true, true, false, false, false, false, false, false, false, false, false, false, false, false, false, false, false, false, false, false, false, false, false, false, false]) HE111 HS101 rfl (by kernel_rfl) (by kernel_rfl) (by kernel_rfl) (fun _ _ _ h => h) rfl (wt0 rfl) (x_nilCheck rfl) rfl rfl fun a_112 HE113 => ?_
            refine dr_take (i := 6) (ls' := #[true, true, true, true, true, true, true, false, false, false, false, false, false, false, false, false, false, false, false, false, false, false, false, false, false, false, false, false, false]) HE113 HS101 rfl (by kernel_rfl) (by kernel_rfl) (by kernel_rfl) (fun _ _ _ h => h) rfl (wt0 rfl) (x_fieldAddr fa_108_1 rfl) rfl rfl fun a_114 HE115 => ?_
            refine dr_take (i := 7) (ls' := #[true, true, true, true, true, true, true, true, false, false, false, false, false, false, false, false, false, false, false, false, false, false, false, false, false, false, false, false, false]) HE115 HS101 rfl (by kernel_rfl) (by kernel_rfl) (by kernel_rfl) (fun _ _ _ h => h) rfl (wt0 rfl) (x_load1 tv_37 rfl (c_old (De31 1 _ rfl))) rfl rfl fun a_116 HE117 => ?_
            refine dr_take (i := 8) (ls' := #[true, true, true, true, true, true, true, true, true, false, false, false, false, false, false, false, false, false, false, false, false, false, false, false, false, false, false, false, false]) HE117 HS101 rfl (by kernel_rfl) (by kernel_rfl) (by kernel_rfl) (fun _ _ _ h => h) rfl (wt0 rfl) (x_move rfl) rfl rfl fun a_118 HE119 => ?_
            refine dr_take (i := 10) (ls' := #[true, true, true, true, true, true, true, true, true, false, true, false, false, false, false, false, false, false, false, false, false, false, false, false, false, false, false, false, false]) HE119 HS101 rfl (by kernel_rfl) (by kernel_rfl) (by kernel_rfl) (fun _ _ _ h => h) rfl (wt0 rfl) (x_move rfl) rfl rfl fun a_120 HE121 => ?_
            refine dr_take (i := 11) (ls' := #[true, true, true, true, true, true, true, true, true, false, true, true, false, false, false, false, false, false, false, false, false, false, false, false, false, false, false, false, false]) HE121 HS101 rfl (by kernel_rfl) (by kernel_rfl) (by kernel_rfl) (fun _ _ _ h => h) rfl (wt0 rfl) (x_nilCheck rfl) rfl rfl fun a_122 HE123 => ?_
            refine dr_take (i := 12) (ls' := #[true, true, true, true, true, true, true, true, true, false, true, true, true, false, false, false, false, false, false, false, false, false, false, false, false, false, false, false, false]) HE123 HS101 rfl (by kernel_rfl) (by kernel_rfl) (by kernel_rfl) (fun _ _ _ h => h) rfl (wt0 rfl) (x_fieldAddr fa_108_2 rfl) rfl rfl fun a_124 HE125 => ?_
            refine dr_take (i := 13) (ls' := #[true, true, true, true, true, true, true, true, true, false, true, true, true, true, false, false, false, false, false, false, false, false, false, false, false, false, false, false, false]) HE125 HS101 rfl (by kernel_rfl) (by kernel_rfl) (by kernel_rfl) (fun _ _ _ h => h) rfl (wt0 rfl) (x_load1 tv_37 rfl (c_old (De31 2 _ rfl))) rfl rfl fun a_126 HE127 => ?_
            refine dr_take (i := 14) (ls' := #[true, true, true, true, true, true, true, true, true, false, true, true, true, true, true, false, false, false, false, false, false, false, false, false, false, false, false, false, false]) HE127 HS101 rfl (by kernel_rfl) (by kernel_rfl) (by kernel_rfl) (fun _ _ _ h => h) rfl (wt0 rfl) (x_move rfl) rfl rfl fun a_128 HE129 => ?_
            refine dr_take (i := 16) (ls' := #[true, true, true, true, true, true, true, true, true, false, true, true, true, true, true, false, true, false, false, false, false, false, false, false, false, false, false, false, false]) HE129 HS101 rfl (by kernel_rfl) (by kernel_rfl) (by kernel_rfl) (fun _ _ _ h => h) rfl (wt0 rfl) (x_move rfl) rfl rfl fun a_130 HE131 => ?_
            refine dr_take (i := 17) (ls' := #[true, true, true, true, true, true, true, true, true, false, true, true, true, true, true, false, true, true, false, false, false, false, false, false, false, false, false, false, false]) HE131 HS101 rfl (by kernel_rfl) (by kernel_rfl) (by kernel_rfl) (fun _ _ _ h => h) rfl (wt0 rfl) (x_nilCheck rfl) rfl rfl fun a_132 HE133 => ?_
            refine dr_take (i := 18) (ls' := #[true, true, true, true, true, true, true, true, true, false, true, true, true, true, true, false, true, true, true, false, false, false, false, false, false, false, false, false, false]) HE133 HS101 rfl (by kernel_rfl) (by kernel_rfl) (by kernel_rfl) (fun _ _ _ h => h) rfl (wt0 rfl) (x_fieldAddr fa_108_3 rfl) rfl rfl fun a_134 HE135 => ?_
            refine dr_take (i := 19) (ls' := #[true, true, true, true, true, true, true, true, true, false, true, true, true, true, true, false, true, true, true, true, false, false, false, false, false, false, false, false, false]) HE135 HS101 rfl (by kernel_rfl) (by kernel_rfl) (by kernel_rfl) (fun _ _ _ h => h) rfl (wt0 rfl) (x_load1 tv_37 rfl (c_old (De31 3 _ rfl))) rfl rfl fun a_136 HE137 => ?_
            refine dr_take (i := 20) (ls' := #[true, true, true, true, true, true, true, true, true, false, true, true, true, true, true, false, true, true, true, true, true, false, false, false, false, false, false, false, false]) HE137 HS101 rfl (by kernel_rfl) (by kernel_rfl) (by kernel_rfl) (fun _ _ _ h => h) rfl (wt0 rfl) (x_move rfl) rfl rfl fun a_138 HE139 => ?_
            refine dr_take (i := 22) (ls' := #[true, true, true, true, true, true, true, true, true, false, true, true, true, true, true, false, true, true, true, true, true, false, true, false, false, false, false, false, false]) HE139 HS101 rfl (by kernel_rfl) (by kernel_rfl) (by kernel_rfl) (fun _ _ _ h => h) rfl (wt0 rfl) (x_move rfl) rfl rfl fun a_140 HE141 => ?_
            refine dr_take (i := 23) (ls' := #[true, true, true, true, true, true, true, true, true, false, true, true, true, true, true, false, true, true, true, true, true, false, true, true, false, false, false, false, false]) HE141 HS101 rfl (by kernel_rfl) (by kernel_rfl) (by kernel_rfl) (fun _ _ _ h => h) rfl (wt0 rfl) (x_nilCheck rfl) rfl rfl fun a_142 HE143 => ?_
            refine dr_take (i := 24) (ls' := #[true, true, true, true, true, true, true, true, true, false, true, true, true, true, true, false, true, true, true, true, true, false, true, true, true, false, false, false, false]) HE143 HS101 rfl (by kernel_rfl) (by kernel_rfl) (by kernel_rfl) (fun _ _ _ h => h) rfl (wt0 rfl) (x_fieldAddr fa_108_4 rfl) rfl rfl fun a_144 HE145 => ?_
            refine dr_take (i := 25) (ls' := #[true, true, true, true, true, true, true, true, true, false, true, true, true, true, true, false, true, true, true, true, true, false, true, true, true, true, false, false, false]) HE145 HS101 rfl (by kernel_rfl) (by kernel_rfl) (by kernel_rfl) (fun _ _ _ h => h) rfl (wt0 rfl) (x_load1 tv_2 rfl (c_old (De31 4 _ rfl))) rfl rfl fun a_146 HE147 => ?_
            refine dr_two (i := 9) (j := 27) (ls' := #[true, true, true, true, true, true, true, true, true, true, true, true, true, true, true, false, true, true, true, true, true, false, true, true, true, true, false, false, false]) (ls'' := #[true, true, true, true, true, true, true, true, true, false, true, true, true, true, true, false, true, true, true, true, true, false, true, true, true, true, false, true, false]) rfl rfl (by kernel_rfl) rfl rfl (fun K_148 hK149 => ?_) (fun K_148 hK149 => ?_)
            · refine st_call HE147 (wt0 rfl) rfl rfl rfl en_86 rfl rfl (spec_l06Picked _ _ e31.2.1 _ _ a1 _ (HH100.old ge31_1) (HH100.old h1) (by exact fun x hx => by have := w0.2.1 x hx; omega) (by omega)) fun e w' hr => ?_
              obtain ⟨Ar32_0, cr32_0, rfl, hor32_0, hbr32⟩ := hr
              obtain ⟨Sr32, HH150⟩ := HH100.newS hbr32 hor32_0
              refine ⟨_, rfl, fun a_151 HE152 => hK149 _ _ (by exact HH150.sel [1, 2, 3, 4] (by decide) rfl) ?_⟩
              have HS153 := HH150.sel [1, 2, 3, 4] (by decide) rfl
              refine dr_two (i := 15) (j := 27) (ls' := #[true, true, true, true, true, true, true, true, true, true, true, true, true, true, true, true, true, true, true, true, true, false, true, true, true, true, false, false, false]) (ls'' := #[true, true, true, true, true, true, true, true, true, true, true, true, true, true, true, false, true, true, true, true, true, false, true, true, true, true, false, true, false]) rfl rfl (by kernel_rfl) rfl rfl (fun K_154 hK155 => ?_) (fun K_154 hK155 => ?_)
              · refine st_call HE152 (wt0 rfl) rfl rfl rfl en_86 rfl rfl (spec_l06Picked _ _ e31.2.2.1 _ _ a1 _ (HH150.old ge31_2) (HH150.old h1) (by exact fun x hx => by have := w0.2.1 x hx; omega) (by omega)) fun e w' hr => ?_
                obtain ⟨Ar33_0, cr33_0, rfl, hor33_0, hbr33⟩ := hr
                obtain ⟨Sr33, HH156⟩ := HH150.newS hbr33 hor33_0
                refine ⟨_, rfl, fun a_157 HE158 => hK155 _ _ (by exact HH156.sel [2, 3, 4, 5] (by decide) rfl) ?_⟩
                have HS159 := HH156.sel [2, 3, 4, 5] (by decide) rfl
                refine dr_two (i := 21) (j := 27) (ls' := #[true, true, true, true, true, true, true, true, true, true, true, true, true, true, true, true, true, true, true, true, true, true, true, true, true, true, false, false, false]) (ls'' := #[true, true, true, true, true, true, true, true, true, true, true, true, true, true, true, true, true, true, true, true, true, false, true, true, true, true, false, true, false]) rfl rfl (by kernel_rfl) rfl rfl (fun K_160 hK161 => ?_) (fun K_160 hK161 => ?_)
                · refine st_call HE158 (wt0 rfl) rfl rfl rfl en_86 rfl rfl (spec_l06Picked _ _ e31.2.2.2.1 _ _ a1 _ (HH156.old ge31_3) (HH156.old h1) (by exact fun x hx => by have := w0.2.1 x hx; omega) (by omega)) fun e w' hr => ?_
                  obtain ⟨Ar34_0, cr34_0, rfl, hor34_0, hbr34⟩ := hr
                  obtain ⟨Sr34, HH162⟩ := HH156.newS hbr34 hor34_0
                  refine ⟨_, rfl, fun a_163 HE164 => hK161 _ _ (by exact HH162.sel [3, 4, 5, 6] (by decide) rfl) ?_⟩
                  have HS165 := HH162.sel [3, 4, 5, 6] (by decide) rfl
                  refine dr_take (i := 26) (ls' := #[true, true, true, true, true, true, true, true, true, true, true, true, true, true, true, true, true, true, true, true, true, true, true, true, true, true, true, false, false]) HE164 HS165 rfl (by kernel_rfl) (by kernel_rfl) (by kernel_rfl) (fun _ _ _ h => h) rfl (wt0 rfl) (show XS _ _ _ _ (.agg #[.int .i64 (e31.1), .slice Ar32_0 ((permL e31.2.1 a1).length) cr32_0, .slice Ar33_0 ((permL e31.2.2.1 a1).length) cr33_0, .slice Ar34_0 ((permL e31.2.2.2.1 a1).length) cr34_0, .int .i64 (e31.2.2.2.2)]) from x_build (vs := [(0, .int .i64 (e31.1)), (1, .slice Ar32_0 ((permL e31.2.1 a1).length) cr32_0), (2, .slice Ar33_0 ((permL e31.2.2.1 a1).length) cr33_0), (3, .slice Ar34_0 ((permL e31.2.2.2.1 a1).length) cr34_0), (4, .int .i64 (e31.2.2.2.2))]) tb_108 rfl (by simp [Value.oneCell'])) rfl rfl fun a_166 HE167 => ?_
                  refine dr_one (i := 27) (ls' := #[true, true, true, true, true, true, true, true, true, true, true, true, true, true, true, true, true, true, true, true, true, true, true, true, true, true, true, true, false]) rfl (by kernel_rfl) rfl fun K_168 hK169 => ?_
                  refine st_alloc HE167 HH162 tv_108 (wt0 rfl) rfl fun q35 a_170 w' HE171 HH172 => hK169 _ _ (by exact HH172.sel [4, 5, 6, 7] (by decide) rfl) ?_
                  have HS173 := HH172.sel [4, 5, 6, 7] (by decide) rfl
                  refine dr_one (i := 28) (ls' := #[true, true, true, true, true, true, true, true, true, true, true, true, true, true, true, true, true, true, true, true, true, true, true, true, true, true, true, true, true]) rfl (by kernel_rfl) rfl fun K_174 hK175 => ?_
                  refine st_store (vs := [.int .i64 (e31.1), .slice Ar32_0 ((permL e31.2.1 a1).length) cr32_0, .slice Ar33_0 ((permL e31.2.2.1 a1).length) cr33_0, .slice Ar34_0 ((permL e31.2.2.2.1 a1).length) cr34_0, .int .i64 (e31.2.2.2.2)]) 0 HE171 HH172 tv_108 rfl rfl rfl rfl rfl rfl (by simp [Value.oneCell']) (wt0 rfl) fun w' HH176 => hK175 _ _ (by exact HH176.sel [4, 5, 6, 7] (by decide) rfl) ?_
                  have HS177 := HH176.sel [4, 5, 6, 7] (by decide) rfl
                  refine dr_done (by kernel_rfl) ?_
                  clear HH79 a_98 HE99 a_102 HE103 a_104 HE105 a_106 HE107 a_108 HE109 a_110 HE111 a_112 HE113 a_114 HE115 a_116 HE117 a_118 HE119 a_120 HE121 a_122 HE123 a_124 HE125 a_126 HE127 a_128 HE129 a_130 HE131 a_132 HE133 a_134 HE135 a_136 HE137 a_138 HE139 a_140 HE141 a_142 HE143 a_144 HE145 HH100 a_146 HE147 HS101 K_148 hK149 HH150 a_151 HE152 HS153 K_154 hK155 HH156 a_157 HE158 HS159 a_163 HE164 K_160 hK161 a_166 HE167 HH162 HS165 K_168 hK169 HH172 HS173 hK175 K_174
                  exact nrm ⟨_, _, _, _, _, _, _, _, _, _, HE171.sub ⟨rfl, rfl, rfl, rfl, rfl, rfl, trivial⟩, HH176.sel [0, 1, 2, 3, 4, 5, 6, 7] (by decide) rfl⟩
                · refine st_alloc HE158 HH156 tv_108 (wt0 rfl) rfl fun q36 a_178 w' HE179 HH180 => hK161 _ _ (by exact HH180.sel [3, 4, 5, 6] (by decide) rfl) ?_
                  have HS181 := HH180.sel [3, 4, 5, 6] (by decide) rfl
                  refine dr_one (i := 21) (ls' := #[true, true, true, true, true, true, true, true, true, true, true, true, true, true, true, true, true, true, true, true, true, true, true, true, true, true, false, true, false]) rfl (by kernel_rfl) rfl fun K_182 hK183 => ?_
                  refine st_call HE179 (wt0 rfl) rfl rfl rfl en_86 rfl rfl (spec_l06Picked _ _ e31.2.2.2.1 _ _ a1 _ (HH180.old ge31_3) (HH180.old h1) (by exact fun x hx => by have := w0.2.1 x hx; omega) (by omega)) fun e w' hr => ?_
                  obtain ⟨Ar37_0, cr37_0, rfl, hor37_0, hbr37⟩ := hr
                  obtain ⟨Sr37, HH184⟩ := HH180.newS hbr37 hor37_0
                  refine ⟨_, rfl, fun a_185 HE186 => hK183 _ _ (by exact HH184.sel [4, 5, 6, 7] (by decide) rfl) ?_⟩
                  have HS187 := HH184.sel [4, 5, 6, 7] (by decide) rfl
                  refine dr_take (i := 26) (ls' := #[true, true, true, true, true, true, true, true, true, true, true, true, true, true, true, true, true, true, true, true, true, true, true, true, true, true, true, true, false]) HE186 HS187 rfl (by kernel_rfl) (by kernel_rfl) (by kernel_rfl) (fun _ _ _ h => h) rfl (wt0 rfl) (show XS _ _ _ _ (.agg #[.int .i64 (e31.1), .slice Ar32_0 ((permL e31.2.1 a1).length) cr32_0, .slice Ar33_0 ((permL e31.2.2.1 a1).length) cr33_0, .slice Ar37_0 ((permL e31.2.2.2.1 a1).length) cr37_0, .int .i64 (e31.2.2.2.2)]) from x_build (vs := [(0, .int .i64 (e31.1)), (1, .slice Ar32_0 ((permL e31.2.1 a1).length) cr32_0), (2, .slice Ar33_0 ((permL e31.2.2.1 a1).length) cr33_0), (3, .slice Ar37_0 ((permL e31.2.2.2.1 a1).length) cr37_0), (4, .int .i64 (e31.2.2.2.2))]) tb_108 rfl (by simp [Value.oneCell'])) rfl rfl fun a_188 HE189 => ?_
                  refine dr_one (i := 28) (ls' := #[true, true, true, true, true, true, true, true, true, true, true, true, true, true, true, true, true, true, true, true, true, true, true, true, true, true, true, true, true]) rfl (by kernel_rfl) rfl fun K_190 hK191 => ?_
                  refine st_store (vs := [.int .i64 (e31.1), .slice Ar32_0 ((permL e31.2.1 a1).length) cr32_0, .slice Ar33_0 ((permL e31.2.2.1 a1).length) cr33_0, .slice Ar37_0 ((permL e31.2.2.2.1 a1).length) cr37_0, .int .i64 (e31.2.2.2.2)]) 1 HE189 HH184 tv_108 rfl rfl rfl rfl rfl rfl (by simp [Value.oneCell']) (wt0 rfl) fun w' HH192 => hK191 _ _ (by exact HH192.sel [4, 5, 6, 7] (by decide) rfl) ?_
                  have HS193 := HH192.sel [4, 5, 6, 7] (by decide) rfl
                  refine dr_done (by kernel_rfl) ?_
                  clear HH79 a_98 HE99 a_102 HE103 a_104 HE105 a_106 HE107 a_108 HE109 a_110 HE111 a_112 HE113 a_114 HE115 a_116 HE117 a_118 HE119 a_120 HE121 a_122 HE123 a_124 HE125 a_126 HE127 a_128 HE129 a_130 HE131 a_132 HE133 a_134 HE135 a_136 HE137 a_138 HE139 a_140 HE141 a_142 HE143 a_144 HE145 HH100 a_146 HE147 HS101 K_148 hK149 HH150 a_151 HE152 HS153 K_154 hK155 a_157 HE158 HH156 HS159 K_160 hK161 HH180 a_178 HE179 HS181 a_185 HE186 K_182 hK183 HH184 HS187 hK191 K_190
                  exact nrm ⟨_, _, _, _, _, _, _, _, _, _, HE189.sub ⟨rfl, rfl, rfl, rfl, rfl, rfl, trivial⟩, HH192.sel [1, 0, 2, 3, 4, 5, 6, 7] (by decide) rfl⟩
              · refine st_alloc HE152 HH150 tv_108 (wt0 rfl) rfl fun q38 a_194 w' HE195 HH196 => hK155 _ _ (by exact HH196.sel [2, 3, 4, 5] (by decide) rfl) ?_
                have HS197 := HH196.sel [2, 3, 4, 5] (by decide) rfl
                refine dr_one (i := 15) (ls' := #[true, true, true, true, true, true, true, true, true, true, true, true, true, true, true, true, true, true, true, true, true, false, true, true, true, true, false, true, false]) rfl (by kernel_rfl) rfl fun K_198 hK199 => ?_
                refine st_call HE195 (wt0 rfl) rfl rfl rfl en_86 rfl rfl (spec_l06Picked _ _ e31.2.2.1 _ _ a1 _ (HH196.old ge31_2) (HH196.old h1) (by exact fun x hx => by have := w0.2.1 x hx; omega) (by omega)) fun e w' hr => ?_
                obtain ⟨Ar39_0, cr39_0, rfl, hor39_0, hbr39⟩ := hr
                obtain ⟨Sr39, HH200⟩ := HH196.newS hbr39 hor39_0
                refine ⟨_, rfl, fun a_201 HE202 => hK199 _ _ (by exact HH200.sel [3, 4, 5, 6] (by decide) rfl) ?_⟩
                have HS203 := HH200.sel [3, 4, 5, 6] (by decide) rfl
                refine dr_one (i := 21) (ls' := #[true, true, true, true, true, true, true, true, true, true, true, true, true, true, true, true, true, true, true, true, true, true, true, true, true, true, false, true, false]) rfl (by kernel_rfl) rfl fun K_204 hK205 => ?_
                refine st_call HE202 (wt0 rfl) rfl rfl rfl en_86 rfl rfl (spec_l06Picked _ _ e31.2.2.2.1 _ _ a1 _ (HH200.old ge31_3) (HH200.old h1) (by exact fun x hx => by have := w0.2.1 x hx; omega) (by omega)) fun e w' hr => ?_
                obtain ⟨Ar40_0, cr40_0, rfl, hor40_0, hbr40⟩ := hr
                obtain ⟨Sr40, HH206⟩ := HH200.newS hbr40 hor40_0
                refine ⟨_, rfl, fun a_207 HE208 => hK205 _ _ (by exact HH206.sel [4, 5, 6, 7] (by decide) rfl) ?_⟩
                have HS209 := HH206.sel [4, 5, 6, 7] (by decide) rfl
                refine dr_take (i := 26) (ls' := #[true, true, true, true, true, true, true, true, true, true, true, true, true, true, true, true, true, true, true, true, true, true, true, true, true, true, true, true, false]) HE208 HS209 rfl (by kernel_rfl) (by kernel_rfl) (by kernel_rfl) (fun _ _ _ h => h) rfl (wt0 rfl) (show XS _ _ _ _ (.agg #[.int .i64 (e31.1), .slice Ar32_0 ((permL e31.2.1 a1).length) cr32_0, .slice Ar39_0 ((permL e31.2.2.1 a1).length) cr39_0, .slice Ar40_0 ((permL e31.2.2.2.1 a1).length) cr40_0, .int .i64 (e31.2.2.2.2)]) from x_build (vs := [(0, .int .i64 (e31.1)), (1, .slice Ar32_0 ((permL e31.2.1 a1).length) cr32_0), (2, .slice Ar39_0 ((permL e31.2.2.1 a1).length) cr39_0), (3, .slice Ar40_0 ((permL e31.2.2.2.1 a1).length) cr40_0), (4, .int .i64 (e31.2.2.2.2))]) tb_108 rfl (by simp [Value.oneCell'])) rfl rfl fun a_210 HE211 => ?_
                refine dr_one (i := 28) (ls' := #[true, true, true, true, true, true, true, true, true, true, true, true, true, true, true, true, true, true, true, true, true, true, true, true, true, true, true, true, true]) rfl (by kernel_rfl) rfl fun K_212 hK213 => ?_
                refine st_store (vs := [.int .i64 (e31.1), .slice Ar32_0 ((permL e31.2.1 a1).length) cr32_0, .slice Ar39_0 ((permL e31.2.2.1 a1).length) cr39_0, .slice Ar40_0 ((permL e31.2.2.2.1 a1).length) cr40_0, .int .i64 (e31.2.2.2.2)]) 2 HE211 HH206 tv_108 rfl rfl rfl rfl rfl rfl (by simp [Value.oneCell']) (wt0 rfl) fun w' HH214 => hK213 _ _ (by exact HH214.sel [4, 5, 6, 7] (by decide) rfl) ?_
                have HS215 := HH214.sel [4, 5, 6, 7] (by decide) rfl
                refine dr_done (by kernel_rfl) ?_
                clear HH79 a_98 HE99 a_102 HE103 a_104 HE105 a_106 HE107 a_108 HE109 a_110 HE111 a_112 HE113 a_114 HE115 a_116 HE117 a_118 HE119 a_120 HE121 a_122 HE123 a_124 HE125 a_126 HE127 a_128 HE129 a_130 HE131 a_132 HE133 a_134 HE135 a_136 HE137 a_138 HE139 a_140 HE141 a_142 HE143 a_144 HE145 HH100 a_146 HE147 HS101 K_148 hK149 a_151 HE152 HH150 HS153 K_154 hK155 HH196 a_194 HE195 HS197 K_198 hK199 HH200 a_201 HE202 HS203 a_207 HE208 K_204 hK205 HH206 HS209 hK213 K_212
                exact nrm ⟨_, _, _, _, _, _, _, _, _, _, HE211.sub ⟨rfl, rfl, rfl, rfl, rfl, rfl, trivial⟩, HH214.sel [2, 0, 1, 3, 4, 5, 6, 7] (by decide) rfl⟩
            · refine st_alloc HE147 HH100 tv_108 (wt0 rfl) rfl fun q41 a_216 w' HE217 HH218 => hK149 _ _ (by exact HH218.sel [1, 2, 3, 4] (by decide) rfl) ?_
              have HS219 := HH218.sel [1, 2, 3, 4] (by decide) rfl
              refine dr_one (i := 9) (ls' := #[true, true, true, true, true, true, true, true, true, true, true, true, true, true, true, false, true, true, true, true, true, false, true, true, true, true, false, true, false]) rfl (by kernel_rfl) rfl fun K_220 hK221 => ?_
              refine st_call HE217 (wt0 rfl) rfl rfl rfl en_86 rfl rfl (spec_l06Picked _ _ e31.2.1 _ _ a1 _ (HH218.old ge31_1) (HH218.old h1) (by exact fun x hx => by have := w0.2.1 x hx; omega) (by omega)) fun e w' hr => ?_
              obtain ⟨Ar42_0, cr42_0, rfl, hor42_0, hbr42⟩ := hr
              obtain ⟨Sr42, HH222⟩ := HH218.newS hbr42 hor42_0
              refine ⟨_, rfl, fun a_223 HE224 => hK221 _ _ (by exact HH222.sel [2, 3, 4, 5] (by decide) rfl) ?_⟩
              have HS225 := HH222.sel [2, 3, 4, 5] (by decide) rfl
              refine dr_one (i := 15) (ls' := #[true, true, true, true, true, true, true, true, true, true, true, true, true, true, true, true, true, true, true, true, true, false, true, true, true, true, false, true, false]) rfl (by kernel_rfl) rfl fun K_226 hK227 => ?_
              refine st_call HE224 (wt0 rfl) rfl rfl rfl en_86 rfl rfl (spec_l06Picked _ _ e31.2.2.1 _ _ a1 _ (HH222.old ge31_2) (HH222.old h1) (by exact fun x hx => by have := w0.2.1 x hx; omega) (by omega)) fun e w' hr => ?_
              obtain ⟨Ar43_0, cr43_0, rfl, hor43_0, hbr43⟩ := hr
              obtain ⟨Sr43, HH228⟩ := HH222.newS hbr43 hor43_0
              refine ⟨_, rfl, fun a_229 HE230 => hK227 _ _ (by exact HH228.sel [3, 4, 5, 6] (by decide) rfl) ?_⟩
              have HS231 := HH228.sel [3, 4, 5, 6] (by decide) rfl
              refine dr_one (i := 21) (ls' := #[true, true, true, true, true, true, true, true, true, true, true, true, true, true, true, true, true, true, true, true, true, true, true, true, true, true, false, true, false]) rfl (by kernel_rfl) rfl fun K_232 hK233 => ?_
              refine st_call HE230 (wt0 rfl) rfl rfl rfl en_86 rfl rfl (spec_l06Picked _ _ e31.2.2.2.1 _ _ a1 _ (HH228.old ge31_3) (HH228.old h1) (by exact fun x hx => by have := w0.2.1 x hx; omega) (by omega)) fun e w' hr => ?_
              obtain ⟨Ar44_0, cr44_0, rfl, hor44_0, hbr44⟩ := hr
              obtain ⟨Sr44, HH234⟩ := HH228.newS hbr44 hor44_0
              refine ⟨_, rfl, fun a_235 HE236 => hK233 _ _ (by exact HH234.sel [4, 5, 6, 7] (by decide) rfl) ?_⟩
              have HS237 := HH234.sel [4, 5, 6, 7] (by decide) rfl
              refine dr_take (i := 26) (ls' := #[true, true, true, true, true, true, true, true, true, true, true, true, true, true, true, true, true, true, true, true, true, true, true, true, true, true, true, true, false]) HE236 HS237 rfl (by kernel_rfl) (by kernel_rfl) (by kernel_rfl) (fun _ _ _ h => h) rfl (wt0 rfl) (show XS _ _ _ _ (.agg #[.int .i64 (e31.1), .slice Ar42_0 ((permL e31.2.1 a1).length) cr42_0, .slice Ar43_0 ((permL e31.2.2.1 a1).length) cr43_0, .slice Ar44_0 ((permL e31.2.2.2.1 a1).length) cr44_0, .int .i64 (e31.2.2.2.2)]) from x_build (vs := [(0, .int .i64 (e31.1)), (1, .slice Ar42_0 ((permL e31.2.1 a1).length) cr42_0), (2, .slice Ar43_0 ((permL e31.2.2.1 a1).length) cr43_0), (3, .slice Ar44_0 ((permL e31.2.2.2.1 a1).length) cr44_0), (4, .int .i64 (e31.2.2.2.2))]) tb_108 rfl (by simp [Value.oneCell'])) rfl rfl fun a_238 HE239 => ?_
              refine dr_one (i := 28) (ls' := #[true, true, true, true, true, true, true, true, true, true, true, true, true, true, true, true, true, true, true, true, true, true, true, true, true, true, true, true, true]) rfl (by kernel_rfl) rfl fun K_240 hK241 => ?_
              refine st_store (vs := [.int .i64 (e31.1), .slice Ar42_0 ((permL e31.2.1 a1).length) cr42_0, .slice Ar43_0 ((permL e31.2.2.1 a1).length) cr43_0, .slice Ar44_0 ((permL e31.2.2.2.1 a1).length) cr44_0, .int .i64 (e31.2.2.2.2)]) 3 HE239 HH234 tv_108 rfl rfl rfl rfl rfl rfl (by simp [Value.oneCell']) (wt0 rfl) fun w' HH242 => hK241 _ _ (by exact HH242.sel [4, 5, 6, 7] (by decide) rfl) ?_
              have HS243 := HH242.sel [4, 5, 6, 7] (by decide) rfl
              refine dr_done (by kernel_rfl) ?_
              clear HH79 a_98 HE99 a_102 HE103 a_104 HE105 a_106 HE107 a_108 HE109 a_110 HE111 a_112 HE113 a_114 HE115 a_116 HE117 a_118 HE119 a_120 HE121 a_122 HE123 a_124 HE125 a_126 HE127 a_128 HE129 a_130 HE131 a_132 HE133 a_134 HE135 a_136 HE137 a_138 HE139 a_140 HE141 a_142 HE143 a_144 HE145 a_146 HE147 HH100 HS101 K_148 hK149 HH218 a_216 HE217 HS219 K_220 hK221 HH222 a_223 HE224 HS225 K_226 hK227 HH228 a_229 HE230 HS231 a_235 HE236 K_232 hK233 HH234 HS237 hK241 K_240
              exact nrm ⟨_, _, _, _, _, _, _, _, _, _, HE239.sub ⟨rfl, rfl, rfl, rfl, rfl, rfl, trivial⟩, HH242.sel [3, 0, 1, 2, 4, 5, 6, 7] (by decide) rfl⟩
          · rintro a_244 w' ⟨q35, Ar32_0, cr32_0, Ar33_0, cr33_0, Ar34_0, cr34_0, Sr34, Sr33, Sr32, HE245, HH246⟩
            refine nrm ?_
            refine rg ?_
            refine pl_x HE245 HH246 (wt0 rfl) (x_fieldAddr fa_55_3 rfl) rfl rfl fun a_247 HE248 => ?_
            refine pl_x HE248 HH246 (wt0 rfl) (x_load1 tv_53 rfl (c_blk 5 rfl rfl)) rfl rfl fun a_249 HE250 => ?_
            refine pl_x HE250 HH246 (wt0 rfl) (x_loadN (cs := [.int .i64 (e31.1), .slice Ar32_0 ((permL e31.2.1 a1).length) cr32_0, .slice Ar33_0 ((permL e31.2.2.1 a1).length) cr33_0, .slice Ar34_0 ((permL e31.2.2.2.1 a1).length) cr34_0, .int .i64 (e31.2.2.2.2)]) tv_108 rfl rfl (c_blkN 0 rfl)) rfl rfl fun a_251 HE252 => ?_
            refine pl fun K_253 hK254 => ?_
            have HH255 := HH246.sel [3, 2, 1, 0, 4, 5, 6, 7] (by decide) rfl
            have HH256 := HH255.sel [2, 0, 1, 3, 4, 5, 6, 7] (by decide) rfl
            have HH257 := HH256.pairB (F := eInt) (c2 := [.int .i64 (e31.2.2.2.2)]) (y := e31.2.2.2.2) (oI (by exact ⟨by omega, by omega⟩))
            have HH258 := HH257.sel [2, 0, 1, 3, 4, 5, 6, 7] (by decide) rfl
            have HH259 := HH258.pair
            have HH260 := HH259.sel [1, 0, 2, 3, 4, 5, 6] (by decide) rfl
            have HH261 := HH260.pair
            have HH262 := HH261.pairF (E := eInt) (c1 := [.int .i64 (e31.1)]) (x := e31.1) (oI (by exact ⟨by omega, by omega⟩))
            obtain ⟨S45, HH263⟩ : ∃ S, Held Nob w (rO eMultiRule S [.int .i64 (e31.1), .slice Ar32_0 ((permL e31.2.1 a1).length) cr32_0, .slice Ar33_0 ((permL e31.2.2.1 a1).length) cr33_0, .slice Ar34_0 ((permL e31.2.2.2.1 a1).length) cr34_0, .int .i64 (e31.2.2.2.2)] (e31.1, (permL e31.2.1 a1), (permL e31.2.2.1 a1), (permL e31.2.2.2.1 a1), e31.2.2.2.2) :: _) _ := ⟨_, HH262⟩
            have HH264 := HH263.sel [2, 0, 1, 3, 4, 5] (by decide) rfl
            have HH265 : Held Nob w ([rVec eMultiRule 108 S_6_3 A_6_3 c_6_3 (sortMR ((a0.2.2.2.take k).map (permMR a1))), rO eMultiRule S45 [.int .i64 (e31.1), .slice Ar32_0 ((permL e31.2.1 a1).length) cr32_0, .slice Ar33_0 ((permL e31.2.2.1 a1).length) cr33_0, .slice Ar34_0 ((permL e31.2.2.2.1 a1).length) cr34_0, .int .i64 (e31.2.2.2.2)] (e31.1, (permL e31.2.1 a1), (permL e31.2.2.1 a1), (permL e31.2.2.2.1 a1), e31.2.2.2.2)] ++ [rBlk q35 108 [.int .i64 (e31.1), .slice Ar32_0 ((permL e31.2.1 a1).length) cr32_0, .slice Ar33_0 ((permL e31.2.2.1 a1).length) cr33_0, .slice Ar34_0 ((permL e31.2.2.2.1 a1).length) cr34_0, .int .i64 (e31.2.2.2.2)], rBlk q27 55 [.int .i64 (a0.1), .int .i64 (a0.2.1), .int .i64 (a0.2.2.1), .slice A_6_3 ((List.length (sortMR ((a0.2.2.2.take k).map (permMR a1))))) c_6_3], rBlk q22 55 [.int .i64 (0), .int .i64 (0), .int .i64 (0), .slice none (0) 0], rBlk q21 55 [.int .i64 (a0.1), .int .i64 (a0.2.1), .int .i64 (a0.2.2.1), .slice Az0_3 (a0.2.2.2.length) cz0_3]]) _ := HH264
            refine st_call HE252 (wt0 rfl) rfl rfl rfl en_76 rfl rfl (spec_l06Put (Foot [rVec eMultiRule 108 S_6_3 A_6_3 c_6_3 (sortMR ((a0.2.2.2.take k).map (permMR a1))), rO eMultiRule S45 [.int .i64 (e31.1), .slice Ar32_0 ((permL e31.2.1 a1).length) cr32_0, .slice Ar33_0 ((permL e31.2.2.1 a1).length) cr33_0, .slice Ar34_0 ((permL e31.2.2.2.1 a1).length) cr34_0, .int .i64 (e31.2.2.2.2)] (e31.1, (permL e31.2.1 a1), (permL e31.2.2.1 a1), (permL e31.2.2.2.1 a1), e31.2.2.2.2)]) _ _ (sortMR ((a0.2.2.2.take k).map (permMR a1))) _ _ (e31.1, (permL e31.2.1 a1), (permL e31.2.2.1 a1), (permL e31.2.2.2.1 a1), e31.2.2.2.2) _ _ HH265.focus (by first | omega | (simp only [putMR_len, palS_len, List.length_nil]; omega))) fun e w' hr => ?_
            obtain ⟨Ar46_90, cr46_90, Sr46_90, rfl, hbr46⟩ := hr
            have HH266 := HH265.back hbr46
            clear hbr46
            have HH267 : Held Nob w ([rVec eMultiRule 108 Sr46_90 Ar46_90 cr46_90 (putMR (sortMR ((a0.2.2.2.take k).map (permMR a1))) (e31.1, (permL e31.2.1 a1), (permL e31.2.2.1 a1), (permL e31.2.2.2.1 a1), e31.2.2.2.2))] ++ [rBlk q35 108 [.int .i64 (e31.1), .slice Ar32_0 ((permL e31.2.1 a1).length) cr32_0, .slice Ar33_0 ((permL e31.2.2.1 a1).length) cr33_0, .slice Ar34_0 ((permL e31.2.2.2.1 a1).length) cr34_0, .int .i64 (e31.2.2.2.2)], rBlk q27 55 [.int .i64 (a0.1), .int .i64 (a0.2.1), .int .i64 (a0.2.2.1), .slice A_6_3 ((List.length (sortMR ((a0.2.2.2.take k).map (permMR a1))))) c_6_3], rBlk q22 55 [.int .i64 (0), .int .i64 (0), .int .i64 (0), .slice none (0) 0], rBlk q21 55 [.int .i64 (a0.1), .int .i64 (a0.2.1), .int .i64 (a0.2.2.1), .slice Az0_3 (a0.2.2.2.length) cz0_3]]) _ := HH266
            refine ⟨_, rfl, fun a_268 HE269 => hK254 _ _ ?_⟩
            refine pl_x HE269 HH267 (wt0 rfl) (x_fieldAddr fa_55_3 rfl) rfl rfl fun a_270 HE271 => ?_
            refine pl fun K_272 hK273 => ?_
            refine st_store (vs := [.slice Ar46_90 ((putMR (sortMR ((a0.2.2.2.take k).map (permMR a1))) (e31.1, (permL e31.2.1 a1), (permL e31.2.2.1 a1), (permL e31.2.2.2.1 a1), e31.2.2.2.2)).length) cr46_90]) 2 HE271 HH267 tv_53 rfl rfl rfl rfl rfl rfl (by simp [Value.oneCell']) (wt0 rfl) fun w' HH274 => hK273 _ _ ?_
            refine wpList_nil ?_
            clear a_98 HE99 HH79 a_244 HE245 a_247 HE248 a_249 HE250 HH246 HH255 HH256 HH257 HH258 HH259 HH260 HH261 HH262 HH263 HH264 HH265 HH266 a_251 HE252 a_268 HE269 K_253 hK254 HH267 hK273 K_272
            refine blk_n ?_
            refine nrm ?_
            refine rg ?_
            refine pl_x HE271 HH274 (wt0 rfl) (x_move rfl) rfl rfl fun a_275 HE276 => ?_
            refine pl_x HE276 HH274 (wt0 rfl) (x_add rfl rfl (by exact ⟨by omega, by omega⟩)) rfl rfl fun a_277 HE278 => ?_
            refine pl_x HE278 HH274 (wt0 rfl) (x_assign rfl) rfl rfl fun a_279 HE280 => ?_
            refine wpList_nil ?_
            clear a_270 HE271 a_275 HE276 a_277 HE278
            have E47 : sortMR ((a0.2.2.2.take (k + 1)).map (permMR a1)) = (putMR (sortMR ((a0.2.2.2.take k).map (permMR a1))) (e31.1, (permL e31.2.1 a1), (permL e31.2.2.1 a1), (permL e31.2.2.2.1 a1), e31.2.2.2.2)) := by
              rw [List.take_succ_eq_append_getElem (by omega), List.map_append, ← xe31]; exact sortMR_snoc _ _
            exact nrm ⟨a0.2.2.2.length - (k + 1), (by omega), k + 1, Ar46_90, cr46_90, Sr46_90, rfl, HE280.sub ⟨(lkI rfl (by first | rfl | omega | (simp [hc24, hc26, p29_0, hc30, xe31]; done))), rfl, rfl, rfl, rfl, trivial⟩, ((HH274.sel [0, 2, 3, 4] (by decide) rfl).to (by first | rfl | (rw [E47]; done) | (rw [E47]; rfl) | (simp only [E47]; done) | (simp only [E47]; rfl) | (rw [E47]; simp only [List.length_set]; done))), (by first | omega | assumption | (simp; done) | simp_all)⟩
        · refine wp_exit ?_
          refine (thn_exit (thn_exit (blk_hit ?_)))
          refine nrm ?_
          refine wp_seq ?_
          refine rg ?_
          refine pl_x HE89 HH79 (wt0 rfl) (x_loadN (cs := [.int .i64 (a0.1), .int .i64 (a0.2.1), .int .i64 (a0.2.2.1), .slice A_6_3 ((List.length (sortMR ((a0.2.2.2.take k).map (permMR a1))))) c_6_3]) tv_55 rfl rfl (c_blkN 1 rfl)) rfl rfl fun a_281 HE282 => ?_
          refine pl fun K_283 hK284 => ?_
          refine st_store (vs := [.int .i64 (a0.1), .int .i64 (a0.2.1), .int .i64 (a0.2.2.1), .slice A_6_3 ((List.length (sortMR ((a0.2.2.2.take k).map (permMR a1))))) c_6_3]) 2 HE282 HH79 tv_55 rfl rfl rfl rfl rfl rfl (by simp [Value.oneCell']) (wt0 rfl) fun w' HH285 => hK284 _ _ ?_
          refine pl_x HE282 HH285 (wt0 rfl) (x_assign rfl) rfl rfl fun a_286 HE287 => ?_
          refine wpList_nil ?_
          clear a_88 HE89 HH79 a_281 HE282 hK284 K_283
          refine nrm ?_
          refine wp_ret ?_
          refine ret2 HE287 rfl (rv_cell rfl (tv_55.loadN (cs := [.int .i64 (a0.1), .int .i64 (a0.2.1), .int .i64 (a0.2.2.1), .slice A_6_3 ((List.length (sortMR ((a0.2.2.2.take k).map (permMR a1))))) c_6_3]) rfl (c_blkN 2 rfl _ HH285))) (rv_tmp rfl) ?_
          have HH288 := HH285.vecSo
          have HH289 := HH288.pairF (E := eInt) (c1 := [.int .i64 (a0.2.2.1)]) (x := a0.2.2.1) (oI (by exact ⟨by omega, by omega⟩))
          have HH290 := HH289.pairF (E := eInt) (c1 := [.int .i64 (a0.2.1)]) (x := a0.2.1) (oI (by exact ⟨by omega, by omega⟩))
          have HH291 := HH290.pairF (E := eInt) (c1 := [.int .i64 (a0.1)]) (x := a0.1) (oI (by exact ⟨by omega, by omega⟩))
          obtain ⟨S48, HH292⟩ : ∃ S, Held Nob w (rO eMulti S [.int .i64 (a0.1), .int .i64 (a0.2.1), .int .i64 (a0.2.2.1), .slice A_6_3 ((List.length (sortMR ((a0.2.2.2.take k).map (permMR a1))))) c_6_3] (a0.1, a0.2.1, a0.2.2.1, sortMR ((a0.2.2.2.take k).map (permMR a1))) :: _) _ := ⟨_, HH291⟩
          have hF : (permTapes a0 a1) = ((a0.1, a0.2.1, a0.2.2.1, sortMR ((a0.2.2.2.take k).map (permMR a1))), 0) := by
            first | (simp [permTapes, hc24, hc26, p29_0, hc30]; done) | (unfold permTapes; rw [if_pos hvm, if_pos hwo, List.take_of_length_le (by omega)])
          exact ⟨_, by first | (rw [hF] <;> rfl) | rfl | (rw [hF]; simp only [Ending.returned.injEq, Value.slice.injEq, true_and, and_true]; first | omega | (simp; done)) | (rw [hF]; simp; omega), by rw [hF]; exact (HH292.o (i := 0) rfl), HH292.below⟩

set_option maxRecDepth 100000 in
set_option maxHeartbeats 4000000 in
theorem impl_PermuteTapes (es0 : List Value) (a0 : tMulti) (A1 : Option Addr) (c1 : Nat) (a1 : (List Int)) (w : World) (h0 : eMulti.R w (Old w) es0 a0) (h1 : Sl eInt w (Old w) A1 c1 a1) :
    Calls Try.prog 44 #[.agg es0.toArray, .slice A1 a1.length c1] w fun e w' => ∃ (es0' : List Value), e = .returned (.tuple #[.agg es0'.toArray, .int .i64 (permTapes a0 a1).2]) ∧ eMulti.O w' (Fr w w') es0' (permTapes a0 a1).1 ∧ Below w.heap.size w w' := by
  have H0 := h0
  obtain ⟨Az0_3, cz0_3, rfl, gz0_0, gz0_1, gz0_2, gz0_3⟩ := shape_Multi h0
  have jz0_0 := gz0_0; unfold I64 at jz0_0
  have jz0_1 := gz0_1; unfold I64 at jz0_1
  have jz0_2 := gz0_2; unfold I64 at jz0_2
  have lz0_3 := gz0_3.len
  have l1 := h1.len
  have HH1 := Held.start Nob w
  refine enter (n := 58) Try.func44 rfl rfl rfl fun a_2 HE3 => ?_
  refine wp_seq ?_
  refine rg ?_
  refine pl fun K_4 hK5 => ?_
  refine st_box (cs := [.int .i64 (a0.1), .int .i64 (a0.2.1), .int .i64 (a0.2.2.1), .slice Az0_3 (a0.2.2.2.length) cz0_3]) HE3 HH1 rfl rfl (wt0 rfl) rfl fun q21 a_6 w' HE7 HH8 => hK5 _ _ ?_
  refine pl fun K_9 hK10 => ?_
  refine st_alloc HE7 HH8 tv_55 (wt0 rfl) rfl fun q22 a_11 w' HE12 HH13 => hK10 _ _ ?_
  refine pl_x HE12 HH13 (wt0 rfl) (x_assign rfl) rfl rfl fun a_14 HE15 => ?_
  refine wpList_nil ?_
  clear a_2 HE3 HH1 K_4 hK5 a_6 HE7 HH8 a_11 HE12 hK10 K_9
  refine nrm ?_
  refine wp_seq ?_
  refine wp_seq ?_
  refine rg ?_
  refine pl_x HE15 HH13 (wt0 rfl) (x_loadN (cs := [.int .i64 (a0.1), .int .i64 (a0.2.1), .int .i64 (a0.2.2.1), .slice Az0_3 (a0.2.2.2.length) cz0_3]) tv_55 rfl rfl (c_blkN 1 rfl)) rfl rfl fun a_16 HE17 => ?_
  refine pl fun K_18 hK19 => ?_
  refine st_call HE17 (wt0 rfl) rfl rfl rfl en_71 rfl rfl (impl_ValidMulti [.int .i64 (a0.1), .int .i64 (a0.2.1), .int .i64 (a0.2.2.1), .slice Az0_3 (a0.2.2.2.length) cz0_3] a0 _ (HH13.oldR H0)) fun e w' hr => ?_
  obtain ⟨rfl, hbr23⟩ := hr
  have HH20 := HH13.on hbr23
  refine ⟨_, rfl, fun a_21 HE22 => hK19 _ _ ?_⟩
  refine pl_x HE22 HH20 (wt0 rfl) (x_not rfl) rfl rfl fun a_23 HE24 => ?_
  refine wpList_nil ?_
  clear a_14 HE15 HH13 a_16 HE17 a_21 HE22 hK19 K_18
  refine nrm ?_
  refine cnd_nb HE24 rfl (fun hc24 => ?_) (fun hc24 => ?_)
  · refine wp_seq ?_
    refine rg ?_
    refine pl_x HE24 HH20 (wt0 rfl) (show XS _ _ _ _ (.agg #[.int .i64 (0), .int .i64 (0), .int .i64 (0), .slice none (0) 0]) from x_build (vs := []) tb_55 rfl (by simp [Value.oneCell'])) rfl rfl fun a_25 HE26 => ?_
    refine pl fun K_27 hK28 => ?_
    refine st_store (vs := [.int .i64 (0), .int .i64 (0), .int .i64 (0), .slice none (0) 0]) 0 HE26 HH20 tv_55 rfl rfl rfl rfl rfl rfl (by simp [Value.oneCell']) (wt0 rfl) fun w' HH29 => hK28 _ _ ?_
    refine pl_x HE26 HH29 (wt0 rfl) (x_assign rfl) rfl rfl fun a_30 HE31 => ?_
    refine wpList_nil ?_
    clear a_23 HE24 HH20 a_25 HE26 hK28 K_27
    refine nrm ?_
    refine wp_ret ?_
    refine (thn_ret ?_)
    refine ret2 HE31 rfl (rv_cell rfl (tv_55.loadN (cs := [.int .i64 (0), .int .i64 (0), .int .i64 (0), .slice none (0) 0]) rfl (c_blkN 0 rfl _ HH29))) (rv_tmp rfl) ?_
    have HH32 := HH29.flatO (E := eMulti) (cs := [.int .i64 (0), .int .i64 (0), .int .i64 (0), .slice none (0) 0]) (x := (0, 0, 0, [])) (fun _ => (oPrN (oI (by exact ⟨by omega, by omega⟩)) (oPrN (oI (by exact ⟨by omega, by omega⟩)) (oPrN (oI (by exact ⟨by omega, by omega⟩)) (oSl (So.nil (Nat.zero_le _)))))))
    have hF : (permTapes a0 a1) = ((0, 0, 0, []), 1) := by
      first | (simp [permTapes, hc24]; done) | (unfold permTapes; rw [if_pos hvm, if_pos hwo, List.take_of_length_le (by omega)]; rfl)
    exact ⟨_, by first | (rw [hF] <;> rfl) | rfl | (rw [hF]; simp only [Ending.returned.injEq, Value.slice.injEq, true_and, and_true]; first | omega | (simp; done)) | (rw [hF]; simp; omega), by rw [hF]; exact (HH32.o (i := 0) rfl), HH32.below⟩
  · have hvm := hc24
    obtain ⟨v0, v1, v2, v3⟩ := validMulti_facts hc24
    refine wp_skip ?_
    refine nrm ?_
    refine wp_seq ?_
    refine wp_seq ?_
    refine rg ?_
    refine pl_x HE24 HH20 (wt0 rfl) (x_move rfl) rfl rfl fun a_33 HE34 => ?_
    refine pl_x HE34 HH20 (wt0 rfl) (x_fieldAddr fa_55_0 rfl) rfl rfl fun a_35 HE36 => ?_
    refine pl_x HE36 HH20 (wt0 rfl) (x_load1 tv_2 rfl (c_blk 1 rfl rfl)) rfl rfl fun a_37 HE38 => ?_
    refine pl fun K_39 hK40 => ?_
    refine st_call HE38 (wt0 rfl) rfl rfl rfl en_87 rfl rfl (impl_isOrder _ _ a1 a0.1 _ (HH20.old h1) (by omega)) fun e w' hr => ?_
    obtain ⟨rfl, hbr25⟩ := hr
    have HH41 := HH20.on hbr25
    refine ⟨_, rfl, fun a_42 HE43 => hK40 _ _ ?_⟩
    refine pl_x HE43 HH41 (wt0 rfl) (x_not rfl) rfl rfl fun a_44 HE45 => ?_
    refine wpList_nil ?_
    clear a_23 HE24 a_33 HE34 a_35 HE36 HH20 a_37 HE38 a_42 HE43 hK40 K_39
    refine nrm ?_
    refine cnd_nb HE45 rfl (fun hc26 => ?_) (fun hc26 => ?_)
    · refine wp_seq ?_
      refine rg ?_
      refine pl_x HE45 HH41 (wt0 rfl) (show XS _ _ _ _ (.agg #[.int .i64 (0), .int .i64 (0), .int .i64 (0), .slice none (0) 0]) from x_build (vs := []) tb_55 rfl (by simp [Value.oneCell'])) rfl rfl fun a_46 HE47 => ?_
      refine pl fun K_48 hK49 => ?_
      refine st_store (vs := [.int .i64 (0), .int .i64 (0), .int .i64 (0), .slice none (0) 0]) 0 HE47 HH41 tv_55 rfl rfl rfl rfl rfl rfl (by simp [Value.oneCell']) (wt0 rfl) fun w' HH50 => hK49 _ _ ?_
      refine pl_x HE47 HH50 (wt0 rfl) (x_assign rfl) rfl rfl fun a_51 HE52 => ?_
      refine wpList_nil ?_
      clear a_44 HE45 HH41 a_46 HE47 hK49 K_48
      refine nrm ?_
      refine wp_ret ?_
      refine (thn_ret ?_)
      refine ret2 HE52 rfl (rv_cell rfl (tv_55.loadN (cs := [.int .i64 (0), .int .i64 (0), .int .i64 (0), .slice none (0) 0]) rfl (c_blkN 0 rfl _ HH50))) (rv_tmp rfl) ?_
      have HH53 := HH50.flatO (E := eMulti) (cs := [.int .i64 (0), .int .i64 (0), .int .i64 (0), .slice none (0) 0]) (x := (0, 0, 0, [])) (fun _ => (oPrN (oI (by exact ⟨by omega, by omega⟩)) (oPrN (oI (by exact ⟨by omega, by omega⟩)) (oPrN (oI (by exact ⟨by omega, by omega⟩)) (oSl (So.nil (Nat.zero_le _)))))))
      have hF : (permTapes a0 a1) = ((0, 0, 0, []), 2) := by
        first | (simp [permTapes, hc24, hc26]; done) | (unfold permTapes; rw [if_pos hvm, if_pos hwo, List.take_of_length_le (by omega)]; rfl)
      exact ⟨_, by first | (rw [hF] <;> rfl) | rfl | (rw [hF]; simp only [Ending.returned.injEq, Value.slice.injEq, true_and, and_true]; first | omega | (simp; done)) | (rw [hF]; simp; omega), by rw [hF]; exact (HH53.o (i := 0) rfl), HH53.below⟩
    · have hwo := hc26
      have w0 := (order_iff _ _).1 hc26
      refine wp_skip ?_
      refine nrm ?_
      refine wp_seq ?_
      refine rg ?_
      refine pl_x HE45 HH41 (wt0 rfl) (x_fieldAddr fa_55_0 rfl) rfl rfl fun a_54 HE55 => ?_
      refine pl_x HE55 HH41 (wt0 rfl) (x_load1 tv_2 rfl (c_blk 1 rfl rfl)) rfl rfl fun a_56 HE57 => ?_
      refine pl_x HE57 HH41 (wt0 rfl) (x_fieldAddr fa_55_1 rfl) rfl rfl fun a_58 HE59 => ?_
      refine pl_x HE59 HH41 (wt0 rfl) (x_load1 tv_2 rfl (c_blk 1 rfl rfl)) rfl rfl fun a_60 HE61 => ?_
      refine pl_x HE61 HH41 (wt0 rfl) (x_fieldAddr fa_55_2 rfl) rfl rfl fun a_62 HE63 => ?_
      refine pl_x HE63 HH41 (wt0 rfl) (x_load1 tv_2 rfl (c_blk 1 rfl rfl)) rfl rfl fun a_64 HE65 => ?_
      refine pl_x HE65 HH41 (wt0 rfl) (show XS _ _ _ _ (.agg #[.int .i64 (a0.1), .int .i64 (a0.2.1), .int .i64 (a0.2.2.1), .slice none (0) 0]) from x_build (vs := [(0, .int .i64 (a0.1)), (1, .int .i64 (a0.2.1)), (2, .int .i64 (a0.2.2.1))]) tb_55 rfl (by simp [Value.oneCell'])) rfl rfl fun a_66 HE67 => ?_
      refine pl fun K_68 hK69 => ?_
      refine st_alloc HE67 HH41 tv_55 (wt0 rfl) rfl fun q27 a_70 w' HE71 HH72 => hK69 _ _ ?_
      refine pl fun K_73 hK74 => ?_
      refine st_store (vs := [.int .i64 (a0.1), .int .i64 (a0.2.1), .int .i64 (a0.2.2.1), .slice none (0) 0]) 0 HE71 HH72 tv_55 rfl rfl rfl rfl rfl rfl (by simp [Value.oneCell']) (wt0 rfl) fun w' HH75 => hK74 _ _ ?_
      refine wpList_nil ?_
      clear a_44 HE45 a_54 HE55 a_56 HE57 a_58 HE59 a_60 HE61 a_62 HE63 a_64 HE65 a_66 HE67 HH41 K_68 hK69 HH72 hK74 K_73
      refine nrm ?_
      refine wp_seq ?_
      refine wp_seq ?_
      refine rg ?_
      refine pl_x HE71 HH75 (wt0 rfl) (x_fieldAddr fa_55_3 rfl) rfl rfl fun a_76 HE77 => ?_
      refine pl_x HE77 HH75 (wt0 rfl) (x_load1 tv_53 rfl (c_blk 2 rfl rfl)) rfl rfl fun a_78 HE79 => ?_
      refine pl_x HE79 HH75 (wt0 rfl) (x_len Try.underlying53 rfl) rfl rfl fun a_80 HE81 => ?_
      refine pl_x HE81 HH75 (wt0 rfl) (x_move rfl) rfl rfl fun a_82 HE83 => ?_
      refine wpList_nil ?_
      clear a_70 HE71 a_76 HE77 a_78 HE79 a_80 HE81
      refine nrm ?_
      refine wp_block ?_
      have HH84 := HH75.vecNil eMultiRule 108
      refine lp (fun m a w' => ∃ (k : Nat) (A_6_3 : Option Addr) (c_6_3 : Nat) (S_6_3 : Nat → Prop), m = a0.2.2.2.length - k ∧ Env 58 [(29, .int .i64 (k : Int)), (1, .slice A1 (a1.length) c1), (4, .pointer (some ⟨q22, 0, none⟩)), (6, .pointer (some ⟨q27, 0, none⟩)), (27, .slice Az0_3 (a0.2.2.2.length) cz0_3), (28, .int .i64 ((a0.2.2.2.length : Int)))] a ∧ Held Nob w [rVec eMultiRule 108 S_6_3 A_6_3 c_6_3 ((a0.2.2.2.take k).map (permMR a1)), rBlk q27 55 [.int .i64 a0.1, .int .i64 a0.2.1, .int .i64 a0.2.2.1, .slice A_6_3 (List.length ((a0.2.2.2.take k).map (permMR a1))) c_6_3], rBlk q22 55 [.int .i64 (0), .int .i64 (0), .int .i64 (0), .slice none (0) 0], rBlk q21 55 [.int .i64 (a0.1), .int .i64 (a0.2.1), .int .i64 (a0.2.2.1), .slice Az0_3 (a0.2.2.2.length) cz0_3]] w' ∧ (k ≤ a0.2.2.2.length)) (a0.2.2.2.length - (0)) ?_ ?_
      · have E28 : ((a0.2.2.2.take 0).map (permMR a1)) = [] := by
          rfl
        exact ⟨0, none, 0, Nob, rfl, HE83.sub ⟨(lkI rfl (by first | rfl | omega | (simp [hc24, hc26]; done))), rfl, rfl, rfl, rfl, rfl, trivial⟩, ((HH84.sel [0, 1, 2, 3] (by decide) rfl).to (by first | rfl | (rw [E28]; done) | (rw [E28]; rfl) | (simp only [E28]; done) | (simp only [E28]; rfl) | (rw [E28]; simp only [List.length_set]; done))), (by first | omega | assumption | (simp; done) | simp_all)⟩
      · rintro m a_85 w' ⟨k, A_6_3, c_6_3, S_6_3, rfl, HE86, HH87, p29_0⟩
        have ol : ((a0.2.2.2.take k).map (permMR a1)).length ≤ 60 := by rw [List.length_map, List.length_take]; omega
        refine wp_seq ?_
        refine rg ?_
        refine pl_x HE86 HH87 (wt0 rfl) (x_lss rfl rfl) rfl rfl fun a_88 HE89 => ?_
        refine wpList_nil ?_
        clear HH75 a_82 HE83 HH84 a_85 HE86
        refine nrm ?_
        refine wp_seq ?_
        refine cnd_d HE89 rfl (fun hc30 => ?_) (fun hc30 => ?_)
        · refine wp_skip ?_
          refine nrm ?_
          refine wp_seq ?_
          refine wp_block ?_
          refine wp_seq ?_
          refine rg ?_
          have ke31 : k < a0.2.2.2.length := by omega
          obtain ⟨be31, fe31, ese31, Ae31, Re31, De31⟩ := el_old gz0_3 ke31
          obtain ⟨e31, xe31⟩ : ∃ x_, x_ = a0.2.2.2[k] := ⟨_, rfl⟩
          rw [← xe31] at Re31
          have Qe31 := Re31
          obtain ⟨Ae31_1, ce31_1, Ae31_2, ce31_2, Ae31_3, ce31_3, rfl, ge31_0, ge31_1, ge31_2, ge31_3, ge31_4⟩ := shape_MultiRule Re31
          have je31_0 := ge31_0; unfold I64 at je31_0
          have le31_1 := ge31_1.len
          have le31_2 := ge31_2.len
          have le31_3 := ge31_3.len
          have je31_4 := ge31_4; unfold I64 at je31_4
          have bbe31 := (validMulti_rule hvm ke31).1
          rw [← xe31] at bbe31
          refine pl_x HE89 HH87 (wt0 rfl) (x_indexAddr ts_53 rfl rfl Ae31 rfl ke31) rfl rfl fun a_90 HE91 => ?_
          refine pl_x HE91 HH87 (wt0 rfl) (x_loadN (cs := [.int .i64 (e31.1), .slice Ae31_1 (e31.2.1.length) ce31_1, .slice Ae31_2 (e31.2.2.1.length) ce31_2, .slice Ae31_3 (e31.2.2.2.1.length) ce31_3, .int .i64 (e31.2.2.2.2)]) tv_108 rfl rfl (c_oldN De31)) rfl rfl fun a_92 HE93 => ?_
          refine pl fun K_94 hK95 => ?_
          refine st_alloc HE93 HH87 tv_108 (wt0 rfl) rfl fun q32 a_96 w' HE97 HH98 => hK95 _ _ ?_
          refine pl fun K_99 hK100 => ?_
          refine st_store (vs := [.int .i64 (e31.1), .slice Ae31_1 (e31.2.1.length) ce31_1, .slice Ae31_2 (e31.2.2.1.length) ce31_2, .slice Ae31_3 (e31.2.2.2.1.length) ce31_3, .int .i64 (e31.2.2.2.2)]) 0 HE97 HH98 tv_108 rfl rfl rfl rfl rfl rfl (by simp [Value.oneCell']) (wt0 rfl) fun w' HH101 => hK100 _ _ ?_
          refine wpList_nil ?_
          clear a_88 HE89 a_90 HE91 a_92 HE93 HH87 K_94 hK95 HH98 hK100 K_99
          refine nrm ?_
          refine wp_join (fun a w' => ∃ (S39 : Nat → Prop), ∃ (A37 : Option Addr), ∃ (c38 : Nat), ∃ (q36 : Nat), ∃ (Ar33_0 : Option Addr), ∃ (cr33_0 : Nat), ∃ (Ar34_0 : Option Addr), ∃ (cr34_0 : Nat), ∃ (Ar35_0 : Option Addr), ∃ (cr35_0 : Nat), Env 58 [(1, .slice A1 (a1.length) c1), (4, .pointer (some ⟨q22, 0, none⟩)), (6, .pointer (some ⟨q27, 0, none⟩)), (27, .slice Az0_3 (a0.2.2.2.length) cz0_3), (28, .int .i64 ((a0.2.2.2.length : Int))), (29, .int .i64 ((k : Int)))] a ∧ Held Nob w [rVec eMultiRule 108 S39 A37 c38 (((a0.2.2.2.take k).map (permMR a1)) ++ [(e31.1, (permL e31.2.1 a1), (permL e31.2.2.1 a1), (permL e31.2.2.2.1 a1), e31.2.2.2.2)]), rBlk q36 108 [.int .i64 (e31.1), .slice Ar33_0 ((permL e31.2.1 a1).length) cr33_0, .slice Ar34_0 ((permL e31.2.2.1 a1).length) cr34_0, .slice Ar35_0 ((permL e31.2.2.2.1 a1).length) cr35_0, .int .i64 (e31.2.2.2.2)], rBlk q32 108 [.int .i64 (e31.1), .slice Ae31_1 (e31.2.1.length) ce31_1, .slice Ae31_2 (e31.2.2.1.length) ce31_2, .slice Ae31_3 (e31.2.2.2.1.length) ce31_3, .int .i64 (e31.2.2.2.2)], rBlk q27 55 [.int .i64 (a0.1), .int .i64 (a0.2.1), .int .i64 (a0.2.2.1), .slice A37 ((((a0.2.2.2.take k).map (permMR a1)) ++ [(e31.1, (permL e31.2.1 a1), (permL e31.2.2.1 a1), (permL e31.2.2.2.1 a1), e31.2.2.2.2)]).length) c38], rBlk q22 55 [.int .i64 (0), .int .i64 (0), .int .i64 (0), .slice none (0) 0], rBlk q21 55 [.int .i64 (a0.1), .int .i64 (a0.2.1), .int .i64 (a0.2.2.1), .slice Az0_3 (a0.2.2.2.length) cz0_3]] w') ?_ ?_
          · refine dr_start (Held Nob w [rBlk q32 108 [.int .i64 (e31.1), .slice Ae31_1 (e31.2.1.length) ce31_1, .slice Ae31_2 (e31.2.2.1.length) ce31_2, .slice Ae31_3 (e31.2.2.2.1.length) ce31_3, .int .i64 (e31.2.2.2.2)], rBlk q22 55 [.int .i64 (0), .int .i64 (0), .int .i64 (0), .slice none (0) 0], rBlk q21 55 [.int .i64 (a0.1), .int .i64 (a0.2.1), .int .i64 (a0.2.2.1), .slice Az0_3 (a0.2.2.2.length) cz0_3]]) 23 #[false, false, false, false, false, false, false, false, false, false, false, false, false, false, false, false, false, false, false, false, false, false, false] hmix rfl rfl HH101 (fun _ h => h.sel [0, 3, 4] (by decide) rfl) fun w' HH102 => ?_
            have HS103 := HH102.sel [0, 3, 4] (by decide) rfl
            refine dr_take (i := 0) (ls' := #[true, false, false, false, false, false, false, false, false, false, false, false, false, false, false, false, false, false, false, false, false, false, false]) HE97 HS103 rfl (by kernel_rfl) (by kernel_rfl) (by kernel_rfl) (fun _ _ _ h => h) rfl (wt0 rfl) (x_fieldAddr fa_55_3 rfl) rfl rfl fun a_104 HE105 => ?_
            refine dr_take (i := 2) (ls' := #[true, false, true, false, false, false, false, false, false, false, false, false, false, false, false, false, false, false, false, false, false, false, false]) HE105 HS103 rfl (by kernel_rfl) (by kernel_rfl) (by kernel_rfl) (fun _ _ _ h => h) rfl (wt0 rfl) (x_fieldAddr fa_108_0 rfl) rfl rfl fun a_106 HE107 => ?_
            refine dr_take (i := 3) (ls' := #[true, false, true, true, false, false, false, false, false, false, false, false, false, false, false, false, false, false, false, false, false, false, false]) HE107 HS103 rfl (by kernel_rfl) (by kernel_rfl) (by kernel_rfl) (fun _ _ _ h => h) rfl (wt0 rfl) (x_load1 tv_2 rfl (c_blk 0 rfl rfl)) rfl rfl fun a_108 HE109 => ?_
            refine dr_take (i := 4) (ls' := #[true, false, true, true, true, false, false, false, false, false, false, false, false, false, false, false, false, false, false, false, false, false, false]) HE109 HS103 rfl (by kernel_rfl) (by kernel_rfl) (by kernel_rfl) (fun _ _ _ h => h) rfl (wt0 rfl) (x_fieldAddr fa_108_1 rfl) rfl rfl fun a_110 HE111 => ?_
            refine dr_take (i := 5) (ls' := #[true, false, true, true, true, true, false, false, false, false, false, false, false, false, false, false, false, false, false, false, false, false, false]) HE111 HS103 rfl (by kernel_rfl) (by kernel_rfl) (by kernel_rfl) (fun _ _ _ h => h) rfl (wt0 rfl) (x_load1 tv_37 rfl (c_blk 0 rfl rfl)) rfl rfl fun a_112 HE113 => ?_
            refine dr_take (i := 6) (ls' := #[true, false, true, true, true, true, true, false, false, false, false, false, false, false, false, false, false, false, false, false, false, false, false]) HE113 HS103 rfl (by kernel_rfl) (by kernel_rfl) (by kernel_rfl) (fun _ _ _ h => h) rfl (wt0 rfl) (x_move rfl) rfl rfl fun a_114 HE115 => ?_
            refine dr_take (i := 8) (ls' := #[true, false, true, true, true, true, true, false, true, false, false, false, false, false, false, false, false, false, false, false, false, false, false]) HE115 HS103 rfl (by kernel_rfl) (by kernel_rfl) (by kernel_rfl) (fun _ _ _ h => h) rfl (wt0 rfl) (x_fieldAddr fa_108_2 rfl) rfl rfl fun a_116 HE117 => ?_
            refine dr_take (i := 9) (ls' := #[true, false, true, true, true, true, true, false, true, true, false, false, false, false, false, false, false, false, false, false, false, false, false]) HE117 HS103 rfl (by kernel_rfl) (by kernel_rfl) (by kernel_rfl) (fun _ _ _ h => h) rfl (wt0 rfl) (x_load1 tv_37 rfl (c_blk 0 rfl rfl)) rfl rfl fun a_118 HE119 => ?_
            refine dr_take (i := 10) (ls' := #[true, false, true, true, true, true, true, false, true, true, true, false, false, false, false, false, false, false, false, false, false, false, false]) HE119 HS103 rfl (by kernel_rfl) (by kernel_rfl) (by kernel_rfl) (fun _ _ _ h => h) rfl (wt0 rfl) (x_move rfl) rfl rfl fun a_120 HE121 => ?_
            refine dr_take (i := 12) (ls' := #[true, false, true, true, true, true, true, false, true, true, true, false, true, false, false, false, false, false, false, false, false, false, false]) HE121 HS103 rfl (by kernel_rfl) (by kernel_rfl) (by kernel_rfl) (fun _ _ _ h => h) rfl (wt0 rfl) (x_fieldAddr fa_108_3 rfl) rfl rfl fun a_122 HE123 => ?_
            refine dr_take (i := 13) (ls' := #[true, false, true, true, true, true, true, false, true, true, true, false, true, true, false, false, false, false, false, false, false, false, false]) HE123 HS103 rfl (by kernel_rfl) (by kernel_rfl) (by kernel_rfl) (fun _ _ _ h => h) rfl (wt0 rfl) (x_load1 tv_37 rfl (c_blk 0 rfl rfl)) rfl rfl fun a_124 HE125 => ?_
            refine dr_take (i := 14) (ls' := #[true, false, true, true, true, true, true, false, true, true, true, false, true, true, true, false, false, false, false, false, false, false, false]) HE125 HS103 rfl (by kernel_rfl) (by kernel_rfl) (by kernel_rfl) (fun _ _ _ h => h) rfl (wt0 rfl) (x_move rfl) rfl rfl fun a_126 HE127 => ?_
            refine dr_take (i := 16) (ls' := #[true, false, true, true, true, true, true, false, true, true, true, false, true, true, true, false, true, false, false, false, false, false, false]) HE127 HS103 rfl (by kernel_rfl) (by kernel_rfl) (by kernel_rfl) (fun _ _ _ h => h) rfl (wt0 rfl) (x_fieldAddr fa_108_4 rfl) rfl rfl fun a_128 HE129 => ?_
            refine dr_take (i := 17) (ls' := #[true, false, true, true, true, true, true, false, true, true, true, false, true, true, true, false, true, true, false, false, false, false, false]) HE129 HS103 rfl (by kernel_rfl) (by kernel_rfl) (by kernel_rfl) (fun _ _ _ h => h) rfl (wt0 rfl) (x_load1 tv_2 rfl (c_blk 0 rfl rfl)) rfl rfl fun a_130 HE131 => ?_
            refine dr_two (i := 1) (j := 7) (ls' := #[true, true, true, true, true, true, true, false, true, true, true, false, true, true, true, false, true, true, false, false, false, false, false]) (ls'' := #[true, false, true, true, true, true, true, true, true, true, true, false, true, true, true, false, true, true, false, false, false, false, false]) rfl rfl (by kernel_rfl) rfl rfl (fun K_132 hK133 => ?_) (fun K_132 hK133 => ?_)
            · refine st_x HE131 HH102 (wt0 rfl) (x_load1 tv_53 rfl (c_blk 2 rfl rfl)) rfl rfl fun a_134 HE135 => hK133 _ _ HS103 ?_
              refine dr_one (i := 7) (ls' := #[true, true, true, true, true, true, true, true, true, true, true, false, true, true, true, false, true, true, false, false, false, false, false]) rfl (by kernel_rfl) rfl fun K_136 hK137 => ?_
              refine st_call HE135 (wt0 rfl) rfl rfl rfl en_88 rfl rfl (impl_permuted _ _ e31.2.1 _ _ a1 _ (HH102.old ge31_1) (HH102.old h1) (by exact fun x hx => by have := w0.2.1 x hx; omega) (by omega)) fun e w' hr => ?_
              obtain ⟨Ar33_0, cr33_0, rfl, hor33_0, hbr33⟩ := hr
              obtain ⟨Sr33, HH138⟩ := HH102.newS hbr33 hor33_0
              refine ⟨_, rfl, fun a_139 HE140 => hK137 _ _ (by exact HH138.sel [1, 4, 5] (by decide) rfl) ?_⟩
              have HS141 := HH138.sel [1, 4, 5] (by decide) rfl
              refine dr_one (i := 11) (ls' := #[true, true, true, true, true, true, true, true, true, true, true, true, true, true, true, false, true, true, false, false, false, false, false]) rfl (by kernel_rfl) rfl fun K_142 hK143 => ?_
              refine st_call HE140 (wt0 rfl) rfl rfl rfl en_88 rfl rfl (impl_permuted _ _ e31.2.2.1 _ _ a1 _ (HH138.old ge31_2) (HH138.old h1) (by exact fun x hx => by have := w0.2.1 x hx; omega) (by omega)) fun e w' hr => ?_
              obtain ⟨Ar34_0, cr34_0, rfl, hor34_0, hbr34⟩ := hr
              obtain ⟨Sr34, HH144⟩ := HH138.newS hbr34 hor34_0
              refine ⟨_, rfl, fun a_145 HE146 => hK143 _ _ (by exact HH144.sel [2, 5, 6] (by decide) rfl) ?_⟩
              have HS147 := HH144.sel [2, 5, 6] (by decide) rfl
              refine dr_one (i := 15) (ls' := #[true, true, true, true, true, true, true, true, true, true, true, true, true, true, true, true, true, true, false, false, false, false, false]) rfl (by kernel_rfl) rfl fun K_148 hK149 => ?_
              refine st_call HE146 (wt0 rfl) rfl rfl rfl en_88 rfl rfl (impl_permuted _ _ e31.2.2.2.1 _ _ a1 _ (HH144.old ge31_3) (HH144.old h1) (by exact fun x hx => by have := w0.2.1 x hx; omega) (by omega)) fun e w' hr => ?_
              obtain ⟨Ar35_0, cr35_0, rfl, hor35_0, hbr35⟩ := hr
              obtain ⟨Sr35, HH150⟩ := HH144.newS hbr35 hor35_0
              refine ⟨_, rfl, fun a_151 HE152 => hK149 _ _ (by exact HH150.sel [3, 6, 7] (by decide) rfl) ?_⟩
              have HS153 := HH150.sel [3, 6, 7] (by decide) rfl
              refine dr_take (i := 18) (ls' := #[true, true, true, true, true, true, true, true, true, true, true, true, true, true, true, true, true, true, true, false, false, false, false]) HE152 HS153 rfl (by kernel_rfl) (by kernel_rfl) (by kernel_rfl) (fun _ _ _ h => h) rfl (wt0 rfl) (show XS _ _ _ _ (.agg #[.int .i64 (e31.1), .slice Ar33_0 ((permL e31.2.1 a1).length) cr33_0, .slice Ar34_0 ((permL e31.2.2.1 a1).length) cr34_0, .slice Ar35_0 ((permL e31.2.2.2.1 a1).length) cr35_0, .int .i64 (e31.2.2.2.2)]) from x_build (vs := [(0, .int .i64 (e31.1)), (1, .slice Ar33_0 ((permL e31.2.1 a1).length) cr33_0), (2, .slice Ar34_0 ((permL e31.2.2.1 a1).length) cr34_0), (3, .slice Ar35_0 ((permL e31.2.2.2.1 a1).length) cr35_0), (4, .int .i64 (e31.2.2.2.2))]) tb_108 rfl (by simp [Value.oneCell'])) rfl rfl fun a_154 HE155 => ?_
              refine dr_one (i := 19) (ls' := #[true, true, true, true, true, true, true, true, true, true, true, true, true, true, true, true, true, true, true, true, false, false, false]) rfl (by kernel_rfl) rfl fun K_156 hK157 => ?_
              refine st_lit (m := 1) (cs := [.int .i64 (e31.1), .slice Ar33_0 ((permL e31.2.1 a1).length) cr33_0, .slice Ar34_0 ((permL e31.2.2.1 a1).length) cr34_0, .slice Ar35_0 ((permL e31.2.2.2.1 a1).length) cr35_0, .int .i64 (e31.2.2.2.2)]) (e := 108) HE155 HH150 (run_lit ts_53 HE155 (vs := [.agg #[.int .i64 (e31.1), .slice Ar33_0 ((permL e31.2.1 a1).length) cr33_0, .slice Ar34_0 ((permL e31.2.2.1 a1).length) cr34_0, .slice Ar35_0 ((permL e31.2.2.2.1 a1).length) cr35_0, .int .i64 (e31.2.2.2.2)]]) rfl rfl (by simp [Value.cells]) rfl (by decide)) (wt0 rfl) rfl rfl fun q36 a_158 w' HE159 HH160 => hK157 _ _ (by exact HH160.sel [4, 7, 8] (by decide) rfl) ?_
              have HS161 := HH160.sel [4, 7, 8] (by decide) rfl
              refine dr_one (i := 20) (ls' := #[true, true, true, true, true, true, true, true, true, true, true, true, true, true, true, true, true, true, true, true, true, false, false]) rfl (by kernel_rfl) rfl fun K_162 hK163 => ?_
              have HH164 := HH160.sel [3, 2, 1, 0, 4, 5, 6, 7, 8] (by decide) rfl
              have HH165 := HH164.sel [2, 0, 1, 3, 4, 5, 6, 7, 8] (by decide) rfl
              have HH166 := HH165.pairB (F := eInt) (c2 := [.int .i64 (e31.2.2.2.2)]) (y := e31.2.2.2.2) (oI (by exact ⟨by omega, by omega⟩))
              have HH167 := HH166.sel [2, 0, 1, 3, 4, 5, 6, 7, 8] (by decide) rfl
              have HH168 := HH167.pair
              have HH169 := HH168.sel [1, 0, 2, 3, 4, 5, 6, 7] (by decide) rfl
              have HH170 := HH169.pair
              have HH171 := HH170.pairF (E := eInt) (c1 := [.int .i64 (e31.1)]) (x := e31.1) (oI (by exact ⟨by omega, by omega⟩))
              obtain ⟨S40, HH172⟩ : ∃ S, Held Nob w (rO eMultiRule S [.int .i64 (e31.1), .slice Ar33_0 ((permL e31.2.1 a1).length) cr33_0, .slice Ar34_0 ((permL e31.2.2.1 a1).length) cr34_0, .slice Ar35_0 ((permL e31.2.2.2.1 a1).length) cr35_0, .int .i64 (e31.2.2.2.2)] (e31.1, (permL e31.2.1 a1), (permL e31.2.2.1 a1), (permL e31.2.2.2.1 a1), e31.2.2.2.2) :: _) _ := ⟨_, HH171⟩
              refine st_app1 HE159 HH172 ts_53 [3, 0, 1, 2, 4, 5, 6] (by decide) rfl rfl rfl (by simp [Value.oneCell']) (by unfold maxLen; first | omega | (simp; done) | (simp; omega)) (by first | omega | (simp; done) | (simp; omega)) (wt0 rfl) rfl fun A37 c38 S39 a_173 w' HE174 HH175 => hK163 _ _ (by exact HH175.sel [2, 4, 5] (by decide) rfl) ?_
              have HS176 := HH175.sel [2, 4, 5] (by decide) rfl
              refine dr_take (i := 21) (ls' := #[true, true, true, true, true, true, true, true, true, true, true, true, true, true, true, true, true, true, true, true, true, true, false]) HE174 HS176 rfl (by kernel_rfl) (by kernel_rfl) (by kernel_rfl) (fun _ _ _ h => h) rfl (wt0 rfl) (x_fieldAddr fa_55_3 rfl) rfl rfl fun a_177 HE178 => ?_
              refine dr_one (i := 22) (ls' := #[true, true, true, true, true, true, true, true, true, true, true, true, true, true, true, true, true, true, true, true, true, true, true]) rfl (by kernel_rfl) rfl fun K_179 hK180 => ?_
              refine st_store (vs := [.slice A37 ((((a0.2.2.2.take k).map (permMR a1)) ++ [(e31.1, (permL e31.2.1 a1), (permL e31.2.2.1 a1), (permL e31.2.2.2.1 a1), e31.2.2.2.2)]).length) c38]) 3 HE178 HH175 tv_53 rfl rfl rfl rfl rfl rfl (by simp [Value.oneCell']) (wt0 rfl) fun w' HH181 => hK180 _ _ (by exact HH181.sel [2, 4, 5] (by decide) rfl) ?_
              have HS182 := HH181.sel [2, 4, 5] (by decide) rfl
              refine dr_done (by kernel_rfl) ?_
              clear HH101 a_96 HE97 a_104 HE105 a_106 HE107 a_108 HE109 a_110 HE111 a_112 HE113 a_114 HE115 a_116 HE117 a_118 HE119 a_120 HE121 a_122 HE123 a_124 HE125 a_126 HE127 a_128 HE129 a_130 HE131 K_132 hK133 HH102 a_134 HE135 HS103 K_136 hK137 HH138 a_139 HE140 HS141 K_142 hK143 HH144 a_145 HE146 HS147 a_151 HE152 K_148 hK149 a_154 HE155 HH150 HS153 K_156 hK157 HH160 HH164 HH165 HH166 HH167 HH168 HH169 HH170 HH171 a_158 HE159 HH172 HS161 a_173 HE174 K_162 hK163 HH175 HS176 hK180 K_179
              exact nrm ⟨_, _, _, _, _, _, _, _, _, _, HE178.sub ⟨rfl, rfl, rfl, rfl, rfl, rfl, trivial⟩, HH181.sel [0, 1, 2, 3, 4, 5] (by decide) rfl⟩
            · refine st_call HE131 (wt0 rfl) rfl rfl rfl en_88 rfl rfl (impl_permuted _ _ e31.2.1 _ _ a1 _ (HH102.old ge31_1) (HH102.old h1) (by exact fun x hx => by have := w0.2.1 x hx; omega) (by omega)) fun e w' hr => ?_
              obtain ⟨Ar41_0, cr41_0, rfl, hor41_0, hbr41⟩ := hr
              obtain ⟨Sr41, HH183⟩ := HH102.newS hbr41 hor41_0
              refine ⟨_, rfl, fun a_184 HE185 => hK133 _ _ (by exact HH183.sel [1, 4, 5] (by decide) rfl) ?_⟩
              have HS186 := HH183.sel [1, 4, 5] (by decide) rfl
              refine dr_two (i := 1) (j := 11) (ls' := #[true, true, true, true, true, true, true, true, true, true, true, false, true, true, true, false, true, true, false, false, false, false, false]) (ls'' := #[true, false, true, true, true, true, true, true, true, true, true, true, true, true, true, false, true, true, false, false, false, false, false]) rfl rfl (by kernel_rfl) rfl rfl (fun K_187 hK188 => ?_) (fun K_187 hK188 => ?_)
              · refine st_x HE185 HH183 (wt0 rfl) (x_load1 tv_53 rfl (c_blk 3 rfl rfl)) rfl rfl fun a_189 HE190 => hK188 _ _ HS186 ?_
                refine dr_one (i := 11) (ls' := #[true, true, true, true, true, true, true, true, true, true, true, true, true, true, true, false, true, true, false, false, false, false, false]) rfl (by kernel_rfl) rfl fun K_191 hK192 => ?_
                refine st_call HE190 (wt0 rfl) rfl rfl rfl en_88 rfl rfl (impl_permuted _ _ e31.2.2.1 _ _ a1 _ (HH183.old ge31_2) (HH183.old h1) (by exact fun x hx => by have := w0.2.1 x hx; omega) (by omega)) fun e w' hr => ?_
                obtain ⟨Ar42_0, cr42_0, rfl, hor42_0, hbr42⟩ := hr
                obtain ⟨Sr42, HH193⟩ := HH183.newS hbr42 hor42_0
                refine ⟨_, rfl, fun a_194 HE195 => hK192 _ _ (by exact HH193.sel [2, 5, 6] (by decide) rfl) ?_⟩
                have HS196 := HH193.sel [2, 5, 6] (by decide) rfl
                refine dr_one (i := 15) (ls' := #[true, true, true, true, true, true, true, true, true, true, true, true, true, true, true, true, true, true, false, false, false, false, false]) rfl (by kernel_rfl) rfl fun K_197 hK198 => ?_
                refine st_call HE195 (wt0 rfl) rfl rfl rfl en_88 rfl rfl (impl_permuted _ _ e31.2.2.2.1 _ _ a1 _ (HH193.old ge31_3) (HH193.old h1) (by exact fun x hx => by have := w0.2.1 x hx; omega) (by omega)) fun e w' hr => ?_
                obtain ⟨Ar43_0, cr43_0, rfl, hor43_0, hbr43⟩ := hr
                obtain ⟨Sr43, HH199⟩ := HH193.newS hbr43 hor43_0
                refine ⟨_, rfl, fun a_200 HE201 => hK198 _ _ (by exact HH199.sel [3, 6, 7] (by decide) rfl) ?_⟩
                have HS202 := HH199.sel [3, 6, 7] (by decide) rfl
                refine dr_take (i := 18) (ls' := #[true, true, true, true, true, true, true, true, true, true, true, true, true, true, true, true, true, true, true, false, false, false, false]) HE201 HS202 rfl (by kernel_rfl) (by kernel_rfl) (by kernel_rfl) (fun _ _ _ h => h) rfl (wt0 rfl) (show XS _ _ _ _ (.agg #[.int .i64 (e31.1), .slice Ar41_0 ((permL e31.2.1 a1).length) cr41_0, .slice Ar42_0 ((permL e31.2.2.1 a1).length) cr42_0, .slice Ar43_0 ((permL e31.2.2.2.1 a1).length) cr43_0, .int .i64 (e31.2.2.2.2)]) from x_build (vs := [(0, .int .i64 (e31.1)), (1, .slice Ar41_0 ((permL e31.2.1 a1).length) cr41_0), (2, .slice Ar42_0 ((permL e31.2.2.1 a1).length) cr42_0), (3, .slice Ar43_0 ((permL e31.2.2.2.1 a1).length) cr43_0), (4, .int .i64 (e31.2.2.2.2))]) tb_108 rfl (by simp [Value.oneCell'])) rfl rfl fun a_203 HE204 => ?_
                refine dr_one (i := 19) (ls' := #[true, true, true, true, true, true, true, true, true, true, true, true, true, true, true, true, true, true, true, true, false, false, false]) rfl (by kernel_rfl) rfl fun K_205 hK206 => ?_
                refine st_lit (m := 1) (cs := [.int .i64 (e31.1), .slice Ar41_0 ((permL e31.2.1 a1).length) cr41_0, .slice Ar42_0 ((permL e31.2.2.1 a1).length) cr42_0, .slice Ar43_0 ((permL e31.2.2.2.1 a1).length) cr43_0, .int .i64 (e31.2.2.2.2)]) (e := 108) HE204 HH199 (run_lit ts_53 HE204 (vs := [.agg #[.int .i64 (e31.1), .slice Ar41_0 ((permL e31.2.1 a1).length) cr41_0, .slice Ar42_0 ((permL e31.2.2.1 a1).length) cr42_0, .slice Ar43_0 ((permL e31.2.2.2.1 a1).length) cr43_0, .int .i64 (e31.2.2.2.2)]]) rfl rfl (by simp [Value.cells]) rfl (by decide)) (wt0 rfl) rfl rfl fun q44 a_207 w' HE208 HH209 => hK206 _ _ (by exact HH209.sel [4, 7, 8] (by decide) rfl) ?_
                have HS210 := HH209.sel [4, 7, 8] (by decide) rfl
                refine dr_one (i := 20) (ls' := #[true, true, true, true, true, true, true, true, true, true, true, true, true, true, true, true, true, true, true, true, true, false, false]) rfl (by kernel_rfl) rfl fun K_211 hK212 => ?_
                have HH213 := HH209.sel [3, 2, 1, 0, 4, 5, 6, 7, 8] (by decide) rfl
                have HH214 := HH213.sel [2, 0, 1, 3, 4, 5, 6, 7, 8] (by decide) rfl
                have HH215 := HH214.pairB (F := eInt) (c2 := [.int .i64 (e31.2.2.2.2)]) (y := e31.2.2.2.2) (oI (by exact ⟨by omega, by omega⟩))
                have HH216 := HH215.sel [2, 0, 1, 3, 4, 5, 6, 7, 8] (by decide) rfl
                have HH217 := HH216.pair
                have HH218 := HH217.sel [1, 0, 2, 3, 4, 5, 6, 7] (by decide) rfl
                have HH219 := HH218.pair
                have HH220 := HH219.pairF (E := eInt) (c1 := [.int .i64 (e31.1)]) (x := e31.1) (oI (by exact ⟨by omega, by omega⟩))
                obtain ⟨S48, HH221⟩ : ∃ S, Held Nob w (rO eMultiRule S [.int .i64 (e31.1), .slice Ar41_0 ((permL e31.2.1 a1).length) cr41_0, .slice Ar42_0 ((permL e31.2.2.1 a1).length) cr42_0, .slice Ar43_0 ((permL e31.2.2.2.1 a1).length) cr43_0, .int .i64 (e31.2.2.2.2)] (e31.1, (permL e31.2.1 a1), (permL e31.2.2.1 a1), (permL e31.2.2.2.1 a1), e31.2.2.2.2) :: _) _ := ⟨_, HH220⟩
                refine st_app1 HE208 HH221 ts_53 [3, 0, 1, 2, 4, 5, 6] (by decide) rfl rfl rfl (by simp [Value.oneCell']) (by unfold maxLen; first | omega | (simp; done) | (simp; omega)) (by first | omega | (simp; done) | (simp; omega)) (wt0 rfl) rfl fun A45 c46 S47 a_222 w' HE223 HH224 => hK212 _ _ (by exact HH224.sel [2, 4, 5] (by decide) rfl) ?_
                have HS225 := HH224.sel [2, 4, 5] (by decide) rfl
                refine dr_take (i := 21) (ls' := #[true, true, true, true, true, true, true, true, true, true, true, true, true, true, true, true, true, true, true, true, true, true, false]) HE223 HS225 rfl (by kernel_rfl) (by kernel_rfl) (by kernel_rfl) (fun _ _ _ h => h) rfl (wt0 rfl) (x_fieldAddr fa_55_3 rfl) rfl rfl fun a_226 HE227 => ?_
                refine dr_one (i := 22) (ls' := #[true, true, true, true, true, true, true, true, true, true, true, true, true, true, true, true, true, true, true, true, true, true, true]) rfl (by kernel_rfl) rfl fun K_228 hK229 => ?_
                refine st_store (vs := [.slice A45 ((((a0.2.2.2.take k).map (permMR a1)) ++ [(e31.1, (permL e31.2.1 a1), (permL e31.2.2.1 a1), (permL e31.2.2.2.1 a1), e31.2.2.2.2)]).length) c46]) 3 HE227 HH224 tv_53 rfl rfl rfl rfl rfl rfl (by simp [Value.oneCell']) (wt0 rfl) fun w' HH230 => hK229 _ _ (by exact HH230.sel [2, 4, 5] (by decide) rfl) ?_
                have HS231 := HH230.sel [2, 4, 5] (by decide) rfl
                refine dr_done (by kernel_rfl) ?_
                clear HH101 a_96 HE97 a_104 HE105 a_106 HE107 a_108 HE109 a_110 HE111 a_112 HE113 a_114 HE115 a_116 HE117 a_118 HE119 a_120 HE121 a_122 HE123 a_124 HE125 a_126 HE127 a_128 HE129 HH102 a_130 HE131 HS103 K_132 hK133 a_184 HE185 K_187 hK188 HH183 a_189 HE190 HS186 K_191 hK192 HH193 a_194 HE195 HS196 a_200 HE201 K_197 hK198 a_203 HE204 HH199 HS202 K_205 hK206 HH209 HH213 HH214 HH215 HH216 HH217 HH218 HH219 HH220 a_207 HE208 HH221 HS210 a_222 HE223 K_211 hK212 HH224 HS225 hK229 K_228
                exact nrm ⟨_, _, _, _, _, _, _, _, _, _, HE227.sub ⟨rfl, rfl, rfl, rfl, rfl, rfl, trivial⟩, HH230.sel [0, 1, 2, 3, 4, 5] (by decide) rfl⟩
              · refine st_call HE185 (wt0 rfl) rfl rfl rfl en_88 rfl rfl (impl_permuted _ _ e31.2.2.1 _ _ a1 _ (HH183.old ge31_2) (HH183.old h1) (by exact fun x hx => by have := w0.2.1 x hx; omega) (by omega)) fun e w' hr => ?_
                obtain ⟨Ar49_0, cr49_0, rfl, hor49_0, hbr49⟩ := hr
                obtain ⟨Sr49, HH232⟩ := HH183.newS hbr49 hor49_0
                refine ⟨_, rfl, fun a_233 HE234 => hK188 _ _ (by exact HH232.sel [2, 5, 6] (by decide) rfl) ?_⟩
                have HS235 := HH232.sel [2, 5, 6] (by decide) rfl
                refine dr_two (i := 1) (j := 15) (ls' := #[true, true, true, true, true, true, true, true, true, true, true, true, true, true, true, false, true, true, false, false, false, false, false]) (ls'' := #[true, false, true, true, true, true, true, true, true, true, true, true, true, true, true, true, true, true, false, false, false, false, false]) rfl rfl (by kernel_rfl) rfl rfl (fun K_236 hK237 => ?_) (fun K_236 hK237 => ?_)
                · refine st_x HE234 HH232 (wt0 rfl) (x_load1 tv_53 rfl (c_blk 4 rfl rfl)) rfl rfl fun a_238 HE239 => hK237 _ _ HS235 ?_
                  refine dr_one (i := 15) (ls' := #[true, true, true, true, true, true, true, true, true, true, true, true, true, true, true, true, true, true, false, false, false, false, false]) rfl (by kernel_rfl) rfl fun K_240 hK241 => ?_
                  refine st_call HE239 (wt0 rfl) rfl rfl rfl en_88 rfl rfl (impl_permuted _ _ e31.2.2.2.1 _ _ a1 _ (HH232.old ge31_3) (HH232.old h1) (by exact fun x hx => by have := w0.2.1 x hx; omega) (by omega)) fun e w' hr => ?_
                  obtain ⟨Ar50_0, cr50_0, rfl, hor50_0, hbr50⟩ := hr
                  obtain ⟨Sr50, HH242⟩ := HH232.newS hbr50 hor50_0
                  refine ⟨_, rfl, fun a_243 HE244 => hK241 _ _ (by exact HH242.sel [3, 6, 7] (by decide) rfl) ?_⟩
                  have HS245 := HH242.sel [3, 6, 7] (by decide) rfl
                  refine dr_take (i := 18) (ls' := #[true, true, true, true, true, true, true, true, true, true, true, true, true, true, true, true, true, true, true, false, false, false, false]) HE244 HS245 rfl (by kernel_rfl) (by kernel_rfl) (by kernel_rfl) (fun _ _ _ h => h) rfl (wt0 rfl) (show XS _ _ _ _ (.agg #[.int .i64 (e31.1), .slice Ar41_0 ((permL e31.2.1 a1).length) cr41_0, .slice Ar49_0 ((permL e31.2.2.1 a1).length) cr49_0, .slice Ar50_0 ((permL e31.2.2.2.1 a1).length) cr50_0, .int .i64 (e31.2.2.2.2)]) from x_build (vs := [(0, .int .i64 (e31.1)), (1, .slice Ar41_0 ((permL e31.2.1 a1).length) cr41_0), (2, .slice Ar49_0 ((permL e31.2.2.1 a1).length) cr49_0), (3, .slice Ar50_0 ((permL e31.2.2.2.1 a1).length) cr50_0), (4, .int .i64 (e31.2.2.2.2))]) tb_108 rfl (by simp [Value.oneCell'])) rfl rfl fun a_246 HE247 => ?_
                  refine dr_one (i := 19) (ls' := #[true, true, true, true, true, true, true, true, true, true, true, true, true, true, true, true, true, true, true, true, false, false, false]) rfl (by kernel_rfl) rfl fun K_248 hK249 => ?_
                  refine st_lit (m := 1) (cs := [.int .i64 (e31.1), .slice Ar41_0 ((permL e31.2.1 a1).length) cr41_0, .slice Ar49_0 ((permL e31.2.2.1 a1).length) cr49_0, .slice Ar50_0 ((permL e31.2.2.2.1 a1).length) cr50_0, .int .i64 (e31.2.2.2.2)]) (e := 108) HE247 HH242 (run_lit ts_53 HE247 (vs := [.agg #[.int .i64 (e31.1), .slice Ar41_0 ((permL e31.2.1 a1).length) cr41_0, .slice Ar49_0 ((permL e31.2.2.1 a1).length) cr49_0, .slice Ar50_0 ((permL e31.2.2.2.1 a1).length) cr50_0, .int .i64 (e31.2.2.2.2)]]) rfl rfl (by simp [Value.cells]) rfl (by decide)) (wt0 rfl) rfl rfl fun q51 a_250 w' HE251 HH252 => hK249 _ _ (by exact HH252.sel [4, 7, 8] (by decide) rfl) ?_
                  have HS253 := HH252.sel [4, 7, 8] (by decide) rfl
                  refine dr_one (i := 20) (ls' := #[true, true, true, true, true, true, true, true, true, true, true, true, true, true, true, true, true, true, true, true, true, false, false]) rfl (by kernel_rfl) rfl fun K_254 hK255 => ?_
                  have HH256 := HH252.sel [3, 2, 1, 0, 4, 5, 6, 7, 8] (by decide) rfl
                  have HH257 := HH256.sel [2, 0, 1, 3, 4, 5, 6, 7, 8] (by decide) rfl
                  have HH258 := HH257.pairB (F := eInt) (c2 := [.int .i64 (e31.2.2.2.2)]) (y := e31.2.2.2.2) (oI (by exact ⟨by omega, by omega⟩))
                  have HH259 := HH258.sel [2, 0, 1, 3, 4, 5, 6, 7, 8] (by decide) rfl
                  have HH260 := HH259.pair
                  have HH261 := HH260.sel [1, 0, 2, 3, 4, 5, 6, 7] (by decide) rfl
                  have HH262 := HH261.pair
                  have HH263 := HH262.pairF (E := eInt) (c1 := [.int .i64 (e31.1)]) (x := e31.1) (oI (by exact ⟨by omega, by omega⟩))
                  obtain ⟨S55, HH264⟩ : ∃ S, Held Nob w (rO eMultiRule S [.int .i64 (e31.1), .slice Ar41_0 ((permL e31.2.1 a1).length) cr41_0, .slice Ar49_0 ((permL e31.2.2.1 a1).length) cr49_0, .slice Ar50_0 ((permL e31.2.2.2.1 a1).length) cr50_0, .int .i64 (e31.2.2.2.2)] (e31.1, (permL e31.2.1 a1), (permL e31.2.2.1 a1), (permL e31.2.2.2.1 a1), e31.2.2.2.2) :: _) _ := ⟨_, HH263⟩
                  refine st_app1 HE251 HH264 ts_53 [3, 0, 1, 2, 4, 5, 6] (by decide) rfl rfl rfl (by simp [Value.oneCell']) (by unfold maxLen; first | omega | (simp; done) | (simp; omega)) (by first | omega | (simp; done) | (simp; omega)) (wt0 rfl) rfl fun A52 c53 S54 a_265 w' HE266 HH267 => hK255 _ _ (by exact HH267.sel [2, 4, 5] (by decide) rfl) ?_
                  have HS268 := HH267.sel [2, 4, 5] (by decide) rfl
                  refine dr_take (i := 21) (ls' := #[true, true, true, true, true, true, true, true, true, true, true, true, true, true, true, true, true, true, true, true, true, true, false]) HE266 HS268 rfl (by kernel_rfl) (by kernel_rfl) (by kernel_rfl) (fun _ _ _ h => h) rfl (wt0 rfl) (x_fieldAddr fa_55_3 rfl) rfl rfl fun a_269 HE270 => ?_
                  refine dr_one (i := 22) (ls' := #[true, true, true, true, true, true, true, true, true, true, true, true, true, true, true, true, true, true, true, true, true, true, true]) rfl (by kernel_rfl) rfl fun K_271 hK272 => ?_
                  refine st_store (vs := [.slice A52 ((((a0.2.2.2.take k).map (permMR a1)) ++ [(e31.1, (permL e31.2.1 a1), (permL e31.2.2.1 a1), (permL e31.2.2.2.1 a1), e31.2.2.2.2)]).length) c53]) 3 HE270 HH267 tv_53 rfl rfl rfl rfl rfl rfl (by simp [Value.oneCell']) (wt0 rfl) fun w' HH273 => hK272 _ _ (by exact HH273.sel [2, 4, 5] (by decide) rfl) ?_
                  have HS274 := HH273.sel [2, 4, 5] (by decide) rfl
                  refine dr_done (by kernel_rfl) ?_
                  clear HH101 a_96 HE97 a_104 HE105 a_106 HE107 a_108 HE109 a_110 HE111 a_112 HE113 a_114 HE115 a_116 HE117 a_118 HE119 a_120 HE121 a_122 HE123 a_124 HE125 a_126 HE127 a_128 HE129 HH102 a_130 HE131 HS103 K_132 hK133 HH183 a_184 HE185 HS186 K_187 hK188 a_233 HE234 K_236 hK237 HH232 a_238 HE239 HS235 a_243 HE244 K_240 hK241 a_246 HE247 HH242 HS245 K_248 hK249 HH252 HH256 HH257 HH258 HH259 HH260 HH261 HH262 HH263 a_250 HE251 HH264 HS253 a_265 HE266 K_254 hK255 HH267 HS268 hK272 K_271
                  exact nrm ⟨_, _, _, _, _, _, _, _, _, _, HE270.sub ⟨rfl, rfl, rfl, rfl, rfl, rfl, trivial⟩, HH273.sel [0, 1, 2, 3, 4, 5] (by decide) rfl⟩
                · refine st_call HE234 (wt0 rfl) rfl rfl rfl en_88 rfl rfl (impl_permuted _ _ e31.2.2.2.1 _ _ a1 _ (HH232.old ge31_3) (HH232.old h1) (by exact fun x hx => by have := w0.2.1 x hx; omega) (by omega)) fun e w' hr => ?_
                  obtain ⟨Ar56_0, cr56_0, rfl, hor56_0, hbr56⟩ := hr
                  obtain ⟨Sr56, HH275⟩ := HH232.newS hbr56 hor56_0
                  refine ⟨_, rfl, fun a_276 HE277 => hK237 _ _ (by exact HH275.sel [3, 6, 7] (by decide) rfl) ?_⟩
                  have HS278 := HH275.sel [3, 6, 7] (by decide) rfl
                  refine dr_take (i := 18) (ls' := #[true, false, true, true, true, true, true, true, true, true, true, true, true, true, true, true, true, true, true, false, false, false, false]) HE277 HS278 rfl (by kernel_rfl) (by kernel_rfl) (by kernel_rfl) (fun _ _ _ h => h) rfl (wt0 rfl) (show XS _ _ _ _ (.agg #[.int .i64 (e31.1), .slice Ar41_0 ((permL e31.2.1 a1).length) cr41_0, .slice Ar49_0 ((permL e31.2.2.1 a1).length) cr49_0, .slice Ar56_0 ((permL e31.2.2.2.1 a1).length) cr56_0, .int .i64 (e31.2.2.2.2)]) from x_build (vs := [(0, .int .i64 (e31.1)), (1, .slice Ar41_0 ((permL e31.2.1 a1).length) cr41_0), (2, .slice Ar49_0 ((permL e31.2.2.1 a1).length) cr49_0), (3, .slice Ar56_0 ((permL e31.2.2.2.1 a1).length) cr56_0), (4, .int .i64 (e31.2.2.2.2))]) tb_108 rfl (by simp [Value.oneCell'])) rfl rfl fun a_279 HE280 => ?_
                  refine dr_two (i := 1) (j := 19) (ls' := #[true, true, true, true, true, true, true, true, true, true, true, true, true, true, true, true, true, true, true, false, false, false, false]) (ls'' := #[true, false, true, true, true, true, true, true, true, true, true, true, true, true, true, true, true, true, true, true, false, false, false]) rfl rfl (by kernel_rfl) rfl rfl (fun K_281 hK282 => ?_) (fun K_281 hK282 => ?_)
                  · refine st_x HE280 HH275 (wt0 rfl) (x_load1 tv_53 rfl (c_blk 5 rfl rfl)) rfl rfl fun a_283 HE284 => hK282 _ _ HS278 ?_
                    refine dr_one (i := 19) (ls' := #[true, true, true, true, true, true, true, true, true, true, true, true, true, true, true, true, true, true, true, true, false, false, false]) rfl (by kernel_rfl) rfl fun K_285 hK286 => ?_
                    refine st_lit (m := 1) (cs := [.int .i64 (e31.1), .slice Ar41_0 ((permL e31.2.1 a1).length) cr41_0, .slice Ar49_0 ((permL e31.2.2.1 a1).length) cr49_0, .slice Ar56_0 ((permL e31.2.2.2.1 a1).length) cr56_0, .int .i64 (e31.2.2.2.2)]) (e := 108) HE284 HH275 (run_lit ts_53 HE284 (vs := [.agg #[.int .i64 (e31.1), .slice Ar41_0 ((permL e31.2.1 a1).length) cr41_0, .slice Ar49_0 ((permL e31.2.2.1 a1).length) cr49_0, .slice Ar56_0 ((permL e31.2.2.2.1 a1).length) cr56_0, .int .i64 (e31.2.2.2.2)]]) rfl rfl (by simp [Value.cells]) rfl (by decide)) (wt0 rfl) rfl rfl fun q57 a_287 w' HE288 HH289 => hK286 _ _ (by exact HH289.sel [4, 7, 8] (by decide) rfl) ?_
                    have HS290 := HH289.sel [4, 7, 8] (by decide) rfl
                    refine dr_one (i := 20) (ls' := #[true, true, true, true, true, true, true, true, true, true, true, true, true, true, true, true, true, true, true, true, true, false, false]) rfl (by kernel_rfl) rfl fun K_291 hK292 => ?_
                    have HH293 := HH289.sel [3, 2, 1, 0, 4, 5, 6, 7, 8] (by decide) rfl
                    have HH294 := HH293.sel [2, 0, 1, 3, 4, 5, 6, 7, 8] (by decide) rfl
                    have HH295 := HH294.pairB (F := eInt) (c2 := [.int .i64 (e31.2.2.2.2)]) (y := e31.2.2.2.2) (oI (by exact ⟨by omega, by omega⟩))
                    have HH296 := HH295.sel [2, 0, 1, 3, 4, 5, 6, 7, 8] (by decide) rfl
                    have HH297 := HH296.pair
                    have HH298 := HH297.sel [1, 0, 2, 3, 4, 5, 6, 7] (by decide) rfl
                    have HH299 := HH298.pair
                    have HH300 := HH299.pairF (E := eInt) (c1 := [.int .i64 (e31.1)]) (x := e31.1) (oI (by exact ⟨by omega, by omega⟩))
                    obtain ⟨S61, HH301⟩ : ∃ S, Held Nob w (rO eMultiRule S [.int .i64 (e31.1), .slice Ar41_0 ((permL e31.2.1 a1).length) cr41_0, .slice Ar49_0 ((permL e31.2.2.1 a1).length) cr49_0, .slice Ar56_0 ((permL e31.2.2.2.1 a1).length) cr56_0, .int .i64 (e31.2.2.2.2)] (e31.1, (permL e31.2.1 a1), (permL e31.2.2.1 a1), (permL e31.2.2.2.1 a1), e31.2.2.2.2) :: _) _ := ⟨_, HH300⟩
                    refine st_app1 HE288 HH301 ts_53 [3, 0, 1, 2, 4, 5, 6] (by decide) rfl rfl rfl (by simp [Value.oneCell']) (by unfold maxLen; first | omega | (simp; done) | (simp; omega)) (by first | omega | (simp; done) | (simp; omega)) (wt0 rfl) rfl fun A58 c59 S60 a_302 w' HE303 HH304 => hK292 _ _ (by exact HH304.sel [2, 4, 5] (by decide) rfl) ?_
                    have HS305 := HH304.sel [2, 4, 5] (by decide) rfl
                    refine dr_take (i := 21) (ls' := #[true, true, true, true, true, true, true, true, true, true, true, true, true, true, true, true, true, true, true, true, true, true, false]) HE303 HS305 rfl (by kernel_rfl) (by kernel_rfl) (by kernel_rfl) (fun _ _ _ h => h) rfl (wt0 rfl) (x_fieldAddr fa_55_3 rfl) rfl rfl fun a_306 HE307 => ?_
                    refine dr_one (i := 22) (ls' := #[true, true, true, true, true, true, true, true, true, true, true, true, true, true, true, true, true, true, true, true, true, true, true]) rfl (by kernel_rfl) rfl fun K_308 hK309 => ?_
                    refine st_store (vs := [.slice A58 ((((a0.2.2.2.take k).map (permMR a1)) ++ [(e31.1, (permL e31.2.1 a1), (permL e31.2.2.1 a1), (permL e31.2.2.2.1 a1), e31.2.2.2.2)]).length) c59]) 3 HE307 HH304 tv_53 rfl rfl rfl rfl rfl rfl (by simp [Value.oneCell']) (wt0 rfl) fun w' HH310 => hK309 _ _ (by exact HH310.sel [2, 4, 5] (by decide) rfl) ?_
                    have HS311 := HH310.sel [2, 4, 5] (by decide) rfl
                    refine dr_done (by kernel_rfl) ?_
                    clear HH101 a_96 HE97 a_104 HE105 a_106 HE107 a_108 HE109 a_110 HE111 a_112 HE113 a_114 HE115 a_116 HE117 a_118 HE119 a_120 HE121 a_122 HE123 a_124 HE125 a_126 HE127 a_128 HE129 HH102 a_130 HE131 HS103 K_132 hK133 HH183 a_184 HE185 HS186 K_187 hK188 HH232 a_233 HE234 HS235 a_276 HE277 K_236 hK237 a_279 HE280 K_281 hK282 a_283 HE284 HH275 HS278 K_285 hK286 HH289 HH293 HH294 HH295 HH296 HH297 HH298 HH299 HH300 a_287 HE288 HH301 HS290 a_302 HE303 K_291 hK292 HH304 HS305 hK309 K_308
                    exact nrm ⟨_, _, _, _, _, _, _, _, _, _, HE307.sub ⟨rfl, rfl, rfl, rfl, rfl, rfl, trivial⟩, HH310.sel [0, 1, 2, 3, 4, 5] (by decide) rfl⟩
                  · refine st_lit (m := 1) (cs := [.int .i64 (e31.1), .slice Ar41_0 ((permL e31.2.1 a1).length) cr41_0, .slice Ar49_0 ((permL e31.2.2.1 a1).length) cr49_0, .slice Ar56_0 ((permL e31.2.2.2.1 a1).length) cr56_0, .int .i64 (e31.2.2.2.2)]) (e := 108) HE280 HH275 (run_lit ts_53 HE280 (vs := [.agg #[.int .i64 (e31.1), .slice Ar41_0 ((permL e31.2.1 a1).length) cr41_0, .slice Ar49_0 ((permL e31.2.2.1 a1).length) cr49_0, .slice Ar56_0 ((permL e31.2.2.2.1 a1).length) cr56_0, .int .i64 (e31.2.2.2.2)]]) rfl rfl (by simp [Value.cells]) rfl (by decide)) (wt0 rfl) rfl rfl fun q62 a_312 w' HE313 HH314 => hK282 _ _ (by exact HH314.sel [4, 7, 8] (by decide) rfl) ?_
                    have HS315 := HH314.sel [4, 7, 8] (by decide) rfl
                    refine dr_one (i := 1) (ls' := #[true, true, true, true, true, true, true, true, true, true, true, true, true, true, true, true, true, true, true, true, false, false, false]) rfl (by kernel_rfl) rfl fun K_316 hK317 => ?_
                    refine st_x HE313 HH314 (wt0 rfl) (x_load1 tv_53 rfl (c_blk 6 rfl rfl)) rfl rfl fun a_318 HE319 => hK317 _ _ HS315 ?_
                    refine dr_one (i := 20) (ls' := #[true, true, true, true, true, true, true, true, true, true, true, true, true, true, true, true, true, true, true, true, true, false, false]) rfl (by kernel_rfl) rfl fun K_320 hK321 => ?_
                    have HH322 := HH314.sel [3, 2, 1, 0, 4, 5, 6, 7, 8] (by decide) rfl
                    have HH323 := HH322.sel [2, 0, 1, 3, 4, 5, 6, 7, 8] (by decide) rfl
                    have HH324 := HH323.pairB (F := eInt) (c2 := [.int .i64 (e31.2.2.2.2)]) (y := e31.2.2.2.2) (oI (by exact ⟨by omega, by omega⟩))
                    have HH325 := HH324.sel [2, 0, 1, 3, 4, 5, 6, 7, 8] (by decide) rfl
                    have HH326 := HH325.pair
                    have HH327 := HH326.sel [1, 0, 2, 3, 4, 5, 6, 7] (by decide) rfl
                    have HH328 := HH327.pair
                    have HH329 := HH328.pairF (E := eInt) (c1 := [.int .i64 (e31.1)]) (x := e31.1) (oI (by exact ⟨by omega, by omega⟩))
                    obtain ⟨S66, HH330⟩ : ∃ S, Held Nob w (rO eMultiRule S [.int .i64 (e31.1), .slice Ar41_0 ((permL e31.2.1 a1).length) cr41_0, .slice Ar49_0 ((permL e31.2.2.1 a1).length) cr49_0, .slice Ar56_0 ((permL e31.2.2.2.1 a1).length) cr56_0, .int .i64 (e31.2.2.2.2)] (e31.1, (permL e31.2.1 a1), (permL e31.2.2.1 a1), (permL e31.2.2.2.1 a1), e31.2.2.2.2) :: _) _ := ⟨_, HH329⟩
                    refine st_app1 HE319 HH330 ts_53 [3, 0, 1, 2, 4, 5, 6] (by decide) rfl rfl rfl (by simp [Value.oneCell']) (by unfold maxLen; first | omega | (simp; done) | (simp; omega)) (by first | omega | (simp; done) | (simp; omega)) (wt0 rfl) rfl fun A63 c64 S65 a_331 w' HE332 HH333 => hK321 _ _ (by exact HH333.sel [2, 4, 5] (by decide) rfl) ?_
                    have HS334 := HH333.sel [2, 4, 5] (by decide) rfl
                    refine dr_take (i := 21) (ls' := #[true, true, true, true, true, true, true, true, true, true, true, true, true, true, true, true, true, true, true, true, true, true, false]) HE332 HS334 rfl (by kernel_rfl) (by kernel_rfl) (by kernel_rfl) (fun _ _ _ h => h) rfl (wt0 rfl) (x_fieldAddr fa_55_3 rfl) rfl rfl fun a_335 HE336 => ?_
                    refine dr_one (i := 22) (ls' := #[true, true, true, true, true, true, true, true, true, true, true, true, true, true, true, true, true, true, true, true, true, true, true]) rfl (by kernel_rfl) rfl fun K_337 hK338 => ?_
                    refine st_store (vs := [.slice A63 ((((a0.2.2.2.take k).map (permMR a1)) ++ [(e31.1, (permL e31.2.1 a1), (permL e31.2.2.1 a1), (permL e31.2.2.2.1 a1), e31.2.2.2.2)]).length) c64]) 3 HE336 HH333 tv_53 rfl rfl rfl rfl rfl rfl (by simp [Value.oneCell']) (wt0 rfl) fun w' HH339 => hK338 _ _ (by exact HH339.sel [2, 4, 5] (by decide) rfl) ?_
                    have HS340 := HH339.sel [2, 4, 5] (by decide) rfl
                    refine dr_done (by kernel_rfl) ?_
                    clear HH101 a_96 HE97 a_104 HE105 a_106 HE107 a_108 HE109 a_110 HE111 a_112 HE113 a_114 HE115 a_116 HE117 a_118 HE119 a_120 HE121 a_122 HE123 a_124 HE125 a_126 HE127 a_128 HE129 HH102 a_130 HE131 HS103 K_132 hK133 HH183 a_184 HE185 HS186 K_187 hK188 HH232 a_233 HE234 HS235 a_276 HE277 K_236 hK237 a_279 HE280 HH275 HS278 K_281 hK282 a_312 HE313 K_316 hK317 HH314 HH322 HH323 HH324 HH325 HH326 HH327 HH328 HH329 a_318 HE319 HH330 HS315 a_331 HE332 K_320 hK321 HH333 HS334 hK338 K_337
                    exact nrm ⟨_, _, _, _, _, _, _, _, _, _, HE336.sub ⟨rfl, rfl, rfl, rfl, rfl, rfl, trivial⟩, HH339.sel [0, 1, 2, 3, 4, 5] (by decide) rfl⟩
          · rintro a_341 w' ⟨S39, A37, c38, q36, Ar33_0, cr33_0, Ar34_0, cr34_0, Ar35_0, cr35_0, HE342, HH343⟩
            refine blk_n ?_
            refine nrm ?_
            refine rg ?_
            refine pl_x HE342 HH343 (wt0 rfl) (x_add rfl rfl (by exact ⟨by omega, by omega⟩)) rfl rfl fun a_344 HE345 => ?_
            refine pl_x HE345 HH343 (wt0 rfl) (x_move rfl) rfl rfl fun a_346 HE347 => ?_
            refine wpList_nil ?_
            clear a_96 HE97 HH101 a_341 HE342 a_344 HE345
            have E67 : ((a0.2.2.2.take (k + 1)).map (permMR a1)) = (((a0.2.2.2.take k).map (permMR a1)) ++ [(e31.1, (permL e31.2.1 a1), (permL e31.2.2.1 a1), (permL e31.2.2.2.1 a1), e31.2.2.2.2)]) := by
              rw [List.take_succ_eq_append_getElem (by omega), List.map_append, ← xe31]; rfl
            exact nrm ⟨a0.2.2.2.length - (k + 1), (by omega), k + 1, A37, c38, S39, rfl, HE347.sub ⟨(lkI rfl (by first | rfl | omega | (simp [hc24, hc26, p29_0, hc30, xe31]; done))), rfl, rfl, rfl, rfl, rfl, trivial⟩, ((HH343.sel [0, 3, 4, 5] (by decide) rfl).to (by first | rfl | (rw [E67]; done) | (rw [E67]; rfl) | (simp only [E67]; done) | (simp only [E67]; rfl) | (rw [E67]; simp only [List.length_set]; done))), (by first | omega | assumption | (simp; done) | simp_all)⟩
        · refine wp_exit ?_
          refine (thn_exit (thn_exit (blk_hit ?_)))
          refine nrm ?_
          refine wp_seq ?_
          refine rg ?_
          refine pl fun K_348 hK349 => ?_
          have HH350 := HH87.vecSo
          have HH351 := HH350.pairF (E := eInt) (c1 := [.int .i64 (a0.2.2.1)]) (x := a0.2.2.1) (oI (by exact ⟨by omega, by omega⟩))
          have HH352 := HH351.pairF (E := eInt) (c1 := [.int .i64 (a0.2.1)]) (x := a0.2.1) (oI (by exact ⟨by omega, by omega⟩))
          have HH353 := HH352.pairF (E := eInt) (c1 := [.int .i64 (a0.1)]) (x := a0.1) (oI (by exact ⟨by omega, by omega⟩))
          obtain ⟨S68, HH354⟩ : ∃ S, Held Nob w (rO eMulti S [.int .i64 (a0.1), .int .i64 (a0.2.1), .int .i64 (a0.2.2.1), .slice A_6_3 ((List.length ((a0.2.2.2.take k).map (permMR a1)))) c_6_3] (a0.1, a0.2.1, a0.2.2.1, ((a0.2.2.2.take k).map (permMR a1))) :: _) _ := ⟨_, HH353⟩
          have HH355 := HH354.sel [1, 0, 2, 3] (by decide) rfl
          have HH356 : Held Nob w ([rBlk q27 55 [.int .i64 (a0.1), .int .i64 (a0.2.1), .int .i64 (a0.2.2.1), .slice A_6_3 ((List.length ((a0.2.2.2.take k).map (permMR a1)))) c_6_3], rO eMulti S68 [.int .i64 (a0.1), .int .i64 (a0.2.1), .int .i64 (a0.2.2.1), .slice A_6_3 ((List.length ((a0.2.2.2.take k).map (permMR a1)))) c_6_3] (a0.1, a0.2.1, a0.2.2.1, ((a0.2.2.2.take k).map (permMR a1)))] ++ [rBlk q22 55 [.int .i64 (0), .int .i64 (0), .int .i64 (0), .slice none (0) 0], rBlk q21 55 [.int .i64 (a0.1), .int .i64 (a0.2.1), .int .i64 (a0.2.2.1), .slice Az0_3 (a0.2.2.2.length) cz0_3]]) _ := HH355
          refine st_call HE89 (wt0 rfl) rfl rfl rfl en_80 rfl rfl (impl_sortRules (Foot [rBlk q27 55 [.int .i64 (a0.1), .int .i64 (a0.2.1), .int .i64 (a0.2.2.1), .slice A_6_3 ((List.length ((a0.2.2.2.take k).map (permMR a1)))) c_6_3], rO eMulti S68 [.int .i64 (a0.1), .int .i64 (a0.2.1), .int .i64 (a0.2.2.1), .slice A_6_3 ((List.length ((a0.2.2.2.take k).map (permMR a1)))) c_6_3] (a0.1, a0.2.1, a0.2.2.1, ((a0.2.2.2.take k).map (permMR a1)))]) _ _ (a0.1, a0.2.1, a0.2.2.1, ((a0.2.2.2.take k).map (permMR a1))) _ _ HH356.focus (by first | omega | (simp only [palI_len]; omega)) (by first | exact (show apartMR (palI a0 k) from palI_apart (by omega)) | exact (show apartMR ((a0.2.2.2.take k).map (permMR a1)) from by rw [List.take_of_length_le (by omega)]; exact perm_apart hvm hwo))) fun e w' hr => ?_
          obtain ⟨esr69_0, Sr69_0, rfl, hbr69⟩ := hr
          have HH357 := HH356.back hbr69
          clear hbr69
          have Rr69 := HH357.rd (i := 1) rfl
          obtain ⟨Ar69_0_3, cr69_0_3, rfl, gr69_0_0, gr69_0_1, gr69_0_2, gr69_0_3⟩ := shape_Multi Rr69
          clear Rr69
          have jr69_0_0 := gr69_0_0; unfold I64 at jr69_0_0
          have jr69_0_1 := gr69_0_1; unfold I64 at jr69_0_1
          have jr69_0_2 := gr69_0_2; unfold I64 at jr69_0_2
          have HH358 : Held Nob w ([rBlk q27 55 [.int .i64 ((sortMulti (a0.1, a0.2.1, a0.2.2.1, ((a0.2.2.2.take k).map (permMR a1)))).1), .int .i64 ((sortMulti (a0.1, a0.2.1, a0.2.2.1, ((a0.2.2.2.take k).map (permMR a1)))).2.1), .int .i64 ((sortMulti (a0.1, a0.2.1, a0.2.2.1, ((a0.2.2.2.take k).map (permMR a1)))).2.2.1), .slice Ar69_0_3 ((sortMulti (a0.1, a0.2.1, a0.2.2.1, ((a0.2.2.2.take k).map (permMR a1)))).2.2.2.length) cr69_0_3], rO eMulti Sr69_0 [.int .i64 ((sortMulti (a0.1, a0.2.1, a0.2.2.1, ((a0.2.2.2.take k).map (permMR a1)))).1), .int .i64 ((sortMulti (a0.1, a0.2.1, a0.2.2.1, ((a0.2.2.2.take k).map (permMR a1)))).2.1), .int .i64 ((sortMulti (a0.1, a0.2.1, a0.2.2.1, ((a0.2.2.2.take k).map (permMR a1)))).2.2.1), .slice Ar69_0_3 ((sortMulti (a0.1, a0.2.1, a0.2.2.1, ((a0.2.2.2.take k).map (permMR a1)))).2.2.2.length) cr69_0_3] (sortMulti (a0.1, a0.2.1, a0.2.2.1, ((a0.2.2.2.take k).map (permMR a1))))] ++ [rBlk q22 55 [.int .i64 (0), .int .i64 (0), .int .i64 (0), .slice none (0) 0], rBlk q21 55 [.int .i64 (a0.1), .int .i64 (a0.2.1), .int .i64 (a0.2.2.1), .slice Az0_3 (a0.2.2.2.length) cz0_3]]) _ := HH357
          have HH359 := HH358.sel [1, 0, 2, 3] (by decide) rfl
          have HH360 := HH359.unF rfl
          have HH361 := HH360.unF rfl
          have HH362 := HH361.unF rfl
          refine ⟨_, rfl, fun a_363 HE364 => hK349 _ _ ?_⟩
          refine wpList_nil ?_
          clear HH87 HH350 HH351 HH352 HH353 HH354 HH355 HH356 HH357 HH358 HH359 HH360 HH361 a_88 HE89 hK349 K_348
          refine nrm ?_
          refine wp_seq ?_
          refine rg ?_
          refine pl_x HE364 HH362 (wt0 rfl) (x_loadN (cs := [.int .i64 ((sortMulti (a0.1, a0.2.1, a0.2.2.1, ((a0.2.2.2.take k).map (permMR a1)))).1), .int .i64 ((sortMulti (a0.1, a0.2.1, a0.2.2.1, ((a0.2.2.2.take k).map (permMR a1)))).2.1), .int .i64 ((sortMulti (a0.1, a0.2.1, a0.2.2.1, ((a0.2.2.2.take k).map (permMR a1)))).2.2.1), .slice Ar69_0_3 ((sortMulti (a0.1, a0.2.1, a0.2.2.1, ((a0.2.2.2.take k).map (permMR a1)))).2.2.2.length) cr69_0_3]) tv_55 rfl rfl (c_blkN 1 rfl)) rfl rfl fun a_365 HE366 => ?_
          refine pl fun K_367 hK368 => ?_
          refine st_store (vs := [.int .i64 ((sortMulti (a0.1, a0.2.1, a0.2.2.1, ((a0.2.2.2.take k).map (permMR a1)))).1), .int .i64 ((sortMulti (a0.1, a0.2.1, a0.2.2.1, ((a0.2.2.2.take k).map (permMR a1)))).2.1), .int .i64 ((sortMulti (a0.1, a0.2.1, a0.2.2.1, ((a0.2.2.2.take k).map (permMR a1)))).2.2.1), .slice Ar69_0_3 ((sortMulti (a0.1, a0.2.1, a0.2.2.1, ((a0.2.2.2.take k).map (permMR a1)))).2.2.2.length) cr69_0_3]) 2 HE366 HH362 tv_55 rfl rfl rfl rfl rfl rfl (by simp [Value.oneCell']) (wt0 rfl) fun w' HH369 => hK368 _ _ ?_
          refine pl_x HE366 HH369 (wt0 rfl) (x_assign rfl) rfl rfl fun a_370 HE371 => ?_
          refine wpList_nil ?_
          clear a_363 HE364 HH362 a_365 HE366 hK368 K_367
          refine nrm ?_
          refine wp_ret ?_
          refine ret2 HE371 rfl (rv_cell rfl (tv_55.loadN (cs := [.int .i64 ((sortMulti (a0.1, a0.2.1, a0.2.2.1, ((a0.2.2.2.take k).map (permMR a1)))).1), .int .i64 ((sortMulti (a0.1, a0.2.1, a0.2.2.1, ((a0.2.2.2.take k).map (permMR a1)))).2.1), .int .i64 ((sortMulti (a0.1, a0.2.1, a0.2.2.1, ((a0.2.2.2.take k).map (permMR a1)))).2.2.1), .slice Ar69_0_3 ((sortMulti (a0.1, a0.2.1, a0.2.2.1, ((a0.2.2.2.take k).map (permMR a1)))).2.2.2.length) cr69_0_3]) rfl (c_blkN 2 rfl _ HH369))) (rv_tmp rfl) ?_
          have HH372 := HH369.pairF (E := eInt) (c1 := [.int .i64 ((sortMulti (a0.1, a0.2.1, a0.2.2.1, ((a0.2.2.2.take k).map (permMR a1)))).2.2.1)]) (x := (sortMulti (a0.1, a0.2.1, a0.2.2.1, ((a0.2.2.2.take k).map (permMR a1)))).2.2.1) (oI (by exact ⟨by omega, by omega⟩))
          have HH373 := HH372.pairF (E := eInt) (c1 := [.int .i64 ((sortMulti (a0.1, a0.2.1, a0.2.2.1, ((a0.2.2.2.take k).map (permMR a1)))).2.1)]) (x := (sortMulti (a0.1, a0.2.1, a0.2.2.1, ((a0.2.2.2.take k).map (permMR a1)))).2.1) (oI (by exact ⟨by omega, by omega⟩))
          have HH374 := HH373.pairF (E := eInt) (c1 := [.int .i64 ((sortMulti (a0.1, a0.2.1, a0.2.2.1, ((a0.2.2.2.take k).map (permMR a1)))).1)]) (x := (sortMulti (a0.1, a0.2.1, a0.2.2.1, ((a0.2.2.2.take k).map (permMR a1)))).1) (oI (by exact ⟨by omega, by omega⟩))
          obtain ⟨S70, HH375⟩ : ∃ S, Held Nob w (rO eMulti S [.int .i64 ((sortMulti (a0.1, a0.2.1, a0.2.2.1, ((a0.2.2.2.take k).map (permMR a1)))).1), .int .i64 ((sortMulti (a0.1, a0.2.1, a0.2.2.1, ((a0.2.2.2.take k).map (permMR a1)))).2.1), .int .i64 ((sortMulti (a0.1, a0.2.1, a0.2.2.1, ((a0.2.2.2.take k).map (permMR a1)))).2.2.1), .slice Ar69_0_3 ((sortMulti (a0.1, a0.2.1, a0.2.2.1, ((a0.2.2.2.take k).map (permMR a1)))).2.2.2.length) cr69_0_3] (sortMulti (a0.1, a0.2.1, a0.2.2.1, ((a0.2.2.2.take k).map (permMR a1)))) :: _) _ := ⟨_, HH374⟩
          have hF : (permTapes a0 a1) = ((sortMulti (a0.1, a0.2.1, a0.2.2.1, ((a0.2.2.2.take k).map (permMR a1)))), 0) := by
            first | (simp [permTapes, hc24, hc26, p29_0, hc30]; done) | (unfold permTapes; rw [if_pos hvm, if_pos hwo, List.take_of_length_le (by omega)]; rfl)
          exact ⟨_, by first | (rw [hF] <;> rfl) | rfl | (rw [hF]; simp only [Ending.returned.injEq, Value.slice.injEq, true_and, and_true]; first | omega | (simp; done)) | (rw [hF]; simp; omega), by rw [hF]; exact (HH375.o (i := 0) rfl), HH375.below⟩

end Go.Proofs.Ytcfdkckchbdafaa
