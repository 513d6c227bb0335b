/- What the proof of FnExactReadMachine needs: contracts of the functions that it reaches, each once. -/
import Derived.Test.YthfihlfjphiihaaGreatDoorProg
import Derived.Test.YthfihlfjphiihaaGreatDoorQMem
import Derived.Test.YthfihlfjphiihaaGreatDoorQOpen
import Derived.Test.YthfihlfjphiihaaGreatDoorLReadMachinea
import Derived.Test.YthfihlfjphiihaaGreatDoorLReadMachineb
import Derived.Test.YthfihlfjphiihaaGreatDoorLReadMachinec
import Derived.Test.YthfihlfjphiihaaGreatDoorLReadMachined
import Derived.Test.YthfihlfjphiihaaGreatDoorLReadMachinee
import Derived.WalkKit
import Derived.WalkSpells
import Derived.Below
import Derived.LoopTactic
import Derived.Outline
import Derived.Deep.QuietTactic
import Derived.BigQuiet
import Derived.Deep.LoopGhost
import Derived.Handy
import Derived.Lib.Hide
import Derived.Shelf.Abstract
import Derived.StillTailTactics
import Derived.OwnWalk
import Derived.Maps.AppendAt
import Derived.RegionTactic
import Derived.Deep.RegionHeld3
import Derived.IntWalk
import Derived.Deep.Upon
import Derived.Laws.OwnMore
import Derived.Maps.AppendAt
import Derived.Laws.Small
import Derived.Laws.BytesString
import Derived.Laws.Strings
import Derived.Lib.Bytes
import Derived.Lib.Strings
import Derived.Lib.FrozenHead
import Derived.Lib.RuneBytes
import Derived.Lib.LaidTab
import Derived.Laws.StructEq
import Derived.Lib.MapLaws
import Derived.Lib.OthersKept
import Derived.Laws.RangeAny
import Derived.Scope
import Derived.RangeFuncNested
import Derived.RangeFuncBound
import Derived.RangeFuncCalls
import Derived.RangeFuncLeaves
import Derived.OwnWalkIn
import Derived.TacticsInMore
import Derived.Lib.ItoaLen
import Derived.Lib.Join
import Derived.Shelf.Strconv.Itoa4
import Derived.Shelf.Strings.OnBuilder
import Derived.Shelf.Strings.BuilderK
import Derived.Shelf.Strings.BuilderRune
import Derived.Shelf.LaysM
import Derived.Ground.NamesProg
import Derived.Lib.ParseIntBTie
import Derived.Lib.SplitLaws
import Derived.Lib.Replace
import Derived.Shelf.LaysC
import Derived.Shelf.Strconv.ErrVarParseInt
import Derived.Shelf.Strconv.ParseIntPublic10
import Derived.Shelf.Strings.Prefix
import Derived.Shelf.Strings.Cut
import Derived.Shelf.Strings.Split
import Derived.Shelf.Strings.Replace
import Derived.Shelf.Small.Wraps
import Derived.Stop.IfaceNil
import Derived.Shelf.Small.Utf8
import Derived.Shelf.Strings.Runes
import Derived.Lib.IndexAny
import Derived.Shelf.Strings.IndexAnyAll
namespace Go.Proofs.YthfihlfjphiihaaGreatDoor
open Go.RowKit

open Go.Lib in
set_option maxRecDepth 100000 in
set_option maxHeartbeats 4000000 in
theorem spec_l05ReadRule (a0 : List UInt8) (w : World) (s0 : a0.length ≤ 2000000) :
    Calls Tryz.prog 19 #[.string (bs a0)] w fun e w' => ∃ (es0' : List Value), e = .returned (.tuple #[.agg es0'.toArray, .bool (rlS a0).2]) ∧ eRule.O w' (Fr w w') es0' (rlS a0).1 ∧ Below w.heap.size w w' := by
  have hd2 : (List.drop 2 a0).length = a0.length - 2 := List.length_drop
  have HH1 := Held.start Nob w
  refine enter (n := 52) Tryz.func19 rfl rfl rfl fun a_2 HE3 => ?_
  refine wp_seq ?_
  refine rg ?_
  refine pl fun K_4 hK5 => ?_
  refine st_alloc HE3 HH1 tv_34 (wt0 rfl) rfl fun q21 a_6 w' HE7 HH8 => hK5 _ _ ?_
  refine pl_x HE7 HH8 (wt0 rfl) (x_assign rfl) rfl rfl fun a_9 HE10 => ?_
  refine wpList_nil ?_
  clear a_2 HE3 HH1 a_6 HE7 hK5 K_4
  refine nrm ?_
  refine wp_seq ?_
  refine wp_seq ?_
  refine rg ?_
  refine pl_x HE10 HH8 (wt0 rfl) (x_move rfl) rfl rfl fun a_11 HE12 => ?_
  refine pl_x HE12 HH8 (wt0 rfl) (x_seqlB rfl rfl) rfl rfl fun a_13 HE14 => ?_
  refine wpList_nil ?_
  clear a_9 HE10 a_11 HE12
  refine nrm ?_
  refine cnd_d HE14 rfl (fun hc22 => ?_) (fun hc22 => ?_)
  · refine wp_seq ?_
    refine rg ?_
    refine pl fun K_15 hK16 => ?_
    refine st_call HE14 (wt0 rfl) rfl rfl rfl en_34 rfl rfl (spec_l05None  _ ) fun e w' hr => ?_
    obtain ⟨esr23_0, rfl, hor23_0, hbr23⟩ := hr
    have hr := eRule.read hor23_0
    obtain ⟨Sr23, HH17⟩ := HH8.newO hbr23 hor23_0
    obtain ⟨rfl, gr23_0_0, gr23_0_1, gr23_0_2⟩ := shape_Rule hr
    have jr23_0_0 := gr23_0_0; unfold I64 at jr23_0_0
    have jr23_0_1 := gr23_0_1; unfold I64 at jr23_0_1
    have jr23_0_2 := gr23_0_2; unfold I64 at jr23_0_2
    have HH18 := HH17.sel [1] (by decide) rfl
    refine ⟨_, rfl, fun a_19 HE20 => hK16 _ _ ?_⟩
    refine pl fun K_21 hK22 => ?_
    refine st_store (vs := [.int .i64 (noRl.1), .int .i64 (noRl.2.1), .int .i64 (noRl.2.2)]) 0 HE20 HH18 tv_34 rfl rfl rfl rfl rfl rfl (by simp [Value.oneCell']) (wt0 rfl) fun w' HH23 => hK22 _ _ ?_
    refine pl_x HE20 HH23 (wt0 rfl) (x_assign rfl) rfl rfl fun a_24 HE25 => ?_
    refine wpList_nil ?_
    clear HH8 HH17 a_13 HE14 K_15 hK16 HH18 a_19 HE20 hK22 K_21
    refine nrm ?_
    refine wp_ret ?_
    refine (thn_ret ?_)
    refine ret2 HE25 rfl (rv_cell rfl (tv_34.loadN (cs := [.int .i64 (noRl.1), .int .i64 (noRl.2.1), .int .i64 (noRl.2.2)]) rfl (c_blkN 0 rfl _ HH23))) (rv_tmp rfl) ?_
    have HH26 := HH23.flatO (E := eRule) (cs := [.int .i64 (noRl.1), .int .i64 (noRl.2.1), .int .i64 (noRl.2.2)]) (x := noRl) (fun _ => (oPrN (oI (by exact ⟨by omega, by omega⟩)) (oPrN (oI (by exact ⟨by omega, by omega⟩)) (oI (by exact ⟨by omega, by omega⟩)))))
    have hF : (rlS a0) = (noRl, true) := by
      first | exact rlS_bar (by assumption) | exact rlS_no (by assumption) (fun hh => absurd hh.1 (by omega)) | exact rlS_nd (by assumption) g0 (by assumption) | exact rlS_nl (by assumption) g1 (by assumption) (by assumption) | (rw [rlS_yL (by assumption) (by omega) g0 g1 (by assumption) (by omega)]; first | (rw [(by assumption : (numC (a0.drop 2)).2 = true), Bool.true_and]; done) | (rw [(by assumption : (numC (a0.drop 2)).2 = false), Bool.false_and]; done)) | (rw [rlS_yR (by assumption) (by omega) g0 g1 (by assumption) (by omega)]; first | (rw [(by assumption : (numC (a0.drop 2)).2 = true), Bool.true_and]; done) | (rw [(by assumption : (numC (a0.drop 2)).2 = false), Bool.false_and]; done))
    exact ⟨_, by first | (rw [hF] <;> rfl) | rfl | (rw [hF]; simp only [Ending.returned.injEq, Value.slice.injEq, true_and, and_true]; first | omega | (simp; done)) | (rw [hF]; simp; omega), by rw [hF]; exact (HH26.o (i := 0) rfl), HH26.below⟩
  · refine wp_skip ?_
    refine nrm ?_
    refine wp_seq ?_
    refine wp_seq ?_
    refine rg ?_
    refine pl_x HE14 HH8 (wt0 rfl) (x_move rfl) rfl rfl fun a_27 HE28 => ?_
    refine pl_x HE28 HH8 (wt0 rfl) (x_lenB Tryz.underlying9 rfl) rfl rfl fun a_29 HE30 => ?_
    refine pl_x HE30 HH8 (wt0 rfl) (x_lss rfl rfl) rfl rfl fun a_31 HE32 => ?_
    refine pl_x HE32 HH8 (wt0 rfl) (x_move rfl) rfl rfl fun a_33 HE34 => ?_
    by_cases hc24 : (List.length a0 : Int) < 3
    · refine pl_no HE34 (wtF HE34 rfl rfl rfl (decide_eq_true hc24)) rfl rfl fun a_35 HE36 => ?_
      refine pl_no HE36 (wtF HE36 rfl rfl rfl (decide_eq_true hc24)) rfl rfl fun a_37 HE38 => ?_
      refine pl_no HE38 (wtF HE38 rfl rfl rfl (decide_eq_true hc24)) rfl rfl fun a_39 HE40 => ?_
      refine pl_no HE40 (wtF HE40 rfl rfl rfl (decide_eq_true hc24)) rfl rfl fun a_41 HE42 => ?_
      refine pl_x HE42 HH8 (wt0 rfl) (x_pickT rfl (decide_eq_true hc24) rfl) rfl rfl fun a_43 HE44 => ?_
      refine pl_x HE44 HH8 (wt0 rfl) (x_move rfl) rfl rfl fun a_45 HE46 => ?_
      refine pl_no HE46 (wtF HE46 rfl rfl rfl rfl) rfl rfl fun a_47 HE48 => ?_
      refine pl_no HE48 (wtF HE48 rfl rfl rfl rfl) rfl rfl fun a_49 HE50 => ?_
      refine pl_no HE50 (wtF HE50 rfl rfl rfl rfl) rfl rfl fun a_51 HE52 => ?_
      refine pl_no HE52 (wtF HE52 rfl rfl rfl rfl) rfl rfl fun a_53 HE54 => ?_
      refine pl_no HE54 (wtU HE54 rfl rfl rfl) rfl rfl fun a_55 HE56 => ?_
      refine pl_no HE56 (wtU HE56 rfl rfl rfl) rfl rfl fun a_57 HE58 => ?_
      refine pl_no HE58 (wtU HE58 rfl rfl rfl) rfl rfl fun a_59 HE60 => ?_
      refine pl_no HE60 (wtF HE60 rfl rfl rfl rfl) rfl rfl fun a_61 HE62 => ?_
      refine pl_x HE62 HH8 (wt0 rfl) (x_pickT rfl rfl rfl) rfl rfl fun a_63 HE64 => ?_
      refine wpList_nil ?_
      clear a_13 HE14 a_27 HE28 a_29 HE30 a_31 HE32 a_33 HE34 a_35 HE36 a_37 HE38 a_39 HE40 a_41 HE42 a_43 HE44 a_45 HE46 a_47 HE48 a_49 HE50 a_51 HE52 a_53 HE54 a_55 HE56 a_57 HE58 a_59 HE60 a_61 HE62
      refine nrm ?_
      refine cndT HE64 rfl rfl ?_
      refine wp_seq ?_
      refine rg ?_
      refine pl_x HE64 HH8 (wt0 rfl) (show XS _ _ _ _ (.agg #[.int .i64 (0), .int .i64 (0), .int .i64 (0)]) from x_build (vs := []) tb_34 rfl (by simp [Value.oneCell'])) rfl rfl fun a_65 HE66 => ?_
      refine pl fun K_67 hK68 => ?_
      refine st_store (vs := [.int .i64 (0), .int .i64 (0), .int .i64 (0)]) 0 HE66 HH8 tv_34 rfl rfl rfl rfl rfl rfl (by simp [Value.oneCell']) (wt0 rfl) fun w' HH69 => hK68 _ _ ?_
      refine pl_x HE66 HH69 (wt0 rfl) (x_assign rfl) rfl rfl fun a_70 HE71 => ?_
      refine wpList_nil ?_
      clear a_63 HE64 HH8 a_65 HE66 hK68 K_67
      refine nrm ?_
      refine wp_ret ?_
      refine (thn_ret ?_)
      refine ret2 HE71 rfl (rv_cell rfl (tv_34.loadN (cs := [.int .i64 (0), .int .i64 (0), .int .i64 (0)]) rfl (c_blkN 0 rfl _ HH69))) (rv_tmp rfl) ?_
      have HH72 := HH69.flatO (E := eRule) (cs := [.int .i64 (0), .int .i64 (0), .int .i64 (0)]) (x := (0, 0, 0)) (fun _ => (oPrN (oI (by exact ⟨by omega, by omega⟩)) (oPrN (oI (by exact ⟨by omega, by omega⟩)) (oI (by exact ⟨by omega, by omega⟩)))))
      have hF : (rlS a0) = ((0, 0, 0), false) := by
        first | exact rlS_bar (by assumption) | exact rlS_no (by assumption) (fun hh => absurd hh.1 (by omega)) | exact rlS_nd (by assumption) g0 (by assumption) | exact rlS_nl (by assumption) g1 (by assumption) (by assumption) | (rw [rlS_yL (by assumption) (by omega) g0 g1 (by assumption) (by omega)]; first | (rw [(by assumption : (numC (a0.drop 2)).2 = true), Bool.true_and]; done) | (rw [(by assumption : (numC (a0.drop 2)).2 = false), Bool.false_and]; done)) | (rw [rlS_yR (by assumption) (by omega) g0 g1 (by assumption) (by omega)]; first | (rw [(by assumption : (numC (a0.drop 2)).2 = true), Bool.true_and]; done) | (rw [(by assumption : (numC (a0.drop 2)).2 = false), Bool.false_and]; done))
      exact ⟨_, by first | (rw [hF] <;> rfl) | rfl | (rw [hF]; simp only [Ending.returned.injEq, Value.slice.injEq, true_and, and_true]; first | omega | (simp; done)) | (rw [hF]; simp; omega), by rw [hF]; exact (HH72.o (i := 0) rfl), HH72.below⟩
    · refine pl_x HE34 HH8 (wtT HE34 rfl rfl rfl (decide_eq_false hc24)) (x_move rfl) rfl rfl fun a_73 HE74 => ?_
      have ke25 : 0 < List.length a0 := by first | omega | (simp only [List.length_cons, List.length_nil]; omega)
      obtain ⟨e25, xe25⟩ : ∃ x_, x_ = a0[0] := ⟨_, rfl⟩
      have je25 : 0 ≤ (e25.toNat : Int) ∧ (e25.toNat : Int) ≤ 255 := by have := e25.toNat_lt; omega
      have g0 : a0[0]?.getD 0 = e25 := by rw [xe25, List.getElem?_eq_getElem ke25]; rfl
      refine pl_x HE74 HH8 (wtT HE74 rfl rfl rfl (decide_eq_false hc24)) (x_idxB Tryz.underlying9 rfl rfl rfl ke25 xe25) rfl rfl fun a_75 HE76 => ?_
      refine pl fun K_77 hK78 => ?_
      refine st_call HE76 (wtT HE76 rfl rfl rfl (decide_eq_false hc24)) rfl rfl rfl en_35 rfl rfl (spec_l01Digit (e25.toNat : Int) _ ) fun e w' hr => ?_
      obtain ⟨rfl, hbr26⟩ := hr
      have HH79 := HH8.on hbr26
      refine ⟨_, rfl, fun a_80 HE81 => hK78 _ _ ?_⟩
      refine pl_x HE81 HH79 (wtT HE81 rfl rfl rfl (decide_eq_false hc24)) (x_not rfl) rfl rfl fun a_82 HE83 => ?_
      refine pl_x HE83 HH79 (wt0 rfl) (x_pickF rfl (decide_eq_false hc24) rfl) rfl rfl fun a_84 HE85 => ?_
      refine pl_x HE85 HH79 (wt0 rfl) (x_move rfl) rfl rfl fun a_86 HE87 => ?_
      rcases Bool.eq_false_or_eq_true ((digB (e25.toNat : Int))) with hc27 | hc27
      · have d0 := hc27
        unfold digB at d0
        simp only [Bool.and_eq_true, decide_eq_true_eq] at d0
        refine pl_x HE87 HH79 (wtT HE87 rfl rfl rfl (not_f hc27)) (x_move rfl) rfl rfl fun a_88 HE89 => ?_
        have ke28 : 1 < List.length a0 := by first | omega | (simp only [List.length_cons, List.length_nil]; omega)
        obtain ⟨e28, xe28⟩ : ∃ x_, x_ = a0[1] := ⟨_, rfl⟩
        have je28 : 0 ≤ (e28.toNat : Int) ∧ (e28.toNat : Int) ≤ 255 := by have := e28.toNat_lt; omega
        have g1 : a0[1]?.getD 0 = e28 := by rw [xe28, List.getElem?_eq_getElem ke28]; rfl
        refine pl_x HE89 HH79 (wtT HE89 rfl rfl rfl (not_f hc27)) (x_idxB Tryz.underlying9 rfl rfl rfl ke28 xe28) rfl rfl fun a_90 HE91 => ?_
        refine pl_x HE91 HH79 (wtT HE91 rfl rfl rfl (not_f hc27)) (x_neq rfl rfl) rfl rfl fun a_92 HE93 => ?_
        refine pl_x HE93 HH79 (wtT HE93 rfl rfl rfl (not_f hc27)) (x_move rfl) rfl rfl fun a_94 HE95 => ?_
        by_cases hc29 : ¬ (e28.toNat : Int) = 76
        · refine pl_x HE95 HH79 (wtT HE95 rfl rfl rfl (bne_t hc29)) (x_move rfl) rfl rfl fun a_96 HE97 => ?_
          refine pl_x HE97 HH79 (wtT HE97 rfl rfl rfl (bne_t hc29)) (x_idxB Tryz.underlying9 rfl rfl rfl ke28 xe28) rfl rfl fun a_98 HE99 => ?_
          refine pl_x HE99 HH79 (wtT HE99 rfl rfl rfl (bne_t hc29)) (x_neq rfl rfl) rfl rfl fun a_100 HE101 => ?_
          refine pl_x HE101 HH79 (wtT HE101 rfl rfl rfl (not_f hc27)) (x_pickT rfl (bne_t hc29) rfl) rfl rfl fun a_102 HE103 => ?_
          refine pl_x HE103 HH79 (wt0 rfl) (x_pickF rfl (not_f hc27) rfl) rfl rfl fun a_104 HE105 => ?_
          refine wpList_nil ?_
          clear a_13 HE14 a_27 HE28 a_29 HE30 a_31 HE32 a_33 HE34 a_73 HE74 HH8 a_75 HE76 a_80 HE81 a_82 HE83 a_84 HE85 a_86 HE87 a_88 HE89 a_90 HE91 a_92 HE93 a_94 HE95 a_96 HE97 a_98 HE99 a_100 HE101 a_102 HE103 hK78 K_77
          refine nrm ?_
          refine cnd_ne HE105 rfl (fun hc30 => ?_) (fun hc30 => ?_)
          · refine wp_seq ?_
            refine rg ?_
            refine pl_x HE105 HH79 (wt0 rfl) (show XS _ _ _ _ (.agg #[.int .i64 (0), .int .i64 (0), .int .i64 (0)]) from x_build (vs := []) tb_34 rfl (by simp [Value.oneCell'])) rfl rfl fun a_106 HE107 => ?_
            refine pl fun K_108 hK109 => ?_
            refine st_store (vs := [.int .i64 (0), .int .i64 (0), .int .i64 (0)]) 0 HE107 HH79 tv_34 rfl rfl rfl rfl rfl rfl (by simp [Value.oneCell']) (wt0 rfl) fun w' HH110 => hK109 _ _ ?_
            refine pl_x HE107 HH110 (wt0 rfl) (x_assign rfl) rfl rfl fun a_111 HE112 => ?_
            refine wpList_nil ?_
            clear a_104 HE105 HH79 a_106 HE107 hK109 K_108
            refine nrm ?_
            refine wp_ret ?_
            refine (thn_ret ?_)
            refine ret2 HE112 rfl (rv_cell rfl (tv_34.loadN (cs := [.int .i64 (0), .int .i64 (0), .int .i64 (0)]) rfl (c_blkN 0 rfl _ HH110))) (rv_tmp rfl) ?_
            have HH113 := HH110.flatO (E := eRule) (cs := [.int .i64 (0), .int .i64 (0), .int .i64 (0)]) (x := (0, 0, 0)) (fun _ => (oPrN (oI (by exact ⟨by omega, by omega⟩)) (oPrN (oI (by exact ⟨by omega, by omega⟩)) (oI (by exact ⟨by omega, by omega⟩)))))
            have hF : (rlS a0) = ((0, 0, 0), false) := by
              first | exact rlS_bar (by assumption) | exact rlS_no (by assumption) (fun hh => absurd hh.1 (by omega)) | exact rlS_nd (by assumption) g0 (by assumption) | exact rlS_nl (by assumption) g1 (by assumption) (by assumption) | (rw [rlS_yL (by assumption) (by omega) g0 g1 (by assumption) (by omega)]; first | (rw [(by assumption : (numC (a0.drop 2)).2 = true), Bool.true_and]; done) | (rw [(by assumption : (numC (a0.drop 2)).2 = false), Bool.false_and]; done)) | (rw [rlS_yR (by assumption) (by omega) g0 g1 (by assumption) (by omega)]; first | (rw [(by assumption : (numC (a0.drop 2)).2 = true), Bool.true_and]; done) | (rw [(by assumption : (numC (a0.drop 2)).2 = false), Bool.false_and]; done))
            exact ⟨_, by first | (rw [hF] <;> rfl) | rfl | (rw [hF]; simp only [Ending.returned.injEq, Value.slice.injEq, true_and, and_true]; first | omega | (simp; done)) | (rw [hF]; simp; omega), by rw [hF]; exact (HH113.o (i := 0) rfl), HH113.below⟩
          · refine wp_skip ?_
            refine nrm ?_
            refine wp_seq ?_
            refine rg ?_
            refine pl_x HE105 HH79 (wt0 rfl) (x_move rfl) rfl rfl fun a_114 HE115 => ?_
            refine pl_x HE115 HH79 (wt0 rfl) (x_sliceSL (k := 2) Tryz.underlying9 rfl rfl rfl (by first | omega | (simp only [List.length_append, List.length_cons, List.length_nil]; omega) | (simp; omega))) rfl rfl fun a_116 HE117 => ?_
            refine pl fun K_118 hK119 => ?_
            refine st_call HE117 (wt0 rfl) rfl rfl rfl en_36 rfl rfl (spec_l01Number (a0.drop 2) _ (by omega)) fun e w' hr => ?_
            have hAr31_0 := numC_bd (a0.drop 2)
            obtain ⟨rfl, hbr31⟩ := hr
            have HH120 := HH79.on hbr31
            refine ⟨_, rfl, fun a_121 HE122 => hK119 _ _ ?_⟩
            refine pl_x HE122 HH120 (wt0 rfl) (x_move rfl) rfl rfl fun a_123 HE124 => ?_
            refine pl_x HE124 HH120 (wt0 rfl) (x_extract rfl rfl) rfl rfl fun a_125 HE126 => ?_
            refine pl_x HE126 HH120 (wt0 rfl) (x_extract rfl rfl) rfl rfl fun a_127 HE128 => ?_
            refine pl_x HE128 HH120 (wt0 rfl) (x_assign rfl) rfl rfl fun a_129 HE130 => ?_
            refine pl_x HE130 HH120 (wt0 rfl) (x_assign rfl) rfl rfl fun a_131 HE132 => ?_
            refine wpList_nil ?_
            clear a_104 HE105 a_114 HE115 HH79 a_116 HE117 a_121 HE122 a_123 HE124 a_125 HE126 a_127 HE128 a_129 HE130 hK119 K_118
            refine nrm ?_
            refine wp_seq ?_
            refine rg ?_
            refine pl_x HE132 HH120 (wt0 rfl) (x_move rfl) rfl rfl fun a_133 HE134 => ?_
            refine pl_x HE134 HH120 (wt0 rfl) (x_idxB Tryz.underlying9 rfl rfl rfl ke25 xe25) rfl rfl fun a_135 HE136 => ?_
            refine pl_x HE136 HH120 (wt0 rfl) (x_sub8 rfl rfl (by constructor <;> omega)) rfl rfl fun a_137 HE138 => ?_
            refine pl_x HE138 HH120 (wt0 rfl) (x_conv Tryz.underlying5 Tryz.underlying2 rfl (by exact ⟨by omega, by omega⟩)) rfl rfl fun a_139 HE140 => ?_
            refine pl_x HE140 HH120 (wt0 rfl) (x_move rfl) rfl rfl fun a_141 HE142 => ?_
            refine pl_x HE142 HH120 (wt0 rfl) (show XS _ _ _ _ (.agg #[.int .i64 (((e25.toNat : Int) - 48)), .int .i64 (1), .int .i64 ((numC (a0.drop 2)).1)]) from x_build (vs := [(0, .int .i64 (((e25.toNat : Int) - 48))), (1, .int .i64 (1)), (2, .int .i64 ((numC (a0.drop 2)).1))]) tb_34 rfl (by simp [Value.oneCell'])) rfl rfl fun a_143 HE144 => ?_
            refine pl fun K_145 hK146 => ?_
            refine st_alloc HE144 HH120 tv_34 (wt0 rfl) rfl fun q32 a_147 w' HE148 HH149 => hK146 _ _ ?_
            refine pl fun K_150 hK151 => ?_
            refine st_store (vs := [.int .i64 (((e25.toNat : Int) - 48)), .int .i64 (1), .int .i64 ((numC (a0.drop 2)).1)]) 0 HE148 HH149 tv_34 rfl rfl rfl rfl rfl rfl (by simp [Value.oneCell']) (wt0 rfl) fun w' HH152 => hK151 _ _ ?_
            refine wpList_nil ?_
            clear a_131 HE132 a_133 HE134 a_135 HE136 a_137 HE138 a_139 HE140 a_141 HE142 a_143 HE144 HH120 K_145 hK146 HH149 hK151 K_150
            refine nrm ?_
            refine wp_seq ?_
            refine wp_seq ?_
            refine rg ?_
            refine pl_x HE148 HH152 (wt0 rfl) (x_move rfl) rfl rfl fun a_153 HE154 => ?_
            refine pl_x HE154 HH152 (wt0 rfl) (x_idxB Tryz.underlying9 rfl rfl rfl ke28 xe28) rfl rfl fun a_155 HE156 => ?_
            refine pl_x HE156 HH152 (wt0 rfl) (x_eql rfl rfl) rfl rfl fun a_157 HE158 => ?_
            refine wpList_nil ?_
            clear a_147 HE148 a_153 HE154 a_155 HE156
            refine nrm ?_
            refine cndF HE158 rfl (beq_f hc29) ?_
            refine wp_skip ?_
            refine nrm ?_
            refine wp_seq ?_
            refine rg ?_
            refine pl_x HE158 HH152 (wt0 rfl) (x_loadN (cs := [.int .i64 (((e25.toNat : Int) - 48)), .int .i64 (1), .int .i64 ((numC (a0.drop 2)).1)]) tv_34 rfl rfl (c_blkN 0 rfl)) rfl rfl fun a_159 HE160 => ?_
            refine pl_x HE160 HH152 (wt0 rfl) (x_move rfl) rfl rfl fun a_161 HE162 => ?_
            refine pl_x HE162 HH152 (wt0 rfl) (x_move rfl) rfl rfl fun a_163 HE164 => ?_
            rcases Bool.eq_false_or_eq_true ((numC (a0.drop 2)).2) with hc33 | hc33
            · refine pl_x HE164 HH152 (wtT HE164 rfl rfl rfl hc33) (x_move rfl) rfl rfl fun a_165 HE166 => ?_
              refine pl_x HE166 HH152 (wtT HE166 rfl rfl rfl hc33) (x_geq rfl rfl) rfl rfl fun a_167 HE168 => ?_
              refine pl_x HE168 HH152 (wt0 rfl) (x_pickT rfl hc33 rfl) rfl rfl fun a_169 HE170 => ?_
              refine pl fun K_171 hK172 => ?_
              refine st_store (vs := [.int .i64 (((e25.toNat : Int) - 48)), .int .i64 (1), .int .i64 ((numC (a0.drop 2)).1)]) 1 HE170 HH152 tv_34 rfl rfl rfl rfl rfl rfl (by simp [Value.oneCell']) (wt0 rfl) fun w' HH173 => hK172 _ _ ?_
              refine pl_x HE170 HH173 (wt0 rfl) (x_assign rfl) rfl rfl fun a_174 HE175 => ?_
              refine wpList_nil ?_
              clear a_157 HE158 a_159 HE160 a_161 HE162 a_163 HE164 a_165 HE166 a_167 HE168 HH152 a_169 HE170 hK172 K_171
              refine nrm ?_
              refine wp_ret ?_
              refine ret2 HE175 rfl (rv_cell rfl (tv_34.loadN (cs := [.int .i64 (((e25.toNat : Int) - 48)), .int .i64 (1), .int .i64 ((numC (a0.drop 2)).1)]) rfl (c_blkN 1 rfl _ HH173))) (rv_tmp rfl) ?_
              have HH176 := HH173.flatO (E := eRule) (cs := [.int .i64 (((e25.toNat : Int) - 48)), .int .i64 (1), .int .i64 ((numC (a0.drop 2)).1)]) (x := (((e25.toNat : Int) - 48), 1, (numC (a0.drop 2)).1)) (fun _ => (oPrN (oI (by exact ⟨by omega, by omega⟩)) (oPrN (oI (by exact ⟨by omega, by omega⟩)) (oI (by exact ⟨by omega, by omega⟩)))))
              have hF : (rlS a0) = ((((e25.toNat : Int) - 48), 1, (numC (a0.drop 2)).1), decide (0 ≤ (numC (a0.drop 2)).1)) := by
                first | exact rlS_bar (by assumption) | exact rlS_no (by assumption) (fun hh => absurd hh.1 (by omega)) | exact rlS_nd (by assumption) g0 (by assumption) | exact rlS_nl (by assumption) g1 (by assumption) (by assumption) | (rw [rlS_yL (by assumption) (by omega) g0 g1 (by assumption) (by omega)]; first | (rw [(by assumption : (numC (a0.drop 2)).2 = true), Bool.true_and]; done) | (rw [(by assumption : (numC (a0.drop 2)).2 = false), Bool.false_and]; done)) | (rw [rlS_yR (by assumption) (by omega) g0 g1 (by assumption) (by omega)]; first | (rw [(by assumption : (numC (a0.drop 2)).2 = true), Bool.true_and]; done) | (rw [(by assumption : (numC (a0.drop 2)).2 = false), Bool.false_and]; done))
              exact ⟨_, by first | (rw [hF] <;> rfl) | rfl | (rw [hF]; simp only [Ending.returned.injEq, Value.slice.injEq, true_and, and_true]; first | omega | (simp; done)) | (rw [hF]; simp; omega), by rw [hF]; exact (HH176.o (i := 0) rfl), HH176.below⟩
            · refine pl_no HE164 (wtF HE164 rfl rfl rfl hc33) rfl rfl fun a_177 HE178 => ?_
              refine pl_no HE178 (wtF HE178 rfl rfl rfl hc33) rfl rfl fun a_179 HE180 => ?_
              refine pl_x HE180 HH152 (wt0 rfl) (x_pickF rfl hc33 rfl) rfl rfl fun a_181 HE182 => ?_
              refine pl fun K_183 hK184 => ?_
              refine st_store (vs := [.int .i64 (((e25.toNat : Int) - 48)), .int .i64 (1), .int .i64 ((numC (a0.drop 2)).1)]) 1 HE182 HH152 tv_34 rfl rfl rfl rfl rfl rfl (by simp [Value.oneCell']) (wt0 rfl) fun w' HH185 => hK184 _ _ ?_
              refine pl_x HE182 HH185 (wt0 rfl) (x_assign rfl) rfl rfl fun a_186 HE187 => ?_
              refine wpList_nil ?_
              clear a_157 HE158 a_159 HE160 a_161 HE162 a_163 HE164 a_177 HE178 a_179 HE180 HH152 a_181 HE182 hK184 K_183
              refine nrm ?_
              refine wp_ret ?_
              refine ret2 HE187 rfl (rv_cell rfl (tv_34.loadN (cs := [.int .i64 (((e25.toNat : Int) - 48)), .int .i64 (1), .int .i64 ((numC (a0.drop 2)).1)]) rfl (c_blkN 1 rfl _ HH185))) (rv_tmp rfl) ?_
              have HH188 := HH185.flatO (E := eRule) (cs := [.int .i64 (((e25.toNat : Int) - 48)), .int .i64 (1), .int .i64 ((numC (a0.drop 2)).1)]) (x := (((e25.toNat : Int) - 48), 1, (numC (a0.drop 2)).1)) (fun _ => (oPrN (oI (by exact ⟨by omega, by omega⟩)) (oPrN (oI (by exact ⟨by omega, by omega⟩)) (oI (by exact ⟨by omega, by omega⟩)))))
              have hF : (rlS a0) = ((((e25.toNat : Int) - 48), 1, (numC (a0.drop 2)).1), false) := by
                first | exact rlS_bar (by assumption) | exact rlS_no (by assumption) (fun hh => absurd hh.1 (by omega)) | exact rlS_nd (by assumption) g0 (by assumption) | exact rlS_nl (by assumption) g1 (by assumption) (by assumption) | (rw [rlS_yL (by assumption) (by omega) g0 g1 (by assumption) (by omega)]; first | (rw [(by assumption : (numC (a0.drop 2)).2 = true), Bool.true_and]; done) | (rw [(by assumption : (numC (a0.drop 2)).2 = false), Bool.false_and]; done)) | (rw [rlS_yR (by assumption) (by omega) g0 g1 (by assumption) (by omega)]; first | (rw [(by assumption : (numC (a0.drop 2)).2 = true), Bool.true_and]; done) | (rw [(by assumption : (numC (a0.drop 2)).2 = false), Bool.false_and]; done))
              exact ⟨_, by first | (rw [hF] <;> rfl) | rfl | (rw [hF]; simp only [Ending.returned.injEq, Value.slice.injEq, true_and, and_true]; first | omega | (simp; done)) | (rw [hF]; simp; omega), by rw [hF]; exact (HH188.o (i := 0) rfl), HH188.below⟩
        · replace hc29 := Classical.not_not.1 hc29
          refine pl_no HE95 (wtF HE95 rfl rfl rfl (bne_f hc29)) rfl rfl fun a_189 HE190 => ?_
          refine pl_no HE190 (wtF HE190 rfl rfl rfl (bne_f hc29)) rfl rfl fun a_191 HE192 => ?_
          refine pl_no HE192 (wtF HE192 rfl rfl rfl (bne_f hc29)) rfl rfl fun a_193 HE194 => ?_
          refine pl_x HE194 HH79 (wtT HE194 rfl rfl rfl (not_f hc27)) (x_pickF rfl (bne_f hc29) rfl) rfl rfl fun a_195 HE196 => ?_
          refine pl_x HE196 HH79 (wt0 rfl) (x_pickF rfl (not_f hc27) rfl) rfl rfl fun a_197 HE198 => ?_
          refine wpList_nil ?_
          clear a_13 HE14 a_27 HE28 a_29 HE30 a_31 HE32 a_33 HE34 a_73 HE74 HH8 a_75 HE76 a_80 HE81 a_82 HE83 a_84 HE85 a_86 HE87 a_88 HE89 a_90 HE91 a_92 HE93 a_94 HE95 a_189 HE190 a_191 HE192 a_193 HE194 a_195 HE196 hK78 K_77
          refine nrm ?_
          refine cndF HE198 rfl rfl ?_
          refine wp_skip ?_
          refine nrm ?_
          refine wp_seq ?_
          refine rg ?_
          refine pl_x HE198 HH79 (wt0 rfl) (x_move rfl) rfl rfl fun a_199 HE200 => ?_
          refine pl_x HE200 HH79 (wt0 rfl) (x_sliceSL (k := 2) Tryz.underlying9 rfl rfl rfl (by first | omega | (simp only [List.length_append, List.length_cons, List.length_nil]; omega) | (simp; omega))) rfl rfl fun a_201 HE202 => ?_
          refine pl fun K_203 hK204 => ?_
          refine st_call HE202 (wt0 rfl) rfl rfl rfl en_36 rfl rfl (spec_l01Number (a0.drop 2) _ (by omega)) fun e w' hr => ?_
          have hAr34_0 := numC_bd (a0.drop 2)
          obtain ⟨rfl, hbr34⟩ := hr
          have HH205 := HH79.on hbr34
          refine ⟨_, rfl, fun a_206 HE207 => hK204 _ _ ?_⟩
          refine pl_x HE207 HH205 (wt0 rfl) (x_move rfl) rfl rfl fun a_208 HE209 => ?_
          refine pl_x HE209 HH205 (wt0 rfl) (x_extract rfl rfl) rfl rfl fun a_210 HE211 => ?_
          refine pl_x HE211 HH205 (wt0 rfl) (x_extract rfl rfl) rfl rfl fun a_212 HE213 => ?_
          refine pl_x HE213 HH205 (wt0 rfl) (x_assign rfl) rfl rfl fun a_214 HE215 => ?_
          refine pl_x HE215 HH205 (wt0 rfl) (x_assign rfl) rfl rfl fun a_216 HE217 => ?_
          refine wpList_nil ?_
          clear a_197 HE198 a_199 HE200 HH79 a_201 HE202 a_206 HE207 a_208 HE209 a_210 HE211 a_212 HE213 a_214 HE215 hK204 K_203
          refine nrm ?_
          refine wp_seq ?_
          refine rg ?_
          refine pl_x HE217 HH205 (wt0 rfl) (x_move rfl) rfl rfl fun a_218 HE219 => ?_
          refine pl_x HE219 HH205 (wt0 rfl) (x_idxB Tryz.underlying9 rfl rfl rfl ke25 xe25) rfl rfl fun a_220 HE221 => ?_
          refine pl_x HE221 HH205 (wt0 rfl) (x_sub8 rfl rfl (by constructor <;> omega)) rfl rfl fun a_222 HE223 => ?_
          refine pl_x HE223 HH205 (wt0 rfl) (x_conv Tryz.underlying5 Tryz.underlying2 rfl (by exact ⟨by omega, by omega⟩)) rfl rfl fun a_224 HE225 => ?_
          refine pl_x HE225 HH205 (wt0 rfl) (x_move rfl) rfl rfl fun a_226 HE227 => ?_
          refine pl_x HE227 HH205 (wt0 rfl) (show XS _ _ _ _ (.agg #[.int .i64 (((e25.toNat : Int) - 48)), .int .i64 (1), .int .i64 ((numC (a0.drop 2)).1)]) from x_build (vs := [(0, .int .i64 (((e25.toNat : Int) - 48))), (1, .int .i64 (1)), (2, .int .i64 ((numC (a0.drop 2)).1))]) tb_34 rfl (by simp [Value.oneCell'])) rfl rfl fun a_228 HE229 => ?_
          refine pl fun K_230 hK231 => ?_
          refine st_alloc HE229 HH205 tv_34 (wt0 rfl) rfl fun q35 a_232 w' HE233 HH234 => hK231 _ _ ?_
          refine pl fun K_235 hK236 => ?_
          refine st_store (vs := [.int .i64 (((e25.toNat : Int) - 48)), .int .i64 (1), .int .i64 ((numC (a0.drop 2)).1)]) 0 HE233 HH234 tv_34 rfl rfl rfl rfl rfl rfl (by simp [Value.oneCell']) (wt0 rfl) fun w' HH237 => hK236 _ _ ?_
          refine wpList_nil ?_
          clear a_216 HE217 a_218 HE219 a_220 HE221 a_222 HE223 a_224 HE225 a_226 HE227 a_228 HE229 HH205 K_230 hK231 HH234 hK236 K_235
          refine nrm ?_
          refine wp_seq ?_
          refine wp_seq ?_
          refine rg ?_
          refine pl_x HE233 HH237 (wt0 rfl) (x_move rfl) rfl rfl fun a_238 HE239 => ?_
          refine pl_x HE239 HH237 (wt0 rfl) (x_idxB Tryz.underlying9 rfl rfl rfl ke28 xe28) rfl rfl fun a_240 HE241 => ?_
          refine pl_x HE241 HH237 (wt0 rfl) (x_eql rfl rfl) rfl rfl fun a_242 HE243 => ?_
          refine wpList_nil ?_
          clear a_232 HE233 a_238 HE239 a_240 HE241
          refine nrm ?_
          refine cndT HE243 rfl (beq_t hc29) ?_
          refine rg ?_
          refine pl_x HE243 HH237 (wt0 rfl) (x_fieldAddr fa_34_1 rfl) rfl rfl fun a_244 HE245 => ?_
          refine pl fun K_246 hK247 => ?_
          refine st_store (vs := [.int .i64 (-1)]) 0 HE245 HH237 tv_2 rfl rfl rfl rfl rfl rfl (by simp [Value.oneCell']) (wt0 rfl) fun w' HH248 => hK247 _ _ ?_
          refine wpList_nil ?_
          clear a_242 HE243 HH237 hK247 K_246
          refine nrm ?_
          refine wp_seq ?_
          refine rg ?_
          refine pl_x HE245 HH248 (wt0 rfl) (x_loadN (cs := [.int .i64 (((e25.toNat : Int) - 48)), .int .i64 (-1), .int .i64 ((numC (a0.drop 2)).1)]) tv_34 rfl rfl (c_blkN 0 rfl)) rfl rfl fun a_249 HE250 => ?_
          refine pl_x HE250 HH248 (wt0 rfl) (x_move rfl) rfl rfl fun a_251 HE252 => ?_
          refine pl_x HE252 HH248 (wt0 rfl) (x_move rfl) rfl rfl fun a_253 HE254 => ?_
          rcases Bool.eq_false_or_eq_true ((numC (a0.drop 2)).2) with hc36 | hc36
          · refine pl_x HE254 HH248 (wtT HE254 rfl rfl rfl hc36) (x_move rfl) rfl rfl fun a_255 HE256 => ?_
            refine pl_x HE256 HH248 (wtT HE256 rfl rfl rfl hc36) (x_geq rfl rfl) rfl rfl fun a_257 HE258 => ?_
            refine pl_x HE258 HH248 (wt0 rfl) (x_pickT rfl hc36 rfl) rfl rfl fun a_259 HE260 => ?_
            refine pl fun K_261 hK262 => ?_
            refine st_store (vs := [.int .i64 (((e25.toNat : Int) - 48)), .int .i64 (-1), .int .i64 ((numC (a0.drop 2)).1)]) 1 HE260 HH248 tv_34 rfl rfl rfl rfl rfl rfl (by simp [Value.oneCell']) (wt0 rfl) fun w' HH263 => hK262 _ _ ?_
            refine pl_x HE260 HH263 (wt0 rfl) (x_assign rfl) rfl rfl fun a_264 HE265 => ?_
            refine wpList_nil ?_
            clear a_244 HE245 a_249 HE250 a_251 HE252 a_253 HE254 a_255 HE256 a_257 HE258 HH248 a_259 HE260 hK262 K_261
            refine nrm ?_
            refine wp_ret ?_
            refine ret2 HE265 rfl (rv_cell rfl (tv_34.loadN (cs := [.int .i64 (((e25.toNat : Int) - 48)), .int .i64 (-1), .int .i64 ((numC (a0.drop 2)).1)]) rfl (c_blkN 1 rfl _ HH263))) (rv_tmp rfl) ?_
            have HH266 := HH263.flatO (E := eRule) (cs := [.int .i64 (((e25.toNat : Int) - 48)), .int .i64 (-1), .int .i64 ((numC (a0.drop 2)).1)]) (x := (((e25.toNat : Int) - 48), -1, (numC (a0.drop 2)).1)) (fun _ => (oPrN (oI (by exact ⟨by omega, by omega⟩)) (oPrN (oI (by exact ⟨by omega, by omega⟩)) (oI (by exact ⟨by omega, by omega⟩)))))
            have hF : (rlS a0) = ((((e25.toNat : Int) - 48), -1, (numC (a0.drop 2)).1), decide (0 ≤ (numC (a0.drop 2)).1)) := by
              first | exact rlS_bar (by assumption) | exact rlS_no (by assumption) (fun hh => absurd hh.1 (by omega)) | exact rlS_nd (by assumption) g0 (by assumption) | exact rlS_nl (by assumption) g1 (by assumption) (by assumption) | (rw [rlS_yL (by assumption) (by omega) g0 g1 (by assumption) (by omega)]; first | (rw [(by assumption : (numC (a0.drop 2)).2 = true), Bool.true_and]; done) | (rw [(by assumption : (numC (a0.drop 2)).2 = false), Bool.false_and]; done)) | (rw [rlS_yR (by assumption) (by omega) g0 g1 (by assumption) (by omega)]; first | (rw [(by assumption : (numC (a0.drop 2)).2 = true), Bool.true_and]; done) | (rw [(by assumption : (numC (a0.drop 2)).2 = false), Bool.false_and]; done))
            exact ⟨_, by first | (rw [hF] <;> rfl) | rfl | (rw [hF]; simp only [Ending.returned.injEq, Value.slice.injEq, true_and, and_true]; first | omega | (simp; done)) | (rw [hF]; simp; omega), by rw [hF]; exact (HH266.o (i := 0) rfl), HH266.below⟩
          · refine pl_no HE254 (wtF HE254 rfl rfl rfl hc36) rfl rfl fun a_267 HE268 => ?_
            refine pl_no HE268 (wtF HE268 rfl rfl rfl hc36) rfl rfl fun a_269 HE270 => ?_
            refine pl_x HE270 HH248 (wt0 rfl) (x_pickF rfl hc36 rfl) rfl rfl fun a_271 HE272 => ?_
            refine pl fun K_273 hK274 => ?_
            refine st_store (vs := [.int .i64 (((e25.toNat : Int) - 48)), .int .i64 (-1), .int .i64 ((numC (a0.drop 2)).1)]) 1 HE272 HH248 tv_34 rfl rfl rfl rfl rfl rfl (by simp [Value.oneCell']) (wt0 rfl) fun w' HH275 => hK274 _ _ ?_
            refine pl_x HE272 HH275 (wt0 rfl) (x_assign rfl) rfl rfl fun a_276 HE277 => ?_
            refine wpList_nil ?_
            clear a_244 HE245 a_249 HE250 a_251 HE252 a_253 HE254 a_267 HE268 a_269 HE270 HH248 a_271 HE272 hK274 K_273
            refine nrm ?_
            refine wp_ret ?_
            refine ret2 HE277 rfl (rv_cell rfl (tv_34.loadN (cs := [.int .i64 (((e25.toNat : Int) - 48)), .int .i64 (-1), .int .i64 ((numC (a0.drop 2)).1)]) rfl (c_blkN 1 rfl _ HH275))) (rv_tmp rfl) ?_
            have HH278 := HH275.flatO (E := eRule) (cs := [.int .i64 (((e25.toNat : Int) - 48)), .int .i64 (-1), .int .i64 ((numC (a0.drop 2)).1)]) (x := (((e25.toNat : Int) - 48), -1, (numC (a0.drop 2)).1)) (fun _ => (oPrN (oI (by exact ⟨by omega, by omega⟩)) (oPrN (oI (by exact ⟨by omega, by omega⟩)) (oI (by exact ⟨by omega, by omega⟩)))))
            have hF : (rlS a0) = ((((e25.toNat : Int) - 48), -1, (numC (a0.drop 2)).1), false) := by
              first | exact rlS_bar (by assumption) | exact rlS_no (by assumption) (fun hh => absurd hh.1 (by omega)) | exact rlS_nd (by assumption) g0 (by assumption) | exact rlS_nl (by assumption) g1 (by assumption) (by assumption) | (rw [rlS_yL (by assumption) (by omega) g0 g1 (by assumption) (by omega)]; first | (rw [(by assumption : (numC (a0.drop 2)).2 = true), Bool.true_and]; done) | (rw [(by assumption : (numC (a0.drop 2)).2 = false), Bool.false_and]; done)) | (rw [rlS_yR (by assumption) (by omega) g0 g1 (by assumption) (by omega)]; first | (rw [(by assumption : (numC (a0.drop 2)).2 = true), Bool.true_and]; done) | (rw [(by assumption : (numC (a0.drop 2)).2 = false), Bool.false_and]; done))
            exact ⟨_, by first | (rw [hF] <;> rfl) | rfl | (rw [hF]; simp only [Ending.returned.injEq, Value.slice.injEq, true_and, and_true]; first | omega | (simp; done)) | (rw [hF]; simp; omega), by rw [hF]; exact (HH278.o (i := 0) rfl), HH278.below⟩
      · refine pl_no HE87 (wtF HE87 rfl rfl rfl (not_t hc27)) rfl rfl fun a_279 HE280 => ?_
        refine pl_no HE280 (wtF HE280 rfl rfl rfl (not_t hc27)) rfl rfl fun a_281 HE282 => ?_
        refine pl_no HE282 (wtF HE282 rfl rfl rfl (not_t hc27)) rfl rfl fun a_283 HE284 => ?_
        refine pl_no HE284 (wtF HE284 rfl rfl rfl (not_t hc27)) rfl rfl fun a_285 HE286 => ?_
        refine pl_no HE286 (wtU HE286 rfl rfl rfl) rfl rfl fun a_287 HE288 => ?_
        refine pl_no HE288 (wtU HE288 rfl rfl rfl) rfl rfl fun a_289 HE290 => ?_
        refine pl_no HE290 (wtU HE290 rfl rfl rfl) rfl rfl fun a_291 HE292 => ?_
        refine pl_no HE292 (wtF HE292 rfl rfl rfl (not_t hc27)) rfl rfl fun a_293 HE294 => ?_
        refine pl_x HE294 HH79 (wt0 rfl) (x_pickT rfl (not_t hc27) rfl) rfl rfl fun a_295 HE296 => ?_
        refine wpList_nil ?_
        clear a_13 HE14 a_27 HE28 a_29 HE30 a_31 HE32 a_33 HE34 a_73 HE74 HH8 a_75 HE76 a_80 HE81 a_82 HE83 a_84 HE85 a_86 HE87 a_279 HE280 a_281 HE282 a_283 HE284 a_285 HE286 a_287 HE288 a_289 HE290 a_291 HE292 a_293 HE294 hK78 K_77
        refine nrm ?_
        refine cndT HE296 rfl rfl ?_
        refine wp_seq ?_
        refine rg ?_
        refine pl_x HE296 HH79 (wt0 rfl) (show XS _ _ _ _ (.agg #[.int .i64 (0), .int .i64 (0), .int .i64 (0)]) from x_build (vs := []) tb_34 rfl (by simp [Value.oneCell'])) rfl rfl fun a_297 HE298 => ?_
        refine pl fun K_299 hK300 => ?_
        refine st_store (vs := [.int .i64 (0), .int .i64 (0), .int .i64 (0)]) 0 HE298 HH79 tv_34 rfl rfl rfl rfl rfl rfl (by simp [Value.oneCell']) (wt0 rfl) fun w' HH301 => hK300 _ _ ?_
        refine pl_x HE298 HH301 (wt0 rfl) (x_assign rfl) rfl rfl fun a_302 HE303 => ?_
        refine wpList_nil ?_
        clear a_295 HE296 HH79 a_297 HE298 hK300 K_299
        refine nrm ?_
        refine wp_ret ?_
        refine (thn_ret ?_)
        refine ret2 HE303 rfl (rv_cell rfl (tv_34.loadN (cs := [.int .i64 (0), .int .i64 (0), .int .i64 (0)]) rfl (c_blkN 0 rfl _ HH301))) (rv_tmp rfl) ?_
        have HH304 := HH301.flatO (E := eRule) (cs := [.int .i64 (0), .int .i64 (0), .int .i64 (0)]) (x := (0, 0, 0)) (fun _ => (oPrN (oI (by exact ⟨by omega, by omega⟩)) (oPrN (oI (by exact ⟨by omega, by omega⟩)) (oI (by exact ⟨by omega, by omega⟩)))))
        have hF : (rlS a0) = ((0, 0, 0), false) := by
          first | exact rlS_bar (by assumption) | exact rlS_no (by assumption) (fun hh => absurd hh.1 (by omega)) | exact rlS_nd (by assumption) g0 (by assumption) | exact rlS_nl (by assumption) g1 (by assumption) (by assumption) | (rw [rlS_yL (by assumption) (by omega) g0 g1 (by assumption) (by omega)]; first | (rw [(by assumption : (numC (a0.drop 2)).2 = true), Bool.true_and]; done) | (rw [(by assumption : (numC (a0.drop 2)).2 = false), Bool.false_and]; done)) | (rw [rlS_yR (by assumption) (by omega) g0 g1 (by assumption) (by omega)]; first | (rw [(by assumption : (numC (a0.drop 2)).2 = true), Bool.true_and]; done) | (rw [(by assumption : (numC (a0.drop 2)).2 = false), Bool.false_and]; done))
        exact ⟨_, by first | (rw [hF] <;> rfl) | rfl | (rw [hF]; simp only [Ending.returned.injEq, Value.slice.injEq, true_and, and_true]; first | omega | (simp; done)) | (rw [hF]; simp; omega), by rw [hF]; exact (HH304.o (i := 0) rfl), HH304.below⟩

open Go.Lib in
theorem rlT_ok {r : tRule} (h : okRl r) : (rlT r).length ≤ 41 := by
  by_cases h1 : isRl r = true
  · obtain ⟨h2, _, h3⟩ := h h1
    exact rlT_len r (itoa_len (by omega)).2 (itoa_len (by omega)).2
  · unfold rlT; rw [if_neg h1]; simp

open Go.Lib in
theorem rowT_take_len {rs : List tRule} (h1 : rs.length ≤ 6) (h : ∀ x ∈ rs, okRl x) (k : Nat) : (Go.Lib.join ((rs.take k).map rlT) [44]).length ≤ 252 := by
  have := join_take_len (f := rlT) (l := rs) (sep := [44]) (B := 42) (fun x hx => by
    have := rlT_ok (h x hx)
    simp only [List.length_cons, List.length_nil]; omega) k
  omega

open Go.Lib in
theorem rowT_all {rs : List tRule} {k : Nat} (h : rs.length ≤ k) : rowT rs = Go.Lib.join ((rs.take k).map rlT) [44] := by
  unfold rowT; rw [List.take_of_length_le h]

open Go.Lib in
/-- The texts of the first k states. -/
def stK (m : tMachine) (k : Nat) : List (List UInt8) := ((rowsK m.1.toNat m.2.1.toNat m.2.2).take k).map rowT

open Go.Lib in
theorem stK_len (m : tMachine) (k : Nat) : (stK m k).length ≤ k := by
  unfold stK; rw [List.length_map, List.length_take]; omega

open Go.Lib in
theorem rowsK_at {α : Type} (n : Nat) : ∀ (N : Nat) (l : List α) (k : Nat) (hk : k < (rowsK n N l).length), (rowsK n N l)[k] = (l.drop (k * n)).take n
  | 0, l, k, hk => by rw [rowsK_len] at hk; omega
  | N + 1, l, 0, hk => by simp [rowsK]
  | N + 1, l, k + 1, hk => by
    have h1 : k < (rowsK n N (l.drop n)).length := by rw [rowsK_len] at hk ⊢; omega
    have h2 := rowsK_at n N (l.drop n) k h1
    rw [List.drop_drop, Nat.add_comm n (k * n), ← Nat.succ_mul] at h2
    simp only [rowsK, List.getElem_cons_succ]
    exact h2

open Go.Lib in
theorem stK_succ (m : tMachine) {k : Nat} (hk : k < m.2.1.toNat) : stK m (k + 1) = stK m k ++ [rowT ((m.2.2.drop (k * m.1.toNat)).take m.1.toNat)] := by
  have hl : k < (rowsK m.1.toNat m.2.1.toNat m.2.2).length := by rw [rowsK_len]; exact hk
  unfold stK
  rw [List.take_succ_eq_append_getElem hl, List.map_append, rowsK_at]; rfl

open Go.Lib in
theorem stK_all (m : tMachine) : stK m m.2.1.toNat = (rowsK m.1.toNat m.2.1.toNat m.2.2).map rowT := by
  unfold stK; rw [List.take_of_length_le (by rw [rowsK_len]; exact Nat.le_refl _)]

open Go.Lib in
theorem rules_len {m : tMachine} (h : validMach m = true) : m.2.2.length = m.2.1.toNat * m.1.toNat := by
  obtain ⟨v1, v2, v3, _⟩ := validMach_facts h
  have : ((m.2.1.toNat * m.1.toNat : Nat) : Int) = m.2.1 * m.1 := by
    rw [Int.natCast_mul, Int.toNat_of_nonneg (by omega), Int.toNat_of_nonneg (by omega)]
  omega

open Go.Lib in
theorem chunk_len {m : tMachine} (h : validMach m = true) {k : Nat} (hk : k < m.2.1.toNat) : k * m.1.toNat + m.1.toNat ≤ m.2.2.length := by
  rw [rules_len h, ← Nat.succ_mul]
  exact Nat.mul_le_mul_right _ hk

open Go.Lib in
theorem stK_join {m : tMachine} (h : validMach m = true) : (Go.Lib.join (stK m m.2.1.toNat) [59]).length ≤ 1000000 := by
  obtain ⟨v1, v2, v3, _⟩ := validMach_facts h
  have hk := validMach_okRl h
  have h1 := join_take_len (f := rowT) (l := rowsK m.1.toNat m.2.1.toNat m.2.2) (sep := [59]) (B := 253) (fun r hr => by
    obtain ⟨h2, h3⟩ := rowsK_all _ _ _ (rules_len h) r hr
    have h4 := rowT_take_len (rs := r) (by omega) (fun x hx => hk x (h3 x hx)) r.length
    rw [← rowT_all (Nat.le_refl _)] at h4
    simp only [List.length_cons, List.length_nil]; omega) m.2.1.toNat
  rw [rowsK_len] at h1
  unfold stK
  omega

open Go.Lib in
theorem machText_yes {m : tMachine} (h : validMach m = true) : machText m = Go.Lib.join (stK m m.2.1.toNat) [59] := by
  unfold machText machT; rw [if_pos h, stK_all]

open Go.Lib in
theorem machText_no {m : tMachine} (h : validMach m = false) : machText m = [] := by
  unfold machText; rw [if_neg (by rw [h]; simp)]

open Go.Lib in
set_option maxRecDepth 100000 in
set_option maxHeartbeats 4000000 in
theorem Chunk_c (A0 : Option Addr) (c0 : Nat) (a0 : (List tRule)) (a1 : Int) (w : World) (h0 : Sl eRule w (Old w) A0 c0 a0) (s0 : 1 ≤ a1) :
    Calls Tryz.prog 30 #[.slice A0 a0.length c0, .int .i64 a1] w fun e w' => ∃ q1 q2, e = .returned (.func (.func 51) #[] #[.pointer (some ⟨q1, 0, none⟩), .pointer (some ⟨q2, 0, none⟩)]) ∧ Held Nob w [rBlk q1 22 [.slice A0 a0.length c0], rBlk q2 3 [.int .i64 a1]] w' := by
  have l0 := h0.len
  have HH1 := Held.start Nob w
  refine enter (n := 9) Tryz.func30 rfl rfl rfl fun a_2 HE3 => ?_
  refine wp_seq ?_
  refine rg ?_
  refine pl fun K_4 hK5 => ?_
  refine st_box (cs := [.slice A0 (a0.length) c0]) HE3 HH1 rfl rfl (wt0 rfl) rfl fun q21 a_6 w' HE7 HH8 => hK5 _ _ ?_
  refine pl fun K_9 hK10 => ?_
  refine st_box (cs := [.int .i64 (a1)]) HE7 HH8 rfl rfl (wt0 rfl) rfl fun q22 a_11 w' HE12 HH13 => hK10 _ _ ?_
  refine pl_x HE12 HH13 (wt0 rfl) (x_assign rfl) rfl rfl fun a_14 HE15 => ?_
  refine wpList_nil ?_
  clear a_2 HE3 HH1 K_4 hK5 a_6 HE7 HH8 a_11 HE12 hK10 K_9
  refine nrm ?_
  refine wp_seq ?_
  refine wp_seq ?_
  refine rg ?_
  refine pl_x HE15 HH13 (wt0 rfl) (x_load1 tv_3 rfl (c_blk 0 rfl rfl)) rfl rfl fun a_16 HE17 => ?_
  refine pl_x HE17 HH13 (wt0 rfl) (x_lss rfl rfl) rfl rfl fun a_18 HE19 => ?_
  refine wpList_nil ?_
  clear a_14 HE15 a_16 HE17
  refine nrm ?_
  refine cnd_d HE19 rfl (fun hc23 => ?_) (fun hc23 => ?_)
  · omega
  · refine wp_skip ?_
    refine nrm ?_
    refine wp_seq ?_
    refine rg ?_
    refine pl_x HE19 HH13 (wt0 rfl) (x_makeFunc rfl rfl) rfl rfl fun a_20 HE21 => ?_
    refine pl_x HE21 HH13 (wt0 rfl) (x_assign rfl) rfl rfl fun a_22 HE23 => ?_
    refine wpList_nil ?_
    clear a_18 HE19 a_20 HE21
    refine nrm ?_
    refine wp_ret ?_
    refine ret1 HE23 rfl (rv_tmp rfl) ?_
    exact ⟨_, _, rfl, HH13.sel [1, 0] (by decide) rfl⟩

open Go.Lib in
set_option maxRecDepth 100000 in
set_option maxHeartbeats 4000000 in
theorem Chunk1_c {l : Nat} {F : Nat → List Res → Prop} {M : Nat → Prop} {w : World} {rs0 : List Res} (q1 q2 : Nat) (A0 : Option Addr) (c0 : Nat) (a0 : List tRule) (n N : Nat) (h1 : 1 ≤ n) (hT : a0.length = N * n) (hc0 : a0.length ≤ c0) (hmax : a0.length ≤ 1000000000) (hF : F 0 rs0) (HH : Held M w rs0 w) (g1 : w.cell? ⟨q1, 0, none⟩ = some (.slice A0 a0.length c0)) (g2 : w.cell? ⟨q2, 0, none⟩ = some (.int .i64 (n : Int))) (Nhq1 : ¬ M q1) (Nhq2 : ¬ M q2)
    (hY : ∀ k, k < N → ∀ rs W, F k rs → Held M w rs W → RoundJ Tryz.prog 2 l (.slice (cutA A0 (k * n + n) (k * n) 3) n n) W fun W' => ∃ rs', F (k + 1) rs' ∧ Held M w rs' W') :
    Calls Tryz.prog 51 #[.func (.yield l) #[] #[], .pointer (some ⟨q1, 0, none⟩), .pointer (some ⟨q2, 0, none⟩)] w fun e W' => (∃ v, e = .returned v) ∧ ∃ rs', F N rs' ∧ Held M w rs' W' := by
  have hq1 : ∀ j v, ([.slice A0 a0.length c0] : List Value)[j]? = some v → w.cell? ⟨q1, 0 + j, none⟩ = some v := one_cell g1
  have hq2 : ∀ j v, ([.int .i64 (n : Int)] : List Value)[j]? = some v → w.cell? ⟨q2, 0 + j, none⟩ = some v := one_cell g2
  refine enter (n := 31) Tryz.func51 rfl rfl rfl fun a_1 HE2 => ?_
  refine wp_seq ?_
  refine rg ?_
  refine pl_x HE2 HH (wt0 rfl) (x_assign rfl) rfl rfl fun a_3 HE4 => ?_
  refine wpList_nil ?_
  clear a_1 HE2
  refine nrm ?_
  refine wp_block ?_
  refine lp (fun m a W => ∃ k p rs, m = N - k ∧ k ≤ N ∧ p = k * n ∧ Env 31 [(4, .int .i64 (p : Int)), (0, .func (.yield l) #[] #[]), (1, .pointer (some ⟨q1, 0, none⟩)), (2, .pointer (some ⟨q2, 0, none⟩))] a ∧ F k rs ∧ Held M w rs W) N ⟨0, 0, rs0, rfl, Nat.zero_le _, (Nat.zero_mul _).symm, HE4.sub ⟨lkI rfl (by simp), rfl, rfl, rfl, trivial⟩, hF, HH⟩ ?_
  rintro m a_5 W ⟨k, p, rs, rfl, hk, hp, HE6, hF, HH7⟩
  have hlt0 : k * n ≤ N * n := Nat.mul_le_mul_right n hk
  refine wp_seq ?_
  refine wp_seq ?_
  refine rg ?_
  refine pl_x HE6 HH7 (wt0 rfl) (x_move rfl) rfl rfl fun a_8 HE9 => ?_
  refine pl_x HE9 HH7 (wt0 rfl) (x_load1 tv_22 rfl (c_oldM Nhq1 (hq1 0 _ rfl))) rfl rfl fun a_10 HE11 => ?_
  refine pl_x HE11 HH7 (wt0 rfl) (x_len Tryz.underlying22 rfl) rfl rfl fun a_12 HE13 => ?_
  refine pl_x HE13 HH7 (wt0 rfl) (x_lss rfl rfl) rfl rfl fun a_14 HE15 => ?_
  refine wpList_nil ?_
  clear a_3 HE4 a_5 HE6 a_8 HE9 a_10 HE11 a_12 HE13
  refine nrm ?_
  refine cnd_d HE15 rfl (fun hc21 => ?_) (fun hc21 => ?_)
  · have hkN : k < N := by
      rcases Nat.lt_or_ge k N with hh | hh
      · exact hh
      · have := Nat.mul_le_mul_right n hh; omega
    have hsl : (k + 1) * n ≤ N * n := Nat.mul_le_mul_right n hkN
    rw [Nat.succ_mul] at hsl
    have hpn : p + n ≤ a0.length := by omega
    have hdl : List.length (a0.drop p) = a0.length - p := List.length_drop
    have hmn : minN n (List.length (a0.drop p)) = n := by unfold minN; rw [if_neg (by omega)]
    refine wp_skip ?_
    refine nrm ?_
    refine wp_seq ?_
    refine wp_block ?_
    refine wp_seq ?_
    refine dr_start (Held M w []) 7 #[false, false, false, false, false, false, false] hmix rfl rfl HH7 (fun _ h => h.sel [] (by decide) rfl) fun w' HH16 => ?_
    have HS17 := HH16.sel [] (by decide) rfl
    refine dr_take (i := 0) (ls' := #[true, false, false, false, false, false, false]) HE15 HS17 rfl (by kernel_rfl) (by kernel_rfl) (by kernel_rfl) (fun _ _ _ h => h) rfl (wt0 rfl) (x_load1 tv_3 rfl (c_oldM Nhq2 (hq2 0 _ rfl))) rfl rfl fun a_18 HE19 => ?_
    refine dr_take (i := 1) (ls' := #[true, true, false, false, false, false, false]) HE19 HS17 rfl (by kernel_rfl) (by kernel_rfl) (by kernel_rfl) (fun _ _ _ h => h) rfl (wt0 rfl) (x_load1 tv_22 rfl (c_oldM Nhq1 (hq1 0 _ rfl))) rfl rfl fun a_20 HE21 => ?_
    refine dr_take (i := 2) (ls' := #[true, true, true, false, false, false, false]) HE21 HS17 rfl (by kernel_rfl) (by kernel_rfl) (by kernel_rfl) (fun _ _ _ h => h) rfl (wt0 rfl) (x_move rfl) rfl rfl fun a_22 HE23 => ?_
    refine dr_take (i := 3) (ls' := #[true, true, true, true, false, false, false]) HE23 HS17 rfl (by kernel_rfl) (by kernel_rfl) (by kernel_rfl) (fun _ _ _ h => h) rfl (wt0 rfl) (x_sliceL (k := p) ts_22 rfl rfl rfl (by omega) List.length_drop.symm) rfl rfl fun a_24 HE25 => ?_
    refine dr_take (i := 4) (ls' := #[true, true, true, true, true, false, false]) HE25 HS17 rfl (by kernel_rfl) (by kernel_rfl) (by kernel_rfl) (fun _ _ _ h => h) rfl (wt0 rfl) (x_len Tryz.underlying22 rfl) rfl rfl fun a_26 HE27 => ?_
    refine dr_take (i := 5) (ls' := #[true, true, true, true, true, true, false]) HE27 HS17 rfl (by kernel_rfl) (by kernel_rfl) (by kernel_rfl) (fun _ _ _ h => h) rfl (wt0 rfl) (x_minN rfl rfl) rfl rfl fun a_28 HE29 => ?_
    refine dr_take (i := 6) (ls' := #[true, true, true, true, true, true, true]) HE29 HS17 rfl (by kernel_rfl) (by kernel_rfl) (by kernel_rfl) (fun _ _ _ h => h) rfl (wt0 rfl) (x_assign rfl) rfl rfl fun a_30 HE31 => ?_
    refine dr_done (by kernel_rfl) ?_
    clear HH7 a_14 HE15 a_18 HE19 a_20 HE21 a_22 HE23 a_24 HE25 a_26 HE27 a_28 HE29
    refine nrm ?_
    refine wp_seq ?_
    rw [hmn] at HE31
    refine rgW (n := 3) ?_
    refine pl_xI HE31 HH16 rfl (wt0 rfl) (x_move rfl) rfl rfl fun a_32 HE33 => ?_
    refine pl_xI HE33 HH16 rfl (wt0 rfl) (x_load1 tv_22 rfl (c_oldM Nhq1 (hq1 0 _ rfl))) rfl rfl fun a_34 HE35 => ?_
    refine pl_xI HE35 HH16 rfl (wt0 rfl) (x_move rfl) rfl rfl fun a_36 HE37 => ?_
    refine pl_xI HE37 HH16 rfl (wt0 rfl) (x_move rfl) rfl rfl fun a_38 HE39 => ?_
    refine pl_xI HE39 HH16 rfl (wt0 rfl) (x_move rfl) rfl rfl fun a_40 HE41 => ?_
    refine pl_xI HE41 HH16 rfl (wt0 rfl) (x_add rfl rfl (by exact ⟨by omega, by omega⟩)) rfl rfl fun a_42 HE43 => ?_
    refine pl_xI HE43 HH16 rfl (wt0 rfl) (x_move rfl) rfl rfl fun a_44 HE45 => ?_
    refine pl_xI HE45 HH16 rfl (wt0 rfl) (x_move rfl) rfl rfl fun a_46 HE47 => ?_
    refine pl_xI HE47 HH16 rfl (wt0 rfl) (x_add rfl rfl (by exact ⟨by omega, by omega⟩)) rfl rfl fun a_48 HE49 => ?_
    refine pl_xI HE49 HH16 rfl (wt0 rfl) (x_sliceM (k := p) (k2 := p + n) (k3 := p + n) (r := n) (r2 := n) ts_22 rfl rfl rfl rfl rfl (by omega) (by omega) (by omega) (by omega) (by omega) (by omega) (by omega)) rfl rfl fun a_50 HE51 => ?_
    have hYk := hY k hkN rs _ hF HH16
    rw [← hp] at hYk
    refine st_yield HE51 (wt0 rfl) rfl rfl rfl rfl rfl hYk fun e w' hr => ?_
    obtain ⟨rfl, rs', hF', HH52⟩ := hr
    refine ⟨_, rfl, fun a_53 HE54 => ?_⟩
    refine pl_xI HE54 HH52 rfl (wt0 rfl) (x_not rfl) rfl rfl fun a_55 HE56 => ?_
    refine wpListIn_nil ?_
    clear a_30 HE31 a_32 HE33 a_34 HE35 a_36 HE37 a_38 HE39 a_40 HE41 a_42 HE43 a_44 HE45 a_46 HE47 a_48 HE49 HH16 a_50 HE51 a_53 HE54
    refine nrm ?_
    refine cndF HE56 rfl rfl ?_
    refine wp_skip ?_
    refine blk_n ?_
    refine nrm ?_
    refine rg ?_
    refine pl_x HE56 HH52 (wt0 rfl) (x_move rfl) rfl rfl fun a_57 HE58 => ?_
    refine pl_x HE58 HH52 (wt0 rfl) (x_load1 tv_3 rfl (c_oldM Nhq2 (hq2 0 _ rfl))) rfl rfl fun a_59 HE60 => ?_
    refine pl_x HE60 HH52 (wt0 rfl) (x_add rfl rfl (by exact ⟨by omega, by omega⟩)) rfl rfl fun a_61 HE62 => ?_
    refine pl_x HE62 HH52 (wt0 rfl) (x_assign rfl) rfl rfl fun a_63 HE64 => ?_
    refine wpList_nil ?_
    clear a_55 HE56 a_57 HE58 a_59 HE60 a_61 HE62
    exact nrm ⟨N - (k + 1), by omega, k + 1, p + n, rs', rfl, hkN, by rw [Nat.succ_mul]; omega, HE64.sub ⟨lkI rfl (by omega), rfl, rfl, rfl, trivial⟩, hF', HH52⟩
  · have hkN : k = N := by
      rcases Nat.lt_or_ge k N with hh | hh
      · have hsl : (k + 1) * n ≤ N * n := Nat.mul_le_mul_right n hh
        rw [Nat.succ_mul] at hsl; omega
      · omega
    refine wp_exit ?_
    refine (thn_exit (thn_exit (blk_hit ?_)))
    refine fin0 HE15 rfl ?_
    subst hkN
    exact ⟨⟨_, rfl⟩, rs, hF, HH7⟩

open Go.Lib in
set_option maxRecDepth 100000 in
set_option maxHeartbeats 4000000 in
theorem mach_round (ro : Option Nat) (M : Nat → Prop) (p0 : Nat) (A0 : Option Addr) (c0 : Nat) (a0 : (List (List UInt8))) (S0 : Nat → Prop) (A1 : Option Addr) (c1 : Nat) (a1 : (List tRule)) (w : World) (HM : Held M w [rBlk p0 30 [.slice A0 a0.length c0], rVec eTxt 9 S0 A0 c0 a0] w) (h1 : Sl eRule w (Out M w) A1 c1 a1) (hGl : ∀ rs w', Held M w rs w' → Glob w') (s0 : a0.length ≤ 1000) (s1 : a1.length ≤ 6) (s2 : ∀ x ∈ a1, okRl x) (a : Act) (HE : Env 38 [(4, .slice A1 a1.length c1), (3, .pointer (some ⟨p0, 0, none⟩))] a) :
    ∀ d, Tryz.f14.body.bind rbody = some d → d.wpIn (FW ro) 2 Tryz.prog (bodyR fun w' => ∃ (A0' : Option Addr) (c0' : Nat) (S0' : Nat → Prop), Held M w [rBlk p0 30 [.slice A0' (List.length (a0 ++ [rowT a1])) c0'], rVec eTxt 9 S0' A0' c0' (a0 ++ [rowT a1])] w') a w := by
  have l1 := h1.len
  have HH1 := HM
  have lv0 := (HH1.vecSl (i := 1) rfl).len
  refine bodyOf rfl ?_
  refine wpIn_block ?_
  refine wpIn_seq ?_
  refine rgN (fun h => by obtain ⟨_, _, h⟩ := h; exact h) rfl ?_
  refine pl fun K_2 hK3 => ?_
  refine st_lit (m := 0) (cs := []) (e := 9) HE HH1 (run_lit ts_30 HE (vs := []) rfl rfl (by simp [Value.cells]) rfl (by decide)) (wt0 rfl) rfl rfl fun q21 a_4 w' HE5 HH6 => hK3 _ _ ?_
  refine pl_x HE5 HH6 (wt0 rfl) (x_assign rfl) rfl rfl fun a_7 HE8 => ?_
  refine wpList_nil ?_
  clear HH1 a_4 HE5 hK3 K_2
  refine nrm ?_
  refine wpIn_seq ?_
  refine wpIn_seq ?_
  refine rgN (fun h => by obtain ⟨_, _, h⟩ := h; exact h) rfl ?_
  refine pl_x HE8 HH6 (wt0 rfl) (x_move rfl) rfl rfl fun a_9 HE10 => ?_
  refine pl_x HE10 HH6 (wt0 rfl) (x_len Tryz.underlying22 rfl) rfl rfl fun a_11 HE12 => ?_
  refine pl_x HE12 HH6 (wt0 rfl) (x_move rfl) rfl rfl fun a_13 HE14 => ?_
  refine wpList_nil ?_
  clear a_7 HE8 a_9 HE10 a_11 HE12
  refine nrm ?_
  refine wpIn_block ?_
  have HH15 := Held.vecFlat (E := eTxt) (xs := []) (css := []) HH6 rfl (Nat.zero_le _) (fun i x hx => by simp at hx)
  refine lpI (fun m a w' => ∃ (k : Nat) (A_5 : Option Addr) (c_5 : Nat) (S_5 : Nat → Prop), m = a1.length - k ∧ Env 38 [(5, .slice A_5 (List.length ((a1.take k).map rlT)) c_5), (21, .int .i64 (k : Int)), (3, .pointer (some ⟨p0, 0, none⟩)), (19, .slice A1 (a1.length) c1), (20, .int .i64 ((a1.length : Int)))] a ∧ Held M w [rVec eTxt 9 S_5 A_5 c_5 ((a1.take k).map rlT), rBlk p0 30 [.slice A0 (a0.length) c0], rVec eTxt 9 S0 A0 c0 a0] w' ∧ (k ≤ a1.length)) (a1.length - (0)) ?_ ?_
  · have E22 : (a1.take 0).map rlT = ([] : List (List UInt8)) := by
      rfl
    exact ⟨0, (some ⟨q21, 0, none⟩), (List.length (α := (List UInt8)) []), (fun b => b = q21), rfl, HE14.sub ⟨(by rw [E22]; rfl), (lkI rfl (by first | rfl | omega | (simp []; done))), rfl, rfl, rfl, trivial⟩, ((HH15.sel [0, 1, 2] (by decide) rfl).to (by first | rfl | (rw [E22]; done) | (rw [E22]; rfl) | (simp only [E22]; done) | (simp only [E22]; rfl) | (rw [E22]; simp only [List.length_set]; done))), (by first | omega | assumption | (simp; done) | simp_all)⟩
  · rintro m a_16 w' ⟨k, A_5, c_5, S_5, rfl, HE17, HH18, p23_0⟩
    have ol : ((a1.take k).map rlT).length ≤ 6 := by rw [List.length_map, List.length_take]; omega
    have oj := rowT_take_len s1 s2 k
    refine wpIn_seq ?_
    refine rgN (fun h => by obtain ⟨_, _, h⟩ := h; exact h) rfl ?_
    refine pl_x HE17 HH18 (wt0 rfl) (x_lss rfl rfl) rfl rfl fun a_19 HE20 => ?_
    refine wpList_nil ?_
    clear HH6 a_13 HE14 HH15 a_16 HE17
    refine nrm ?_
    refine wpIn_seq ?_
    refine cnd_dI HE20 rfl (fun hc24 => ?_) (fun hc24 => ?_)
    · refine wpIn_skip ?_
      refine nrm ?_
      refine wpIn_seq ?_
      refine wpIn_block ?_
      refine wpIn_seq ?_
      refine rgN (fun h => by obtain ⟨_, _, h⟩ := h; exact h) rfl ?_
      have ke25 : k < a1.length := by omega
      obtain ⟨be25, fe25, ese25, Ae25, Re25, De25, Ne25⟩ := el_oldM h1 ke25
      obtain ⟨e25, xe25⟩ : ∃ x_, x_ = a1[k] := ⟨_, rfl⟩
      rw [← xe25] at Re25
      have Qe25 := Re25
      obtain ⟨rfl, ge25_0, ge25_1, ge25_2⟩ := shape_Rule Re25
      have je25_0 := ge25_0; unfold I64 at je25_0
      have je25_1 := ge25_1; unfold I64 at je25_1
      have je25_2 := ge25_2; unfold I64 at je25_2
      have hx0 := xe25
      have hoe25 := s2 e25 (by rw [xe25]; exact List.getElem_mem _)
      refine pl_x HE20 HH18 (wt0 rfl) (x_indexAddr ts_22 rfl rfl Ae25 rfl ke25) rfl rfl fun a_21 HE22 => ?_
      refine pl_x HE22 HH18 (wt0 rfl) (x_loadN (cs := [.int .i64 (e25.1), .int .i64 (e25.2.1), .int .i64 (e25.2.2)]) tv_34 rfl rfl (c_oldNM Ne25 De25)) rfl rfl fun a_23 HE24 => ?_
      refine pl fun K_25 hK26 => ?_
      refine st_alloc HE24 HH18 tv_34 (wt0 rfl) rfl fun q26 a_27 w' HE28 HH29 => hK26 _ _ ?_
      refine pl fun K_30 hK31 => ?_
      refine st_store (vs := [.int .i64 (e25.1), .int .i64 (e25.2.1), .int .i64 (e25.2.2)]) 0 HE28 HH29 tv_34 rfl rfl rfl rfl rfl rfl (by simp [Value.oneCell']) (wt0 rfl) fun w' HH32 => hK31 _ _ ?_
      refine wpList_nil ?_
      clear a_19 HE20 a_21 HE22 a_23 HE24 HH18 K_25 hK26 HH29 hK31 K_30
      refine nrm ?_
      refine rgN (fun h => by obtain ⟨_, _, h⟩ := h; exact h) rfl ?_
      refine pl_x HE28 HH32 (wt0 rfl) (x_move rfl) rfl rfl fun a_33 HE34 => ?_
      refine pl_x HE34 HH32 (wt0 rfl) (x_loadN (cs := [.int .i64 (e25.1), .int .i64 (e25.2.1), .int .i64 (e25.2.2)]) tv_34 rfl rfl (c_blkN 0 rfl)) rfl rfl fun a_35 HE36 => ?_
      refine pl fun K_37 hK38 => ?_
      refine st_call HE36 (wt0 rfl) rfl rfl rfl en_31 rfl rfl (impl_ruleText [.int .i64 (e25.1), .int .i64 (e25.2.1), .int .i64 (e25.2.2)] e25 _ (HH32.oldRM Qe25) (hGl _ _ HH32)) fun e w' hr => ?_
      have hAr27_0 := rlT_ok (by assumption : okRl e25)
      obtain ⟨rfl, hbr27⟩ := hr
      have HH39 := HH32.on hbr27
      refine ⟨_, rfl, fun a_40 HE41 => hK38 _ _ ?_⟩
      refine pl fun K_42 hK43 => ?_
      refine st_lit (m := 1) (cs := [.string (bs (rlT e25))]) (e := 9) HE41 HH39 (run_lit ts_30 HE41 (vs := [.string (bs (rlT e25))]) rfl rfl (by simp [Value.cells]) rfl (by decide)) (wt0 rfl) rfl rfl fun q28 a_44 w' HE45 HH46 => hK43 _ _ ?_
      refine pl fun K_47 hK48 => ?_
      refine st_app1F (rlT e25) HE45 HH46 ts_30 [2, 0, 1, 3, 4] (by decide) rfl (fun _ => (oS (by first | omega | (simp only [List.length_append, List.length_cons, List.length_nil]; omega) | (simp; omega)))) rfl rfl (by simp [Value.oneCell']) (by unfold maxLen; first | omega | (simp; done) | (simp; omega)) (by first | omega | (simp; done) | (simp; omega)) (wt0 rfl) rfl fun A29 c30 S31 a_49 w' HE50 HH51 => hK48 _ _ ?_
      refine pl_x HE50 HH51 (wt0 rfl) (x_assign rfl) rfl rfl fun a_52 HE53 => ?_
      refine wpList_nil ?_
      clear a_27 HE28 a_33 HE34 HH32 a_35 HE36 K_37 hK38 a_40 HE41 HH39 K_42 hK43 a_44 HE45 HH46 a_49 HE50 hK48 K_47
      refine blk_n ?_
      refine nrm ?_
      refine rgN (fun h => by obtain ⟨_, _, h⟩ := h; exact h) rfl ?_
      refine pl_x HE53 HH51 (wt0 rfl) (x_add rfl rfl (by exact ⟨by omega, by omega⟩)) rfl rfl fun a_54 HE55 => ?_
      refine pl_x HE55 HH51 (wt0 rfl) (x_move rfl) rfl rfl fun a_56 HE57 => ?_
      refine wpList_nil ?_
      clear a_52 HE53 a_54 HE55
      have E32 : (a1.take (k + 1)).map rlT = ((a1.take k).map rlT ++ [(rlT e25)]) := by
        rw [List.take_succ_eq_append_getElem (by omega), List.map_append, ← xe25]; rfl
      exact nrm ⟨a1.length - (k + 1), (by omega), k + 1, A29, c30, S31, rfl, HE57.sub ⟨(by rw [E32]; rfl), (lkI rfl (by first | rfl | omega | (simp [p23_0, hc24, xe25]; done))), rfl, rfl, rfl, trivial⟩, ((HH51.sel [0, 2, 3] (by decide) rfl).to (by first | rfl | (rw [E32]; done) | (rw [E32]; rfl) | (simp only [E32]; done) | (simp only [E32]; rfl) | (rw [E32]; simp only [List.length_set]; done))), (by first | omega | assumption | (simp; done) | simp_all)⟩
    · refine wpIn_exit ?_
      refine (thn_exit (thn_exit (blk_hit ?_)))
      refine nrm ?_
      refine wpI_join (fun a w' => ∃ (S37 : Nat → Prop), ∃ (A35 : Option Addr), ∃ (c36 : Nat), Env 38 [(3, .pointer (some ⟨p0, 0, none⟩))] a ∧ Held M w [rVec eTxt 9 S37 A35 c36 (a0 ++ [(Go.Lib.join ((a1.take k).map rlT) ([44]))]), rVec eTxt 9 S_5 A_5 c_5 ((a1.take k).map rlT), rBlk p0 30 [.slice A35 ((a0 ++ [(Go.Lib.join ((a1.take k).map rlT) ([44]))]).length) c36]] w') ?_ ?_
      · refine drI_start (fun h => by obtain ⟨_, _, h⟩ := h; exact h) (by kernel_rfl) (Held M w [rVec eTxt 9 S_5 A_5 c_5 ((a1.take k).map rlT)]) 6 #[false, false, false, false, false, false] hmix rfl rfl HH18 (fun _ h => h.sel [0] (by decide) rfl) fun w' HH58 => ?_
        have HS59 := HH58.sel [0] (by decide) rfl
        refine dr_take (i := 1) (ls' := #[false, true, false, false, false, false]) HE20 HS59 rfl (by kernel_rfl) (by kernel_rfl) (by kernel_rfl) (fun _ _ _ h => h) rfl (wt0 rfl) (x_move rfl) rfl rfl fun a_60 HE61 => ?_
        refine dr_two (i := 0) (j := 2) (ls' := #[true, true, false, false, false, false]) (ls'' := #[false, true, true, false, false, false]) rfl rfl (by kernel_rfl) rfl rfl (fun K_62 hK63 => ?_) (fun K_62 hK63 => ?_)
        · refine st_x HE61 HH58 (wt0 rfl) (x_load1 tv_30 rfl (c_blk 1 rfl rfl)) rfl rfl fun a_64 HE65 => hK63 _ _ HS59 ?_
          refine dr_one (i := 2) (ls' := #[true, true, true, false, false, false]) rfl (by kernel_rfl) rfl fun K_66 hK67 => ?_
          refine st_call HE65 (wt0 rfl) rfl rfl rfl en_32 rfl rfl (Join_Str _ _ ((a1.take k).map rlT) ([44]) _ (HH58.vecSl (i := 0) rfl) (by first | omega | (simp; done)) (by first | omega | (simp [Go.Lib.join, List.intercalate]; omega))) fun e w' hr => ?_
          have hAr33_0 := (by first | omega | (simp [Go.Lib.join, List.intercalate]; omega) : (Go.Lib.join ((a1.take k).map rlT) ([44])).length ≤ 1000000000)
          obtain ⟨rfl, hbr33⟩ := hr
          have HH68 := HH58.on hbr33
          refine ⟨_, rfl, fun a_69 HE70 => hK67 _ _ (by exact HH68.sel [0] (by decide) rfl) ?_⟩
          have HS71 := HH68.sel [0] (by decide) rfl
          refine dr_one (i := 3) (ls' := #[true, true, true, true, false, false]) rfl (by kernel_rfl) rfl fun K_72 hK73 => ?_
          refine st_lit (m := 1) (cs := [.string (bs (Go.Lib.join ((a1.take k).map rlT) ([44])))]) (e := 9) HE70 HH68 (run_lit ts_30 HE70 (vs := [.string (bs (Go.Lib.join ((a1.take k).map rlT) ([44])))]) rfl rfl (by simp [Value.cells]) rfl (by decide)) (wt0 rfl) rfl rfl fun q34 a_74 w' HE75 HH76 => hK73 _ _ (by exact HH76.sel [1] (by decide) rfl) ?_
          have HS77 := HH76.sel [1] (by decide) rfl
          refine dr_one (i := 4) (ls' := #[true, true, true, true, true, false]) rfl (by kernel_rfl) rfl fun K_78 hK79 => ?_
          refine st_app1F (Go.Lib.join ((a1.take k).map rlT) ([44])) HE75 HH76 ts_30 [3, 0, 1, 2] (by decide) rfl (fun _ => (oS (by first | omega | (simp only [List.length_append, List.length_cons, List.length_nil]; omega) | (simp; omega)))) rfl rfl (by simp [Value.oneCell']) (by unfold maxLen; first | omega | (simp; done) | (simp; omega)) (by first | omega | (simp; done) | (simp; omega)) (wt0 rfl) rfl fun A35 c36 S37 a_80 w' HE81 HH82 => hK79 _ _ (by exact HH82.sel [1] (by decide) rfl) ?_
          have HS83 := HH82.sel [1] (by decide) rfl
          refine dr_one (i := 5) (ls' := #[true, true, true, true, true, true]) rfl (by kernel_rfl) rfl fun K_84 hK85 => ?_
          refine st_store (vs := [.slice A35 ((a0 ++ [(Go.Lib.join ((a1.take k).map rlT) ([44]))]).length) c36]) 2 HE81 HH82 tv_30 rfl rfl rfl rfl rfl rfl (by simp [Value.oneCell']) (wt0 rfl) fun w' HH86 => hK85 _ _ (by exact HH86.sel [1] (by decide) rfl) ?_
          have HS87 := HH86.sel [1] (by decide) rfl
          refine dr_done (by kernel_rfl) ?_
          clear HH18 a_19 HE20 a_60 HE61 K_62 hK63 HH58 a_64 HE65 HS59 K_66 hK67 a_69 HE70 HH68 HS71 K_72 hK73 a_74 HE75 HH76 HS77 K_78 hK79 HH82 HS83 hK85 K_84
          exact nrm ⟨_, _, _, HE81.sub ⟨rfl, trivial⟩, HH86.sel [0, 1, 2] (by decide) rfl⟩
        · refine st_call HE61 (wt0 rfl) rfl rfl rfl en_32 rfl rfl (Join_Str _ _ ((a1.take k).map rlT) ([44]) _ (HH58.vecSl (i := 0) rfl) (by first | omega | (simp; done)) (by first | omega | (simp [Go.Lib.join, List.intercalate]; omega))) fun e w' hr => ?_
          have hAr38_0 := (by first | omega | (simp [Go.Lib.join, List.intercalate]; omega) : (Go.Lib.join ((a1.take k).map rlT) ([44])).length ≤ 1000000000)
          obtain ⟨rfl, hbr38⟩ := hr
          have HH88 := HH58.on hbr38
          refine ⟨_, rfl, fun a_89 HE90 => hK63 _ _ (by exact HH88.sel [0] (by decide) rfl) ?_⟩
          have HS91 := HH88.sel [0] (by decide) rfl
          refine dr_two (i := 0) (j := 3) (ls' := #[true, true, true, false, false, false]) (ls'' := #[false, true, true, true, false, false]) rfl rfl (by kernel_rfl) rfl rfl (fun K_92 hK93 => ?_) (fun K_92 hK93 => ?_)
          · refine st_x HE90 HH88 (wt0 rfl) (x_load1 tv_30 rfl (c_blk 1 rfl rfl)) rfl rfl fun a_94 HE95 => hK93 _ _ HS91 ?_
            refine dr_one (i := 3) (ls' := #[true, true, true, true, false, false]) rfl (by kernel_rfl) rfl fun K_96 hK97 => ?_
            refine st_lit (m := 1) (cs := [.string (bs (Go.Lib.join ((a1.take k).map rlT) ([44])))]) (e := 9) HE95 HH88 (run_lit ts_30 HE95 (vs := [.string (bs (Go.Lib.join ((a1.take k).map rlT) ([44])))]) rfl rfl (by simp [Value.cells]) rfl (by decide)) (wt0 rfl) rfl rfl fun q39 a_98 w' HE99 HH100 => hK97 _ _ (by exact HH100.sel [1] (by decide) rfl) ?_
            have HS101 := HH100.sel [1] (by decide) rfl
            refine dr_one (i := 4) (ls' := #[true, true, true, true, true, false]) rfl (by kernel_rfl) rfl fun K_102 hK103 => ?_
            refine st_app1F (Go.Lib.join ((a1.take k).map rlT) ([44])) HE99 HH100 ts_30 [3, 0, 1, 2] (by decide) rfl (fun _ => (oS (by first | omega | (simp only [List.length_append, List.length_cons, List.length_nil]; omega) | (simp; omega)))) rfl rfl (by simp [Value.oneCell']) (by unfold maxLen; first | omega | (simp; done) | (simp; omega)) (by first | omega | (simp; done) | (simp; omega)) (wt0 rfl) rfl fun A40 c41 S42 a_104 w' HE105 HH106 => hK103 _ _ (by exact HH106.sel [1] (by decide) rfl) ?_
            have HS107 := HH106.sel [1] (by decide) rfl
            refine dr_one (i := 5) (ls' := #[true, true, true, true, true, true]) rfl (by kernel_rfl) rfl fun K_108 hK109 => ?_
            refine st_store (vs := [.slice A40 ((a0 ++ [(Go.Lib.join ((a1.take k).map rlT) ([44]))]).length) c41]) 2 HE105 HH106 tv_30 rfl rfl rfl rfl rfl rfl (by simp [Value.oneCell']) (wt0 rfl) fun w' HH110 => hK109 _ _ (by exact HH110.sel [1] (by decide) rfl) ?_
            have HS111 := HH110.sel [1] (by decide) rfl
            refine dr_done (by kernel_rfl) ?_
            clear HH18 a_19 HE20 HH58 a_60 HE61 HS59 K_62 hK63 a_89 HE90 K_92 hK93 a_94 HE95 HH88 HS91 K_96 hK97 a_98 HE99 HH100 HS101 K_102 hK103 HH106 HS107 hK109 K_108
            exact nrm ⟨_, _, _, HE105.sub ⟨rfl, trivial⟩, HH110.sel [0, 1, 2] (by decide) rfl⟩
          · refine st_lit (m := 1) (cs := [.string (bs (Go.Lib.join ((a1.take k).map rlT) ([44])))]) (e := 9) HE90 HH88 (run_lit ts_30 HE90 (vs := [.string (bs (Go.Lib.join ((a1.take k).map rlT) ([44])))]) rfl rfl (by simp [Value.cells]) rfl (by decide)) (wt0 rfl) rfl rfl fun q43 a_112 w' HE113 HH114 => hK93 _ _ (by exact HH114.sel [1] (by decide) rfl) ?_
            have HS115 := HH114.sel [1] (by decide) rfl
            refine dr_one (i := 0) (ls' := #[true, true, true, true, false, false]) rfl (by kernel_rfl) rfl fun K_116 hK117 => ?_
            refine st_x HE113 HH114 (wt0 rfl) (x_load1 tv_30 rfl (c_blk 2 rfl rfl)) rfl rfl fun a_118 HE119 => hK117 _ _ HS115 ?_
            refine dr_one (i := 4) (ls' := #[true, true, true, true, true, false]) rfl (by kernel_rfl) rfl fun K_120 hK121 => ?_
            refine st_app1F (Go.Lib.join ((a1.take k).map rlT) ([44])) HE119 HH114 ts_30 [3, 0, 1, 2] (by decide) rfl (fun _ => (oS (by first | omega | (simp only [List.length_append, List.length_cons, List.length_nil]; omega) | (simp; omega)))) rfl rfl (by simp [Value.oneCell']) (by unfold maxLen; first | omega | (simp; done) | (simp; omega)) (by first | omega | (simp; done) | (simp; omega)) (wt0 rfl) rfl fun A44 c45 S46 a_122 w' HE123 HH124 => hK121 _ _ (by exact HH124.sel [1] (by decide) rfl) ?_
            have HS125 := HH124.sel [1] (by decide) rfl
            refine dr_one (i := 5) (ls' := #[true, true, true, true, true, true]) rfl (by kernel_rfl) rfl fun K_126 hK127 => ?_
            refine st_store (vs := [.slice A44 ((a0 ++ [(Go.Lib.join ((a1.take k).map rlT) ([44]))]).length) c45]) 2 HE123 HH124 tv_30 rfl rfl rfl rfl rfl rfl (by simp [Value.oneCell']) (wt0 rfl) fun w' HH128 => hK127 _ _ (by exact HH128.sel [1] (by decide) rfl) ?_
            have HS129 := HH128.sel [1] (by decide) rfl
            refine dr_done (by kernel_rfl) ?_
            clear HH18 a_19 HE20 HH58 a_60 HE61 HS59 K_62 hK63 a_89 HE90 HH88 HS91 K_92 hK93 a_112 HE113 K_116 hK117 a_118 HE119 HH114 HS115 K_120 hK121 HH124 HS125 hK127 K_126
            exact nrm ⟨_, _, _, HE123.sub ⟨rfl, trivial⟩, HH128.sel [0, 1, 2] (by decide) rfl⟩
      · rintro a_130 w' ⟨S37, A35, c36, HE131, HH132⟩
        refine blk_n ?_
        refine bodyR_n ?_
        have hF : (a0 ++ [rowT a1]) = (a0 ++ [(Go.Lib.join ((a1.take k).map rlT) ([44]))]) := by
          rw [rowT_all (k := k) (by omega)]
        exact ⟨_, _, _, by rw [hF]; exact HH132.sel [2, 0] (by decide) rfl⟩

open Go.Lib in
theorem machText_len (m : tMachine) : (machText m).length ≤ 1000000 := by
  cases h : validMach m with
  | true => rw [machText_yes h]; exact stK_join h
  | false => rw [machText_no h]; simp

open Go.Lib in
set_option maxRecDepth 100000 in
set_option maxHeartbeats 4000000 in
theorem impl_MachineText (es0 : List Value) (a0 : tMachine) (w : World) (h0 : eMachine.R w (Old w) es0 a0) (hG : Glob w) :
    Calls Tryz.prog 14 #[.agg es0.toArray] w fun e w' => e = .returned (.string (bs (machText a0))) ∧ Below w.heap.size w w' := by
  have H0 := h0
  obtain ⟨Az0_2, cz0_2, rfl, gz0_0, gz0_1, gz0_2⟩ := shape_Machine h0
  have jz0_0 := gz0_0; unfold I64 at jz0_0
  have jz0_1 := gz0_1; unfold I64 at jz0_1
  have lz0_2 := gz0_2.len
  have HH1 := Held.start Nob w
  refine enterM (n := 38) Tryz.func14 rfl rfl rfl fun a_2 HE3 => ?_
  refine wp_seq ?_
  refine rg ?_
  refine pl fun K_4 hK5 => ?_
  refine st_box (cs := [.int .i64 (a0.1), .int .i64 (a0.2.1), .slice Az0_2 (a0.2.2.length) cz0_2]) HE3 HH1 rfl rfl (wt0 rfl) rfl fun q21 a_6 w' HE7 HH8 => hK5 _ _ ?_
  refine pl_x HE7 HH8 (wt0 rfl) (x_assign rfl) rfl rfl fun a_9 HE10 => ?_
  refine wpList_nil ?_
  clear a_2 HE3 HH1 a_6 HE7 hK5 K_4
  refine nrm ?_
  refine wp_seq ?_
  refine wp_seq ?_
  refine rg ?_
  refine pl_x HE10 HH8 (wt0 rfl) (x_loadN (cs := [.int .i64 (a0.1), .int .i64 (a0.2.1), .slice Az0_2 (a0.2.2.length) cz0_2]) tv_24 rfl rfl (c_blkN 0 rfl)) rfl rfl fun a_11 HE12 => ?_
  refine pl fun K_13 hK14 => ?_
  refine st_call HE12 (wt0 rfl) rfl rfl rfl en_13 rfl rfl (impl_ValidMachine [.int .i64 (a0.1), .int .i64 (a0.2.1), .slice Az0_2 (a0.2.2.length) cz0_2] a0 _ (HH8.oldR H0)) fun e w' hr => ?_
  obtain ⟨rfl, hbr22⟩ := hr
  have HH15 := HH8.on hbr22
  refine ⟨_, rfl, fun a_16 HE17 => hK14 _ _ ?_⟩
  refine pl_x HE17 HH15 (wt0 rfl) (x_not rfl) rfl rfl fun a_18 HE19 => ?_
  refine wpList_nil ?_
  clear a_9 HE10 HH8 a_11 HE12 a_16 HE17 hK14 K_13
  refine nrm ?_
  refine cnd_nb HE19 rfl (fun hc23 => ?_) (fun hc23 => ?_)
  · refine wp_seq ?_
    refine rg ?_
    refine pl_x HE19 HH15 (wt0 rfl) (x_assign rfl) rfl rfl fun a_20 HE21 => ?_
    refine wpList_nil ?_
    clear a_18 HE19
    refine nrm ?_
    refine wp_ret ?_
    refine (thn_ret ?_)
    refine retM ?_
    refine ret1 HE21 rfl (rv_tmp rfl) ?_
    have hF : (machText a0) = [] := by
      first | (rw [machText_yes hva]; done) | (rw [machText_no (by assumption)]; done)
    exact ⟨by first | (rw [hF] <;> rfl) | rfl | (rw [hF]; simp only [Ending.returned.injEq, Value.slice.injEq, true_and, and_true]; first | omega | (simp; done)) | (rw [hF]; simp; omega), HH15.below⟩
  · obtain ⟨v1, v2, v3, v4⟩ := validMach_facts hc23
    have hva := hc23
    refine wp_skip ?_
    refine nrm ?_
    refine wp_seq ?_
    refine rg ?_
    refine pl fun K_22 hK23 => ?_
    refine st_lit (m := 0) (cs := []) (e := 9) HE19 HH15 (run_lit ts_30 HE19 (vs := []) rfl rfl (by simp [Value.cells]) rfl (by decide)) (wt0 rfl) rfl rfl fun q24 a_24 w' HE25 HH26 => hK23 _ _ ?_
    refine pl fun K_27 hK28 => ?_
    refine st_alloc HE25 HH26 tv_30 (wt0 rfl) rfl fun q25 a_29 w' HE30 HH31 => hK28 _ _ ?_
    refine pl fun K_32 hK33 => ?_
    refine st_store (vs := [.slice (some ⟨q24, 0, none⟩) (0) 0]) 0 HE30 HH31 tv_30 rfl rfl rfl rfl rfl rfl (by simp [Value.oneCell']) (wt0 rfl) fun w' HH34 => hK33 _ _ ?_
    refine wpList_nil ?_
    clear a_18 HE19 HH15 K_22 hK23 a_24 HE25 HH26 K_27 hK28 HH31 hK33 K_32
    refine nrm ?_
    refine wp_seq ?_
    refine wp_seq ?_
    refine rg ?_
    refine pl_x HE30 HH34 (wt0 rfl) (x_fieldAddr fa_24_2 rfl) rfl rfl fun a_35 HE36 => ?_
    refine pl_x HE36 HH34 (wt0 rfl) (x_load1 tv_22 rfl (c_blk 2 rfl rfl)) rfl rfl fun a_37 HE38 => ?_
    refine pl_x HE38 HH34 (wt0 rfl) (x_fieldAddr fa_24_0 rfl) rfl rfl fun a_39 HE40 => ?_
    refine pl_x HE40 HH34 (wt0 rfl) (x_load1 tv_2 rfl (c_blk 2 rfl rfl)) rfl rfl fun a_41 HE42 => ?_
    refine pl fun K_43 hK44 => ?_
    refine st_call HE42 (wt0 rfl) rfl rfl rfl en_30 rfl rfl (Chunk_c Az0_2 cz0_2 a0.2.2 a0.1 _ (HH34.old gz0_2) (by omega)) fun e w' hr => ?_
    obtain ⟨q1, q2, rfl, hbc⟩ := hr
    have HH45 := HH34.app hbc
    clear hbc
    have HH46 : Held Nob w ([rBlk q1 22 [.slice Az0_2 (a0.2.2.length) cz0_2], rBlk q2 3 [.int .i64 (a0.1)], rBlk q25 30 [.slice (some ⟨q24, 0, none⟩) (0) 0], rBlk q24 9 [], rBlk q21 24 [.int .i64 (a0.1), .int .i64 (a0.2.1), .slice Az0_2 (a0.2.2.length) cz0_2]]) _ := HH45
    refine ⟨_, rfl, fun a_47 HE48 => hK44 _ _ ?_⟩
    refine wpList_nil ?_
    clear a_29 HE30 a_35 HE36 a_37 HE38 a_39 HE40 HH34 HH45 a_41 HE42 hK44 K_43
    refine nrm ?_
    refine wp_block ?_
    have HH49 := HH46.sel [3, 0, 1, 2, 4] (by decide) rfl
    have HH50 := Held.vecFlat (E := eTxt) (xs := []) (css := []) HH49 rfl (Nat.zero_le _) (fun i x hx => by simp at hx)
    have HH51 := HH50.sel [3, 0, 1, 2, 4] (by decide) rfl
    have hc0 := (HH51.old gz0_2).1
    have HR : Held Nob w ([rBlk q25 30 [.slice (some ⟨q24, 0, none⟩) (0) 0], rVec eTxt 9 (fun b => b = q24) (some ⟨q24, 0, none⟩) (List.length (α := (List UInt8)) []) ([] : List (List UInt8))] ++ [rBlk q1 22 [.slice Az0_2 (a0.2.2.length) cz0_2], rBlk q2 3 [.int .i64 (a0.1)], rBlk q21 24 [.int .i64 (a0.1), .int .i64 (a0.2.1), .slice Az0_2 (a0.2.2.length) cz0_2]]) _ := HH51
    have hsy : ((a0.1.toNat : Nat) : Int) = a0.1 := by omega
    refine wp_rangeH (t1 := 22) (t2 := 3) (v1 := .slice Az0_2 (a0.2.2.length) cz0_2) (v2 := .int .i64 (a0.1)) a0.2.1.toNat (fun k rs => ∃ (A : Option Addr) (c : Nat) (S : Nat → Prop), rs = [rBlk q25 30 [.slice A (List.length (stK a0 k)) c], rVec eTxt 9 S A c (stK a0 k)]) (fun k => .slice (cutA Az0_2 (k * a0.1.toNat + a0.1.toNat) (k * a0.1.toNat) 3) a0.1.toNat a0.1.toNat) HE48 rfl rfl en_51 HR ⟨_, _, _, rfl⟩ (List.mem_of_getElem? (i := 0) rfl) (List.mem_of_getElem? (i := 1) rfl) ?_ ?_ ?_
    · exact fun l F M W0 rs hF0 HH0 g1 g2 _ _ n1 n2 hY => Chunk1_c q1 q2 Az0_2 cz0_2 a0.2.2 a0.1.toNat a0.2.1.toNat (by omega) (rules_len hva) hc0 (by omega) hF0 HH0 g1 (by rw [hsy]; exact g2) n1 n2 hY
    · intro l k rs W K a hk hfam HW HE48 hb
      refine rgI ?_
      refine pl_xI (S := fun _ => True) HE48 trivial rfl (wt0 rfl) (x_assign rfl) rfl rfl fun a_52 HE53 => ?_
      refine wpListIn_nil ?_
      refine nrm (hb _ fun W2 HW2 HB => ?_)
      obtain ⟨A5, c5, S5, rfl⟩ := hfam
      have hcl := chunk_len hva hk
      have hlen : ((a0.2.2.drop (k * a0.1.toNat)).take a0.1.toNat).length = a0.1.toNat := len_cut _ _ _ hcl
      have hsl := (HW2.lend gz0_2).cutM (l := k * a0.1.toNat) (r := a0.1.toNat) (by omega) hcl
      have hst := stK_len a0 k
      refine wpIn_mono (mach_round (some l) _ q25 A5 c5 (stK a0 k) S5 _ _ ((a0.2.2.drop (k * a0.1.toNat)).take a0.1.toNat) W2 HB hsl (fun rs w' h' => (HW2.frame h').glob hG) (by omega) (by omega) (fun x hx => validMach_okRl hva x (List.mem_of_mem_drop (List.mem_of_mem_take hx))) _ (HE53.sub ⟨by rw [hlen]; rfl, rfl, trivial⟩) _ rfl) ?_
      intro e a w3 hq
      cases e with
      | normal =>
        obtain ⟨A6, c6, S6, h6⟩ := hq
        refine ⟨_, ⟨A6, c6, S6, rfl⟩, ?_⟩
        rw [stK_succ a0 hk]; exact h6
      | _ => exact hq
    · intro D rs W hfam HD
      obtain ⟨A3, c3, S3, rfl⟩ := hfam
      have hjl := stK_join hva
      have hst := stK_len a0 a0.2.1.toNat
      have HE54 := EnvD.of (ds := markD D) HE48
      have HH55 : Held Nob w [rBlk q25 30 [.slice A3 ((List.length (stK a0 a0.2.1.toNat))) c3], rVec eTxt 9 S3 A3 c3 (stK a0 a0.2.1.toNat), rObj D (.deferred (some [])), rBlk q1 22 [.slice Az0_2 (a0.2.2.length) cz0_2], rBlk q2 3 [.int .i64 (a0.1)], rBlk q21 24 [.int .i64 (a0.1), .int .i64 (a0.2.1), .slice Az0_2 (a0.2.2.length) cz0_2]] _ := HD
      refine blk_n ?_
      refine nrm ?_
      refine wp_seq ?_
      refine rg ?_
      refine plD_x HE54 HH55 rfl (x_load1 tv_30 rfl (c_blk 0 rfl rfl)) rfl rfl fun a_56 HE57 => ?_
      refine plD_call HE57 rfl rfl rfl rfl en_32 rfl rfl (Join_Str _ _ (stK a0 a0.2.1.toNat) ([59]) _ (HH55.vecSl (i := 1) rfl) (by first | omega | (simp; done)) (by first | omega | (simp [Go.Lib.join, List.intercalate]; omega))) fun e w' hr => ?_
      have hAr26_0 := (by first | omega | (simp [Go.Lib.join, List.intercalate]; omega) : (Go.Lib.join (stK a0 a0.2.1.toNat) ([59])).length ≤ 1000000000)
      obtain ⟨rfl, hbr26⟩ := hr
      have HH58 := HH55.on hbr26
      refine ⟨_, rfl, fun a_59 HE60 =>  ?_⟩
      refine plD_x HE60 HH58 rfl (x_assign rfl) rfl rfl fun a_61 HE62 => ?_
      refine wpList_nil ?_
      clear HH46 HH49 HH50 HE48 HH51 a_47 HE54 HH55 a_56 HE57 a_59 HE60
      refine nrm ?_
      refine wp_ret ?_
      refine retD HE62 (HH58.get (i := 2) rfl) rfl rfl ?_
      have HH63 := HH58.sel [2, 0, 1, 3, 4, 5] (by decide) rfl
      have HH64 := HH63.putO (.deferred none)
      have hF : (machText a0) = (Go.Lib.join (stK a0 a0.2.1.toNat) ([59])) := by
        first | (rw [machText_yes hva]; done) | (rw [machText_no (by assumption)]; done)
      exact ⟨by first | (rw [hF] <;> rfl) | rfl | (rw [hF]; simp only [Ending.returned.injEq, Value.slice.injEq, true_and, and_true]; first | omega | (simp; done)) | (rw [hF]; simp; omega), HH64.below⟩

open Go.Lib in
/-- L or R: its place. -/
def lrI (r : Nat) : Int := if r = 76 then 0 else if r = 82 then 1 else -1

open Go.Lib in
theorem lrI_bd (r : Nat) : -1 ≤ lrI r ∧ lrI r ≤ 1 := by
  unfold lrI
  split
  · omega
  · split <;> omega

open Go.Lib in
theorem index_lr : ∀ r : Nat, r < 128 → indexByte [76, 82] (UInt8.ofNat r) = lrI r := by decide +kernel

open Go.Lib in
theorem IndexRune_LR (r : Nat) (w : World) (hr : r ≤ 1114111) : Calls Tryz.prog 42 #[.string (bs [76, 82]), .int .i32 (r : Int)] w fun e w' => e = .returned (.int .i64 (lrI r)) ∧ Below w.heap.size w w' := by
  by_cases h : r < 128
  · refine (Any.strings_IndexRune_ascii shelf_152 (bs [76, 82]) (r : Int) w (by omega) (by omega)).mono fun e w' ⟨he, hw⟩ => ⟨?_, by rw [hw]; exact Below.refl _ _⟩
    rw [he, show (bs [76, 82]).data.toList = [76, 82] from by simp [bs], Int.toNat_natCast, show r.toUInt8 = UInt8.ofNat r from rfl, index_lr r h]
  · have h1 := IndexRune_hi [76, 82] (r : Int) w (.inr rfl) (by omega)
    have e : lrI r = -1 := by
      unfold lrI
      rw [if_neg (by omega), if_neg (by omega)]
    rw [e]; exact h1

open Go.Lib in
theorem isLR {c : UInt8} : ([76, 82] : List UInt8).contains c = true ↔ 0 ≤ lrI c.toNat := by
  have hc := c.toNat_lt
  have h76 : c = 76 ↔ c.toNat = 76 := by
    constructor
    · rintro rfl; rfl
    · intro h; exact UInt8.toNat_inj.1 h
  have h82 : c = 82 ↔ c.toNat = 82 := by
    constructor
    · rintro rfl; rfl
    · intro h; exact UInt8.toNat_inj.1 h
  rw [List.contains_iff_mem]
  simp only [List.mem_cons, List.not_mem_nil, or_false, h76, h82]
  unfold lrI
  constructor
  · rintro (h | h)
    · rw [if_pos h]; omega
    · rw [if_neg (by omega), if_pos h]; omega
  · intro h
    by_cases h1 : c.toNat = 76
    · exact .inl h1
    · by_cases h2 : c.toNat = 82
      · exact .inr h2
      · rw [if_neg h1, if_neg h2] at h; omega

open Go.Lib in
theorem noLR_step {s : List UInt8} {p : Nat} (h : NoAny s [76, 82] p) (hp : p < s.length) (hn : lrI (rnA s p).1 < 0) : NoAny s [76, 82] (p + (rnA s p).2) := by
  intro j b hj hb
  have hjl := (List.getElem?_eq_some_iff.1 hb).1
  by_cases hjp : j < p
  · exact h j b hjp hb
  have hbe : s[j] = b := (List.getElem?_eq_some_iff.1 hb).2
  cases hq : ([76, 82] : List UInt8).contains b with
  | false => rfl
  | true =>
    exfalso
    have h0 := isLR.1 hq
    by_cases ha : (s[p]).toNat < 128
    · have h1 := rnA_one hp ha
      rw [h1] at hn hj
      have : j = p := by dsimp only at hj; omega
      subst this
      rw [hbe] at hn
      dsimp only at hn; omega
    · have h1 := (rnA_big hp ha).2 j hjl (by omega) hj
      rw [hbe] at h1
      unfold lrI at h0
      rw [if_neg (by omega), if_neg (by omega)] at h0
      omega

open Go.Lib in
theorem noLR_hit {s : List UInt8} {p : Nat} (h : NoAny s [76, 82] p) (hp : p < s.length) (hn : 0 ≤ lrI (rnA s p).1) : indexAny s [76, 82] = (p : Int) := by
  have ha : (s[p]).toNat < 128 := by
    rcases Nat.lt_or_ge (s[p]).toNat 128 with h1 | h1
    · exact h1
    · have h2 := (rnA_big hp (by omega)).1
      unfold lrI at hn
      rw [if_neg (by omega), if_neg (by omega)] at hn
      omega
  rw [rnA_one hp ha] at hn
  exact indexAny_hit h (List.getElem?_eq_getElem hp) (isLR.2 hn)

open Go.Lib in
theorem noLR_end {s : List UInt8} {p : Nat} (h : NoAny s [76, 82] p) (hp : ¬ p < s.length) : indexAny s [76, 82] = -1 :=
  indexAny_none fun j b hj hb => h j b (by omega) hb

open Go.Lib in
theorem indexAny_lt : ∀ (s : List UInt8) (cs : List UInt8), indexAny s cs < (s.length : Int)
  | [], _ => by simp [indexAny]
  | b :: l, cs => by
    have ih := indexAny_lt l cs
    unfold indexAny
    rw [List.length_cons]
    split
    · omega
    · split <;> omega

open Go.Lib in
set_option maxRecDepth 100000 in
set_option maxHeartbeats 4000000 in
theorem shouldUse_c (a0 : Int) (w : World)  :
    Calls Tryz.prog 43 #[.int .i64 a0] w fun e w' => e = .returned (.bool (decide (8 < a0))) ∧ w = w' := by
  have HH1 := Held.start Nob w
  refine enter (n := 5) Tryz.func43 rfl rfl rfl fun a_2 HE3 => ?_
  refine wp_seq ?_
  refine rg ?_
  refine pl_x HE3 HH1 (wt0 rfl) (x_assign rfl) rfl rfl fun a_4 HE5 => ?_
  refine wpList_nil ?_
  clear a_2 HE3
  refine nrm ?_
  refine wp_seq ?_
  refine rg ?_
  refine pl_x HE5 HH1 (wt0 rfl) (x_move rfl) rfl rfl fun a_6 HE7 => ?_
  refine pl_x HE7 HH1 (wt0 rfl) (x_gtr rfl rfl) rfl rfl fun a_8 HE9 => ?_
  refine pl_x HE9 HH1 (wt0 rfl) (x_assign rfl) rfl rfl fun a_10 HE11 => ?_
  refine wpList_nil ?_
  clear a_4 HE5 a_6 HE7 a_8 HE9
  refine nrm ?_
  refine wp_ret ?_
  refine ret1 HE11 rfl (rv_tmp rfl) ?_
  have hF : (decide (8 < a0)) = decide (8 < a0) := by
    rfl
  exact ⟨by first | (rw [hF] <;> rfl) | rfl | (rw [hF]; simp only [Ending.returned.injEq, Value.slice.injEq, true_and, and_true]; first | omega | (simp; done)) | (rw [hF]; simp; omega), rfl⟩

open Go.Lib in
set_option maxRecDepth 100000 in
set_option maxHeartbeats 4000000 in
theorem IndexAny_short (a0 : List UInt8) (a1 : List UInt8) (w : World) (s0 : a0.length ≤ 8) (s1 : a1 = [76, 82]) :
    Calls Tryz.prog 22 #[.string (bs a0), .string (bs a1)] w fun e w' => e = .returned (.int .i64 (Go.Lib.indexAny a0 [76, 82])) ∧ Below w.heap.size w w' := by
  subst s1
  have HH1 := Held.start Nob w
  refine enter (n := 55) Tryz.func22 rfl rfl rfl fun a_2 HE3 => ?_
  refine wp_seq ?_
  refine rg ?_
  refine pl_x HE3 HH1 (wt0 rfl) (x_assign rfl) rfl rfl fun a_4 HE5 => ?_
  refine wpList_nil ?_
  clear a_2 HE3
  refine nrm ?_
  refine wp_seq ?_
  refine wp_seq ?_
  refine rg ?_
  refine pl_x HE5 HH1 (wt0 rfl) (x_move rfl) rfl rfl fun a_6 HE7 => ?_
  refine pl_x HE7 HH1 (wt0 rfl) (x_seqlB rfl rfl) rfl rfl fun a_8 HE9 => ?_
  refine wpList_nil ?_
  clear a_4 HE5 a_6 HE7
  refine nrm ?_
  refine cnd_d HE9 rfl (fun hc21 => ?_) (fun hc21 => ?_)
  · exact absurd hc21 (by decide)
  · refine wp_skip ?_
    refine nrm ?_
    refine wp_seq ?_
    refine wp_seq ?_
    refine rg ?_
    refine pl_x HE9 HH1 (wt0 rfl) (x_move rfl) rfl rfl fun a_10 HE11 => ?_
    refine pl_x HE11 HH1 (wt0 rfl) (x_lenB Tryz.underlying9 rfl) rfl rfl fun a_12 HE13 => ?_
    refine pl_x HE13 HH1 (wt0 rfl) (x_eql rfl rfl) rfl rfl fun a_14 HE15 => ?_
    refine wpList_nil ?_
    clear a_8 HE9 a_10 HE11 a_12 HE13
    refine nrm ?_
    refine cnd_e HE15 rfl (fun hc22 => ?_) (fun hc22 => ?_)
    · exact absurd hc22 (by decide)
    · refine wp_skip ?_
      refine nrm ?_
      refine wp_seq ?_
      refine wp_seq ?_
      refine rg ?_
      refine pl_x HE15 HH1 (wt0 rfl) (x_move rfl) rfl rfl fun a_16 HE17 => ?_
      refine pl_x HE17 HH1 (wt0 rfl) (x_lenB Tryz.underlying9 rfl) rfl rfl fun a_18 HE19 => ?_
      refine pl fun K_20 hK21 => ?_
      refine st_call HE19 (wt0 rfl) rfl rfl rfl en_43 rfl rfl (shouldUse_c (List.length a0 : Int) _ ) fun e w' hr => ?_
      obtain ⟨rfl, rfl⟩ := hr
      refine ⟨_, rfl, fun a_22 HE23 => hK21 _ _ ?_⟩
      refine wpList_nil ?_
      clear a_14 HE15 a_16 HE17 a_18 HE19 hK21 K_20
      refine nrm ?_
      refine cnd_b HE23 rfl (fun hc24 => ?_) (fun hc24 => ?_)
      · exact absurd (of_decide_eq_true hc24) (by omega)
      · refine wp_skip ?_
        refine nrm ?_
        refine wp_seq ?_
        refine wp_seq ?_
        refine rg ?_
        refine pl_x HE23 HH1 (wt0 rfl) (x_move rfl) rfl rfl fun a_24 HE25 => ?_
        refine pl fun K_26 hK27 => ?_
        refine st_range HE25 HH1 Tryz.underlying9 rfl (wt0 rfl) rfl fun q25 a_28 w' HE29 HH30 => hK27 _ _ ?_
        refine wpList_nil ?_
        clear a_22 HE23 a_24 HE25 HH1 hK27 K_26
        refine nrm ?_
        refine wp_block ?_
        refine lp (fun m a w' => ∃ (p : Nat), m = a0.length - p ∧ Env 55 [(1, .string (bs ([76, 82]))), (45, .pointer (some ⟨q25, 0, none⟩))] a ∧ Held Nob w [rIt q25 a0 p] w' ∧ (p ≤ a0.length) ∧ (Go.Lib.NoAny a0 [76, 82] p)) (a0.length - (0)) ?_ ?_
        · exact ⟨0, rfl, HE29.sub ⟨rfl, rfl, trivial⟩, (HH30.sel [0] (by decide) rfl), (by first | omega | assumption | (simp; done) | simp_all), (by exact Go.Lib.NoAny.zero _ _)⟩
        · rintro m a_31 w' ⟨p, rfl, HE32, HH33, p26_0, p26_1⟩
          refine wp_seq ?_
          refine rg ?_
          by_cases hc27 : p < List.length a0
          · refine pl fun K_34 hK35 => ?_
            refine st_nextT 0 HE32 HH33 rfl (of_decide_eq_true (decide_eq_true hc27)) rfl (wt0 rfl) rfl fun a_36 w' HE37 HH38 => hK35 _ _ ?_
            have rn28_0 := rnA_pos (of_decide_eq_true (decide_eq_true hc27))
            have rn28_1 := rnA_le (of_decide_eq_true (decide_eq_true hc27))
            have rn28_2 := rnA_top a0 p
            have hR := rnA_top a0 p
            have hR1 := rnA_pos (s := a0) (p := p) (by omega)
            have hR2 := rnA_le (s := a0) (p := p) (by omega)
            refine pl_x HE37 HH38 (wt0 rfl) (x_extract rfl rfl) rfl rfl fun a_39 HE40 => ?_
            refine wpList_nil ?_
            clear a_28 HE29 HH30 a_31 HE32 HH33 a_36 HE37 hK35 K_34
            refine nrm ?_
            refine wp_seq ?_
            refine cndT HE40 rfl rfl ?_
            refine wp_skip ?_
            refine nrm ?_
            refine wp_block ?_
            refine wp_seq ?_
            refine rg ?_
            refine pl_x HE40 HH38 (wt0 rfl) (x_extract rfl rfl) rfl rfl fun a_41 HE42 => ?_
            refine pl_x HE42 HH38 (wt0 rfl) (x_extract rfl rfl) rfl rfl fun a_43 HE44 => ?_
            refine pl_x HE44 HH38 (wt0 rfl) (x_assign rfl) rfl rfl fun a_45 HE46 => ?_
            refine pl_x HE46 HH38 (wt0 rfl) (x_assign rfl) rfl rfl fun a_47 HE48 => ?_
            refine wpList_nil ?_
            clear a_39 HE40 a_41 HE42 a_43 HE44 a_45 HE46
            refine nrm ?_
            refine wp_seq ?_
            refine rg ?_
            refine pl_x HE48 HH38 (wt0 rfl) (x_move rfl) rfl rfl fun a_49 HE50 => ?_
            refine pl_x HE50 HH38 (wt0 rfl) (x_move rfl) rfl rfl fun a_51 HE52 => ?_
            refine pl fun K_53 hK54 => ?_
            refine st_call HE52 (wt0 rfl) rfl rfl rfl en_42 rfl rfl (IndexRune_LR (rnA a0 p).1 _ (by omega)) fun e w' hr => ?_
            have hAr29_0 := lrI_bd (rnA a0 p).1
            obtain ⟨rfl, hbr29⟩ := hr
            have HH55 := HH38.on hbr29
            refine ⟨_, rfl, fun a_56 HE57 => hK54 _ _ ?_⟩
            refine pl_x HE57 HH55 (wt0 rfl) (x_geq rfl rfl) rfl rfl fun a_58 HE59 => ?_
            refine wpList_nil ?_
            clear a_47 HE48 a_49 HE50 HH38 a_51 HE52 a_56 HE57 hK54 K_53
            refine nrm ?_
            refine cnd_d HE59 rfl (fun hc30 => ?_) (fun hc30 => ?_)
            · refine wp_seq ?_
              refine rg ?_
              refine pl_x HE59 HH55 (wt0 rfl) (x_move rfl) rfl rfl fun a_60 HE61 => ?_
              refine pl_x HE61 HH55 (wt0 rfl) (x_assign rfl) rfl rfl fun a_62 HE63 => ?_
              refine wpList_nil ?_
              clear a_58 HE59 a_60 HE61
              refine nrm ?_
              refine wp_ret ?_
              refine (blk_ret (thn_ret (blk_ret (thn_ret ?_))))
              refine ret1 HE63 rfl (rv_tmp rfl) ?_
              have hF : (Go.Lib.indexAny a0 [76, 82]) = ((p : Nat) : Int) := by
                first | exact noLR_hit p26_1 (by omega) (by omega) | exact noLR_end p26_1 (by omega)
              exact ⟨by first | (rw [hF] <;> rfl) | rfl | (rw [hF]; simp only [Ending.returned.injEq, Value.slice.injEq, true_and, and_true]; first | omega | (simp; done)) | (rw [hF]; simp; omega), HH55.below⟩
            · refine wp_skip ?_
              refine blk_n ?_
              have E31 : ((p + (rnA a0 p).2)) = (p + (rnA a0 p).2) := by first | rfl | omega
              exact nrm ⟨a0.length - ((p + (rnA a0 p).2)), (by omega), (p + (rnA a0 p).2), rfl, HE59.sub ⟨rfl, rfl, trivial⟩, ((HH55.sel [0] (by decide) rfl).to (by first | rfl | (rw [E31]; done) | (rw [E31]; rfl) | (simp only [E31]; done) | (simp only [E31]; rfl) | (rw [E31]; simp only [List.length_set]; done))), (by omega), (by exact noLR_step p26_1 (by omega) (by omega))⟩
          · refine pl fun K_64 hK65 => ?_
            refine st_nextF 0 HE32 HH33 rfl (of_decide_eq_false (decide_eq_false hc27)) rfl (wt0 rfl) rfl fun a_66 HE67 => hK65 _ _ ?_
            refine pl_x HE67 HH33 (wt0 rfl) (x_extract rfl rfl) rfl rfl fun a_68 HE69 => ?_
            refine wpList_nil ?_
            clear a_28 HE29 HH30 a_31 HE32 a_66 HE67 hK65 K_64
            refine nrm ?_
            refine wp_seq ?_
            refine cndF HE69 rfl rfl ?_
            refine wp_exit ?_
            refine (thn_exit (thn_exit (blk_hit ?_)))
            refine nrm ?_
            refine wp_seq ?_
            refine rg ?_
            refine pl_x HE69 HH33 (wt0 rfl) (x_assign rfl) rfl rfl fun a_70 HE71 => ?_
            refine wpList_nil ?_
            clear a_68 HE69
            refine nrm ?_
            refine wp_ret ?_
            refine ret1 HE71 rfl (rv_tmp rfl) ?_
            have hF : (Go.Lib.indexAny a0 [76, 82]) = -1 := by
              first | exact noLR_hit p26_1 (by omega) (by omega) | exact noLR_end p26_1 (by omega)
            exact ⟨by first | (rw [hF] <;> rfl) | rfl | (rw [hF]; simp only [Ending.returned.injEq, Value.slice.injEq, true_and, and_true]; first | omega | (simp; done)) | (rw [hF]; simp; omega), HH33.below⟩

open Go.Lib in
def shelf_153_ren : Go.Shelf.Ren := ⟨fun | 153 => 22 | 152 => 42 | 226 => 43 | 227 => 44 | 228 => 45 | 137 => 59 | 119 => 60 | 224 => 61 | 225 => 62 | 217 => 70 | 266 => 81 | n => n, fun | 9 => 9 | 3 => 3 | 4 => 4 | 5 => 5 | 21 => 21 | 117 => 68 | 116 => 67 | 0 => 0 | 46 => 92 | 124 => 93 | n => n, fun | n => n⟩

open Go.Lib in
theorem shelf_153 : Go.Proofs.Lays.n153 Tryz.prog shelf_153_ren := {
  mixed := by kernel_rfl
  f119 := Tryz.func60.trans (congrArg some (by kernel_rfl))
  f137 := Tryz.func59.trans (congrArg some (by kernel_rfl))
  f152 := Tryz.func42.trans (congrArg some (by kernel_rfl))
  f153 := Tryz.func22.trans (congrArg some (by kernel_rfl))
  f217 := Tryz.func70.trans (congrArg some (by kernel_rfl))
  f224 := Tryz.func61.trans (congrArg some (by kernel_rfl))
  f225 := Tryz.func62.trans (congrArg some (by kernel_rfl))
  f226 := Tryz.func43.trans (congrArg some (by kernel_rfl))
  f227 := Tryz.func44.trans (congrArg some (by kernel_rfl))
  f228 := Tryz.func45.trans (congrArg some (by kernel_rfl))
  f266 := Tryz.func81.trans (congrArg some (by kernel_rfl))
  t0 := Tryz.underlying0
  a0 := Tryz.isAgg0
  z0 := Tryz.sizeOf0
  v0 := Tryz.zeroValue0
  t3 := Tryz.underlying3
  a3 := Tryz.isAgg3
  z3 := Tryz.sizeOf3
  v3 := Tryz.zeroValue3
  t4 := Tryz.underlying4
  a4 := Tryz.isAgg4
  z4 := Tryz.sizeOf4
  v4 := Tryz.zeroValue4
  t5 := Tryz.underlying5
  a5 := Tryz.isAgg5
  z5 := Tryz.sizeOf5
  v5 := Tryz.zeroValue5
  t9 := Tryz.underlying9
  a9 := Tryz.isAgg9
  z9 := Tryz.sizeOf9
  v9 := Tryz.zeroValue9
  t21 := Tryz.underlying21
  a21 := Tryz.isAgg21
  z21 := Tryz.sizeOf21
  v21 := Tryz.zeroValue21
  t46 := Tryz.underlying92
  a46 := Tryz.isAgg92
  z46 := Tryz.sizeOf92
  v46 := Tryz.zeroValue92
  t116 := Tryz.underlying67
  a116 := Tryz.isAgg67
  z116 := Tryz.sizeOf67
  t117 := Tryz.underlying68
  a117 := Tryz.isAgg68
  z117 := Tryz.sizeOf68
  v117 := Tryz.zeroValue68
  t124 := Tryz.underlying93
  a124 := Tryz.isAgg93
  z124 := Tryz.sizeOf93
  v124 := Tryz.zeroValue93 }

open Go.Lib in
theorem info_set : (Tryz.prog.info? (shelf_153_ren.t 116)).map (fun i => (i.zero, i.size)) = some (some (.agg (Array.replicate 256 (.bool false))), 256) := by kernel_rfl

open Go.Lib in
theorem IndexAny_LR (a0 : List UInt8) (w : World) (s0 : a0.length ≤ 2000000) : Calls Tryz.prog 22 #[.string (bs a0), .string (bs [76, 82])] w fun e w' => e = .returned (.int .i64 (indexAny a0 [76, 82])) ∧ Below w.heap.size w w' := by
  by_cases h : a0.length ≤ 8
  · exact IndexAny_short a0 [76, 82] w h rfl
  · have e1 : (bs a0).data.toList = a0 := by simp [bs]
    have e2 : (bs [76, 82]).data.toList = [76, 82] := by simp [bs]
    refine (Any.strings_IndexAny_long shelf_153 (zero_of_info info_set).1 (zero_of_info info_set).2 (bs a0) (bs [76, 82]) w (by rw [bs_size]; simp) (by rw [bs_size]; omega) (by rw [bs_size]; omega) (by rw [bs_size]; simp) ?_).mono fun e w' ⟨he, hw⟩ => ⟨?_, ?_⟩
    · rw [e2]
      intro j b hb
      have := List.mem_of_getElem? hb
      simp only [List.mem_cons, List.not_mem_nil, or_false] at this
      rcases this with rfl | rfl <;> decide
    · rw [he, e1, e2]
    · rw [hw]
      exact ((Below.refl _ _).alloc (Nat.le_refl _) _).alloc (by simp) _

open Go.Lib in
theorem readRl_no {s : List UInt8} (h : Go.Lib.indexAny s [76, 82] < 0) : readRl s = noRl := if_pos h

open Go.Lib in
theorem readRl_L {s : List UInt8} {c : UInt8} (h : ¬ Go.Lib.indexAny s [76, 82] < 0) (g : s[(Go.Lib.indexAny s [76, 82]).toNat]? = some c) (hc : (c.toNat : Int) = 76) : readRl s = ((numR (s.take (Go.Lib.indexAny s [76, 82]).toNat)).1, -1, (numR (s.drop (Go.Lib.indexAny s [76, 82] + 1).toNat)).1) := by
  have e : c = 76 := (u8_is (n := 76) (by omega)).2 hc
  unfold readRl
  rw [if_neg h, g, Option.getD_some, if_pos e, show (Go.Lib.indexAny s [76, 82] + 1).toNat = (Go.Lib.indexAny s [76, 82]).toNat + 1 from by omega]

open Go.Lib in
theorem readRl_R {s : List UInt8} {c : UInt8} (h : ¬ Go.Lib.indexAny s [76, 82] < 0) (g : s[(Go.Lib.indexAny s [76, 82]).toNat]? = some c) (hc : ¬ (c.toNat : Int) = 76) : readRl s = ((numR (s.take (Go.Lib.indexAny s [76, 82]).toNat)).1, 1, (numR (s.drop (Go.Lib.indexAny s [76, 82] + 1).toNat)).1) := by
  have e : ¬ c = 76 := fun e => hc ((u8_is (n := 76) (by omega)).1 e)
  unfold readRl
  rw [if_neg h, g, Option.getD_some, if_neg e, show (Go.Lib.indexAny s [76, 82] + 1).toNat = (Go.Lib.indexAny s [76, 82]).toNat + 1 from by omega]

open Go.Lib in
set_option maxRecDepth 100000 in
set_option maxHeartbeats 4000000 in
theorem impl_readRule (a0 : List UInt8) (w : World) (hG : Glob2 w) (s0 : a0.length ≤ 2000000) :
    Calls Tryz.prog 12 #[.string (bs a0)] w fun e w' => ∃ (es0' : List Value), e = .returned (.agg es0'.toArray) ∧ eRule.O w' (Fr w w') es0' (readRl a0) ∧ Below w.heap.size w w' := by
  have HH1 := Held.start Nob w
  refine enter (n := 34) Tryz.func12 rfl rfl rfl fun a_2 HE3 => ?_
  refine wp_seq ?_
  refine rg ?_
  refine pl fun K_4 hK5 => ?_
  refine st_alloc HE3 HH1 tv_34 (wt0 rfl) rfl fun q21 a_6 w' HE7 HH8 => hK5 _ _ ?_
  refine wpList_nil ?_
  clear a_2 HE3 HH1 hK5 K_4
  refine nrm ?_
  refine wp_seq ?_
  refine rg ?_
  refine pl_x HE7 HH8 (wt0 rfl) (x_move rfl) rfl rfl fun a_9 HE10 => ?_
  refine pl fun K_11 hK12 => ?_
  refine st_call HE10 (wt0 rfl) rfl rfl rfl en_22 rfl rfl (IndexAny_LR a0 _ (by omega)) fun e w' hr => ?_
  have hAr22_0 := indexAny_lt a0 [76, 82]
  have hAr22_1 := Go.Lib.indexAny_ge [76, 82] a0
  obtain ⟨rfl, hbr22⟩ := hr
  have HH13 := HH8.on hbr22
  refine ⟨_, rfl, fun a_14 HE15 => hK12 _ _ ?_⟩
  refine pl_x HE15 HH13 (wt0 rfl) (x_assign rfl) rfl rfl fun a_16 HE17 => ?_
  refine wpList_nil ?_
  clear a_6 HE7 HH8 a_9 HE10 a_14 HE15 hK12 K_11
  refine nrm ?_
  refine wp_seq ?_
  refine wp_seq ?_
  refine rg ?_
  refine pl_x HE17 HH13 (wt0 rfl) (x_move rfl) rfl rfl fun a_18 HE19 => ?_
  refine pl_x HE19 HH13 (wt0 rfl) (x_lss rfl rfl) rfl rfl fun a_20 HE21 => ?_
  refine wpList_nil ?_
  clear a_16 HE17 a_18 HE19
  refine nrm ?_
  refine cnd_d HE21 rfl (fun hc23 => ?_) (fun hc23 => ?_)
  · refine wp_seq ?_
    refine rg ?_
    refine pl fun K_22 hK23 => ?_
    refine st_call HE21 (wt0 rfl) rfl rfl rfl en_23 rfl rfl (impl_noRule  _ ) fun e w' hr => ?_
    obtain ⟨esr24_0, rfl, hor24_0, hbr24⟩ := hr
    have hr := eRule.read hor24_0
    obtain ⟨Sr24, HH24⟩ := HH13.newO hbr24 hor24_0
    obtain ⟨rfl, gr24_0_0, gr24_0_1, gr24_0_2⟩ := shape_Rule hr
    have jr24_0_0 := gr24_0_0; unfold I64 at jr24_0_0
    have jr24_0_1 := gr24_0_1; unfold I64 at jr24_0_1
    have jr24_0_2 := gr24_0_2; unfold I64 at jr24_0_2
    have HH25 := HH24.sel [1] (by decide) rfl
    refine ⟨_, rfl, fun a_26 HE27 => hK23 _ _ ?_⟩
    refine pl fun K_28 hK29 => ?_
    refine st_store (vs := [.int .i64 (noRl.1), .int .i64 (noRl.2.1), .int .i64 (noRl.2.2)]) 0 HE27 HH25 tv_34 rfl rfl rfl rfl rfl rfl (by simp [Value.oneCell']) (wt0 rfl) fun w' HH30 => hK29 _ _ ?_
    refine wpList_nil ?_
    clear HH13 HH24 a_20 HE21 K_22 hK23 HH25 hK29 K_28
    refine nrm ?_
    refine wp_ret ?_
    refine (thn_ret ?_)
    refine ret1 HE27 rfl (rv_cell rfl (tv_34.loadN (cs := [.int .i64 (noRl.1), .int .i64 (noRl.2.1), .int .i64 (noRl.2.2)]) rfl (c_blkN 0 rfl _ HH30))) ?_
    have HH31 := HH30.flatO (E := eRule) (cs := [.int .i64 (noRl.1), .int .i64 (noRl.2.1), .int .i64 (noRl.2.2)]) (x := noRl) (fun _ => (oPrN (oI (by exact ⟨by omega, by omega⟩)) (oPrN (oI (by exact ⟨by omega, by omega⟩)) (oI (by exact ⟨by omega, by omega⟩)))))
    have hF : (readRl a0) = noRl := by
      first | exact readRl_no (by assumption) | exact readRl_L (by assumption) gx (by assumption) | exact readRl_R (by assumption) gx (by assumption)
    exact ⟨_, rfl, by rw [hF]; exact (HH31.o (i := 0) rfl), HH31.below⟩
  · have ht1 : (List.take (Go.Lib.indexAny a0 [76, 82]).toNat a0).length ≤ 2000000 := by rw [List.length_take]; omega
    have ht2 : (List.drop (Go.Lib.indexAny a0 [76, 82] + 1).toNat a0).length ≤ 2000000 := by rw [List.length_drop]; omega
    refine wp_skip ?_
    refine nrm ?_
    refine wp_seq ?_
    refine rg ?_
    refine pl_x HE21 HH13 (wt0 rfl) (show XS _ _ _ _ (.agg #[.int .i64 (0), .int .i64 (1), .int .i64 (0)]) from x_build (vs := [(1, .int .i64 (1))]) tb_34 rfl (by simp [Value.oneCell'])) rfl rfl fun a_32 HE33 => ?_
    refine pl fun K_34 hK35 => ?_
    refine st_alloc HE33 HH13 tv_34 (wt0 rfl) rfl fun q25 a_36 w' HE37 HH38 => hK35 _ _ ?_
    refine pl fun K_39 hK40 => ?_
    refine st_store (vs := [.int .i64 (0), .int .i64 (1), .int .i64 (0)]) 0 HE37 HH38 tv_34 rfl rfl rfl rfl rfl rfl (by simp [Value.oneCell']) (wt0 rfl) fun w' HH41 => hK40 _ _ ?_
    refine wpList_nil ?_
    clear a_20 HE21 a_32 HE33 HH13 K_34 hK35 HH38 hK40 K_39
    refine nrm ?_
    refine wp_seq ?_
    refine wp_seq ?_
    refine rg ?_
    refine pl_x HE37 HH41 (wt0 rfl) (x_move rfl) rfl rfl fun a_42 HE43 => ?_
    refine pl_x HE43 HH41 (wt0 rfl) (x_move rfl) rfl rfl fun a_44 HE45 => ?_
    have ke26 : ((Go.Lib.indexAny a0 [76, 82])).toNat < List.length a0 := by first | omega | (simp only [List.length_cons, List.length_nil]; omega)
    obtain ⟨e26, xe26⟩ : ∃ x_, x_ = a0[((Go.Lib.indexAny a0 [76, 82])).toNat] := ⟨_, rfl⟩
    have je26 : 0 ≤ (e26.toNat : Int) ∧ (e26.toNat : Int) ≤ 255 := by have := e26.toNat_lt; omega
    have gx : a0[((Go.Lib.indexAny a0 [76, 82])).toNat]? = some e26 := by rw [xe26]; exact List.getElem?_eq_getElem _
    refine pl_x HE45 HH41 (wt0 rfl) (x_idxB Tryz.underlying9 rfl rfl (by omega) ke26 xe26) rfl rfl fun a_46 HE47 => ?_
    refine pl_x HE47 HH41 (wt0 rfl) (x_eql rfl rfl) rfl rfl fun a_48 HE49 => ?_
    refine wpList_nil ?_
    clear a_36 HE37 a_42 HE43 a_44 HE45 a_46 HE47
    refine nrm ?_
    refine cnd_e HE49 rfl (fun hc27 => ?_) (fun hc27 => ?_)
    · refine rg ?_
      refine pl_x HE49 HH41 (wt0 rfl) (x_fieldAddr fa_34_1 rfl) rfl rfl fun a_50 HE51 => ?_
      refine pl fun K_52 hK53 => ?_
      refine st_store (vs := [.int .i64 (-1)]) 0 HE51 HH41 tv_2 rfl rfl rfl rfl rfl rfl (by simp [Value.oneCell']) (wt0 rfl) fun w' HH54 => hK53 _ _ ?_
      refine wpList_nil ?_
      clear a_48 HE49 HH41 hK53 K_52
      refine nrm ?_
      refine wp_seq ?_
      refine rg ?_
      refine pl_x HE51 HH54 (wt0 rfl) (x_move rfl) rfl rfl fun a_55 HE56 => ?_
      refine pl_x HE56 HH54 (wt0 rfl) (x_move rfl) rfl rfl fun a_57 HE58 => ?_
      refine pl_x HE58 HH54 (wt0 rfl) (x_sliceST (k := (((Go.Lib.indexAny a0 [76, 82])).toNat)) Tryz.underlying9 rfl rfl (by omega) (by first | omega | (simp only [List.length_append, List.length_cons, List.length_nil]; omega) | (simp; omega))) rfl rfl fun a_59 HE60 => ?_
      refine pl fun K_61 hK62 => ?_
      refine st_call HE60 (wt0 rfl) rfl rfl rfl en_24 rfl rfl (impl_ReadDecimal (a0.take (((Go.Lib.indexAny a0 [76, 82])).toNat)) _ (HH54.glob2 hG) (by omega)) fun e w' hr => ?_
      have hAr28_0 := numR_bd (a0.take (((Go.Lib.indexAny a0 [76, 82])).toNat))
      obtain ⟨rfl, hbr28⟩ := hr
      have HH63 := HH54.on hbr28
      refine ⟨_, rfl, fun a_64 HE65 => hK62 _ _ ?_⟩
      refine pl_x HE65 HH63 (wt0 rfl) (x_move rfl) rfl rfl fun a_66 HE67 => ?_
      refine pl_x HE67 HH63 (wt0 rfl) (x_extract rfl rfl) rfl rfl fun a_68 HE69 => ?_
      refine pl_x HE69 HH63 (wt0 rfl) (x_extract rfl rfl) rfl rfl fun a_70 HE71 => ?_
      refine pl_x HE71 HH63 (wt0 rfl) (x_fieldAddr fa_34_0 rfl) rfl rfl fun a_72 HE73 => ?_
      refine pl fun K_74 hK75 => ?_
      refine st_store (vs := [.int .i64 ((numR (a0.take (((Go.Lib.indexAny a0 [76, 82])).toNat))).1)]) 0 HE73 HH63 tv_2 rfl rfl rfl rfl rfl rfl (by simp [Value.oneCell']) (wt0 rfl) fun w' HH76 => hK75 _ _ ?_
      refine wpList_nil ?_
      clear a_50 HE51 a_55 HE56 a_57 HE58 HH54 a_59 HE60 a_64 HE65 a_66 HE67 a_68 HE69 a_70 HE71 K_61 hK62 HH63 hK75 K_74
      refine nrm ?_
      refine wp_seq ?_
      refine rg ?_
      refine pl_x HE73 HH76 (wt0 rfl) (x_move rfl) rfl rfl fun a_77 HE78 => ?_
      refine pl_x HE78 HH76 (wt0 rfl) (x_move rfl) rfl rfl fun a_79 HE80 => ?_
      refine pl_x HE80 HH76 (wt0 rfl) (x_add rfl rfl (by exact ⟨by omega, by omega⟩)) rfl rfl fun a_81 HE82 => ?_
      refine pl_x HE82 HH76 (wt0 rfl) (x_sliceSL (k := ((((Go.Lib.indexAny a0 [76, 82]) + 1)).toNat)) Tryz.underlying9 rfl rfl (by omega) (by first | omega | (simp only [List.length_append, List.length_cons, List.length_nil]; omega) | (simp; omega))) rfl rfl fun a_83 HE84 => ?_
      refine pl fun K_85 hK86 => ?_
      refine st_call HE84 (wt0 rfl) rfl rfl rfl en_24 rfl rfl (impl_ReadDecimal (a0.drop ((((Go.Lib.indexAny a0 [76, 82]) + 1)).toNat)) _ (HH76.glob2 hG) (by omega)) fun e w' hr => ?_
      have hAr29_0 := numR_bd (a0.drop ((((Go.Lib.indexAny a0 [76, 82]) + 1)).toNat))
      obtain ⟨rfl, hbr29⟩ := hr
      have HH87 := HH76.on hbr29
      refine ⟨_, rfl, fun a_88 HE89 => hK86 _ _ ?_⟩
      refine pl_x HE89 HH87 (wt0 rfl) (x_move rfl) rfl rfl fun a_90 HE91 => ?_
      refine pl_x HE91 HH87 (wt0 rfl) (x_extract rfl rfl) rfl rfl fun a_92 HE93 => ?_
      refine pl_x HE93 HH87 (wt0 rfl) (x_extract rfl rfl) rfl rfl fun a_94 HE95 => ?_
      refine pl_x HE95 HH87 (wt0 rfl) (x_fieldAddr fa_34_2 rfl) rfl rfl fun a_96 HE97 => ?_
      refine pl fun K_98 hK99 => ?_
      refine st_store (vs := [.int .i64 ((numR (a0.drop ((((Go.Lib.indexAny a0 [76, 82]) + 1)).toNat))).1)]) 0 HE97 HH87 tv_2 rfl rfl rfl rfl rfl rfl (by simp [Value.oneCell']) (wt0 rfl) fun w' HH100 => hK99 _ _ ?_
      refine wpList_nil ?_
      clear a_72 HE73 a_77 HE78 a_79 HE80 a_81 HE82 HH76 a_83 HE84 a_88 HE89 a_90 HE91 a_92 HE93 a_94 HE95 K_85 hK86 HH87 hK99 K_98
      refine nrm ?_
      refine wp_seq ?_
      refine rg ?_
      refine pl_x HE97 HH100 (wt0 rfl) (x_loadN (cs := [.int .i64 ((numR (a0.take (((Go.Lib.indexAny a0 [76, 82])).toNat))).1), .int .i64 (-1), .int .i64 ((numR (a0.drop ((((Go.Lib.indexAny a0 [76, 82]) + 1)).toNat))).1)]) tv_34 rfl rfl (c_blkN 0 rfl)) rfl rfl fun a_101 HE102 => ?_
      refine pl fun K_103 hK104 => ?_
      refine st_store (vs := [.int .i64 ((numR (a0.take (((Go.Lib.indexAny a0 [76, 82])).toNat))).1), .int .i64 (-1), .int .i64 ((numR (a0.drop ((((Go.Lib.indexAny a0 [76, 82]) + 1)).toNat))).1)]) 1 HE102 HH100 tv_34 rfl rfl rfl rfl rfl rfl (by simp [Value.oneCell']) (wt0 rfl) fun w' HH105 => hK104 _ _ ?_
      refine wpList_nil ?_
      clear a_96 HE97 HH100 hK104 K_103
      refine nrm ?_
      refine wp_ret ?_
      refine ret1 HE102 rfl (rv_cell rfl (tv_34.loadN (cs := [.int .i64 ((numR (a0.take (((Go.Lib.indexAny a0 [76, 82])).toNat))).1), .int .i64 (-1), .int .i64 ((numR (a0.drop ((((Go.Lib.indexAny a0 [76, 82]) + 1)).toNat))).1)]) rfl (c_blkN 1 rfl _ HH105))) ?_
      have HH106 := HH105.flatO (E := eRule) (cs := [.int .i64 ((numR (a0.take (((Go.Lib.indexAny a0 [76, 82])).toNat))).1), .int .i64 (-1), .int .i64 ((numR (a0.drop ((((Go.Lib.indexAny a0 [76, 82]) + 1)).toNat))).1)]) (x := ((numR (a0.take (((Go.Lib.indexAny a0 [76, 82])).toNat))).1, -1, (numR (a0.drop ((((Go.Lib.indexAny a0 [76, 82]) + 1)).toNat))).1)) (fun _ => (oPrN (oI (by exact ⟨by omega, by omega⟩)) (oPrN (oI (by exact ⟨by omega, by omega⟩)) (oI (by exact ⟨by omega, by omega⟩)))))
      have hF : (readRl a0) = ((numR (a0.take (((Go.Lib.indexAny a0 [76, 82])).toNat))).1, -1, (numR (a0.drop ((((Go.Lib.indexAny a0 [76, 82]) + 1)).toNat))).1) := by
        first | exact readRl_no (by assumption) | exact readRl_L (by assumption) gx (by assumption) | exact readRl_R (by assumption) gx (by assumption)
      exact ⟨_, rfl, by rw [hF]; exact (HH106.o (i := 0) rfl), HH106.below⟩
    · refine wp_skip ?_
      refine nrm ?_
      refine wp_seq ?_
      refine rg ?_
      refine pl_x HE49 HH41 (wt0 rfl) (x_move rfl) rfl rfl fun a_107 HE108 => ?_
      refine pl_x HE108 HH41 (wt0 rfl) (x_move rfl) rfl rfl fun a_109 HE110 => ?_
      refine pl_x HE110 HH41 (wt0 rfl) (x_sliceST (k := (((Go.Lib.indexAny a0 [76, 82])).toNat)) Tryz.underlying9 rfl rfl (by omega) (by first | omega | (simp only [List.length_append, List.length_cons, List.length_nil]; omega) | (simp; omega))) rfl rfl fun a_111 HE112 => ?_
      refine pl fun K_113 hK114 => ?_
      refine st_call HE112 (wt0 rfl) rfl rfl rfl en_24 rfl rfl (impl_ReadDecimal (a0.take (((Go.Lib.indexAny a0 [76, 82])).toNat)) _ (HH41.glob2 hG) (by omega)) fun e w' hr => ?_
      have hAr30_0 := numR_bd (a0.take (((Go.Lib.indexAny a0 [76, 82])).toNat))
      obtain ⟨rfl, hbr30⟩ := hr
      have HH115 := HH41.on hbr30
      refine ⟨_, rfl, fun a_116 HE117 => hK114 _ _ ?_⟩
      refine pl_x HE117 HH115 (wt0 rfl) (x_move rfl) rfl rfl fun a_118 HE119 => ?_
      refine pl_x HE119 HH115 (wt0 rfl) (x_extract rfl rfl) rfl rfl fun a_120 HE121 => ?_
      refine pl_x HE121 HH115 (wt0 rfl) (x_extract rfl rfl) rfl rfl fun a_122 HE123 => ?_
      refine pl_x HE123 HH115 (wt0 rfl) (x_fieldAddr fa_34_0 rfl) rfl rfl fun a_124 HE125 => ?_
      refine pl fun K_126 hK127 => ?_
      refine st_store (vs := [.int .i64 ((numR (a0.take (((Go.Lib.indexAny a0 [76, 82])).toNat))).1)]) 0 HE125 HH115 tv_2 rfl rfl rfl rfl rfl rfl (by simp [Value.oneCell']) (wt0 rfl) fun w' HH128 => hK127 _ _ ?_
      refine wpList_nil ?_
      clear a_48 HE49 a_107 HE108 a_109 HE110 HH41 a_111 HE112 a_116 HE117 a_118 HE119 a_120 HE121 a_122 HE123 K_113 hK114 HH115 hK127 K_126
      refine nrm ?_
      refine wp_seq ?_
      refine rg ?_
      refine pl_x HE125 HH128 (wt0 rfl) (x_move rfl) rfl rfl fun a_129 HE130 => ?_
      refine pl_x HE130 HH128 (wt0 rfl) (x_move rfl) rfl rfl fun a_131 HE132 => ?_
      refine pl_x HE132 HH128 (wt0 rfl) (x_add rfl rfl (by exact ⟨by omega, by omega⟩)) rfl rfl fun a_133 HE134 => ?_
      refine pl_x HE134 HH128 (wt0 rfl) (x_sliceSL (k := ((((Go.Lib.indexAny a0 [76, 82]) + 1)).toNat)) Tryz.underlying9 rfl rfl (by omega) (by first | omega | (simp only [List.length_append, List.length_cons, List.length_nil]; omega) | (simp; omega))) rfl rfl fun a_135 HE136 => ?_
      refine pl fun K_137 hK138 => ?_
      refine st_call HE136 (wt0 rfl) rfl rfl rfl en_24 rfl rfl (impl_ReadDecimal (a0.drop ((((Go.Lib.indexAny a0 [76, 82]) + 1)).toNat)) _ (HH128.glob2 hG) (by omega)) fun e w' hr => ?_
      have hAr31_0 := numR_bd (a0.drop ((((Go.Lib.indexAny a0 [76, 82]) + 1)).toNat))
      obtain ⟨rfl, hbr31⟩ := hr
      have HH139 := HH128.on hbr31
      refine ⟨_, rfl, fun a_140 HE141 => hK138 _ _ ?_⟩
      refine pl_x HE141 HH139 (wt0 rfl) (x_move rfl) rfl rfl fun a_142 HE143 => ?_
      refine pl_x HE143 HH139 (wt0 rfl) (x_extract rfl rfl) rfl rfl fun a_144 HE145 => ?_
      refine pl_x HE145 HH139 (wt0 rfl) (x_extract rfl rfl) rfl rfl fun a_146 HE147 => ?_
      refine pl_x HE147 HH139 (wt0 rfl) (x_fieldAddr fa_34_2 rfl) rfl rfl fun a_148 HE149 => ?_
      refine pl fun K_150 hK151 => ?_
      refine st_store (vs := [.int .i64 ((numR (a0.drop ((((Go.Lib.indexAny a0 [76, 82]) + 1)).toNat))).1)]) 0 HE149 HH139 tv_2 rfl rfl rfl rfl rfl rfl (by simp [Value.oneCell']) (wt0 rfl) fun w' HH152 => hK151 _ _ ?_
      refine wpList_nil ?_
      clear a_124 HE125 a_129 HE130 a_131 HE132 a_133 HE134 HH128 a_135 HE136 a_140 HE141 a_142 HE143 a_144 HE145 a_146 HE147 K_137 hK138 HH139 hK151 K_150
      refine nrm ?_
      refine wp_seq ?_
      refine rg ?_
      refine pl_x HE149 HH152 (wt0 rfl) (x_loadN (cs := [.int .i64 ((numR (a0.take (((Go.Lib.indexAny a0 [76, 82])).toNat))).1), .int .i64 (1), .int .i64 ((numR (a0.drop ((((Go.Lib.indexAny a0 [76, 82]) + 1)).toNat))).1)]) tv_34 rfl rfl (c_blkN 0 rfl)) rfl rfl fun a_153 HE154 => ?_
      refine pl fun K_155 hK156 => ?_
      refine st_store (vs := [.int .i64 ((numR (a0.take (((Go.Lib.indexAny a0 [76, 82])).toNat))).1), .int .i64 (1), .int .i64 ((numR (a0.drop ((((Go.Lib.indexAny a0 [76, 82]) + 1)).toNat))).1)]) 1 HE154 HH152 tv_34 rfl rfl rfl rfl rfl rfl (by simp [Value.oneCell']) (wt0 rfl) fun w' HH157 => hK156 _ _ ?_
      refine wpList_nil ?_
      clear a_148 HE149 HH152 hK156 K_155
      refine nrm ?_
      refine wp_ret ?_
      refine ret1 HE154 rfl (rv_cell rfl (tv_34.loadN (cs := [.int .i64 ((numR (a0.take (((Go.Lib.indexAny a0 [76, 82])).toNat))).1), .int .i64 (1), .int .i64 ((numR (a0.drop ((((Go.Lib.indexAny a0 [76, 82]) + 1)).toNat))).1)]) rfl (c_blkN 1 rfl _ HH157))) ?_
      have HH158 := HH157.flatO (E := eRule) (cs := [.int .i64 ((numR (a0.take (((Go.Lib.indexAny a0 [76, 82])).toNat))).1), .int .i64 (1), .int .i64 ((numR (a0.drop ((((Go.Lib.indexAny a0 [76, 82]) + 1)).toNat))).1)]) (x := ((numR (a0.take (((Go.Lib.indexAny a0 [76, 82])).toNat))).1, 1, (numR (a0.drop ((((Go.Lib.indexAny a0 [76, 82]) + 1)).toNat))).1)) (fun _ => (oPrN (oI (by exact ⟨by omega, by omega⟩)) (oPrN (oI (by exact ⟨by omega, by omega⟩)) (oI (by exact ⟨by omega, by omega⟩)))))
      have hF : (readRl a0) = ((numR (a0.take (((Go.Lib.indexAny a0 [76, 82])).toNat))).1, 1, (numR (a0.drop ((((Go.Lib.indexAny a0 [76, 82]) + 1)).toNat))).1) := by
        first | exact readRl_no (by assumption) | exact readRl_L (by assumption) gx (by assumption) | exact readRl_R (by assumption) gx (by assumption)
      exact ⟨_, rfl, by rw [hF]; exact (HH158.o (i := 0) rfl), HH158.below⟩

open Go.Lib in
/-- The symbols as they stand behind k states. -/
def syI (l : List (List UInt8)) (k : Nat) : Int := if k = 0 then 0 else ((splitR 44 (l[k - 1]?.getD [])).length : Int)

open Go.Lib in
theorem syI_succ {l : List (List UInt8)} {k : Nat} {hk : k < l.length} {y : List UInt8} (hy : y = l[k]) : syI l (k + 1) = ((splitR 44 y).length : Int) := by
  unfold syI
  rw [if_neg (by omega), Nat.add_sub_cancel, List.getElem?_eq_getElem hk, Option.getD_some, hy]

open Go.Lib in
/-- The rules of the first k states. -/
def rlF (l : List (List UInt8)) (k : Nat) : List tRule := ((l.take k).map fun r => (splitR 44 r).map readRl).flatten

open Go.Lib in
theorem rlF_snoc {l : List (List UInt8)} {k : Nat} {hk : k < l.length} {y : List UInt8} (hy : y = l[k]) : rlF l (k + 1) = rlF l k ++ (splitR 44 y).map readRl := by
  unfold rlF
  rw [List.take_succ_eq_append_getElem hk, List.map_append, List.flatten_append, ← hy]; simp

open Go.Lib in
theorem flat_len {α β : Type} (f : α → List β) (B : Nat) : ∀ l : List α, (∀ x ∈ l, (f x).length ≤ B) → (l.map f).flatten.length ≤ l.length * B
  | [], _ => by simp
  | a :: l, h => by
    have h1 := flat_len f B l fun x hx => h x (List.mem_cons_of_mem _ hx)
    have h2 := h a List.mem_cons_self
    rw [List.map_cons, List.flatten_cons, List.length_append, List.length_cons, Nat.succ_mul]
    omega

open Go.Lib in
theorem pieces_flat {β : Type} (f : List UInt8 → List β) {s : List UInt8} (hs : s.length ≤ 2000000) (hf : ∀ r, (f r).length = (splitR 44 r).length) (k : Nat) : (((splitR 59 s).take k).map f).flatten.length ≤ 4000004000001 := by
  have h1 := flat_len f 2000001 ((splitR 59 s).take k) fun r hr => by
    have h2 := splitR_piece 59 s r (List.mem_of_mem_take hr)
    have h3 := (splitR_len 44 r).1
    rw [hf]; omega
  have h4 : ((splitR 59 s).take k).length ≤ 2000001 := by
    have := (splitR_len 59 s).1
    rw [List.length_take]; omega
  have h5 : ((splitR 59 s).take k).length * 2000001 ≤ 2000001 * 2000001 := Nat.mul_le_mul_right _ h4
  omega

open Go.Lib in
theorem rlF_len {s : List UInt8} (hs : s.length ≤ 2000000) (k : Nat) : (rlF (splitR 59 s) k).length ≤ 4000004000001 :=
  pieces_flat _ hs (fun r => by rw [List.length_map]) k

open Go.Lib in
theorem maI_full {s : List UInt8} {k : Nat} (hk : ¬ k < (splitR 59 s).length) (hk2 : k ≤ (splitR 59 s).length) : maI s = (syI (splitR 59 s) k, ((splitR 59 s).length : Int), rlF (splitR 59 s) k) := by
  have h1 := (splitR_len 59 s).2
  have e : k = (splitR 59 s).length := by omega
  subst e
  unfold maI syI rlF
  rw [if_neg (by omega), List.take_length, List.getLast?_eq_getElem?]

open Go.Lib in
/-- The reference's rules of the first k states. -/
def rwF (l : List (List UInt8)) (k : Nat) : List tRule := ((l.take k).map rwV).flatten

open Go.Lib in
theorem rwF_snoc {l : List (List UInt8)} {k : Nat} {hk : k < l.length} {y : List UInt8} (hy : y = l[k]) : rwF l (k + 1) = rwF l k ++ (splitR 44 y).map rlV := by
  unfold rwF
  rw [List.take_succ_eq_append_getElem hk, List.map_append, List.flatten_append, ← hy]; simp [rwV]

open Go.Lib in
theorem rwF_len {s : List UInt8} (hs : s.length ≤ 2000000) (k : Nat) : (rwF (splitR 59 s) k).length ≤ 4000004000001 :=
  pieces_flat _ hs (fun r => by unfold rwV; rw [List.length_map]) k

open Go.Lib in
theorem maS_full {s y : List UInt8} {k : Nat} (h0 : 0 < (splitR 59 s).length) (hy : y = (splitR 59 s)[0]) (hk : ¬ k < (splitR 59 s).length) (hk2 : k ≤ (splitR 59 s).length) : maS s = (((splitR 44 y).length : Int), ((splitR 59 s).length : Int), rwF (splitR 59 s) k) := by
  have e : k = (splitR 59 s).length := by omega
  subst e
  unfold maS rwF
  rw [List.take_length, List.getElem?_eq_getElem h0, Option.getD_some, hy]

open Go.Lib in
theorem rdMaS_long {s : List UInt8} (h : ¬ (splitR 59 s).length ≤ 1000) : rdMaS s = ((0, 0, []), false) := if_neg fun hh => h hh.1

open Go.Lib in
theorem rdMaS_row {s y z : List UInt8} {k : Nat} (h0 : 0 < (splitR 59 s).length) (hy : y = (splitR 59 s)[0]) (hk : k < (splitR 59 s).length) (hz : z = (splitR 59 s)[k]) (hr : rwK (splitR 44 y).length z = false) : rdMaS s = ((0, 0, []), false) := by
  refine if_neg fun hh => ?_
  have h1 := List.all_eq_true.1 hh.2.1 z (by rw [hz]; exact List.getElem_mem _)
  rw [List.getElem?_eq_getElem h0, Option.getD_some, ← hy, hr] at h1
  exact Bool.noConfusion h1

open Go.Lib in
theorem rwK_len {n : Nat} {z : List UInt8} (h : ¬ (splitR 44 z).length = n) : rwK n z = false := by
  unfold rwK; rw [decide_eq_false h, Bool.false_and]

open Go.Lib in
theorem rwK_six {n : Nat} {z : List UInt8} (h : ¬ n ≤ 6) : rwK n z = false := by
  unfold rwK; rw [decide_eq_false h, Bool.false_and, Bool.and_false]

open Go.Lib in
theorem rwK_rule {n j : Nat} {z q : List UInt8} {hj : j < (splitR 44 z).length} (hq : q = (splitR 44 z)[j]) (h : (rlS q).2 = false) : rwK n z = false := by
  unfold rwK
  rw [Bool.and_eq_false_iff, Bool.and_eq_false_iff]
  refine .inr (.inr ?_)
  rw [List.all_eq_false]
  refine ⟨q, by rw [hq]; exact List.getElem_mem _, ?_⟩
  unfold rlK; rw [h]; simp

open Go.Lib in
theorem allK_snoc {f : List UInt8 → Bool} {l : List (List UInt8)} {j : Nat} {hj : j < l.length} {q : List UInt8} (h : (l.take j).all f = true) (hq : q = l[j]) (hf : f q = true) : (l.take (j + 1)).all f = true := by
  rw [List.take_succ_eq_append_getElem hj, List.all_append, h, ← hq]; simp [hf]

open Go.Lib in
theorem rwK_yes {n j : Nat} {z : List UInt8} (h1 : (splitR 44 z).length = n) (h2 : n ≤ 6) (hj : ¬ j < (splitR 44 z).length) (h : ((splitR 44 z).take j).all rlK = true) : rwK n z = true := by
  rw [List.take_of_length_le (by omega)] at h
  unfold rwK
  rw [decide_eq_true h1, decide_eq_true h2, h]; rfl

open Go.Lib in
theorem rdMaS_inv {s : List UInt8} {m : tMachine} (hM : maS s = m) (h : validMach m = false) : rdMaS s = ((0, 0, []), false) :=
  if_neg fun hh => by rw [hM, h] at hh; exact Bool.noConfusion hh.2.2

open Go.Lib in
theorem rdMaS_yes {s y : List UInt8} {m : tMachine} {k : Nat} (hM : maS s = m) (hv : validMach m = true) (h : (splitR 59 s).length ≤ 1000) (h0 : 0 < (splitR 59 s).length) (hy : y = (splitR 59 s)[0]) (hk : ¬ k < (splitR 59 s).length) (ha : ((splitR 59 s).take k).all (rwK (splitR 44 y).length) = true) : rdMaS s = (m, true) := by
  rw [List.take_of_length_le (by omega)] at ha
  unfold rdMaS
  rw [if_pos ⟨h, by rw [List.getElem?_eq_getElem h0, Option.getD_some, ← hy]; exact ha, by rw [hM]; exact hv⟩, hM]

open Go.Lib in
theorem syI_bd {s : List UInt8} (hs : s.length ≤ 2000000) (k : Nat) : 0 ≤ syI (splitR 59 s) k ∧ syI (splitR 59 s) k ≤ 2000001 := by
  unfold syI
  split
  · omega
  · have h1 := (splitR_len 44 ((splitR 59 s)[k - 1]?.getD [])).1
    have h2 : ((splitR 59 s)[k - 1]?.getD []).length ≤ s.length := by
      cases h : (splitR 59 s)[k - 1]? with
      | none => simp
      | some r => exact splitR_piece 59 s r (List.mem_of_getElem? h)
    omega

end Go.Proofs.YthfihlfjphiihaaGreatDoor
