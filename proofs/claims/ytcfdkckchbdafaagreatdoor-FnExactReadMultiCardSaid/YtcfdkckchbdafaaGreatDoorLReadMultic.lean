/- What the proof of FnExactReadMulti needs: contracts of the functions that it reaches, each once. -/
import Derived.Test.YtcfdkckchbdafaaGreatDoorProg
import Derived.Test.YtcfdkckchbdafaaGreatDoorQMem
import Derived.Test.YtcfdkckchbdafaaGreatDoorQOpen
import Derived.Test.YtcfdkckchbdafaaGreatDoorLReadMultia
import Derived.Test.YtcfdkckchbdafaaGreatDoorLReadMultib
import Derived.WalkKit
import Derived.WalkSpells
import Derived.Below
import Derived.LoopTactic
import Derived.Outline
import Derived.Deep.QuietTactic
import Derived.BigQuiet
import Derived.Deep.LoopGhost
import Derived.Handy
import Derived.Lib.Hide
import Derived.Shelf.Abstract
import Derived.StillTailTactics
import Derived.OwnWalk
import Derived.Maps.AppendAt
import Derived.RegionTactic
import Derived.Deep.RegionHeld3
import Derived.IntWalk
import Derived.Deep.Upon
import Derived.Laws.OwnMore
import Derived.Maps.AppendAt
import Derived.Laws.BytesString
import Derived.Laws.Strings
import Derived.Lib.Bytes
import Derived.Lib.Strings
import Derived.Lib.FrozenHead
import Derived.Lib.RuneBytes
import Derived.Lib.LaidTab
import Derived.Laws.StructEq
import Derived.Lib.MapLaws
import Derived.Lib.OthersKept
import Derived.Laws.RangeAny
import Derived.Scope
import Derived.Lib.ItoaLen
import Derived.Lib.Join
import Derived.Shelf.Strconv.Itoa4
import Derived.Shelf.Strings.OnBuilder
import Derived.Shelf.Strings.BuilderK
import Derived.Shelf.Strings.BuilderRune
import Derived.Shelf.LaysM
import Derived.Ground.NamesProg
import Derived.Lib.ParseIntBTie
import Derived.Lib.SplitLaws
import Derived.Lib.Replace
import Derived.Shelf.LaysC
import Derived.Shelf.Strconv.ErrVarParseInt
import Derived.Shelf.Strconv.ParseIntPublic10
import Derived.Shelf.Strings.Prefix
import Derived.Shelf.Strings.Cut
import Derived.Shelf.Strings.Split
import Derived.Shelf.Strings.Replace
import Derived.Shelf.Small.Wraps
import Derived.Stop.IfaceNil
import Derived.Shelf.Small.Utf8
import Derived.Shelf.Strings.Runes
namespace Go.Proofs.YtcfdkckchbdafaaGreatDoor
open Go.RowKit

set_option maxRecDepth 100000 in
set_option maxHeartbeats 4000000 in
theorem spec_l01Compare (A0 : Option Addr) (c0 : Nat) (a0 : (List Int)) (A1 : Option Addr) (c1 : Nat) (a1 : (List Int)) (w : World) (h0 : Sl eInt w (Old w) A0 c0 a0) (h1 : Sl eInt w (Old w) A1 c1 a1) :
    Calls Tryz.prog 187 #[.slice A0 a0.length c0, .slice A1 a1.length c1] w fun e w' => e = .returned (.int .i64 (cmpL a0 a1)) ∧ Below w.heap.size w w' := by
  have l0 := h0.len
  have l1 := h1.len
  have HH1 := Held.start Nob w
  refine enter (n := 46) Tryz.func187 rfl rfl rfl fun a_2 HE3 => ?_
  refine wp_seq ?_
  refine rg ?_
  refine pl_x HE3 HH1 (wt0 rfl) (x_assign rfl) rfl rfl fun a_4 HE5 => ?_
  refine wpList_nil ?_
  clear a_2 HE3
  refine nrm ?_
  refine wp_seq ?_
  refine wp_seq ?_
  refine rg ?_
  refine pl_x HE5 HH1 (wt0 rfl) (x_assign rfl) rfl rfl fun a_6 HE7 => ?_
  refine wpList_nil ?_
  clear a_4 HE5
  refine nrm ?_
  refine wp_block ?_
  refine lp (fun m a w' => ∃ (k : Nat), m = a0.length - k ∧ Env 46 [(5, .int .i64 (k : Int)), (0, .slice A0 (a0.length) c0), (1, .slice A1 (a1.length) c1)] a ∧ Held Nob w [] w' ∧ (k ≤ a0.length) ∧ (k ≤ a1.length) ∧ (cmpL a0 a1 = cmpL (a0.drop k) (a1.drop k))) (a0.length - (0)) ?_ ?_
  · exact ⟨0, rfl, HE7.sub ⟨(lkI rfl (by first | rfl | omega | (simp []; done))), rfl, rfl, trivial⟩, (HH1.sel [] (by decide) rfl), (by first | omega | assumption | (simp; done) | simp_all), (by first | omega | assumption | (simp; done) | simp_all), (by rfl)⟩
  · rintro m a_8 w' ⟨k, rfl, HE9, HH10, p21_0, p21_1, p21_2⟩
    refine wp_seq ?_
    refine wp_seq ?_
    refine rg ?_
    refine pl_x HE9 HH10 (wt0 rfl) (x_move rfl) rfl rfl fun a_11 HE12 => ?_
    refine pl_x HE12 HH10 (wt0 rfl) (x_move rfl) rfl rfl fun a_13 HE14 => ?_
    refine pl_x HE14 HH10 (wt0 rfl) (x_len Tryz.underlying25 rfl) rfl rfl fun a_15 HE16 => ?_
    refine pl_x HE16 HH10 (wt0 rfl) (x_lss rfl rfl) rfl rfl fun a_17 HE18 => ?_
    refine pl_x HE18 HH10 (wt0 rfl) (x_move rfl) rfl rfl fun a_19 HE20 => ?_
    by_cases hc22 : (k : Int) < (a0.length : Int)
    · refine pl_x HE20 HH10 (wtT HE20 rfl rfl rfl (decide_eq_true hc22)) (x_move rfl) rfl rfl fun a_21 HE22 => ?_
      refine pl_x HE22 HH10 (wtT HE22 rfl rfl rfl (decide_eq_true hc22)) (x_move rfl) rfl rfl fun a_23 HE24 => ?_
      refine pl_x HE24 HH10 (wtT HE24 rfl rfl rfl (decide_eq_true hc22)) (x_len Tryz.underlying25 rfl) rfl rfl fun a_25 HE26 => ?_
      refine pl_x HE26 HH10 (wtT HE26 rfl rfl rfl (decide_eq_true hc22)) (x_lss rfl rfl) rfl rfl fun a_27 HE28 => ?_
      refine pl_x HE28 HH10 (wt0 rfl) (x_pickT rfl (decide_eq_true hc22) rfl) rfl rfl fun a_29 HE30 => ?_
      refine wpList_nil ?_
      clear a_6 HE7 HH1 a_8 HE9 a_11 HE12 a_13 HE14 a_15 HE16 a_17 HE18 a_19 HE20 a_21 HE22 a_23 HE24 a_25 HE26 a_27 HE28
      refine nrm ?_
      refine cnd_d HE30 rfl (fun hc23 => ?_) (fun hc23 => ?_)
      · refine wp_skip ?_
        refine nrm ?_
        refine wp_seq ?_
        refine wp_block ?_
        refine wp_seq ?_
        refine wp_seq ?_
        refine dr_start (Held Nob w []) 9 #[false, false, false, false, false, false, false, false, false] hmix rfl rfl HH10 (fun _ h => h.sel [] (by decide) rfl) fun w' HH31 => ?_
        have HS32 := HH31
        refine dr_take (i := 0) (ls' := #[true, false, false, false, false, false, false, false, false]) HE30 HS32 rfl (by kernel_rfl) (by kernel_rfl) (by kernel_rfl) (fun _ _ _ h => h) rfl (wt0 rfl) (x_move rfl) rfl rfl fun a_33 HE34 => ?_
        refine dr_take (i := 1) (ls' := #[true, true, false, false, false, false, false, false, false]) HE34 HS32 rfl (by kernel_rfl) (by kernel_rfl) (by kernel_rfl) (fun _ _ _ h => h) rfl (wt0 rfl) (x_move rfl) rfl rfl fun a_35 HE36 => ?_
        have ke24 : k < a0.length := by omega
        obtain ⟨be24, fe24, ese24, Ae24, Re24, De24⟩ := el_old h0 ke24
        obtain ⟨e24, xe24⟩ : ∃ x_, x_ = a0[k] := ⟨_, rfl⟩
        rw [← xe24] at Re24
        have Qe24 := Re24
        obtain ⟨rfl, ie24⟩ := Re24
        have je24 := ie24; unfold I64 at je24
        refine dr_take (i := 2) (ls' := #[true, true, true, false, false, false, false, false, false]) HE36 HS32 rfl (by kernel_rfl) (by kernel_rfl) (by kernel_rfl) (fun _ _ _ h => h) rfl (wt0 rfl) (x_indexAddr ts_25 rfl rfl Ae24 rfl ke24) rfl rfl fun a_37 HE38 => ?_
        refine dr_take (i := 3) (ls' := #[true, true, true, true, false, false, false, false, false]) HE38 HS32 rfl (by kernel_rfl) (by kernel_rfl) (by kernel_rfl) (fun _ _ _ h => h) rfl (wt0 rfl) (x_load1 tv_2 rfl (c_old (De24 0 _ rfl))) rfl rfl fun a_39 HE40 => ?_
        refine dr_take (i := 4) (ls' := #[true, true, true, true, true, false, false, false, false]) HE40 HS32 rfl (by kernel_rfl) (by kernel_rfl) (by kernel_rfl) (fun _ _ _ h => h) rfl (wt0 rfl) (x_move rfl) rfl rfl fun a_41 HE42 => ?_
        refine dr_take (i := 5) (ls' := #[true, true, true, true, true, true, false, false, false]) HE42 HS32 rfl (by kernel_rfl) (by kernel_rfl) (by kernel_rfl) (fun _ _ _ h => h) rfl (wt0 rfl) (x_move rfl) rfl rfl fun a_43 HE44 => ?_
        have ke25 : k < a1.length := by omega
        obtain ⟨be25, fe25, ese25, Ae25, Re25, De25⟩ := el_old h1 ke25
        obtain ⟨e25, xe25⟩ : ∃ x_, x_ = a1[k] := ⟨_, rfl⟩
        rw [← xe25] at Re25
        have Qe25 := Re25
        obtain ⟨rfl, ie25⟩ := Re25
        have je25 := ie25; unfold I64 at je25
        refine dr_take (i := 6) (ls' := #[true, true, true, true, true, true, true, false, false]) HE44 HS32 rfl (by kernel_rfl) (by kernel_rfl) (by kernel_rfl) (fun _ _ _ h => h) rfl (wt0 rfl) (x_indexAddr ts_25 rfl rfl Ae25 rfl ke25) rfl rfl fun a_45 HE46 => ?_
        refine dr_take (i := 7) (ls' := #[true, true, true, true, true, true, true, true, false]) HE46 HS32 rfl (by kernel_rfl) (by kernel_rfl) (by kernel_rfl) (fun _ _ _ h => h) rfl (wt0 rfl) (x_load1 tv_2 rfl (c_old (De25 0 _ rfl))) rfl rfl fun a_47 HE48 => ?_
        refine dr_take (i := 8) (ls' := #[true, true, true, true, true, true, true, true, true]) HE48 HS32 rfl (by kernel_rfl) (by kernel_rfl) (by kernel_rfl) (fun _ _ _ h => h) rfl (wt0 rfl) (x_lss rfl rfl) rfl rfl fun a_49 HE50 => ?_
        refine dr_done (by kernel_rfl) ?_
        clear HH10 a_29 HE30 a_33 HE34 a_35 HE36 a_37 HE38 a_39 HE40 a_41 HE42 a_43 HE44 a_45 HE46 a_47 HE48
        refine nrm ?_
        refine cnd_d HE50 rfl (fun hc26 => ?_) (fun hc26 => ?_)
        · refine wp_seq ?_
          refine rg ?_
          refine pl_x HE50 HH31 (wt0 rfl) (x_assign rfl) rfl rfl fun a_51 HE52 => ?_
          refine wpList_nil ?_
          clear a_49 HE50
          refine nrm ?_
          refine wp_ret ?_
          refine (thn_ret (blk_ret (thn_ret (thn_ret (blk_ret (thn_ret ?_))))))
          refine ret1 HE52 rfl (rv_tmp rfl) ?_
          have hF : (cmpL a0 a1) = -1 := by
            rw [p21_2]; first | (rw [cmpL_end a0 a1 k (by omega) (by omega) (by omega)]; grind) | (rw [cmpL_step (by omega) (by omega)]; grind [cmpI])
          exact ⟨by first | (rw [hF] <;> rfl) | rfl | (rw [hF]; simp only [Ending.returned.injEq, Value.slice.injEq, true_and, and_true]; first | omega | (simp; done)) | (rw [hF]; simp; omega), HH31.below⟩
        · refine wp_skip ?_
          refine nrm ?_
          refine wp_seq ?_
          refine dr_start (Held Nob w []) 9 #[false, false, false, false, false, false, false, false, false] hmix rfl rfl HH31 (fun _ h => h.sel [] (by decide) rfl) fun w' HH53 => ?_
          have HS54 := HH53
          refine dr_take (i := 0) (ls' := #[true, false, false, false, false, false, false, false, false]) HE50 HS54 rfl (by kernel_rfl) (by kernel_rfl) (by kernel_rfl) (fun _ _ _ h => h) rfl (wt0 rfl) (x_move rfl) rfl rfl fun a_55 HE56 => ?_
          refine dr_take (i := 1) (ls' := #[true, true, false, false, false, false, false, false, false]) HE56 HS54 rfl (by kernel_rfl) (by kernel_rfl) (by kernel_rfl) (fun _ _ _ h => h) rfl (wt0 rfl) (x_move rfl) rfl rfl fun a_57 HE58 => ?_
          refine dr_take (i := 2) (ls' := #[true, true, true, false, false, false, false, false, false]) HE58 HS54 rfl (by kernel_rfl) (by kernel_rfl) (by kernel_rfl) (fun _ _ _ h => h) rfl (wt0 rfl) (x_indexAddr ts_25 rfl rfl Ae24 rfl ke24) rfl rfl fun a_59 HE60 => ?_
          refine dr_take (i := 3) (ls' := #[true, true, true, true, false, false, false, false, false]) HE60 HS54 rfl (by kernel_rfl) (by kernel_rfl) (by kernel_rfl) (fun _ _ _ h => h) rfl (wt0 rfl) (x_load1 tv_2 rfl (c_old (De24 0 _ rfl))) rfl rfl fun a_61 HE62 => ?_
          refine dr_take (i := 4) (ls' := #[true, true, true, true, true, false, false, false, false]) HE62 HS54 rfl (by kernel_rfl) (by kernel_rfl) (by kernel_rfl) (fun _ _ _ h => h) rfl (wt0 rfl) (x_move rfl) rfl rfl fun a_63 HE64 => ?_
          refine dr_take (i := 5) (ls' := #[true, true, true, true, true, true, false, false, false]) HE64 HS54 rfl (by kernel_rfl) (by kernel_rfl) (by kernel_rfl) (fun _ _ _ h => h) rfl (wt0 rfl) (x_move rfl) rfl rfl fun a_65 HE66 => ?_
          refine dr_take (i := 6) (ls' := #[true, true, true, true, true, true, true, false, false]) HE66 HS54 rfl (by kernel_rfl) (by kernel_rfl) (by kernel_rfl) (fun _ _ _ h => h) rfl (wt0 rfl) (x_indexAddr ts_25 rfl rfl Ae25 rfl ke25) rfl rfl fun a_67 HE68 => ?_
          refine dr_take (i := 7) (ls' := #[true, true, true, true, true, true, true, true, false]) HE68 HS54 rfl (by kernel_rfl) (by kernel_rfl) (by kernel_rfl) (fun _ _ _ h => h) rfl (wt0 rfl) (x_load1 tv_2 rfl (c_old (De25 0 _ rfl))) rfl rfl fun a_69 HE70 => ?_
          refine dr_take (i := 8) (ls' := #[true, true, true, true, true, true, true, true, true]) HE70 HS54 rfl (by kernel_rfl) (by kernel_rfl) (by kernel_rfl) (fun _ _ _ h => h) rfl (wt0 rfl) (x_gtr rfl rfl) rfl rfl fun a_71 HE72 => ?_
          refine dr_done (by kernel_rfl) ?_
          clear HH31 HS32 a_49 HE50 a_55 HE56 a_57 HE58 a_59 HE60 a_61 HE62 a_63 HE64 a_65 HE66 a_67 HE68 a_69 HE70
          refine nrm ?_
          refine cnd_d HE72 rfl (fun hc27 => ?_) (fun hc27 => ?_)
          · refine wp_seq ?_
            refine rg ?_
            refine pl_x HE72 HH53 (wt0 rfl) (x_assign rfl) rfl rfl fun a_73 HE74 => ?_
            refine wpList_nil ?_
            clear a_71 HE72
            refine nrm ?_
            refine wp_ret ?_
            refine (blk_ret (thn_ret (thn_ret (blk_ret (thn_ret ?_)))))
            refine ret1 HE74 rfl (rv_tmp rfl) ?_
            have hF : (cmpL a0 a1) = 1 := by
              rw [p21_2]; first | (rw [cmpL_end a0 a1 k (by omega) (by omega) (by omega)]; grind) | (rw [cmpL_step (by omega) (by omega)]; grind [cmpI])
            exact ⟨by first | (rw [hF] <;> rfl) | rfl | (rw [hF]; simp only [Ending.returned.injEq, Value.slice.injEq, true_and, and_true]; first | omega | (simp; done)) | (rw [hF]; simp; omega), HH53.below⟩
          · refine wp_skip ?_
            refine blk_n ?_
            refine nrm ?_
            refine rg ?_
            refine pl_x HE72 HH53 (wt0 rfl) (x_move rfl) rfl rfl fun a_75 HE76 => ?_
            refine pl_x HE76 HH53 (wt0 rfl) (x_add rfl rfl (by exact ⟨by omega, by omega⟩)) rfl rfl fun a_77 HE78 => ?_
            refine pl_x HE78 HH53 (wt0 rfl) (x_assign rfl) rfl rfl fun a_79 HE80 => ?_
            refine wpList_nil ?_
            clear a_71 HE72 a_75 HE76 a_77 HE78
            exact nrm ⟨a0.length - (k + 1), (by omega), k + 1, rfl, HE80.sub ⟨(lkI rfl (by first | rfl | omega | (simp [p21_0, p21_1, p21_2, hc22, hc23, xe24, xe25, hc26, hc27]; done))), rfl, rfl, trivial⟩, (HH53.sel [] (by decide) rfl), (by first | omega | assumption | (simp; done) | simp_all), (by first | omega | assumption | (simp; done) | simp_all), (by rw [p21_2, cmpL_step (by omega) (by omega)]; grind [cmpI])⟩
      · refine wp_exit ?_
        refine (thn_exit (thn_exit (blk_hit ?_)))
        refine nrm ?_
        refine wp_seq ?_
        refine wp_seq ?_
        refine rg ?_
        refine pl_x HE30 HH10 (wt0 rfl) (x_move rfl) rfl rfl fun a_81 HE82 => ?_
        refine pl_x HE82 HH10 (wt0 rfl) (x_len Tryz.underlying25 rfl) rfl rfl fun a_83 HE84 => ?_
        refine pl_x HE84 HH10 (wt0 rfl) (x_move rfl) rfl rfl fun a_85 HE86 => ?_
        refine pl_x HE86 HH10 (wt0 rfl) (x_len Tryz.underlying25 rfl) rfl rfl fun a_87 HE88 => ?_
        refine pl_x HE88 HH10 (wt0 rfl) (x_lss rfl rfl) rfl rfl fun a_89 HE90 => ?_
        refine wpList_nil ?_
        clear a_29 HE30 a_81 HE82 a_83 HE84 a_85 HE86 a_87 HE88
        refine nrm ?_
        refine cnd_d HE90 rfl (fun hc28 => ?_) (fun hc28 => ?_)
        · refine wp_seq ?_
          refine rg ?_
          refine pl_x HE90 HH10 (wt0 rfl) (x_assign rfl) rfl rfl fun a_91 HE92 => ?_
          refine wpList_nil ?_
          clear a_89 HE90
          refine nrm ?_
          refine wp_ret ?_
          refine (thn_ret ?_)
          refine ret1 HE92 rfl (rv_tmp rfl) ?_
          have hF : (cmpL a0 a1) = -1 := by
            rw [p21_2]; first | (rw [cmpL_end a0 a1 k (by omega) (by omega) (by omega)]; grind) | (rw [cmpL_step (by omega) (by omega)]; grind [cmpI])
          exact ⟨by first | (rw [hF] <;> rfl) | rfl | (rw [hF]; simp only [Ending.returned.injEq, Value.slice.injEq, true_and, and_true]; first | omega | (simp; done)) | (rw [hF]; simp; omega), HH10.below⟩
        · refine wp_skip ?_
          refine nrm ?_
          refine wp_seq ?_
          refine wp_seq ?_
          refine rg ?_
          refine pl_x HE90 HH10 (wt0 rfl) (x_move rfl) rfl rfl fun a_93 HE94 => ?_
          refine pl_x HE94 HH10 (wt0 rfl) (x_len Tryz.underlying25 rfl) rfl rfl fun a_95 HE96 => ?_
          refine pl_x HE96 HH10 (wt0 rfl) (x_move rfl) rfl rfl fun a_97 HE98 => ?_
          refine pl_x HE98 HH10 (wt0 rfl) (x_len Tryz.underlying25 rfl) rfl rfl fun a_99 HE100 => ?_
          refine pl_x HE100 HH10 (wt0 rfl) (x_gtr rfl rfl) rfl rfl fun a_101 HE102 => ?_
          refine wpList_nil ?_
          clear a_89 HE90 a_93 HE94 a_95 HE96 a_97 HE98 a_99 HE100
          refine nrm ?_
          refine cnd_d HE102 rfl (fun hc29 => ?_) (fun hc29 => ?_)
          · refine wp_seq ?_
            refine rg ?_
            refine pl_x HE102 HH10 (wt0 rfl) (x_assign rfl) rfl rfl fun a_103 HE104 => ?_
            refine wpList_nil ?_
            clear a_101 HE102
            refine nrm ?_
            refine wp_ret ?_
            refine (thn_ret ?_)
            refine ret1 HE104 rfl (rv_tmp rfl) ?_
            have hF : (cmpL a0 a1) = 1 := by
              rw [p21_2]; first | (rw [cmpL_end a0 a1 k (by omega) (by omega) (by omega)]; grind) | (rw [cmpL_step (by omega) (by omega)]; grind [cmpI])
            exact ⟨by first | (rw [hF] <;> rfl) | rfl | (rw [hF]; simp only [Ending.returned.injEq, Value.slice.injEq, true_and, and_true]; first | omega | (simp; done)) | (rw [hF]; simp; omega), HH10.below⟩
          · refine wp_skip ?_
            refine nrm ?_
            refine wp_seq ?_
            refine rg ?_
            refine pl_x HE102 HH10 (wt0 rfl) (x_assign rfl) rfl rfl fun a_105 HE106 => ?_
            refine wpList_nil ?_
            clear a_101 HE102
            refine nrm ?_
            refine wp_ret ?_
            refine ret1 HE106 rfl (rv_tmp rfl) ?_
            have hF : (cmpL a0 a1) = 0 := by
              rw [p21_2]; first | (rw [cmpL_end a0 a1 k (by omega) (by omega) (by omega)]; grind) | (rw [cmpL_step (by omega) (by omega)]; grind [cmpI])
            exact ⟨by first | (rw [hF] <;> rfl) | rfl | (rw [hF]; simp only [Ending.returned.injEq, Value.slice.injEq, true_and, and_true]; first | omega | (simp; done)) | (rw [hF]; simp; omega), HH10.below⟩
    · refine pl_no HE20 (wtF HE20 rfl rfl rfl (decide_eq_false hc22)) rfl rfl fun a_107 HE108 => ?_
      refine pl_no HE108 (wtF HE108 rfl rfl rfl (decide_eq_false hc22)) rfl rfl fun a_109 HE110 => ?_
      refine pl_no HE110 (wtF HE110 rfl rfl rfl (decide_eq_false hc22)) rfl rfl fun a_111 HE112 => ?_
      refine pl_no HE112 (wtF HE112 rfl rfl rfl (decide_eq_false hc22)) rfl rfl fun a_113 HE114 => ?_
      refine pl_x HE114 HH10 (wt0 rfl) (x_pickF rfl (decide_eq_false hc22) rfl) rfl rfl fun a_115 HE116 => ?_
      refine wpList_nil ?_
      clear a_6 HE7 HH1 a_8 HE9 a_11 HE12 a_13 HE14 a_15 HE16 a_17 HE18 a_19 HE20 a_107 HE108 a_109 HE110 a_111 HE112 a_113 HE114
      refine nrm ?_
      refine cndF HE116 rfl rfl ?_
      refine wp_exit ?_
      refine (thn_exit (thn_exit (blk_hit ?_)))
      refine nrm ?_
      refine wp_seq ?_
      refine wp_seq ?_
      refine rg ?_
      refine pl_x HE116 HH10 (wt0 rfl) (x_move rfl) rfl rfl fun a_117 HE118 => ?_
      refine pl_x HE118 HH10 (wt0 rfl) (x_len Tryz.underlying25 rfl) rfl rfl fun a_119 HE120 => ?_
      refine pl_x HE120 HH10 (wt0 rfl) (x_move rfl) rfl rfl fun a_121 HE122 => ?_
      refine pl_x HE122 HH10 (wt0 rfl) (x_len Tryz.underlying25 rfl) rfl rfl fun a_123 HE124 => ?_
      refine pl_x HE124 HH10 (wt0 rfl) (x_lss rfl rfl) rfl rfl fun a_125 HE126 => ?_
      refine wpList_nil ?_
      clear a_115 HE116 a_117 HE118 a_119 HE120 a_121 HE122 a_123 HE124
      refine nrm ?_
      refine cnd_d HE126 rfl (fun hc30 => ?_) (fun hc30 => ?_)
      · refine wp_seq ?_
        refine rg ?_
        refine pl_x HE126 HH10 (wt0 rfl) (x_assign rfl) rfl rfl fun a_127 HE128 => ?_
        refine wpList_nil ?_
        clear a_125 HE126
        refine nrm ?_
        refine wp_ret ?_
        refine (thn_ret ?_)
        refine ret1 HE128 rfl (rv_tmp rfl) ?_
        have hF : (cmpL a0 a1) = -1 := by
          rw [p21_2]; first | (rw [cmpL_end a0 a1 k (by omega) (by omega) (by omega)]; grind) | (rw [cmpL_step (by omega) (by omega)]; grind [cmpI])
        exact ⟨by first | (rw [hF] <;> rfl) | rfl | (rw [hF]; simp only [Ending.returned.injEq, Value.slice.injEq, true_and, and_true]; first | omega | (simp; done)) | (rw [hF]; simp; omega), HH10.below⟩
      · refine wp_skip ?_
        refine nrm ?_
        refine wp_seq ?_
        refine wp_seq ?_
        refine rg ?_
        refine pl_x HE126 HH10 (wt0 rfl) (x_move rfl) rfl rfl fun a_129 HE130 => ?_
        refine pl_x HE130 HH10 (wt0 rfl) (x_len Tryz.underlying25 rfl) rfl rfl fun a_131 HE132 => ?_
        refine pl_x HE132 HH10 (wt0 rfl) (x_move rfl) rfl rfl fun a_133 HE134 => ?_
        refine pl_x HE134 HH10 (wt0 rfl) (x_len Tryz.underlying25 rfl) rfl rfl fun a_135 HE136 => ?_
        refine pl_x HE136 HH10 (wt0 rfl) (x_gtr rfl rfl) rfl rfl fun a_137 HE138 => ?_
        refine wpList_nil ?_
        clear a_125 HE126 a_129 HE130 a_131 HE132 a_133 HE134 a_135 HE136
        refine nrm ?_
        refine cnd_d HE138 rfl (fun hc31 => ?_) (fun hc31 => ?_)
        · refine wp_seq ?_
          refine rg ?_
          refine pl_x HE138 HH10 (wt0 rfl) (x_assign rfl) rfl rfl fun a_139 HE140 => ?_
          refine wpList_nil ?_
          clear a_137 HE138
          refine nrm ?_
          refine wp_ret ?_
          refine (thn_ret ?_)
          refine ret1 HE140 rfl (rv_tmp rfl) ?_
          have hF : (cmpL a0 a1) = 1 := by
            rw [p21_2]; first | (rw [cmpL_end a0 a1 k (by omega) (by omega) (by omega)]; grind) | (rw [cmpL_step (by omega) (by omega)]; grind [cmpI])
          exact ⟨by first | (rw [hF] <;> rfl) | rfl | (rw [hF]; simp only [Ending.returned.injEq, Value.slice.injEq, true_and, and_true]; first | omega | (simp; done)) | (rw [hF]; simp; omega), HH10.below⟩
        · refine wp_skip ?_
          refine nrm ?_
          refine wp_seq ?_
          refine rg ?_
          refine pl_x HE138 HH10 (wt0 rfl) (x_assign rfl) rfl rfl fun a_141 HE142 => ?_
          refine wpList_nil ?_
          clear a_137 HE138
          refine nrm ?_
          refine wp_ret ?_
          refine ret1 HE142 rfl (rv_tmp rfl) ?_
          have hF : (cmpL a0 a1) = 0 := by
            rw [p21_2]; first | (rw [cmpL_end a0 a1 k (by omega) (by omega) (by omega)]; grind) | (rw [cmpL_step (by omega) (by omega)]; grind [cmpI])
          exact ⟨by first | (rw [hF] <;> rfl) | rfl | (rw [hF]; simp only [Ending.returned.injEq, Value.slice.injEq, true_and, and_true]; first | omega | (simp; done)) | (rw [hF]; simp; omega), HH10.below⟩

set_option maxRecDepth 100000 in
set_option maxHeartbeats 4000000 in
theorem impl_compareMultiRules (es0 : List Value) (a0 : tMultiRule) (es1 : List Value) (a1 : tMultiRule) (w : World) (h0 : eMultiRule.R w (Old w) es0 a0) (h1 : eMultiRule.R w (Old w) es1 a1) :
    Calls Tryz.prog 154 #[.agg es0.toArray, .agg es1.toArray] w fun e w' => e = .returned (.int .i64 (cmpMR a0 a1)) ∧ Below w.heap.size w w' := by
  have H0 := h0
  obtain ⟨Az0_1, cz0_1, Az0_2, cz0_2, Az0_3, cz0_3, rfl, gz0_0, gz0_1, gz0_2, gz0_3, gz0_4⟩ := shape_MultiRule h0
  have jz0_0 := gz0_0; unfold I64 at jz0_0
  have lz0_1 := gz0_1.len
  have lz0_2 := gz0_2.len
  have lz0_3 := gz0_3.len
  have jz0_4 := gz0_4; unfold I64 at jz0_4
  have H1 := h1
  obtain ⟨Az1_1, cz1_1, Az1_2, cz1_2, Az1_3, cz1_3, rfl, gz1_0, gz1_1, gz1_2, gz1_3, gz1_4⟩ := shape_MultiRule h1
  have jz1_0 := gz1_0; unfold I64 at jz1_0
  have lz1_1 := gz1_1.len
  have lz1_2 := gz1_2.len
  have lz1_3 := gz1_3.len
  have jz1_4 := gz1_4; unfold I64 at jz1_4
  have HH1 := Held.start Nob w
  refine enter (n := 20) Tryz.func154 rfl rfl rfl fun a_2 HE3 => ?_
  refine wp_seq ?_
  refine rg ?_
  refine pl fun K_4 hK5 => ?_
  refine st_box (cs := [.int .i64 (a0.1), .slice Az0_1 (a0.2.1.length) cz0_1, .slice Az0_2 (a0.2.2.1.length) cz0_2, .slice Az0_3 (a0.2.2.2.1.length) cz0_3, .int .i64 (a0.2.2.2.2)]) HE3 HH1 rfl rfl (wt0 rfl) rfl fun q21 a_6 w' HE7 HH8 => hK5 _ _ ?_
  refine pl fun K_9 hK10 => ?_
  refine st_box (cs := [.int .i64 (a1.1), .slice Az1_1 (a1.2.1.length) cz1_1, .slice Az1_2 (a1.2.2.1.length) cz1_2, .slice Az1_3 (a1.2.2.2.1.length) cz1_3, .int .i64 (a1.2.2.2.2)]) HE7 HH8 rfl rfl (wt0 rfl) rfl fun q22 a_11 w' HE12 HH13 => hK10 _ _ ?_
  refine pl_x HE12 HH13 (wt0 rfl) (x_assign rfl) rfl rfl fun a_14 HE15 => ?_
  refine wpList_nil ?_
  clear a_2 HE3 HH1 K_4 hK5 a_6 HE7 HH8 a_11 HE12 hK10 K_9
  refine nrm ?_
  refine wp_seq ?_
  refine wp_seq ?_
  refine rg ?_
  refine pl_x HE15 HH13 (wt0 rfl) (x_fieldAddr fa_123_0 rfl) rfl rfl fun a_16 HE17 => ?_
  refine pl_x HE17 HH13 (wt0 rfl) (x_load1 tv_2 rfl (c_blk 1 rfl rfl)) rfl rfl fun a_18 HE19 => ?_
  refine pl_x HE19 HH13 (wt0 rfl) (x_fieldAddr fa_123_0 rfl) rfl rfl fun a_20 HE21 => ?_
  refine pl_x HE21 HH13 (wt0 rfl) (x_load1 tv_2 rfl (c_blk 0 rfl rfl)) rfl rfl fun a_22 HE23 => ?_
  refine pl_x HE23 HH13 (wt0 rfl) (x_neq rfl rfl) rfl rfl fun a_24 HE25 => ?_
  refine wpList_nil ?_
  clear a_14 HE15 a_16 HE17 a_18 HE19 a_20 HE21 a_22 HE23
  refine nrm ?_
  refine cnd_ne HE25 rfl (fun hc23 => ?_) (fun hc23 => ?_)
  · refine wp_seq ?_
    refine wp_seq ?_
    refine rg ?_
    refine pl_x HE25 HH13 (wt0 rfl) (x_fieldAddr fa_123_0 rfl) rfl rfl fun a_26 HE27 => ?_
    refine pl_x HE27 HH13 (wt0 rfl) (x_load1 tv_2 rfl (c_blk 1 rfl rfl)) rfl rfl fun a_28 HE29 => ?_
    refine pl_x HE29 HH13 (wt0 rfl) (x_fieldAddr fa_123_0 rfl) rfl rfl fun a_30 HE31 => ?_
    refine pl_x HE31 HH13 (wt0 rfl) (x_load1 tv_2 rfl (c_blk 0 rfl rfl)) rfl rfl fun a_32 HE33 => ?_
    refine pl_x HE33 HH13 (wt0 rfl) (x_lss rfl rfl) rfl rfl fun a_34 HE35 => ?_
    refine wpList_nil ?_
    clear a_24 HE25 a_26 HE27 a_28 HE29 a_30 HE31 a_32 HE33
    refine nrm ?_
    refine cnd_d HE35 rfl (fun hc24 => ?_) (fun hc24 => ?_)
    · refine wp_seq ?_
      refine rg ?_
      refine pl_x HE35 HH13 (wt0 rfl) (x_assign rfl) rfl rfl fun a_36 HE37 => ?_
      refine wpList_nil ?_
      clear a_34 HE35
      refine nrm ?_
      refine wp_ret ?_
      refine (thn_ret (thn_ret ?_))
      refine ret1 HE37 rfl (rv_tmp rfl) ?_
      have hF : (cmpMR a0 a1) = -1 := by
        first | (unfold cmpMR; grind)
      exact ⟨by first | (rw [hF] <;> rfl) | rfl | (rw [hF]; simp only [Ending.returned.injEq, Value.slice.injEq, true_and, and_true]; first | omega | (simp; done)) | (rw [hF]; simp; omega), HH13.below⟩
    · refine wp_skip ?_
      refine nrm ?_
      refine wp_seq ?_
      refine rg ?_
      refine pl_x HE35 HH13 (wt0 rfl) (x_assign rfl) rfl rfl fun a_38 HE39 => ?_
      refine wpList_nil ?_
      clear a_34 HE35
      refine nrm ?_
      refine wp_ret ?_
      refine (thn_ret ?_)
      refine ret1 HE39 rfl (rv_tmp rfl) ?_
      have hF : (cmpMR a0 a1) = 1 := by
        first | (unfold cmpMR; grind)
      exact ⟨by first | (rw [hF] <;> rfl) | rfl | (rw [hF]; simp only [Ending.returned.injEq, Value.slice.injEq, true_and, and_true]; first | omega | (simp; done)) | (rw [hF]; simp; omega), HH13.below⟩
  · refine wp_skip ?_
    refine nrm ?_
    refine wp_seq ?_
    refine rg ?_
    refine pl_x HE25 HH13 (wt0 rfl) (x_fieldAddr fa_123_1 rfl) rfl rfl fun a_40 HE41 => ?_
    refine pl_x HE41 HH13 (wt0 rfl) (x_load1 tv_25 rfl (c_blk 1 rfl rfl)) rfl rfl fun a_42 HE43 => ?_
    refine pl_x HE43 HH13 (wt0 rfl) (x_fieldAddr fa_123_1 rfl) rfl rfl fun a_44 HE45 => ?_
    refine pl_x HE45 HH13 (wt0 rfl) (x_load1 tv_25 rfl (c_blk 0 rfl rfl)) rfl rfl fun a_46 HE47 => ?_
    refine pl fun K_48 hK49 => ?_
    refine st_call HE47 (wt0 rfl) rfl rfl rfl en_193 rfl rfl (slices_Compare _ _ a0.2.1 _ _ a1.2.1 _ (HH13.old gz0_1) (HH13.old gz1_1)) fun e w' hr => ?_
    obtain ⟨rfl, hbr25⟩ := hr
    have HH50 := HH13.on hbr25
    refine ⟨_, rfl, fun a_51 HE52 => hK49 _ _ ?_⟩
    refine pl_x HE52 HH50 (wt0 rfl) (x_assign rfl) rfl rfl fun a_53 HE54 => ?_
    refine wpList_nil ?_
    clear a_24 HE25 a_40 HE41 a_42 HE43 a_44 HE45 HH13 a_46 HE47 a_51 HE52 hK49 K_48
    refine nrm ?_
    refine wp_ret ?_
    refine ret1 HE54 rfl (rv_tmp rfl) ?_
    have hF : (cmpMR a0 a1) = (cmpL a0.2.1 a1.2.1) := by
      first | (unfold cmpMR; grind)
    exact ⟨by first | (rw [hF] <;> rfl) | rfl | (rw [hF]; simp only [Ending.returned.injEq, Value.slice.injEq, true_and, and_true]; first | omega | (simp; done)) | (rw [hF]; simp; omega), HH50.below⟩

set_option maxRecDepth 100000 in
set_option maxHeartbeats 4000000 in
theorem spec_l06Before (p0 o0 : Nat) (es0 : List Value) (a0 : tMultiRule) (p1 o1 : Nat) (es1 : List Value) (a1 : tMultiRule) (w : World) (h0 : eMultiRule.R w (Old w) es0 a0) (hq0 : ∀ j v, es0[j]? = some v → w.cell? ⟨p0, o0 + j, none⟩ = some v) (h1 : eMultiRule.R w (Old w) es1 a1) (hq1 : ∀ j v, es1[j]? = some v → w.cell? ⟨p1, o1 + j, none⟩ = some v) :
    Calls Tryz.prog 147 #[.pointer (some ⟨p0, o0, none⟩), .pointer (some ⟨p1, o1, none⟩)] w fun e w' => e = .returned (.bool (beforeMR a0 a1)) ∧ Below w.heap.size w w' := by
  have H0 := h0
  obtain ⟨Az0_1, cz0_1, Az0_2, cz0_2, Az0_3, cz0_3, rfl, gz0_0, gz0_1, gz0_2, gz0_3, gz0_4⟩ := shape_MultiRule h0
  have jz0_0 := gz0_0; unfold I64 at jz0_0
  have lz0_1 := gz0_1.len
  have lz0_2 := gz0_2.len
  have lz0_3 := gz0_3.len
  have jz0_4 := gz0_4; unfold I64 at jz0_4
  have H1 := h1
  obtain ⟨Az1_1, cz1_1, Az1_2, cz1_2, Az1_3, cz1_3, rfl, gz1_0, gz1_1, gz1_2, gz1_3, gz1_4⟩ := shape_MultiRule h1
  have jz1_0 := gz1_0; unfold I64 at jz1_0
  have lz1_1 := gz1_1.len
  have lz1_2 := gz1_2.len
  have lz1_3 := gz1_3.len
  have jz1_4 := gz1_4; unfold I64 at jz1_4
  have HH1 := Held.start Nob w
  refine enter (n := 37) Tryz.func147 rfl rfl rfl fun a_2 HE3 => ?_
  refine wp_seq ?_
  refine rg ?_
  refine pl_x HE3 HH1 (wt0 rfl) (x_assign rfl) rfl rfl fun a_4 HE5 => ?_
  refine wpList_nil ?_
  clear a_2 HE3
  refine nrm ?_
  refine wp_seq ?_
  refine dr_start (Held Nob w []) 33 #[false, false, false, false, false, false, false, false, false, false, false, false, false, false, false, false, false, false, false, false, false, false, false, false, false, false, false, false, false, false, false, false, false] hmix rfl rfl HH1 (fun _ h => h.sel [] (by decide) rfl) fun w' HH6 => ?_
  have HS7 := HH6
  refine dr_take (i := 0) (ls' := #[true, false, false, false, false, false, false, false, false, false, false, false, false, false, false, false, false, false, false, false, false, false, false, false, false, false, false, false, false, false, false, false, false]) HE5 HS7 rfl (by kernel_rfl) (by kernel_rfl) (by kernel_rfl) (fun _ _ _ h => h) rfl (wt0 rfl) (x_move rfl) rfl rfl fun a_8 HE9 => ?_
  refine dr_take (i := 1) (ls' := #[true, true, false, false, false, false, false, false, false, false, false, false, false, false, false, false, false, false, false, false, false, false, false, false, false, false, false, false, false, false, false, false, false]) HE9 HS7 rfl (by kernel_rfl) (by kernel_rfl) (by kernel_rfl) (fun _ _ _ h => h) rfl (wt0 rfl) (x_nilCheck rfl) rfl rfl fun a_10 HE11 => ?_
  refine dr_take (i := 2) (ls' := #[true, true, true, false, false, false, false, false, false, false, false, false, false, false, false, false, false, false, false, false, false, false, false, false, false, false, false, false, false, false, false, false, false]) HE11 HS7 rfl (by kernel_rfl) (by kernel_rfl) (by kernel_rfl) (fun _ _ _ h => h) rfl (wt0 rfl) (x_fieldAddr fa_123_0 rfl) rfl rfl fun a_12 HE13 => ?_
  refine dr_take (i := 3) (ls' := #[true, true, true, true, false, false, false, false, false, false, false, false, false, false, false, false, false, false, false, false, false, false, false, false, false, false, false, false, false, false, false, false, false]) HE13 HS7 rfl (by kernel_rfl) (by kernel_rfl) (by kernel_rfl) (fun _ _ _ h => h) rfl (wt0 rfl) (x_load1 tv_2 rfl (c_old (hq0 0 _ rfl))) rfl rfl fun a_14 HE15 => ?_
  refine dr_take (i := 4) (ls' := #[true, true, true, true, true, false, false, false, false, false, false, false, false, false, false, false, false, false, false, false, false, false, false, false, false, false, false, false, false, false, false, false, false]) HE15 HS7 rfl (by kernel_rfl) (by kernel_rfl) (by kernel_rfl) (fun _ _ _ h => h) rfl (wt0 rfl) (x_move rfl) rfl rfl fun a_16 HE17 => ?_
  refine dr_take (i := 5) (ls' := #[true, true, true, true, true, true, false, false, false, false, false, false, false, false, false, false, false, false, false, false, false, false, false, false, false, false, false, false, false, false, false, false, false]) HE17 HS7 rfl (by kernel_rfl) (by kernel_rfl) (by kernel_rfl) (fun _ _ _ h => h) rfl (wt0 rfl) (x_nilCheck rfl) rfl rfl fun a_18 HE19 => ?_
  refine dr_take (i := 6) (ls' := #[true, true, true, true, true, true, true, false, false, false, false, false, false, false, false, false, false, false, false, false, false, false, false, false, false, false, false, false, false, false, false, false, false]) HE19 HS7 rfl (by kernel_rfl) (by kernel_rfl) (by kernel_rfl) (fun _ _ _ h => h) rfl (wt0 rfl) (x_fieldAddr fa_123_0 rfl) rfl rfl fun a_20 HE21 => ?_
  refine dr_take (i := 7) (ls' := #[true, true, true, true, true, true, true, true, false, false, false, false, false, false, false, false, false, false, false, false, false, false, false, false, false, false, false, false, false, false, false, false, false]) HE21 HS7 rfl (by kernel_rfl) (by kernel_rfl) (by kernel_rfl) (fun _ _ _ h => h) rfl (wt0 rfl) (x_load1 tv_2 rfl (c_old (hq1 0 _ rfl))) rfl rfl fun a_22 HE23 => ?_
  refine dr_take (i := 8) (ls' := #[true, true, true, true, true, true, true, true, true, false, false, false, false, false, false, false, false, false, false, false, false, false, false, false, false, false, false, false, false, false, false, false, false]) HE23 HS7 rfl (by kernel_rfl) (by kernel_rfl) (by kernel_rfl) (fun _ _ _ h => h) rfl (wt0 rfl) (x_lss rfl rfl) rfl rfl fun a_24 HE25 => ?_
  refine dr_take (i := 9) (ls' := #[true, true, true, true, true, true, true, true, true, true, false, false, false, false, false, false, false, false, false, false, false, false, false, false, false, false, false, false, false, false, false, false, false]) HE25 HS7 rfl (by kernel_rfl) (by kernel_rfl) (by kernel_rfl) (fun _ _ _ h => h) rfl (wt0 rfl) (x_move rfl) rfl rfl fun a_26 HE27 => ?_
  by_cases hc21 : a0.1 < a1.1
  · refine dr_takeNo (i := 10) (ls' := #[true, true, true, true, true, true, true, true, true, true, true, false, false, false, false, false, false, false, false, false, false, false, false, false, false, false, false, false, false, false, false, false, false]) HE27 HS7 rfl (by kernel_rfl) (by kernel_rfl) (by kernel_rfl) (fun _ _ _ h => h) rfl (wtF HE27 rfl rfl rfl (decide_eq_true hc21)) rfl rfl fun a_28 HE29 => ?_
    refine dr_takeNo (i := 11) (ls' := #[true, true, true, true, true, true, true, true, true, true, true, true, false, false, false, false, false, false, false, false, false, false, false, false, false, false, false, false, false, false, false, false, false]) HE29 HS7 rfl (by kernel_rfl) (by kernel_rfl) (by kernel_rfl) (fun _ _ _ h => h) rfl (wtF HE29 rfl rfl rfl (decide_eq_true hc21)) rfl rfl fun a_30 HE31 => ?_
    refine dr_takeNo (i := 12) (ls' := #[true, true, true, true, true, true, true, true, true, true, true, true, true, false, false, false, false, false, false, false, false, false, false, false, false, false, false, false, false, false, false, false, false]) HE31 HS7 rfl (by kernel_rfl) (by kernel_rfl) (by kernel_rfl) (fun _ _ _ h => h) rfl (wtF HE31 rfl rfl rfl (decide_eq_true hc21)) rfl rfl fun a_32 HE33 => ?_
    refine dr_takeNo (i := 13) (ls' := #[true, true, true, true, true, true, true, true, true, true, true, true, true, true, false, false, false, false, false, false, false, false, false, false, false, false, false, false, false, false, false, false, false]) HE33 HS7 rfl (by kernel_rfl) (by kernel_rfl) (by kernel_rfl) (fun _ _ _ h => h) rfl (wtF HE33 rfl rfl rfl (decide_eq_true hc21)) rfl rfl fun a_34 HE35 => ?_
    refine dr_takeNo (i := 14) (ls' := #[true, true, true, true, true, true, true, true, true, true, true, true, true, true, true, false, false, false, false, false, false, false, false, false, false, false, false, false, false, false, false, false, false]) HE35 HS7 rfl (by kernel_rfl) (by kernel_rfl) (by kernel_rfl) (fun _ _ _ h => h) rfl (wtF HE35 rfl rfl rfl (decide_eq_true hc21)) rfl rfl fun a_36 HE37 => ?_
    refine dr_takeNo (i := 15) (ls' := #[true, true, true, true, true, true, true, true, true, true, true, true, true, true, true, true, false, false, false, false, false, false, false, false, false, false, false, false, false, false, false, false, false]) HE37 HS7 rfl (by kernel_rfl) (by kernel_rfl) (by kernel_rfl) (fun _ _ _ h => h) rfl (wtF HE37 rfl rfl rfl (decide_eq_true hc21)) rfl rfl fun a_38 HE39 => ?_
    refine dr_takeNo (i := 16) (ls' := #[true, true, true, true, true, true, true, true, true, true, true, true, true, true, true, true, true, false, false, false, false, false, false, false, false, false, false, false, false, false, false, false, false]) HE39 HS7 rfl (by kernel_rfl) (by kernel_rfl) (by kernel_rfl) (fun _ _ _ h => h) rfl (wtF HE39 rfl rfl rfl (decide_eq_true hc21)) rfl rfl fun a_40 HE41 => ?_
    refine dr_takeNo (i := 17) (ls' := #[true, true, true, true, true, true, true, true, true, true, true, true, true, true, true, true, true, true, false, false, false, false, false, false, false, false, false, false, false, false, false, false, false]) HE41 HS7 rfl (by kernel_rfl) (by kernel_rfl) (by kernel_rfl) (fun _ _ _ h => h) rfl (wtF HE41 rfl rfl rfl (decide_eq_true hc21)) rfl rfl fun a_42 HE43 => ?_
    refine dr_takeNo (i := 18) (ls' := #[true, true, true, true, true, true, true, true, true, true, true, true, true, true, true, true, true, true, true, false, false, false, false, false, false, false, false, false, false, false, false, false, false]) HE43 HS7 rfl (by kernel_rfl) (by kernel_rfl) (by kernel_rfl) (fun _ _ _ h => h) rfl (wtF HE43 rfl rfl rfl (decide_eq_true hc21)) rfl rfl fun a_44 HE45 => ?_
    refine dr_takeNo (i := 19) (ls' := #[true, true, true, true, true, true, true, true, true, true, true, true, true, true, true, true, true, true, true, true, false, false, false, false, false, false, false, false, false, false, false, false, false]) HE45 HS7 rfl (by kernel_rfl) (by kernel_rfl) (by kernel_rfl) (fun _ _ _ h => h) rfl (wtF HE45 rfl rfl rfl (decide_eq_true hc21)) rfl rfl fun a_46 HE47 => ?_
    refine dr_takeNo (i := 20) (ls' := #[true, true, true, true, true, true, true, true, true, true, true, true, true, true, true, true, true, true, true, true, true, false, false, false, false, false, false, false, false, false, false, false, false]) HE47 HS7 rfl (by kernel_rfl) (by kernel_rfl) (by kernel_rfl) (fun _ _ _ h => h) rfl (wtU HE47 rfl rfl rfl) rfl rfl fun a_48 HE49 => ?_
    refine dr_takeNo (i := 21) (ls' := #[true, true, true, true, true, true, true, true, true, true, true, true, true, true, true, true, true, true, true, true, true, true, false, false, false, false, false, false, false, false, false, false, false]) HE49 HS7 rfl (by kernel_rfl) (by kernel_rfl) (by kernel_rfl) (fun _ _ _ h => h) rfl (wtU HE49 rfl rfl rfl) rfl rfl fun a_50 HE51 => ?_
    refine dr_takeNo (i := 22) (ls' := #[true, true, true, true, true, true, true, true, true, true, true, true, true, true, true, true, true, true, true, true, true, true, true, false, false, false, false, false, false, false, false, false, false]) HE51 HS7 rfl (by kernel_rfl) (by kernel_rfl) (by kernel_rfl) (fun _ _ _ h => h) rfl (wtU HE51 rfl rfl rfl) rfl rfl fun a_52 HE53 => ?_
    refine dr_takeNo (i := 23) (ls' := #[true, true, true, true, true, true, true, true, true, true, true, true, true, true, true, true, true, true, true, true, true, true, true, true, false, false, false, false, false, false, false, false, false]) HE53 HS7 rfl (by kernel_rfl) (by kernel_rfl) (by kernel_rfl) (fun _ _ _ h => h) rfl (wtU HE53 rfl rfl rfl) rfl rfl fun a_54 HE55 => ?_
    refine dr_takeNo (i := 24) (ls' := #[true, true, true, true, true, true, true, true, true, true, true, true, true, true, true, true, true, true, true, true, true, true, true, true, true, false, false, false, false, false, false, false, false]) HE55 HS7 rfl (by kernel_rfl) (by kernel_rfl) (by kernel_rfl) (fun _ _ _ h => h) rfl (wtU HE55 rfl rfl rfl) rfl rfl fun a_56 HE57 => ?_
    refine dr_takeNo (i := 25) (ls' := #[true, true, true, true, true, true, true, true, true, true, true, true, true, true, true, true, true, true, true, true, true, true, true, true, true, true, false, false, false, false, false, false, false]) HE57 HS7 rfl (by kernel_rfl) (by kernel_rfl) (by kernel_rfl) (fun _ _ _ h => h) rfl (wtU HE57 rfl rfl rfl) rfl rfl fun a_58 HE59 => ?_
    refine dr_takeNo (i := 26) (ls' := #[true, true, true, true, true, true, true, true, true, true, true, true, true, true, true, true, true, true, true, true, true, true, true, true, true, true, true, false, false, false, false, false, false]) HE59 HS7 rfl (by kernel_rfl) (by kernel_rfl) (by kernel_rfl) (fun _ _ _ h => h) rfl (wtU HE59 rfl rfl rfl) rfl rfl fun a_60 HE61 => ?_
    refine dr_takeNo (i := 27) (ls' := #[true, true, true, true, true, true, true, true, true, true, true, true, true, true, true, true, true, true, true, true, true, true, true, true, true, true, true, true, false, false, false, false, false]) HE61 HS7 rfl (by kernel_rfl) (by kernel_rfl) (by kernel_rfl) (fun _ _ _ h => h) rfl (wtU HE61 rfl rfl rfl) rfl rfl fun a_62 HE63 => ?_
    refine dr_takeNo (i := 28) (ls' := #[true, true, true, true, true, true, true, true, true, true, true, true, true, true, true, true, true, true, true, true, true, true, true, true, true, true, true, true, true, false, false, false, false]) HE63 HS7 rfl (by kernel_rfl) (by kernel_rfl) (by kernel_rfl) (fun _ _ _ h => h) rfl (wtU HE63 rfl rfl rfl) rfl rfl fun a_64 HE65 => ?_
    refine dr_takeNo (i := 29) (ls' := #[true, true, true, true, true, true, true, true, true, true, true, true, true, true, true, true, true, true, true, true, true, true, true, true, true, true, true, true, true, true, false, false, false]) HE65 HS7 rfl (by kernel_rfl) (by kernel_rfl) (by kernel_rfl) (fun _ _ _ h => h) rfl (wtU HE65 rfl rfl rfl) rfl rfl fun a_66 HE67 => ?_
    refine dr_takeNo (i := 30) (ls' := #[true, true, true, true, true, true, true, true, true, true, true, true, true, true, true, true, true, true, true, true, true, true, true, true, true, true, true, true, true, true, true, false, false]) HE67 HS7 rfl (by kernel_rfl) (by kernel_rfl) (by kernel_rfl) (fun _ _ _ h => h) rfl (wtF HE67 rfl rfl rfl (decide_eq_true hc21)) rfl rfl fun a_68 HE69 => ?_
    refine dr_take (i := 31) (ls' := #[true, true, true, true, true, true, true, true, true, true, true, true, true, true, true, true, true, true, true, true, true, true, true, true, true, true, true, true, true, true, true, true, false]) HE69 HS7 rfl (by kernel_rfl) (by kernel_rfl) (by kernel_rfl) (fun _ _ _ h => h) rfl (wt0 rfl) (x_pickT rfl (decide_eq_true hc21) rfl) rfl rfl fun a_70 HE71 => ?_
    refine dr_take (i := 32) (ls' := #[true, true, true, true, true, true, true, true, true, true, true, true, true, true, true, true, true, true, true, true, true, true, true, true, true, true, true, true, true, true, true, true, true]) HE71 HS7 rfl (by kernel_rfl) (by kernel_rfl) (by kernel_rfl) (fun _ _ _ h => h) rfl (wt0 rfl) (x_assign rfl) rfl rfl fun a_72 HE73 => ?_
    refine dr_done (by kernel_rfl) ?_
    clear HH1 a_4 HE5 a_8 HE9 a_10 HE11 a_12 HE13 a_14 HE15 a_16 HE17 a_18 HE19 a_20 HE21 a_22 HE23 a_24 HE25 a_26 HE27 a_28 HE29 a_30 HE31 a_32 HE33 a_34 HE35 a_36 HE37 a_38 HE39 a_40 HE41 a_42 HE43 a_44 HE45 a_46 HE47 a_48 HE49 a_50 HE51 a_52 HE53 a_54 HE55 a_56 HE57 a_58 HE59 a_60 HE61 a_62 HE63 a_64 HE65 a_66 HE67 a_68 HE69 a_70 HE71
    refine nrm ?_
    refine wp_ret ?_
    refine ret1 HE73 rfl (rv_tmp rfl) ?_
    have hF : (beforeMR a0 a1) = true := by
      unfold beforeMR cmpMR; grind
    exact ⟨by first | (rw [hF] <;> rfl) | rfl | (rw [hF]; simp only [Ending.returned.injEq, Value.slice.injEq, true_and, and_true]; first | omega | (simp; done)) | (rw [hF]; simp; omega), HH6.below⟩
  · refine dr_take (i := 10) (ls' := #[true, true, true, true, true, true, true, true, true, true, true, false, false, false, false, false, false, false, false, false, false, false, false, false, false, false, false, false, false, false, false, false, false]) HE27 HS7 rfl (by kernel_rfl) (by kernel_rfl) (by kernel_rfl) (fun _ _ _ h => h) rfl (wtT HE27 rfl rfl rfl (decide_eq_false hc21)) (x_move rfl) rfl rfl fun a_74 HE75 => ?_
    refine dr_take (i := 11) (ls' := #[true, true, true, true, true, true, true, true, true, true, true, true, false, false, false, false, false, false, false, false, false, false, false, false, false, false, false, false, false, false, false, false, false]) HE75 HS7 rfl (by kernel_rfl) (by kernel_rfl) (by kernel_rfl) (fun _ _ _ h => h) rfl (wtT HE75 rfl rfl rfl (decide_eq_false hc21)) (x_nilCheck rfl) rfl rfl fun a_76 HE77 => ?_
    refine dr_take (i := 12) (ls' := #[true, true, true, true, true, true, true, true, true, true, true, true, true, false, false, false, false, false, false, false, false, false, false, false, false, false, false, false, false, false, false, false, false]) HE77 HS7 rfl (by kernel_rfl) (by kernel_rfl) (by kernel_rfl) (fun _ _ _ h => h) rfl (wtT HE77 rfl rfl rfl (decide_eq_false hc21)) (x_fieldAddr fa_123_0 rfl) rfl rfl fun a_78 HE79 => ?_
    refine dr_take (i := 13) (ls' := #[true, true, true, true, true, true, true, true, true, true, true, true, true, true, false, false, false, false, false, false, false, false, false, false, false, false, false, false, false, false, false, false, false]) HE79 HS7 rfl (by kernel_rfl) (by kernel_rfl) (by kernel_rfl) (fun _ _ _ h => h) rfl (wtT HE79 rfl rfl rfl (decide_eq_false hc21)) (x_load1 tv_2 rfl (c_old (hq0 0 _ rfl))) rfl rfl fun a_80 HE81 => ?_
    refine dr_take (i := 14) (ls' := #[true, true, true, true, true, true, true, true, true, true, true, true, true, true, true, false, false, false, false, false, false, false, false, false, false, false, false, false, false, false, false, false, false]) HE81 HS7 rfl (by kernel_rfl) (by kernel_rfl) (by kernel_rfl) (fun _ _ _ h => h) rfl (wtT HE81 rfl rfl rfl (decide_eq_false hc21)) (x_move rfl) rfl rfl fun a_82 HE83 => ?_
    refine dr_take (i := 15) (ls' := #[true, true, true, true, true, true, true, true, true, true, true, true, true, true, true, true, false, false, false, false, false, false, false, false, false, false, false, false, false, false, false, false, false]) HE83 HS7 rfl (by kernel_rfl) (by kernel_rfl) (by kernel_rfl) (fun _ _ _ h => h) rfl (wtT HE83 rfl rfl rfl (decide_eq_false hc21)) (x_nilCheck rfl) rfl rfl fun a_84 HE85 => ?_
    refine dr_take (i := 16) (ls' := #[true, true, true, true, true, true, true, true, true, true, true, true, true, true, true, true, true, false, false, false, false, false, false, false, false, false, false, false, false, false, false, false, false]) HE85 HS7 rfl (by kernel_rfl) (by kernel_rfl) (by kernel_rfl) (fun _ _ _ h => h) rfl (wtT HE85 rfl rfl rfl (decide_eq_false hc21)) (x_fieldAddr fa_123_0 rfl) rfl rfl fun a_86 HE87 => ?_
    refine dr_take (i := 17) (ls' := #[true, true, true, true, true, true, true, true, true, true, true, true, true, true, true, true, true, true, false, false, false, false, false, false, false, false, false, false, false, false, false, false, false]) HE87 HS7 rfl (by kernel_rfl) (by kernel_rfl) (by kernel_rfl) (fun _ _ _ h => h) rfl (wtT HE87 rfl rfl rfl (decide_eq_false hc21)) (x_load1 tv_2 rfl (c_old (hq1 0 _ rfl))) rfl rfl fun a_88 HE89 => ?_
    refine dr_take (i := 18) (ls' := #[true, true, true, true, true, true, true, true, true, true, true, true, true, true, true, true, true, true, true, false, false, false, false, false, false, false, false, false, false, false, false, false, false]) HE89 HS7 rfl (by kernel_rfl) (by kernel_rfl) (by kernel_rfl) (fun _ _ _ h => h) rfl (wtT HE89 rfl rfl rfl (decide_eq_false hc21)) (x_eql rfl rfl) rfl rfl fun a_90 HE91 => ?_
    refine dr_take (i := 19) (ls' := #[true, true, true, true, true, true, true, true, true, true, true, true, true, true, true, true, true, true, true, true, false, false, false, false, false, false, false, false, false, false, false, false, false]) HE91 HS7 rfl (by kernel_rfl) (by kernel_rfl) (by kernel_rfl) (fun _ _ _ h => h) rfl (wtT HE91 rfl rfl rfl (decide_eq_false hc21)) (x_move rfl) rfl rfl fun a_92 HE93 => ?_
    by_cases hc22 : a0.1 = a1.1
    · refine dr_take (i := 20) (ls' := #[true, true, true, true, true, true, true, true, true, true, true, true, true, true, true, true, true, true, true, true, true, false, false, false, false, false, false, false, false, false, false, false, false]) HE93 HS7 rfl (by kernel_rfl) (by kernel_rfl) (by kernel_rfl) (fun _ _ _ h => h) rfl (wtT HE93 rfl rfl rfl (beq_t hc22)) (x_move rfl) rfl rfl fun a_94 HE95 => ?_
      refine dr_take (i := 21) (ls' := #[true, true, true, true, true, true, true, true, true, true, true, true, true, true, true, true, true, true, true, true, true, true, false, false, false, false, false, false, false, false, false, false, false]) HE95 HS7 rfl (by kernel_rfl) (by kernel_rfl) (by kernel_rfl) (fun _ _ _ h => h) rfl (wtT HE95 rfl rfl rfl (beq_t hc22)) (x_nilCheck rfl) rfl rfl fun a_96 HE97 => ?_
      refine dr_take (i := 22) (ls' := #[true, true, true, true, true, true, true, true, true, true, true, true, true, true, true, true, true, true, true, true, true, true, true, false, false, false, false, false, false, false, false, false, false]) HE97 HS7 rfl (by kernel_rfl) (by kernel_rfl) (by kernel_rfl) (fun _ _ _ h => h) rfl (wtT HE97 rfl rfl rfl (beq_t hc22)) (x_fieldAddr fa_123_1 rfl) rfl rfl fun a_98 HE99 => ?_
      refine dr_take (i := 23) (ls' := #[true, true, true, true, true, true, true, true, true, true, true, true, true, true, true, true, true, true, true, true, true, true, true, true, false, false, false, false, false, false, false, false, false]) HE99 HS7 rfl (by kernel_rfl) (by kernel_rfl) (by kernel_rfl) (fun _ _ _ h => h) rfl (wtT HE99 rfl rfl rfl (beq_t hc22)) (x_load1 tv_25 rfl (c_old (hq0 1 _ rfl))) rfl rfl fun a_100 HE101 => ?_
      refine dr_take (i := 24) (ls' := #[true, true, true, true, true, true, true, true, true, true, true, true, true, true, true, true, true, true, true, true, true, true, true, true, true, false, false, false, false, false, false, false, false]) HE101 HS7 rfl (by kernel_rfl) (by kernel_rfl) (by kernel_rfl) (fun _ _ _ h => h) rfl (wtT HE101 rfl rfl rfl (beq_t hc22)) (x_move rfl) rfl rfl fun a_102 HE103 => ?_
      refine dr_take (i := 25) (ls' := #[true, true, true, true, true, true, true, true, true, true, true, true, true, true, true, true, true, true, true, true, true, true, true, true, true, true, false, false, false, false, false, false, false]) HE103 HS7 rfl (by kernel_rfl) (by kernel_rfl) (by kernel_rfl) (fun _ _ _ h => h) rfl (wtT HE103 rfl rfl rfl (beq_t hc22)) (x_nilCheck rfl) rfl rfl fun a_104 HE105 => ?_
      refine dr_take (i := 26) (ls' := #[true, true, true, true, true, true, true, true, true, true, true, true, true, true, true, true, true, true, true, true, true, true, true, true, true, true, true, false, false, false, false, false, false]) HE105 HS7 rfl (by kernel_rfl) (by kernel_rfl) (by kernel_rfl) (fun _ _ _ h => h) rfl (wtT HE105 rfl rfl rfl (beq_t hc22)) (x_fieldAddr fa_123_1 rfl) rfl rfl fun a_106 HE107 => ?_
      refine dr_take (i := 27) (ls' := #[true, true, true, true, true, true, true, true, true, true, true, true, true, true, true, true, true, true, true, true, true, true, true, true, true, true, true, true, false, false, false, false, false]) HE107 HS7 rfl (by kernel_rfl) (by kernel_rfl) (by kernel_rfl) (fun _ _ _ h => h) rfl (wtT HE107 rfl rfl rfl (beq_t hc22)) (x_load1 tv_25 rfl (c_old (hq1 1 _ rfl))) rfl rfl fun a_108 HE109 => ?_
      refine dr_one (i := 28) (ls' := #[true, true, true, true, true, true, true, true, true, true, true, true, true, true, true, true, true, true, true, true, true, true, true, true, true, true, true, true, true, false, false, false, false]) rfl (by kernel_rfl) rfl fun K_110 hK111 => ?_
      refine st_call HE109 (wtT HE109 rfl rfl rfl (beq_t hc22)) rfl rfl rfl en_187 rfl rfl (spec_l01Compare _ _ a0.2.1 _ _ a1.2.1 _ (HH6.old gz0_1) (HH6.old gz1_1)) fun e w' hr => ?_
      obtain ⟨rfl, hbr23⟩ := hr
      have HH112 := HH6.on hbr23
      refine ⟨_, rfl, fun a_113 HE114 => hK111 _ _ (by exact HH112.sel [] (by decide) rfl) ?_⟩
      have HS115 := HH112.sel [] (by decide) rfl
      refine dr_take (i := 29) (ls' := #[true, true, true, true, true, true, true, true, true, true, true, true, true, true, true, true, true, true, true, true, true, true, true, true, true, true, true, true, true, true, false, false, false]) HE114 HS115 rfl (by kernel_rfl) (by kernel_rfl) (by kernel_rfl) (fun _ _ _ h => h) rfl (wtT HE114 rfl rfl rfl (beq_t hc22)) (x_lss rfl rfl) rfl rfl fun a_116 HE117 => ?_
      refine dr_take (i := 30) (ls' := #[true, true, true, true, true, true, true, true, true, true, true, true, true, true, true, true, true, true, true, true, true, true, true, true, true, true, true, true, true, true, true, false, false]) HE117 HS115 rfl (by kernel_rfl) (by kernel_rfl) (by kernel_rfl) (fun _ _ _ h => h) rfl (wtT HE117 rfl rfl rfl (decide_eq_false hc21)) (x_pickT rfl (beq_t hc22) rfl) rfl rfl fun a_118 HE119 => ?_
      refine dr_take (i := 31) (ls' := #[true, true, true, true, true, true, true, true, true, true, true, true, true, true, true, true, true, true, true, true, true, true, true, true, true, true, true, true, true, true, true, true, false]) HE119 HS115 rfl (by kernel_rfl) (by kernel_rfl) (by kernel_rfl) (fun _ _ _ h => h) rfl (wt0 rfl) (x_pickF rfl (decide_eq_false hc21) rfl) rfl rfl fun a_120 HE121 => ?_
      refine dr_take (i := 32) (ls' := #[true, true, true, true, true, true, true, true, true, true, true, true, true, true, true, true, true, true, true, true, true, true, true, true, true, true, true, true, true, true, true, true, true]) HE121 HS115 rfl (by kernel_rfl) (by kernel_rfl) (by kernel_rfl) (fun _ _ _ h => h) rfl (wt0 rfl) (x_assign rfl) rfl rfl fun a_122 HE123 => ?_
      refine dr_done (by kernel_rfl) ?_
      clear HH1 a_4 HE5 a_8 HE9 a_10 HE11 a_12 HE13 a_14 HE15 a_16 HE17 a_18 HE19 a_20 HE21 a_22 HE23 a_24 HE25 a_26 HE27 a_74 HE75 a_76 HE77 a_78 HE79 a_80 HE81 a_82 HE83 a_84 HE85 a_86 HE87 a_88 HE89 a_90 HE91 a_92 HE93 a_94 HE95 a_96 HE97 a_98 HE99 a_100 HE101 a_102 HE103 a_104 HE105 a_106 HE107 HH6 a_108 HE109 HS7 a_113 HE114 a_116 HE117 a_118 HE119 a_120 HE121 hK111 K_110
      refine nrm ?_
      refine wp_ret ?_
      refine ret1 HE123 rfl (rv_tmp rfl) ?_
      have hF : (beforeMR a0 a1) = decide ((cmpL a0.2.1 a1.2.1) < 0) := by
        unfold beforeMR cmpMR; grind
      exact ⟨by first | (rw [hF] <;> rfl) | rfl | (rw [hF]; simp only [Ending.returned.injEq, Value.slice.injEq, true_and, and_true]; first | omega | (simp; done)) | (rw [hF]; simp; omega), HH112.below⟩
    · refine dr_takeNo (i := 20) (ls' := #[true, true, true, true, true, true, true, true, true, true, true, true, true, true, true, true, true, true, true, true, true, false, false, false, false, false, false, false, false, false, false, false, false]) HE93 HS7 rfl (by kernel_rfl) (by kernel_rfl) (by kernel_rfl) (fun _ _ _ h => h) rfl (wtF HE93 rfl rfl rfl (beq_f hc22)) rfl rfl fun a_124 HE125 => ?_
      refine dr_takeNo (i := 21) (ls' := #[true, true, true, true, true, true, true, true, true, true, true, true, true, true, true, true, true, true, true, true, true, true, false, false, false, false, false, false, false, false, false, false, false]) HE125 HS7 rfl (by kernel_rfl) (by kernel_rfl) (by kernel_rfl) (fun _ _ _ h => h) rfl (wtF HE125 rfl rfl rfl (beq_f hc22)) rfl rfl fun a_126 HE127 => ?_
      refine dr_takeNo (i := 22) (ls' := #[true, true, true, true, true, true, true, true, true, true, true, true, true, true, true, true, true, true, true, true, true, true, true, false, false, false, false, false, false, false, false, false, false]) HE127 HS7 rfl (by kernel_rfl) (by kernel_rfl) (by kernel_rfl) (fun _ _ _ h => h) rfl (wtF HE127 rfl rfl rfl (beq_f hc22)) rfl rfl fun a_128 HE129 => ?_
      refine dr_takeNo (i := 23) (ls' := #[true, true, true, true, true, true, true, true, true, true, true, true, true, true, true, true, true, true, true, true, true, true, true, true, false, false, false, false, false, false, false, false, false]) HE129 HS7 rfl (by kernel_rfl) (by kernel_rfl) (by kernel_rfl) (fun _ _ _ h => h) rfl (wtF HE129 rfl rfl rfl (beq_f hc22)) rfl rfl fun a_130 HE131 => ?_
      refine dr_takeNo (i := 24) (ls' := #[true, true, true, true, true, true, true, true, true, true, true, true, true, true, true, true, true, true, true, true, true, true, true, true, true, false, false, false, false, false, false, false, false]) HE131 HS7 rfl (by kernel_rfl) (by kernel_rfl) (by kernel_rfl) (fun _ _ _ h => h) rfl (wtF HE131 rfl rfl rfl (beq_f hc22)) rfl rfl fun a_132 HE133 => ?_
      refine dr_takeNo (i := 25) (ls' := #[true, true, true, true, true, true, true, true, true, true, true, true, true, true, true, true, true, true, true, true, true, true, true, true, true, true, false, false, false, false, false, false, false]) HE133 HS7 rfl (by kernel_rfl) (by kernel_rfl) (by kernel_rfl) (fun _ _ _ h => h) rfl (wtF HE133 rfl rfl rfl (beq_f hc22)) rfl rfl fun a_134 HE135 => ?_
      refine dr_takeNo (i := 26) (ls' := #[true, true, true, true, true, true, true, true, true, true, true, true, true, true, true, true, true, true, true, true, true, true, true, true, true, true, true, false, false, false, false, false, false]) HE135 HS7 rfl (by kernel_rfl) (by kernel_rfl) (by kernel_rfl) (fun _ _ _ h => h) rfl (wtF HE135 rfl rfl rfl (beq_f hc22)) rfl rfl fun a_136 HE137 => ?_
      refine dr_takeNo (i := 27) (ls' := #[true, true, true, true, true, true, true, true, true, true, true, true, true, true, true, true, true, true, true, true, true, true, true, true, true, true, true, true, false, false, false, false, false]) HE137 HS7 rfl (by kernel_rfl) (by kernel_rfl) (by kernel_rfl) (fun _ _ _ h => h) rfl (wtF HE137 rfl rfl rfl (beq_f hc22)) rfl rfl fun a_138 HE139 => ?_
      refine dr_takeNo (i := 28) (ls' := #[true, true, true, true, true, true, true, true, true, true, true, true, true, true, true, true, true, true, true, true, true, true, true, true, true, true, true, true, true, false, false, false, false]) HE139 HS7 rfl (by kernel_rfl) (by kernel_rfl) (by kernel_rfl) (fun _ _ _ h => h) rfl (wtF HE139 rfl rfl rfl (beq_f hc22)) rfl rfl fun a_140 HE141 => ?_
      refine dr_takeNo (i := 29) (ls' := #[true, true, true, true, true, true, true, true, true, true, true, true, true, true, true, true, true, true, true, true, true, true, true, true, true, true, true, true, true, true, false, false, false]) HE141 HS7 rfl (by kernel_rfl) (by kernel_rfl) (by kernel_rfl) (fun _ _ _ h => h) rfl (wtF HE141 rfl rfl rfl (beq_f hc22)) rfl rfl fun a_142 HE143 => ?_
      refine dr_take (i := 30) (ls' := #[true, true, true, true, true, true, true, true, true, true, true, true, true, true, true, true, true, true, true, true, true, true, true, true, true, true, true, true, true, true, true, false, false]) HE143 HS7 rfl (by kernel_rfl) (by kernel_rfl) (by kernel_rfl) (fun _ _ _ h => h) rfl (wtT HE143 rfl rfl rfl (decide_eq_false hc21)) (x_pickF rfl (beq_f hc22) rfl) rfl rfl fun a_144 HE145 => ?_
      refine dr_take (i := 31) (ls' := #[true, true, true, true, true, true, true, true, true, true, true, true, true, true, true, true, true, true, true, true, true, true, true, true, true, true, true, true, true, true, true, true, false]) HE145 HS7 rfl (by kernel_rfl) (by kernel_rfl) (by kernel_rfl) (fun _ _ _ h => h) rfl (wt0 rfl) (x_pickF rfl (decide_eq_false hc21) rfl) rfl rfl fun a_146 HE147 => ?_
      refine dr_take (i := 32) (ls' := #[true, true, true, true, true, true, true, true, true, true, true, true, true, true, true, true, true, true, true, true, true, true, true, true, true, true, true, true, true, true, true, true, true]) HE147 HS7 rfl (by kernel_rfl) (by kernel_rfl) (by kernel_rfl) (fun _ _ _ h => h) rfl (wt0 rfl) (x_assign rfl) rfl rfl fun a_148 HE149 => ?_
      refine dr_done (by kernel_rfl) ?_
      clear HH1 a_4 HE5 a_8 HE9 a_10 HE11 a_12 HE13 a_14 HE15 a_16 HE17 a_18 HE19 a_20 HE21 a_22 HE23 a_24 HE25 a_26 HE27 a_74 HE75 a_76 HE77 a_78 HE79 a_80 HE81 a_82 HE83 a_84 HE85 a_86 HE87 a_88 HE89 a_90 HE91 a_92 HE93 a_124 HE125 a_126 HE127 a_128 HE129 a_130 HE131 a_132 HE133 a_134 HE135 a_136 HE137 a_138 HE139 a_140 HE141 a_142 HE143 a_144 HE145 a_146 HE147
      refine nrm ?_
      refine wp_ret ?_
      refine ret1 HE149 rfl (rv_tmp rfl) ?_
      have hF : (beforeMR a0 a1) = false := by
        unfold beforeMR cmpMR; grind
      exact ⟨by first | (rw [hF] <;> rfl) | rfl | (rw [hF]; simp only [Ending.returned.injEq, Value.slice.injEq, true_and, and_true]; first | omega | (simp; done)) | (rw [hF]; simp; omega), HH6.below⟩

set_option maxRecDepth 100000 in
set_option maxHeartbeats 4000000 in
theorem spec_l06RowE (A0 : Option Addr) (c0 : Nat) (a0 : (List Int)) (a1 : Int) (a2 : Int) (a3 : Int) (w : World) (h0 : Sl eInt w (Old w) A0 c0 a0) :
    Calls Tryz.prog 146 #[.slice A0 a0.length c0, .int .i64 a1, .int .i64 a2, .int .i64 a3] w fun e w' => e = .returned (.bool (rowB a0 a1 a2 a3)) ∧ Below w.heap.size w w' := by
  have l0 := h0.len
  have HH1 := Held.start Nob w
  refine enter (n := 28) Tryz.func146 rfl rfl rfl fun a_2 HE3 => ?_
  refine wp_seq ?_
  refine rg ?_
  refine pl_x HE3 HH1 (wt0 rfl) (x_assign rfl) rfl rfl fun a_4 HE5 => ?_
  refine wpList_nil ?_
  clear a_2 HE3
  refine nrm ?_
  refine wp_seq ?_
  refine wp_seq ?_
  refine rg ?_
  refine pl_x HE5 HH1 (wt0 rfl) (x_move rfl) rfl rfl fun a_6 HE7 => ?_
  refine pl_x HE7 HH1 (wt0 rfl) (x_len Tryz.underlying25 rfl) rfl rfl fun a_8 HE9 => ?_
  refine pl_x HE9 HH1 (wt0 rfl) (x_move rfl) rfl rfl fun a_10 HE11 => ?_
  refine pl_x HE11 HH1 (wt0 rfl) (x_neq rfl rfl) rfl rfl fun a_12 HE13 => ?_
  refine wpList_nil ?_
  clear a_4 HE5 a_6 HE7 a_8 HE9 a_10 HE11
  refine nrm ?_
  refine cnd_ne HE13 rfl (fun hc21 => ?_) (fun hc21 => ?_)
  · refine wp_seq ?_
    refine rg ?_
    refine pl_x HE13 HH1 (wt0 rfl) (x_assign rfl) rfl rfl fun a_14 HE15 => ?_
    refine wpList_nil ?_
    clear a_12 HE13
    refine nrm ?_
    refine wp_ret ?_
    refine (thn_ret ?_)
    refine ret1 HE15 rfl (rv_tmp rfl) ?_
    have hF : (rowB a0 a1 a2 a3) = false := by
      first | (unfold rowB; rw [beq_false_of_ne (by omega)]; rfl) | (unfold rowB allW; rw [any_hit (by omega : k < a0.length) (by rw [← xe0, outB_eq, hc21]; rfl)]; simp) | (have hq := p0_1; rw [List.take_of_length_le (by omega)] at hq; unfold rowB allW; rw [hq]; simp; omega)
    exact ⟨by first | (rw [hF] <;> rfl) | rfl | (rw [hF]; simp only [Ending.returned.injEq, Value.slice.injEq, true_and, and_true]; first | omega | (simp; done)) | (rw [hF]; simp; omega), HH1.below⟩
  · refine wp_skip ?_
    refine nrm ?_
    refine wp_seq ?_
    refine wp_seq ?_
    refine rg ?_
    refine pl_x HE13 HH1 (wt0 rfl) (x_assign rfl) rfl rfl fun a_16 HE17 => ?_
    refine wpList_nil ?_
    clear a_12 HE13
    refine nrm ?_
    refine wp_block ?_
    refine lp (fun m a w' => ∃ (k : Nat), m = a0.length - k ∧ Env 28 [(9, .int .i64 (k : Int)), (0, .slice A0 (a0.length) c0), (2, .int .i64 (a2)), (3, .int .i64 (a3))] a ∧ Held Nob w [] w' ∧ (k ≤ a0.length) ∧ ((a0.take k).any (outB a2 a3) = false)) (a0.length - (0)) ?_ ?_
    · exact ⟨0, rfl, HE17.sub ⟨(lkI rfl (by first | rfl | omega | (simp [hc21]; done))), rfl, rfl, rfl, trivial⟩, (HH1.sel [] (by decide) rfl), (by first | omega | assumption | (simp; done) | simp_all), (by rfl)⟩
    · rintro m a_18 w' ⟨k, rfl, HE19, HH20, p22_0, p22_1⟩
      refine wp_seq ?_
      refine wp_seq ?_
      refine rg ?_
      refine pl_x HE19 HH20 (wt0 rfl) (x_move rfl) rfl rfl fun a_21 HE22 => ?_
      refine pl_x HE22 HH20 (wt0 rfl) (x_move rfl) rfl rfl fun a_23 HE24 => ?_
      refine pl_x HE24 HH20 (wt0 rfl) (x_len Tryz.underlying25 rfl) rfl rfl fun a_25 HE26 => ?_
      refine pl_x HE26 HH20 (wt0 rfl) (x_lss rfl rfl) rfl rfl fun a_27 HE28 => ?_
      refine wpList_nil ?_
      clear a_16 HE17 HH1 a_18 HE19 a_21 HE22 a_23 HE24 a_25 HE26
      refine nrm ?_
      refine cnd_d HE28 rfl (fun hc23 => ?_) (fun hc23 => ?_)
      · refine wp_skip ?_
        refine nrm ?_
        refine wp_seq ?_
        refine wp_block ?_
        refine wp_seq ?_
        refine rg ?_
        refine pl_x HE28 HH20 (wt0 rfl) (x_move rfl) rfl rfl fun a_29 HE30 => ?_
        refine pl_x HE30 HH20 (wt0 rfl) (x_move rfl) rfl rfl fun a_31 HE32 => ?_
        have ke24 : k < a0.length := by omega
        obtain ⟨be24, fe24, ese24, Ae24, Re24, De24⟩ := el_old h0 ke24
        obtain ⟨e24, xe24⟩ : ∃ x_, x_ = a0[k] := ⟨_, rfl⟩
        rw [← xe24] at Re24
        have Qe24 := Re24
        obtain ⟨rfl, ie24⟩ := Re24
        have je24 := ie24; unfold I64 at je24
        refine pl_x HE32 HH20 (wt0 rfl) (x_indexAddr ts_25 rfl rfl Ae24 rfl ke24) rfl rfl fun a_33 HE34 => ?_
        refine pl_x HE34 HH20 (wt0 rfl) (x_load1 tv_2 rfl (c_old (De24 0 _ rfl))) rfl rfl fun a_35 HE36 => ?_
        refine pl_x HE36 HH20 (wt0 rfl) (x_move rfl) rfl rfl fun a_37 HE38 => ?_
        refine pl_x HE38 HH20 (wt0 rfl) (x_move rfl) rfl rfl fun a_39 HE40 => ?_
        refine pl fun K_41 hK42 => ?_
        refine st_call HE40 (wt0 rfl) rfl rfl rfl en_115 rfl rfl (spec_l00In e24 a2 a3 _ ) fun e w' hr => ?_
        obtain ⟨rfl, rfl⟩ := hr
        refine ⟨_, rfl, fun a_43 HE44 => hK42 _ _ ?_⟩
        refine pl_x HE44 HH20 (wt0 rfl) (x_not rfl) rfl rfl fun a_45 HE46 => ?_
        refine wpList_nil ?_
        clear a_27 HE28 a_29 HE30 a_31 HE32 a_33 HE34 a_35 HE36 a_37 HE38 a_39 HE40 a_43 HE44 hK42 K_41
        refine nrm ?_
        refine cnd_nb HE46 rfl (fun hc26 => ?_) (fun hc26 => ?_)
        · refine wp_seq ?_
          refine rg ?_
          refine pl_x HE46 HH20 (wt0 rfl) (x_assign rfl) rfl rfl fun a_47 HE48 => ?_
          refine wpList_nil ?_
          clear a_45 HE46
          refine nrm ?_
          refine wp_ret ?_
          refine (blk_ret (thn_ret (thn_ret (blk_ret (thn_ret ?_)))))
          refine ret1 HE48 rfl (rv_tmp rfl) ?_
          have hF : (rowB a0 a1 a2 a3) = false := by
            first | (unfold rowB; rw [beq_false_of_ne (by omega)]; rfl) | (unfold rowB allW; rw [any_hit (by omega : k < a0.length) (by rw [← xe24, outB_eq, hc26]; rfl)]; simp) | (have hq := p22_1; rw [List.take_of_length_le (by omega)] at hq; unfold rowB allW; rw [hq]; simp; omega)
          exact ⟨by first | (rw [hF] <;> rfl) | rfl | (rw [hF]; simp only [Ending.returned.injEq, Value.slice.injEq, true_and, and_true]; first | omega | (simp; done)) | (rw [hF]; simp; omega), HH20.below⟩
        · refine wp_skip ?_
          refine blk_n ?_
          refine nrm ?_
          refine rg ?_
          refine pl_x HE46 HH20 (wt0 rfl) (x_move rfl) rfl rfl fun a_49 HE50 => ?_
          refine pl_x HE50 HH20 (wt0 rfl) (x_add rfl rfl (by exact ⟨by omega, by omega⟩)) rfl rfl fun a_51 HE52 => ?_
          refine pl_x HE52 HH20 (wt0 rfl) (x_assign rfl) rfl rfl fun a_53 HE54 => ?_
          refine wpList_nil ?_
          clear a_45 HE46 a_49 HE50 a_51 HE52
          exact nrm ⟨a0.length - (k + 1), (by omega), k + 1, rfl, HE54.sub ⟨(lkI rfl (by first | rfl | omega | (simp [hc21, p22_0, p22_1, hc23, xe24, hc26]; done))), rfl, rfl, rfl, trivial⟩, (HH20.sel [] (by decide) rfl), (by first | omega | assumption | (simp; done) | simp_all), (by exact any_step (by omega) p22_1 (by rw [← xe24, outB_eq, hc26]; rfl))⟩
      · refine wp_exit ?_
        refine (thn_exit (thn_exit (blk_hit ?_)))
        refine nrm ?_
        refine wp_seq ?_
        refine rg ?_
        refine pl_x HE28 HH20 (wt0 rfl) (x_assign rfl) rfl rfl fun a_55 HE56 => ?_
        refine wpList_nil ?_
        clear a_27 HE28
        refine nrm ?_
        refine wp_ret ?_
        refine ret1 HE56 rfl (rv_tmp rfl) ?_
        have hF : (rowB a0 a1 a2 a3) = true := by
          first | (unfold rowB; rw [beq_false_of_ne (by omega)]; rfl) | (unfold rowB allW; rw [any_hit (by omega : k < a0.length) (by rw [← xe0, outB_eq, hc23]; rfl)]; simp) | (have hq := p22_1; rw [List.take_of_length_le (by omega)] at hq; unfold rowB allW; rw [hq]; simp; omega)
        exact ⟨by first | (rw [hF] <;> rfl) | rfl | (rw [hF]; simp only [Ending.returned.injEq, Value.slice.injEq, true_and, and_true]; first | omega | (simp; done)) | (rw [hF]; simp; omega), HH20.below⟩

set_option maxRecDepth 100000 in
set_option maxHeartbeats 4000000 in
theorem impl_validMultiRule (es0 : List Value) (a0 : tMulti) (es1 : List Value) (a1 : tMultiRule) (w : World) (h0 : eMulti.R w (Old w) es0 a0) (h1 : eMultiRule.R w (Old w) es1 a1) (s0 : 1 ≤ a0.2.2.1 ∧ a0.2.2.1 ≤ 16) (s1 : 2 ≤ a0.2.1 ∧ a0.2.1 ≤ 3) :
    Calls Tryz.prog 153 #[.agg es0.toArray, .agg es1.toArray] w fun e w' => e = .returned (.bool (validMR a0 a1)) ∧ Below w.heap.size w w' := by
  have H0 := h0
  obtain ⟨Az0_3, cz0_3, rfl, gz0_0, gz0_1, gz0_2, gz0_3⟩ := shape_Multi h0
  have jz0_0 := gz0_0; unfold I64 at jz0_0
  have jz0_1 := gz0_1; unfold I64 at jz0_1
  have jz0_2 := gz0_2; unfold I64 at jz0_2
  have lz0_3 := gz0_3.len
  have H1 := h1
  obtain ⟨Az1_1, cz1_1, Az1_2, cz1_2, Az1_3, cz1_3, rfl, gz1_0, gz1_1, gz1_2, gz1_3, gz1_4⟩ := shape_MultiRule h1
  have jz1_0 := gz1_0; unfold I64 at jz1_0
  have lz1_1 := gz1_1.len
  have lz1_2 := gz1_2.len
  have lz1_3 := gz1_3.len
  have jz1_4 := gz1_4; unfold I64 at jz1_4
  have HH1 := Held.start Nob w
  refine enter (n := 62) Tryz.func153 rfl rfl rfl fun a_2 HE3 => ?_
  refine wp_seq ?_
  refine rg ?_
  refine pl fun K_4 hK5 => ?_
  refine st_box (cs := [.int .i64 (a0.1), .int .i64 (a0.2.1), .int .i64 (a0.2.2.1), .slice Az0_3 (a0.2.2.2.length) cz0_3]) HE3 HH1 rfl rfl (wt0 rfl) rfl fun q21 a_6 w' HE7 HH8 => hK5 _ _ ?_
  refine pl fun K_9 hK10 => ?_
  refine st_box (cs := [.int .i64 (a1.1), .slice Az1_1 (a1.2.1.length) cz1_1, .slice Az1_2 (a1.2.2.1.length) cz1_2, .slice Az1_3 (a1.2.2.2.1.length) cz1_3, .int .i64 (a1.2.2.2.2)]) HE7 HH8 rfl rfl (wt0 rfl) rfl fun q22 a_11 w' HE12 HH13 => hK10 _ _ ?_
  refine pl_x HE12 HH13 (wt0 rfl) (x_assign rfl) rfl rfl fun a_14 HE15 => ?_
  refine wpList_nil ?_
  clear a_2 HE3 HH1 K_4 hK5 a_6 HE7 HH8 a_11 HE12 hK10 K_9
  refine nrm ?_
  refine wp_seq ?_
  refine wp_seq ?_
  refine rg ?_
  refine pl_x HE15 HH13 (wt0 rfl) (x_fieldAddr fa_123_0 rfl) rfl rfl fun a_16 HE17 => ?_
  refine pl_x HE17 HH13 (wt0 rfl) (x_load1 tv_2 rfl (c_blk 0 rfl rfl)) rfl rfl fun a_18 HE19 => ?_
  refine pl_x HE19 HH13 (wt0 rfl) (x_fieldAddr fa_68_2 rfl) rfl rfl fun a_20 HE21 => ?_
  refine pl_x HE21 HH13 (wt0 rfl) (x_load1 tv_2 rfl (c_blk 1 rfl rfl)) rfl rfl fun a_22 HE23 => ?_
  refine pl_x HE23 HH13 (wt0 rfl) (x_sub rfl rfl (by exact ⟨by omega, by omega⟩)) rfl rfl fun a_24 HE25 => ?_
  refine pl fun K_26 hK27 => ?_
  refine st_call HE25 (wt0 rfl) rfl rfl rfl en_42 rfl rfl (impl_within a1.1 0 (a0.2.2.1 - 1) _ ) fun e w' hr => ?_
  obtain ⟨rfl, rfl⟩ := hr
  refine ⟨_, rfl, fun a_28 HE29 => hK27 _ _ ?_⟩
  refine pl_x HE29 HH13 (wt0 rfl) (x_not rfl) rfl rfl fun a_30 HE31 => ?_
  refine pl_x HE31 HH13 (wt0 rfl) (x_move rfl) rfl rfl fun a_32 HE33 => ?_
  rcases Bool.eq_false_or_eq_true ((withinB a1.1 0 (a0.2.2.1 - 1))) with hc24 | hc24
  · refine pl_x HE33 HH13 (wtT HE33 rfl rfl rfl (not_f hc24)) (x_fieldAddr fa_123_4 rfl) rfl rfl fun a_34 HE35 => ?_
    refine pl_x HE35 HH13 (wtT HE35 rfl rfl rfl (not_f hc24)) (x_load1 tv_2 rfl (c_blk 0 rfl rfl)) rfl rfl fun a_36 HE37 => ?_
    refine pl_x HE37 HH13 (wtT HE37 rfl rfl rfl (not_f hc24)) (x_fieldAddr fa_68_2 rfl) rfl rfl fun a_38 HE39 => ?_
    refine pl_x HE39 HH13 (wtT HE39 rfl rfl rfl (not_f hc24)) (x_load1 tv_2 rfl (c_blk 1 rfl rfl)) rfl rfl fun a_40 HE41 => ?_
    refine pl_x HE41 HH13 (wtT HE41 rfl rfl rfl (not_f hc24)) (x_sub rfl rfl (by exact ⟨by omega, by omega⟩)) rfl rfl fun a_42 HE43 => ?_
    refine pl fun K_44 hK45 => ?_
    refine st_call HE43 (wtT HE43 rfl rfl rfl (not_f hc24)) rfl rfl rfl en_42 rfl rfl (impl_within a1.2.2.2.2 0 (a0.2.2.1 - 1) _ ) fun e w' hr => ?_
    obtain ⟨rfl, rfl⟩ := hr
    refine ⟨_, rfl, fun a_46 HE47 => hK45 _ _ ?_⟩
    refine pl_x HE47 HH13 (wtT HE47 rfl rfl rfl (not_f hc24)) (x_not rfl) rfl rfl fun a_48 HE49 => ?_
    refine pl_x HE49 HH13 (wt0 rfl) (x_pickF rfl (not_f hc24) rfl) rfl rfl fun a_50 HE51 => ?_
    refine wpList_nil ?_
    clear a_14 HE15 a_16 HE17 a_18 HE19 a_20 HE21 a_22 HE23 a_24 HE25 a_28 HE29 a_30 HE31 a_32 HE33 a_34 HE35 a_36 HE37 a_38 HE39 a_40 HE41 K_26 hK27 a_42 HE43 a_46 HE47 a_48 HE49 hK45 K_44
    refine nrm ?_
    refine cnd_nb HE51 rfl (fun hc26 => ?_) (fun hc26 => ?_)
    · refine wp_seq ?_
      refine rg ?_
      refine pl_x HE51 HH13 (wt0 rfl) (x_assign rfl) rfl rfl fun a_52 HE53 => ?_
      refine wpList_nil ?_
      clear a_50 HE51
      refine nrm ?_
      refine wp_ret ?_
      refine (thn_ret ?_)
      refine ret1 HE53 rfl (rv_tmp rfl) ?_
      have hF : (validMR a0 a1) = false := by
        first | (simp [validMR, hc24, hc26]; done) | (unfold validMR; grind)
      exact ⟨by first | (rw [hF] <;> rfl) | rfl | (rw [hF]; simp only [Ending.returned.injEq, Value.slice.injEq, true_and, and_true]; first | omega | (simp; done)) | (rw [hF]; simp; omega), HH13.below⟩
    · refine wp_skip ?_
      refine nrm ?_
      refine wp_seq ?_
      refine wp_seq ?_
      refine dr_start (Held Nob w [rBlk q22 123 [.int .i64 (a1.1), .slice Az1_1 (a1.2.1.length) cz1_1, .slice Az1_2 (a1.2.2.1.length) cz1_2, .slice Az1_3 (a1.2.2.2.1.length) cz1_3, .int .i64 (a1.2.2.2.2)], rBlk q21 68 [.int .i64 (a0.1), .int .i64 (a0.2.1), .int .i64 (a0.2.2.1), .slice Az0_3 (a0.2.2.2.length) cz0_3]]) 22 #[false, false, false, false, false, false, false, false, false, false, false, false, false, false, false, false, false, false, false, false, false, false] hmix rfl rfl HH13 (fun _ h => h.sel [0, 1] (by decide) rfl) fun w' HH54 => ?_
      have HS55 := HH54
      refine dr_take (i := 0) (ls' := #[true, false, false, false, false, false, false, false, false, false, false, false, false, false, false, false, false, false, false, false, false, false]) HE51 HS55 rfl (by kernel_rfl) (by kernel_rfl) (by kernel_rfl) (fun _ _ _ h => h) rfl (wt0 rfl) (x_fieldAddr fa_123_1 rfl) rfl rfl fun a_56 HE57 => ?_
      refine dr_take (i := 1) (ls' := #[true, true, false, false, false, false, false, false, false, false, false, false, false, false, false, false, false, false, false, false, false, false]) HE57 HS55 rfl (by kernel_rfl) (by kernel_rfl) (by kernel_rfl) (fun _ _ _ h => h) rfl (wt0 rfl) (x_load1 tv_25 rfl (c_blk 0 rfl rfl)) rfl rfl fun a_58 HE59 => ?_
      refine dr_take (i := 3) (ls' := #[true, true, false, true, false, false, false, false, false, false, false, false, false, false, false, false, false, false, false, false, false, false]) HE59 HS55 rfl (by kernel_rfl) (by kernel_rfl) (by kernel_rfl) (fun _ _ _ h => h) rfl (wt0 rfl) (x_fieldAddr fa_68_0 rfl) rfl rfl fun a_60 HE61 => ?_
      refine dr_take (i := 4) (ls' := #[true, true, false, true, true, false, false, false, false, false, false, false, false, false, false, false, false, false, false, false, false, false]) HE61 HS55 rfl (by kernel_rfl) (by kernel_rfl) (by kernel_rfl) (fun _ _ _ h => h) rfl (wt0 rfl) (x_load1 tv_2 rfl (c_blk 1 rfl rfl)) rfl rfl fun a_62 HE63 => ?_
      refine dr_one (i := 2) (ls' := #[true, true, true, true, true, false, false, false, false, false, false, false, false, false, false, false, false, false, false, false, false, false]) rfl (by kernel_rfl) rfl fun K_64 hK65 => ?_
      refine st_call HE63 (wt0 rfl) rfl rfl rfl en_192 rfl rfl (impl_size_Int64 _ _ _ _) fun e w' hr => ?_
      obtain ⟨rfl, rfl⟩ := hr
      refine ⟨_, rfl, fun a_66 HE67 => hK65 _ _ (by exact HH54.sel [0, 1] (by decide) rfl) ?_⟩
      have HS68 := HH54.sel [0, 1] (by decide) rfl
      refine dr_take (i := 5) (ls' := #[true, true, true, true, true, true, false, false, false, false, false, false, false, false, false, false, false, false, false, false, false, false]) HE67 HS68 rfl (by kernel_rfl) (by kernel_rfl) (by kernel_rfl) (fun _ _ _ h => h) rfl (wt0 rfl) (x_neq rfl rfl) rfl rfl fun a_69 HE70 => ?_
      refine dr_take (i := 6) (ls' := #[true, true, true, true, true, true, true, false, false, false, false, false, false, false, false, false, false, false, false, false, false, false]) HE70 HS68 rfl (by kernel_rfl) (by kernel_rfl) (by kernel_rfl) (fun _ _ _ h => h) rfl (wt0 rfl) (x_move rfl) rfl rfl fun a_71 HE72 => ?_
      by_cases hc28 : ¬ (a1.2.1.length : Int) = a0.1
      · refine dr_takeNo (i := 7) (ls' := #[true, true, true, true, true, true, true, true, false, false, false, false, false, false, false, false, false, false, false, false, false, false]) HE72 HS68 rfl (by kernel_rfl) (by kernel_rfl) (by kernel_rfl) (fun _ _ _ h => h) rfl (wtF HE72 rfl rfl rfl (bne_t hc28)) rfl rfl fun a_73 HE74 => ?_
        refine dr_takeNo (i := 8) (ls' := #[true, true, true, true, true, true, true, true, true, false, false, false, false, false, false, false, false, false, false, false, false, false]) HE74 HS68 rfl (by kernel_rfl) (by kernel_rfl) (by kernel_rfl) (fun _ _ _ h => h) rfl (wtF HE74 rfl rfl rfl (bne_t hc28)) rfl rfl fun a_75 HE76 => ?_
        refine dr_takeNo (i := 9) (ls' := #[true, true, true, true, true, true, true, true, true, true, false, false, false, false, false, false, false, false, false, false, false, false]) HE76 HS68 rfl (by kernel_rfl) (by kernel_rfl) (by kernel_rfl) (fun _ _ _ h => h) rfl (wtF HE76 rfl rfl rfl (bne_t hc28)) rfl rfl fun a_77 HE78 => ?_
        refine dr_takeNo (i := 10) (ls' := #[true, true, true, true, true, true, true, true, true, true, true, false, false, false, false, false, false, false, false, false, false, false]) HE78 HS68 rfl (by kernel_rfl) (by kernel_rfl) (by kernel_rfl) (fun _ _ _ h => h) rfl (wtF HE78 rfl rfl rfl (bne_t hc28)) rfl rfl fun a_79 HE80 => ?_
        refine dr_takeNo (i := 11) (ls' := #[true, true, true, true, true, true, true, true, true, true, true, true, false, false, false, false, false, false, false, false, false, false]) HE80 HS68 rfl (by kernel_rfl) (by kernel_rfl) (by kernel_rfl) (fun _ _ _ h => h) rfl (wtF HE80 rfl rfl rfl (bne_t hc28)) rfl rfl fun a_81 HE82 => ?_
        refine dr_takeNo (i := 12) (ls' := #[true, true, true, true, true, true, true, true, true, true, true, true, true, false, false, false, false, false, false, false, false, false]) HE82 HS68 rfl (by kernel_rfl) (by kernel_rfl) (by kernel_rfl) (fun _ _ _ h => h) rfl (wtF HE82 rfl rfl rfl (bne_t hc28)) rfl rfl fun a_83 HE84 => ?_
        refine dr_take (i := 13) (ls' := #[true, true, true, true, true, true, true, true, true, true, true, true, true, true, false, false, false, false, false, false, false, false]) HE84 HS68 rfl (by kernel_rfl) (by kernel_rfl) (by kernel_rfl) (fun _ _ _ h => h) rfl (wt0 rfl) (x_pickT rfl (bne_t hc28) rfl) rfl rfl fun a_85 HE86 => ?_
        refine dr_take (i := 14) (ls' := #[true, true, true, true, true, true, true, true, true, true, true, true, true, true, true, false, false, false, false, false, false, false]) HE86 HS68 rfl (by kernel_rfl) (by kernel_rfl) (by kernel_rfl) (fun _ _ _ h => h) rfl (wt0 rfl) (x_move rfl) rfl rfl fun a_87 HE88 => ?_
        refine dr_takeNo (i := 15) (ls' := #[true, true, true, true, true, true, true, true, true, true, true, true, true, true, true, true, false, false, false, false, false, false]) HE88 HS68 rfl (by kernel_rfl) (by kernel_rfl) (by kernel_rfl) (fun _ _ _ h => h) rfl (wtF HE88 rfl rfl rfl rfl) rfl rfl fun a_89 HE90 => ?_
        refine dr_takeNo (i := 16) (ls' := #[true, true, true, true, true, true, true, true, true, true, true, true, true, true, true, true, true, false, false, false, false, false]) HE90 HS68 rfl (by kernel_rfl) (by kernel_rfl) (by kernel_rfl) (fun _ _ _ h => h) rfl (wtF HE90 rfl rfl rfl rfl) rfl rfl fun a_91 HE92 => ?_
        refine dr_takeNo (i := 17) (ls' := #[true, true, true, true, true, true, true, true, true, true, true, true, true, true, true, true, true, true, false, false, false, false]) HE92 HS68 rfl (by kernel_rfl) (by kernel_rfl) (by kernel_rfl) (fun _ _ _ h => h) rfl (wtF HE92 rfl rfl rfl rfl) rfl rfl fun a_93 HE94 => ?_
        refine dr_takeNo (i := 18) (ls' := #[true, true, true, true, true, true, true, true, true, true, true, true, true, true, true, true, true, true, true, false, false, false]) HE94 HS68 rfl (by kernel_rfl) (by kernel_rfl) (by kernel_rfl) (fun _ _ _ h => h) rfl (wtF HE94 rfl rfl rfl rfl) rfl rfl fun a_95 HE96 => ?_
        refine dr_takeNo (i := 19) (ls' := #[true, true, true, true, true, true, true, true, true, true, true, true, true, true, true, true, true, true, true, true, false, false]) HE96 HS68 rfl (by kernel_rfl) (by kernel_rfl) (by kernel_rfl) (fun _ _ _ h => h) rfl (wtF HE96 rfl rfl rfl rfl) rfl rfl fun a_97 HE98 => ?_
        refine dr_takeNo (i := 20) (ls' := #[true, true, true, true, true, true, true, true, true, true, true, true, true, true, true, true, true, true, true, true, true, false]) HE98 HS68 rfl (by kernel_rfl) (by kernel_rfl) (by kernel_rfl) (fun _ _ _ h => h) rfl (wtF HE98 rfl rfl rfl rfl) rfl rfl fun a_99 HE100 => ?_
        refine dr_take (i := 21) (ls' := #[true, true, true, true, true, true, true, true, true, true, true, true, true, true, true, true, true, true, true, true, true, true]) HE100 HS68 rfl (by kernel_rfl) (by kernel_rfl) (by kernel_rfl) (fun _ _ _ h => h) rfl (wt0 rfl) (x_pickT rfl rfl rfl) rfl rfl fun a_101 HE102 => ?_
        refine dr_done (by kernel_rfl) ?_
        clear HH13 a_50 HE51 a_56 HE57 a_58 HE59 a_60 HE61 a_62 HE63 HS55 a_66 HE67 a_69 HE70 a_71 HE72 a_73 HE74 a_75 HE76 a_77 HE78 a_79 HE80 a_81 HE82 a_83 HE84 a_85 HE86 a_87 HE88 a_89 HE90 a_91 HE92 a_93 HE94 a_95 HE96 a_97 HE98 a_99 HE100 hK65 K_64
        refine nrm ?_
        refine cndT HE102 rfl rfl ?_
        refine wp_seq ?_
        refine rg ?_
        refine pl_x HE102 HH54 (wt0 rfl) (x_assign rfl) rfl rfl fun a_103 HE104 => ?_
        refine wpList_nil ?_
        clear a_101 HE102
        refine nrm ?_
        refine wp_ret ?_
        refine (thn_ret ?_)
        refine ret1 HE104 rfl (rv_tmp rfl) ?_
        have hF : (validMR a0 a1) = false := by
          first | (simp [validMR, hc24, hc26, hc28]; done) | (unfold validMR; grind)
        exact ⟨by first | (rw [hF] <;> rfl) | rfl | (rw [hF]; simp only [Ending.returned.injEq, Value.slice.injEq, true_and, and_true]; first | omega | (simp; done)) | (rw [hF]; simp; omega), HH54.below⟩
      · replace hc28 := Classical.not_not.1 hc28
        refine dr_take (i := 7) (ls' := #[true, true, true, true, true, true, true, true, false, false, false, false, false, false, false, false, false, false, false, false, false, false]) HE72 HS68 rfl (by kernel_rfl) (by kernel_rfl) (by kernel_rfl) (fun _ _ _ h => h) rfl (wtT HE72 rfl rfl rfl (bne_f hc28)) (x_fieldAddr fa_123_2 rfl) rfl rfl fun a_105 HE106 => ?_
        refine dr_take (i := 8) (ls' := #[true, true, true, true, true, true, true, true, true, false, false, false, false, false, false, false, false, false, false, false, false, false]) HE106 HS68 rfl (by kernel_rfl) (by kernel_rfl) (by kernel_rfl) (fun _ _ _ h => h) rfl (wtT HE106 rfl rfl rfl (bne_f hc28)) (x_load1 tv_25 rfl (c_blk 0 rfl rfl)) rfl rfl fun a_107 HE108 => ?_
        refine dr_take (i := 10) (ls' := #[true, true, true, true, true, true, true, true, true, false, true, false, false, false, false, false, false, false, false, false, false, false]) HE108 HS68 rfl (by kernel_rfl) (by kernel_rfl) (by kernel_rfl) (fun _ _ _ h => h) rfl (wtT HE108 rfl rfl rfl (bne_f hc28)) (x_fieldAddr fa_68_0 rfl) rfl rfl fun a_109 HE110 => ?_
        refine dr_take (i := 11) (ls' := #[true, true, true, true, true, true, true, true, true, false, true, true, false, false, false, false, false, false, false, false, false, false]) HE110 HS68 rfl (by kernel_rfl) (by kernel_rfl) (by kernel_rfl) (fun _ _ _ h => h) rfl (wtT HE110 rfl rfl rfl (bne_f hc28)) (x_load1 tv_2 rfl (c_blk 1 rfl rfl)) rfl rfl fun a_111 HE112 => ?_
        refine dr_one (i := 9) (ls' := #[true, true, true, true, true, true, true, true, true, true, true, true, false, false, false, false, false, false, false, false, false, false]) rfl (by kernel_rfl) rfl fun K_113 hK114 => ?_
        refine st_call HE112 (wtT HE112 rfl rfl rfl (bne_f hc28)) rfl rfl rfl en_192 rfl rfl (impl_size_Int64 _ _ _ _) fun e w' hr => ?_
        obtain ⟨rfl, rfl⟩ := hr
        refine ⟨_, rfl, fun a_115 HE116 => hK114 _ _ (by exact HH54.sel [0, 1] (by decide) rfl) ?_⟩
        have HS117 := HH54.sel [0, 1] (by decide) rfl
        refine dr_take (i := 12) (ls' := #[true, true, true, true, true, true, true, true, true, true, true, true, true, false, false, false, false, false, false, false, false, false]) HE116 HS117 rfl (by kernel_rfl) (by kernel_rfl) (by kernel_rfl) (fun _ _ _ h => h) rfl (wtT HE116 rfl rfl rfl (bne_f hc28)) (x_neq rfl rfl) rfl rfl fun a_118 HE119 => ?_
        refine dr_take (i := 13) (ls' := #[true, true, true, true, true, true, true, true, true, true, true, true, true, true, false, false, false, false, false, false, false, false]) HE119 HS117 rfl (by kernel_rfl) (by kernel_rfl) (by kernel_rfl) (fun _ _ _ h => h) rfl (wt0 rfl) (x_pickF rfl (bne_f hc28) rfl) rfl rfl fun a_120 HE121 => ?_
        refine dr_take (i := 14) (ls' := #[true, true, true, true, true, true, true, true, true, true, true, true, true, true, true, false, false, false, false, false, false, false]) HE121 HS117 rfl (by kernel_rfl) (by kernel_rfl) (by kernel_rfl) (fun _ _ _ h => h) rfl (wt0 rfl) (x_move rfl) rfl rfl fun a_122 HE123 => ?_
        by_cases hc30 : ¬ (a1.2.2.1.length : Int) = a0.1
        · refine dr_takeNo (i := 15) (ls' := #[true, true, true, true, true, true, true, true, true, true, true, true, true, true, true, true, false, false, false, false, false, false]) HE123 HS117 rfl (by kernel_rfl) (by kernel_rfl) (by kernel_rfl) (fun _ _ _ h => h) rfl (wtF HE123 rfl rfl rfl (bne_t hc30)) rfl rfl fun a_124 HE125 => ?_
          refine dr_takeNo (i := 16) (ls' := #[true, true, true, true, true, true, true, true, true, true, true, true, true, true, true, true, true, false, false, false, false, false]) HE125 HS117 rfl (by kernel_rfl) (by kernel_rfl) (by kernel_rfl) (fun _ _ _ h => h) rfl (wtF HE125 rfl rfl rfl (bne_t hc30)) rfl rfl fun a_126 HE127 => ?_
          refine dr_takeNo (i := 17) (ls' := #[true, true, true, true, true, true, true, true, true, true, true, true, true, true, true, true, true, true, false, false, false, false]) HE127 HS117 rfl (by kernel_rfl) (by kernel_rfl) (by kernel_rfl) (fun _ _ _ h => h) rfl (wtF HE127 rfl rfl rfl (bne_t hc30)) rfl rfl fun a_128 HE129 => ?_
          refine dr_takeNo (i := 18) (ls' := #[true, true, true, true, true, true, true, true, true, true, true, true, true, true, true, true, true, true, true, false, false, false]) HE129 HS117 rfl (by kernel_rfl) (by kernel_rfl) (by kernel_rfl) (fun _ _ _ h => h) rfl (wtF HE129 rfl rfl rfl (bne_t hc30)) rfl rfl fun a_130 HE131 => ?_
          refine dr_takeNo (i := 19) (ls' := #[true, true, true, true, true, true, true, true, true, true, true, true, true, true, true, true, true, true, true, true, false, false]) HE131 HS117 rfl (by kernel_rfl) (by kernel_rfl) (by kernel_rfl) (fun _ _ _ h => h) rfl (wtF HE131 rfl rfl rfl (bne_t hc30)) rfl rfl fun a_132 HE133 => ?_
          refine dr_takeNo (i := 20) (ls' := #[true, true, true, true, true, true, true, true, true, true, true, true, true, true, true, true, true, true, true, true, true, false]) HE133 HS117 rfl (by kernel_rfl) (by kernel_rfl) (by kernel_rfl) (fun _ _ _ h => h) rfl (wtF HE133 rfl rfl rfl (bne_t hc30)) rfl rfl fun a_134 HE135 => ?_
          refine dr_take (i := 21) (ls' := #[true, true, true, true, true, true, true, true, true, true, true, true, true, true, true, true, true, true, true, true, true, true]) HE135 HS117 rfl (by kernel_rfl) (by kernel_rfl) (by kernel_rfl) (fun _ _ _ h => h) rfl (wt0 rfl) (x_pickT rfl (bne_t hc30) rfl) rfl rfl fun a_136 HE137 => ?_
          refine dr_done (by kernel_rfl) ?_
          clear HH13 a_50 HE51 a_56 HE57 a_58 HE59 a_60 HE61 a_62 HE63 HS55 a_66 HE67 a_69 HE70 a_71 HE72 a_105 HE106 a_107 HE108 a_109 HE110 K_64 hK65 a_111 HE112 HS68 a_115 HE116 a_118 HE119 a_120 HE121 a_122 HE123 a_124 HE125 a_126 HE127 a_128 HE129 a_130 HE131 a_132 HE133 a_134 HE135 hK114 K_113
          refine nrm ?_
          refine cndT HE137 rfl rfl ?_
          refine wp_seq ?_
          refine rg ?_
          refine pl_x HE137 HH54 (wt0 rfl) (x_assign rfl) rfl rfl fun a_138 HE139 => ?_
          refine wpList_nil ?_
          clear a_136 HE137
          refine nrm ?_
          refine wp_ret ?_
          refine (thn_ret ?_)
          refine ret1 HE139 rfl (rv_tmp rfl) ?_
          have hF : (validMR a0 a1) = false := by
            first | (simp [validMR, hc24, hc26, hc28, hc30]; done) | (unfold validMR; grind)
          exact ⟨by first | (rw [hF] <;> rfl) | rfl | (rw [hF]; simp only [Ending.returned.injEq, Value.slice.injEq, true_and, and_true]; first | omega | (simp; done)) | (rw [hF]; simp; omega), HH54.below⟩
        · replace hc30 := Classical.not_not.1 hc30
          refine dr_take (i := 15) (ls' := #[true, true, true, true, true, true, true, true, true, true, true, true, true, true, true, true, false, false, false, false, false, false]) HE123 HS117 rfl (by kernel_rfl) (by kernel_rfl) (by kernel_rfl) (fun _ _ _ h => h) rfl (wtT HE123 rfl rfl rfl (bne_f hc30)) (x_fieldAddr fa_123_3 rfl) rfl rfl fun a_140 HE141 => ?_
          refine dr_take (i := 16) (ls' := #[true, true, true, true, true, true, true, true, true, true, true, true, true, true, true, true, true, false, false, false, false, false]) HE141 HS117 rfl (by kernel_rfl) (by kernel_rfl) (by kernel_rfl) (fun _ _ _ h => h) rfl (wtT HE141 rfl rfl rfl (bne_f hc30)) (x_load1 tv_25 rfl (c_blk 0 rfl rfl)) rfl rfl fun a_142 HE143 => ?_
          refine dr_take (i := 18) (ls' := #[true, true, true, true, true, true, true, true, true, true, true, true, true, true, true, true, true, false, true, false, false, false]) HE143 HS117 rfl (by kernel_rfl) (by kernel_rfl) (by kernel_rfl) (fun _ _ _ h => h) rfl (wtT HE143 rfl rfl rfl (bne_f hc30)) (x_fieldAddr fa_68_0 rfl) rfl rfl fun a_144 HE145 => ?_
          refine dr_take (i := 19) (ls' := #[true, true, true, true, true, true, true, true, true, true, true, true, true, true, true, true, true, false, true, true, false, false]) HE145 HS117 rfl (by kernel_rfl) (by kernel_rfl) (by kernel_rfl) (fun _ _ _ h => h) rfl (wtT HE145 rfl rfl rfl (bne_f hc30)) (x_load1 tv_2 rfl (c_blk 1 rfl rfl)) rfl rfl fun a_146 HE147 => ?_
          refine dr_one (i := 17) (ls' := #[true, true, true, true, true, true, true, true, true, true, true, true, true, true, true, true, true, true, true, true, false, false]) rfl (by kernel_rfl) rfl fun K_148 hK149 => ?_
          refine st_call HE147 (wtT HE147 rfl rfl rfl (bne_f hc30)) rfl rfl rfl en_192 rfl rfl (impl_size_Int64 _ _ _ _) fun e w' hr => ?_
          obtain ⟨rfl, rfl⟩ := hr
          refine ⟨_, rfl, fun a_150 HE151 => hK149 _ _ (by exact HH54.sel [0, 1] (by decide) rfl) ?_⟩
          have HS152 := HH54.sel [0, 1] (by decide) rfl
          refine dr_take (i := 20) (ls' := #[true, true, true, true, true, true, true, true, true, true, true, true, true, true, true, true, true, true, true, true, true, false]) HE151 HS152 rfl (by kernel_rfl) (by kernel_rfl) (by kernel_rfl) (fun _ _ _ h => h) rfl (wtT HE151 rfl rfl rfl (bne_f hc30)) (x_neq rfl rfl) rfl rfl fun a_153 HE154 => ?_
          refine dr_take (i := 21) (ls' := #[true, true, true, true, true, true, true, true, true, true, true, true, true, true, true, true, true, true, true, true, true, true]) HE154 HS152 rfl (by kernel_rfl) (by kernel_rfl) (by kernel_rfl) (fun _ _ _ h => h) rfl (wt0 rfl) (x_pickF rfl (bne_f hc30) rfl) rfl rfl fun a_155 HE156 => ?_
          refine dr_done (by kernel_rfl) ?_
          clear HH13 a_50 HE51 a_56 HE57 a_58 HE59 a_60 HE61 a_62 HE63 HS55 a_66 HE67 a_69 HE70 a_71 HE72 a_105 HE106 a_107 HE108 a_109 HE110 K_64 hK65 a_111 HE112 HS68 a_115 HE116 a_118 HE119 a_120 HE121 a_122 HE123 a_140 HE141 a_142 HE143 a_144 HE145 K_113 hK114 a_146 HE147 HS117 a_150 HE151 a_153 HE154 hK149 K_148
          refine nrm ?_
          refine cnd_ne HE156 rfl (fun hc32 => ?_) (fun hc32 => ?_)
          · refine wp_seq ?_
            refine rg ?_
            refine pl_x HE156 HH54 (wt0 rfl) (x_assign rfl) rfl rfl fun a_157 HE158 => ?_
            refine wpList_nil ?_
            clear a_155 HE156
            refine nrm ?_
            refine wp_ret ?_
            refine (thn_ret ?_)
            refine ret1 HE158 rfl (rv_tmp rfl) ?_
            have hF : (validMR a0 a1) = false := by
              first | (simp [validMR, hc24, hc26, hc28, hc30, hc32]; done) | (unfold validMR; grind)
            exact ⟨by first | (rw [hF] <;> rfl) | rfl | (rw [hF]; simp only [Ending.returned.injEq, Value.slice.injEq, true_and, and_true]; first | omega | (simp; done)) | (rw [hF]; simp; omega), HH54.below⟩
          · refine wp_skip ?_
            refine nrm ?_
            refine wp_seq ?_
            refine rg ?_
            refine pl_x HE156 HH54 (wt0 rfl) (x_fieldAddr fa_123_1 rfl) rfl rfl fun a_159 HE160 => ?_
            refine pl_x HE160 HH54 (wt0 rfl) (x_load1 tv_25 rfl (c_blk 0 rfl rfl)) rfl rfl fun a_161 HE162 => ?_
            refine pl_x HE162 HH54 (wt0 rfl) (x_fieldAddr fa_68_1 rfl) rfl rfl fun a_163 HE164 => ?_
            refine pl_x HE164 HH54 (wt0 rfl) (x_load1 tv_2 rfl (c_blk 1 rfl rfl)) rfl rfl fun a_165 HE166 => ?_
            refine pl_x HE166 HH54 (wt0 rfl) (x_sub rfl rfl (by exact ⟨by omega, by omega⟩)) rfl rfl fun a_167 HE168 => ?_
            refine pl fun K_169 hK170 => ?_
            refine st_call HE168 (wt0 rfl) rfl rfl rfl en_54 rfl rfl (impl_allWithin _ _ a1.2.1 0 (a0.2.1 - 1) _ (HH54.old gz1_1)) fun e w' hr => ?_
            obtain ⟨rfl, rfl⟩ := hr
            refine ⟨_, rfl, fun a_171 HE172 => hK170 _ _ ?_⟩
            refine pl_x HE172 HH54 (wt0 rfl) (x_move rfl) rfl rfl fun a_173 HE174 => ?_
            rcases Bool.eq_false_or_eq_true ((allW a1.2.1 0 (a0.2.1 - 1))) with hc34 | hc34
            · refine pl_x HE174 HH54 (wtT HE174 rfl rfl rfl hc34) (x_fieldAddr fa_123_2 rfl) rfl rfl fun a_175 HE176 => ?_
              refine pl_x HE176 HH54 (wtT HE176 rfl rfl rfl hc34) (x_load1 tv_25 rfl (c_blk 0 rfl rfl)) rfl rfl fun a_177 HE178 => ?_
              refine pl_x HE178 HH54 (wtT HE178 rfl rfl rfl hc34) (x_fieldAddr fa_68_1 rfl) rfl rfl fun a_179 HE180 => ?_
              refine pl_x HE180 HH54 (wtT HE180 rfl rfl rfl hc34) (x_load1 tv_2 rfl (c_blk 1 rfl rfl)) rfl rfl fun a_181 HE182 => ?_
              refine pl_x HE182 HH54 (wtT HE182 rfl rfl rfl hc34) (x_sub rfl rfl (by exact ⟨by omega, by omega⟩)) rfl rfl fun a_183 HE184 => ?_
              refine pl fun K_185 hK186 => ?_
              refine st_call HE184 (wtT HE184 rfl rfl rfl hc34) rfl rfl rfl en_54 rfl rfl (impl_allWithin _ _ a1.2.2.1 0 (a0.2.1 - 1) _ (HH54.old gz1_2)) fun e w' hr => ?_
              obtain ⟨rfl, rfl⟩ := hr
              refine ⟨_, rfl, fun a_187 HE188 => hK186 _ _ ?_⟩
              refine pl_x HE188 HH54 (wt0 rfl) (x_pickT rfl hc34 rfl) rfl rfl fun a_189 HE190 => ?_
              refine pl_x HE190 HH54 (wt0 rfl) (x_move rfl) rfl rfl fun a_191 HE192 => ?_
              rcases Bool.eq_false_or_eq_true ((allW a1.2.2.1 0 (a0.2.1 - 1))) with hc36 | hc36
              · refine pl_x HE192 HH54 (wtT HE192 rfl rfl rfl hc36) (x_fieldAddr fa_123_3 rfl) rfl rfl fun a_193 HE194 => ?_
                refine pl_x HE194 HH54 (wtT HE194 rfl rfl rfl hc36) (x_load1 tv_25 rfl (c_blk 0 rfl rfl)) rfl rfl fun a_195 HE196 => ?_
                refine pl fun K_197 hK198 => ?_
                refine st_call HE196 (wtT HE196 rfl rfl rfl hc36) rfl rfl rfl en_54 rfl rfl (impl_allWithin _ _ a1.2.2.2.1 (-1) 1 _ (HH54.old gz1_3)) fun e w' hr => ?_
                obtain ⟨rfl, rfl⟩ := hr
                refine ⟨_, rfl, fun a_199 HE200 => hK198 _ _ ?_⟩
                refine pl_x HE200 HH54 (wt0 rfl) (x_pickT rfl hc36 rfl) rfl rfl fun a_201 HE202 => ?_
                refine pl_x HE202 HH54 (wt0 rfl) (x_assign rfl) rfl rfl fun a_203 HE204 => ?_
                refine wpList_nil ?_
                clear a_155 HE156 a_159 HE160 a_161 HE162 a_163 HE164 a_165 HE166 a_167 HE168 a_171 HE172 a_173 HE174 a_175 HE176 a_177 HE178 a_179 HE180 a_181 HE182 K_169 hK170 a_183 HE184 a_187 HE188 a_189 HE190 a_191 HE192 a_193 HE194 K_185 hK186 a_195 HE196 a_199 HE200 a_201 HE202 hK198 K_197
                refine nrm ?_
                refine wp_ret ?_
                refine ret1 HE204 rfl (rv_tmp rfl) ?_
                have hF : (validMR a0 a1) = (allW a1.2.2.2.1 (-1) 1) := by
                  first | (simp [validMR, hc24, hc26, hc28, hc30, hc32, hc34, hc36]; done) | (unfold validMR; grind)
                exact ⟨by first | (rw [hF] <;> rfl) | rfl | (rw [hF]; simp only [Ending.returned.injEq, Value.slice.injEq, true_and, and_true]; first | omega | (simp; done)) | (rw [hF]; simp; omega), HH54.below⟩
              · refine pl_no HE192 (wtF HE192 rfl rfl rfl hc36) rfl rfl fun a_205 HE206 => ?_
                refine pl_no HE206 (wtF HE206 rfl rfl rfl hc36) rfl rfl fun a_207 HE208 => ?_
                refine pl_no HE208 (wtF HE208 rfl rfl rfl hc36) rfl rfl fun a_209 HE210 => ?_
                refine pl_x HE210 HH54 (wt0 rfl) (x_pickF rfl hc36 rfl) rfl rfl fun a_211 HE212 => ?_
                refine pl_x HE212 HH54 (wt0 rfl) (x_assign rfl) rfl rfl fun a_213 HE214 => ?_
                refine wpList_nil ?_
                clear a_155 HE156 a_159 HE160 a_161 HE162 a_163 HE164 a_165 HE166 a_167 HE168 a_171 HE172 a_173 HE174 a_175 HE176 a_177 HE178 a_179 HE180 a_181 HE182 K_169 hK170 a_183 HE184 a_187 HE188 a_189 HE190 a_191 HE192 a_205 HE206 a_207 HE208 a_209 HE210 a_211 HE212 hK186 K_185
                refine nrm ?_
                refine wp_ret ?_
                refine ret1 HE214 rfl (rv_tmp rfl) ?_
                have hF : (validMR a0 a1) = false := by
                  first | (simp [validMR, hc24, hc26, hc28, hc30, hc32, hc34, hc36]; done) | (unfold validMR; grind)
                exact ⟨by first | (rw [hF] <;> rfl) | rfl | (rw [hF]; simp only [Ending.returned.injEq, Value.slice.injEq, true_and, and_true]; first | omega | (simp; done)) | (rw [hF]; simp; omega), HH54.below⟩
            · refine pl_no HE174 (wtF HE174 rfl rfl rfl hc34) rfl rfl fun a_215 HE216 => ?_
              refine pl_no HE216 (wtF HE216 rfl rfl rfl hc34) rfl rfl fun a_217 HE218 => ?_
              refine pl_no HE218 (wtF HE218 rfl rfl rfl hc34) rfl rfl fun a_219 HE220 => ?_
              refine pl_no HE220 (wtF HE220 rfl rfl rfl hc34) rfl rfl fun a_221 HE222 => ?_
              refine pl_no HE222 (wtF HE222 rfl rfl rfl hc34) rfl rfl fun a_223 HE224 => ?_
              refine pl_no HE224 (wtF HE224 rfl rfl rfl hc34) rfl rfl fun a_225 HE226 => ?_
              refine pl_x HE226 HH54 (wt0 rfl) (x_pickF rfl hc34 rfl) rfl rfl fun a_227 HE228 => ?_
              refine pl_x HE228 HH54 (wt0 rfl) (x_move rfl) rfl rfl fun a_229 HE230 => ?_
              refine pl_no HE230 (wtF HE230 rfl rfl rfl rfl) rfl rfl fun a_231 HE232 => ?_
              refine pl_no HE232 (wtF HE232 rfl rfl rfl rfl) rfl rfl fun a_233 HE234 => ?_
              refine pl_no HE234 (wtF HE234 rfl rfl rfl rfl) rfl rfl fun a_235 HE236 => ?_
              refine pl_x HE236 HH54 (wt0 rfl) (x_pickF rfl rfl rfl) rfl rfl fun a_237 HE238 => ?_
              refine pl_x HE238 HH54 (wt0 rfl) (x_assign rfl) rfl rfl fun a_239 HE240 => ?_
              refine wpList_nil ?_
              clear a_155 HE156 a_159 HE160 a_161 HE162 a_163 HE164 a_165 HE166 a_167 HE168 a_171 HE172 a_173 HE174 a_215 HE216 a_217 HE218 a_219 HE220 a_221 HE222 a_223 HE224 a_225 HE226 a_227 HE228 a_229 HE230 a_231 HE232 a_233 HE234 a_235 HE236 a_237 HE238 hK170 K_169
              refine nrm ?_
              refine wp_ret ?_
              refine ret1 HE240 rfl (rv_tmp rfl) ?_
              have hF : (validMR a0 a1) = false := by
                first | (simp [validMR, hc24, hc26, hc28, hc30, hc32, hc34]; done) | (unfold validMR; grind)
              exact ⟨by first | (rw [hF] <;> rfl) | rfl | (rw [hF]; simp only [Ending.returned.injEq, Value.slice.injEq, true_and, and_true]; first | omega | (simp; done)) | (rw [hF]; simp; omega), HH54.below⟩
  · refine pl_no HE33 (wtF HE33 rfl rfl rfl (not_t hc24)) rfl rfl fun a_241 HE242 => ?_
    refine pl_no HE242 (wtF HE242 rfl rfl rfl (not_t hc24)) rfl rfl fun a_243 HE244 => ?_
    refine pl_no HE244 (wtF HE244 rfl rfl rfl (not_t hc24)) rfl rfl fun a_245 HE246 => ?_
    refine pl_no HE246 (wtF HE246 rfl rfl rfl (not_t hc24)) rfl rfl fun a_247 HE248 => ?_
    refine pl_no HE248 (wtF HE248 rfl rfl rfl (not_t hc24)) rfl rfl fun a_249 HE250 => ?_
    refine pl_no HE250 (wtF HE250 rfl rfl rfl (not_t hc24)) rfl rfl fun a_251 HE252 => ?_
    refine pl_no HE252 (wtF HE252 rfl rfl rfl (not_t hc24)) rfl rfl fun a_253 HE254 => ?_
    refine pl_x HE254 HH13 (wt0 rfl) (x_pickT rfl (not_t hc24) rfl) rfl rfl fun a_255 HE256 => ?_
    refine wpList_nil ?_
    clear a_14 HE15 a_16 HE17 a_18 HE19 a_20 HE21 a_22 HE23 a_24 HE25 a_28 HE29 a_30 HE31 a_32 HE33 a_241 HE242 a_243 HE244 a_245 HE246 a_247 HE248 a_249 HE250 a_251 HE252 a_253 HE254 hK27 K_26
    refine nrm ?_
    refine cndT HE256 rfl rfl ?_
    refine wp_seq ?_
    refine rg ?_
    refine pl_x HE256 HH13 (wt0 rfl) (x_assign rfl) rfl rfl fun a_257 HE258 => ?_
    refine wpList_nil ?_
    clear a_255 HE256
    refine nrm ?_
    refine wp_ret ?_
    refine (thn_ret ?_)
    refine ret1 HE258 rfl (rv_tmp rfl) ?_
    have hF : (validMR a0 a1) = false := by
      first | (simp [validMR, hc24]; done) | (unfold validMR; grind)
    exact ⟨by first | (rw [hF] <;> rfl) | rfl | (rw [hF]; simp only [Ending.returned.injEq, Value.slice.injEq, true_and, and_true]; first | omega | (simp; done)) | (rw [hF]; simp; omega), HH13.below⟩

end Go.Proofs.YtcfdkckchbdafaaGreatDoor
