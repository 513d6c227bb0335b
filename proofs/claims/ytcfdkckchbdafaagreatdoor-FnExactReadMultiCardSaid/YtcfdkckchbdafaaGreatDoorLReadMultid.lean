/- What the proof of FnExactReadMulti needs: contracts of the functions that it reaches, each once. -/
import Derived.Test.YtcfdkckchbdafaaGreatDoorProg
import Derived.Test.YtcfdkckchbdafaaGreatDoorQMem
import Derived.Test.YtcfdkckchbdafaaGreatDoorQOpen
import Derived.Test.YtcfdkckchbdafaaGreatDoorLReadMultia
import Derived.Test.YtcfdkckchbdafaaGreatDoorLReadMultib
import Derived.Test.YtcfdkckchbdafaaGreatDoorLReadMultic
import Derived.WalkKit
import Derived.WalkSpells
import Derived.Below
import Derived.LoopTactic
import Derived.Outline
import Derived.Deep.QuietTactic
import Derived.BigQuiet
import Derived.Deep.LoopGhost
import Derived.Handy
import Derived.Lib.Hide
import Derived.Shelf.Abstract
import Derived.StillTailTactics
import Derived.OwnWalk
import Derived.Maps.AppendAt
import Derived.RegionTactic
import Derived.Deep.RegionHeld3
import Derived.IntWalk
import Derived.Deep.Upon
import Derived.Laws.OwnMore
import Derived.Maps.AppendAt
import Derived.Laws.BytesString
import Derived.Laws.Strings
import Derived.Lib.Bytes
import Derived.Lib.Strings
import Derived.Lib.FrozenHead
import Derived.Lib.RuneBytes
import Derived.Lib.LaidTab
import Derived.Laws.StructEq
import Derived.Lib.MapLaws
import Derived.Lib.OthersKept
import Derived.Laws.RangeAny
import Derived.Scope
import Derived.Lib.ItoaLen
import Derived.Lib.Join
import Derived.Shelf.Strconv.Itoa4
import Derived.Shelf.Strings.OnBuilder
import Derived.Shelf.Strings.BuilderK
import Derived.Shelf.Strings.BuilderRune
import Derived.Shelf.LaysM
import Derived.Ground.NamesProg
import Derived.Lib.ParseIntBTie
import Derived.Lib.SplitLaws
import Derived.Lib.Replace
import Derived.Shelf.LaysC
import Derived.Shelf.Strconv.ErrVarParseInt
import Derived.Shelf.Strconv.ParseIntPublic10
import Derived.Shelf.Strings.Prefix
import Derived.Shelf.Strings.Cut
import Derived.Shelf.Strings.Split
import Derived.Shelf.Strings.Replace
import Derived.Shelf.Small.Wraps
import Derived.Stop.IfaceNil
import Derived.Shelf.Small.Utf8
import Derived.Shelf.Strings.Runes
namespace Go.Proofs.YtcfdkckchbdafaaGreatDoor
open Go.RowKit

set_option maxRecDepth 100000 in
set_option maxHeartbeats 4000000 in
theorem impl_ValidMulti (es0 : List Value) (a0 : tMulti) (w : World) (h0 : eMulti.R w (Old w) es0 a0) :
    Calls Tryz.prog 98 #[.agg es0.toArray] w fun e w' => e = .returned (.bool (validMulti a0)) ∧ Below w.heap.size w w' := by
  have H0 := h0
  obtain ⟨Az0_3, cz0_3, rfl, gz0_0, gz0_1, gz0_2, gz0_3⟩ := shape_Multi h0
  have jz0_0 := gz0_0; unfold I64 at jz0_0
  have jz0_1 := gz0_1; unfold I64 at jz0_1
  have jz0_2 := gz0_2; unfold I64 at jz0_2
  have lz0_3 := gz0_3.len
  have HH1 := Held.start Nob w
  refine enter (n := 55) Tryz.func98 rfl rfl rfl fun a_2 HE3 => ?_
  refine wp_seq ?_
  refine rg ?_
  refine pl fun K_4 hK5 => ?_
  refine st_box (cs := [.int .i64 (a0.1), .int .i64 (a0.2.1), .int .i64 (a0.2.2.1), .slice Az0_3 (a0.2.2.2.length) cz0_3]) HE3 HH1 rfl rfl (wt0 rfl) rfl fun q21 a_6 w' HE7 HH8 => hK5 _ _ ?_
  refine pl_x HE7 HH8 (wt0 rfl) (x_assign rfl) rfl rfl fun a_9 HE10 => ?_
  refine wpList_nil ?_
  clear a_2 HE3 HH1 a_6 HE7 hK5 K_4
  refine nrm ?_
  refine wp_seq ?_
  refine wp_seq ?_
  refine rg ?_
  refine pl_x HE10 HH8 (wt0 rfl) (x_fieldAddr fa_68_0 rfl) rfl rfl fun a_11 HE12 => ?_
  refine pl_x HE12 HH8 (wt0 rfl) (x_load1 tv_2 rfl (c_blk 0 rfl rfl)) rfl rfl fun a_13 HE14 => ?_
  refine pl fun K_15 hK16 => ?_
  refine st_call HE14 (wt0 rfl) rfl rfl rfl en_42 rfl rfl (impl_within a0.1 2 3 _ ) fun e w' hr => ?_
  obtain ⟨rfl, rfl⟩ := hr
  refine ⟨_, rfl, fun a_17 HE18 => hK16 _ _ ?_⟩
  refine pl_x HE18 HH8 (wt0 rfl) (x_not rfl) rfl rfl fun a_19 HE20 => ?_
  refine pl_x HE20 HH8 (wt0 rfl) (x_move rfl) rfl rfl fun a_21 HE22 => ?_
  rcases Bool.eq_false_or_eq_true ((withinB a0.1 2 3)) with hc23 | hc23
  · refine pl_x HE22 HH8 (wtT HE22 rfl rfl rfl (not_f hc23)) (x_fieldAddr fa_68_1 rfl) rfl rfl fun a_23 HE24 => ?_
    refine pl_x HE24 HH8 (wtT HE24 rfl rfl rfl (not_f hc23)) (x_load1 tv_2 rfl (c_blk 0 rfl rfl)) rfl rfl fun a_25 HE26 => ?_
    refine pl fun K_27 hK28 => ?_
    refine st_call HE26 (wtT HE26 rfl rfl rfl (not_f hc23)) rfl rfl rfl en_42 rfl rfl (impl_within a0.2.1 2 3 _ ) fun e w' hr => ?_
    obtain ⟨rfl, rfl⟩ := hr
    refine ⟨_, rfl, fun a_29 HE30 => hK28 _ _ ?_⟩
    refine pl_x HE30 HH8 (wtT HE30 rfl rfl rfl (not_f hc23)) (x_not rfl) rfl rfl fun a_31 HE32 => ?_
    refine pl_x HE32 HH8 (wt0 rfl) (x_pickF rfl (not_f hc23) rfl) rfl rfl fun a_33 HE34 => ?_
    refine pl_x HE34 HH8 (wt0 rfl) (x_move rfl) rfl rfl fun a_35 HE36 => ?_
    rcases Bool.eq_false_or_eq_true ((withinB a0.2.1 2 3)) with hc25 | hc25
    · have v1 := withinB_true.1 hc25
      refine pl_x HE36 HH8 (wtT HE36 rfl rfl rfl (not_f hc25)) (x_fieldAddr fa_68_2 rfl) rfl rfl fun a_37 HE38 => ?_
      refine pl_x HE38 HH8 (wtT HE38 rfl rfl rfl (not_f hc25)) (x_load1 tv_2 rfl (c_blk 0 rfl rfl)) rfl rfl fun a_39 HE40 => ?_
      refine pl fun K_41 hK42 => ?_
      refine st_call HE40 (wtT HE40 rfl rfl rfl (not_f hc25)) rfl rfl rfl en_42 rfl rfl (impl_within a0.2.2.1 1 16 _ ) fun e w' hr => ?_
      obtain ⟨rfl, rfl⟩ := hr
      refine ⟨_, rfl, fun a_43 HE44 => hK42 _ _ ?_⟩
      refine pl_x HE44 HH8 (wtT HE44 rfl rfl rfl (not_f hc25)) (x_not rfl) rfl rfl fun a_45 HE46 => ?_
      refine pl_x HE46 HH8 (wt0 rfl) (x_pickF rfl (not_f hc25) rfl) rfl rfl fun a_47 HE48 => ?_
      refine pl_x HE48 HH8 (wt0 rfl) (x_move rfl) rfl rfl fun a_49 HE50 => ?_
      rcases Bool.eq_false_or_eq_true ((withinB a0.2.2.1 1 16)) with hc27 | hc27
      · have v2 := withinB_true.1 hc27
        refine pl_x HE50 HH8 (wtT HE50 rfl rfl rfl (not_f hc27)) (x_fieldAddr fa_68_3 rfl) rfl rfl fun a_51 HE52 => ?_
        refine pl_x HE52 HH8 (wtT HE52 rfl rfl rfl (not_f hc27)) (x_load1 tv_66 rfl (c_blk 0 rfl rfl)) rfl rfl fun a_53 HE54 => ?_
        refine pl_x HE54 HH8 (wtT HE54 rfl rfl rfl (not_f hc27)) (x_len Tryz.underlying66 rfl) rfl rfl fun a_55 HE56 => ?_
        refine pl_x HE56 HH8 (wtT HE56 rfl rfl rfl (not_f hc27)) (x_gtr rfl rfl) rfl rfl fun a_57 HE58 => ?_
        refine pl_x HE58 HH8 (wt0 rfl) (x_pickF rfl (not_f hc27) rfl) rfl rfl fun a_59 HE60 => ?_
        refine wpList_nil ?_
        clear a_9 HE10 a_11 HE12 a_13 HE14 a_17 HE18 a_19 HE20 a_21 HE22 a_23 HE24 K_15 hK16 a_25 HE26 a_29 HE30 a_31 HE32 a_33 HE34 a_35 HE36 a_37 HE38 K_27 hK28 a_39 HE40 a_43 HE44 a_45 HE46 a_47 HE48 a_49 HE50 a_51 HE52 a_53 HE54 a_55 HE56 a_57 HE58 hK42 K_41
        refine nrm ?_
        refine cnd_d HE60 rfl (fun hc28 => ?_) (fun hc28 => ?_)
        · refine wp_seq ?_
          refine rg ?_
          refine pl_x HE60 HH8 (wt0 rfl) (x_assign rfl) rfl rfl fun a_61 HE62 => ?_
          refine wpList_nil ?_
          clear a_59 HE60
          refine nrm ?_
          refine wp_ret ?_
          refine (thn_ret ?_)
          refine ret1 HE62 rfl (rv_tmp rfl) ?_
          have hF : (validMulti a0) = false := by
            first | (simp [validMulti, hc23, hc25, hc27, hc28]; done) | (unfold validMulti; rw [decide_eq_false (by omega)]; simp) | (unfold validMulti; rw [rg_hit (by omega : k < a0.2.2.2.length) (by unfold badMR; grind [beforeMR, validMR, rowB])]; simp) | (have hq := p0_1; rw [show k = a0.2.2.2.length from by omega] at hq; unfold validMulti; rw [hq, decide_eq_true (by omega)]; simp [hc23, hc25, hc27, hc28])
          exact ⟨by first | (rw [hF] <;> rfl) | rfl | (rw [hF]; simp only [Ending.returned.injEq, Value.slice.injEq, true_and, and_true]; first | omega | (simp; done)) | (rw [hF]; simp; omega), HH8.below⟩
        · refine wp_skip ?_
          refine nrm ?_
          refine wp_seq ?_
          refine wp_seq ?_
          refine rg ?_
          refine pl_x HE60 HH8 (wt0 rfl) (x_fieldAddr fa_68_3 rfl) rfl rfl fun a_63 HE64 => ?_
          refine pl_x HE64 HH8 (wt0 rfl) (x_load1 tv_66 rfl (c_blk 0 rfl rfl)) rfl rfl fun a_65 HE66 => ?_
          refine pl_x HE66 HH8 (wt0 rfl) (x_len Tryz.underlying66 rfl) rfl rfl fun a_67 HE68 => ?_
          refine pl_x HE68 HH8 (wt0 rfl) (x_move rfl) rfl rfl fun a_69 HE70 => ?_
          refine wpList_nil ?_
          clear a_59 HE60 a_63 HE64 a_65 HE66 a_67 HE68
          refine nrm ?_
          refine wp_block ?_
          refine lp (fun m a w' => ∃ (k : Nat), m = a0.2.2.2.length - k ∧ Env 55 [(30, .int .i64 (k : Int)), (1, .pointer (some ⟨q21, 0, none⟩)), (28, .slice Az0_3 (a0.2.2.2.length) cz0_3), (29, .int .i64 ((a0.2.2.2.length : Int)))] a ∧ Held Nob w [rBlk q21 68 [.int .i64 (a0.1), .int .i64 (a0.2.1), .int .i64 (a0.2.2.1), .slice Az0_3 (a0.2.2.2.length) cz0_3]] w' ∧ (k ≤ a0.2.2.2.length) ∧ ((List.range k).any (badMR a0) = false)) (a0.2.2.2.length - (0)) ?_ ?_
          · exact ⟨0, rfl, HE70.sub ⟨(lkI rfl (by first | rfl | omega | (simp [hc23, hc25, hc27, hc28]; done))), rfl, rfl, rfl, trivial⟩, (HH8.sel [0] (by decide) rfl), (by first | omega | assumption | (simp; done) | simp_all), (by rfl)⟩
          · rintro m a_71 w' ⟨k, rfl, HE72, HH73, p29_0, p29_1⟩
            refine wp_seq ?_
            refine rg ?_
            refine pl_x HE72 HH73 (wt0 rfl) (x_lss rfl rfl) rfl rfl fun a_74 HE75 => ?_
            refine wpList_nil ?_
            clear a_69 HE70 HH8 a_71 HE72
            refine nrm ?_
            refine wp_seq ?_
            refine cnd_d HE75 rfl (fun hc30 => ?_) (fun hc30 => ?_)
            · refine wp_skip ?_
              refine nrm ?_
              refine wp_seq ?_
              refine wp_block ?_
              refine wp_seq ?_
              refine rg ?_
              refine pl_x HE75 HH73 (wt0 rfl) (x_move rfl) rfl rfl fun a_76 HE77 => ?_
              have ke31 : k < a0.2.2.2.length := by omega
              obtain ⟨be31, fe31, ese31, Ae31, Re31, De31⟩ := el_old gz0_3 ke31
              obtain ⟨e31, xe31⟩ : ∃ x_, x_ = a0.2.2.2[k] := ⟨_, rfl⟩
              rw [← xe31] at Re31
              have Qe31 := Re31
              obtain ⟨Ae31_1, ce31_1, Ae31_2, ce31_2, Ae31_3, ce31_3, rfl, ge31_0, ge31_1, ge31_2, ge31_3, ge31_4⟩ := shape_MultiRule Re31
              have je31_0 := ge31_0; unfold I64 at je31_0
              have le31_1 := ge31_1.len
              have le31_2 := ge31_2.len
              have le31_3 := ge31_3.len
              have je31_4 := ge31_4; unfold I64 at je31_4
              have ge31 : a0.2.2.2[k]?.getD default = e31 := by rw [List.getElem?_eq_getElem ke31, xe31]; rfl
              refine pl_x HE77 HH73 (wt0 rfl) (x_indexAddr ts_66 rfl rfl Ae31 rfl ke31) rfl rfl fun a_78 HE79 => ?_
              refine pl_x HE79 HH73 (wt0 rfl) (x_loadN (cs := [.int .i64 (e31.1), .slice Ae31_1 (e31.2.1.length) ce31_1, .slice Ae31_2 (e31.2.2.1.length) ce31_2, .slice Ae31_3 (e31.2.2.2.1.length) ce31_3, .int .i64 (e31.2.2.2.2)]) tv_123 rfl rfl (c_oldN De31)) rfl rfl fun a_80 HE81 => ?_
              refine pl fun K_82 hK83 => ?_
              refine st_alloc HE81 HH73 tv_123 (wt0 rfl) rfl fun q32 a_84 w' HE85 HH86 => hK83 _ _ ?_
              refine pl_x HE85 HH86 (wt0 rfl) (x_assign rfl) rfl rfl fun a_87 HE88 => ?_
              refine pl fun K_89 hK90 => ?_
              refine st_store (vs := [.int .i64 (e31.1), .slice Ae31_1 (e31.2.1.length) ce31_1, .slice Ae31_2 (e31.2.2.1.length) ce31_2, .slice Ae31_3 (e31.2.2.2.1.length) ce31_3, .int .i64 (e31.2.2.2.2)]) 0 HE88 HH86 tv_123 rfl rfl rfl rfl rfl rfl (by simp [Value.oneCell']) (wt0 rfl) fun w' HH91 => hK90 _ _ ?_
              refine wpList_nil ?_
              clear a_74 HE75 a_76 HE77 a_78 HE79 a_80 HE81 HH73 a_84 HE85 K_82 hK83 HH86 hK90 K_89
              refine nrm ?_
              refine wp_seq ?_
              refine dr_start (Held Nob w [rBlk q32 123 [.int .i64 (e31.1), .slice Ae31_1 (e31.2.1.length) ce31_1, .slice Ae31_2 (e31.2.2.1.length) ce31_2, .slice Ae31_3 (e31.2.2.2.1.length) ce31_3, .int .i64 (e31.2.2.2.2)], rBlk q21 68 [.int .i64 (a0.1), .int .i64 (a0.2.1), .int .i64 (a0.2.2.1), .slice Az0_3 (a0.2.2.2.length) cz0_3]]) 19 #[false, false, false, false, false, false, false, false, false, false, false, false, false, false, false, false, false, false, false] hmix rfl rfl HH91 (fun _ h => h.sel [0, 1] (by decide) rfl) fun w' HH92 => ?_
              have HS93 := HH92
              refine dr_take (i := 0) (ls' := #[true, false, false, false, false, false, false, false, false, false, false, false, false, false, false, false, false, false, false]) HE88 HS93 rfl (by kernel_rfl) (by kernel_rfl) (by kernel_rfl) (fun _ _ _ h => h) rfl (wt0 rfl) (x_loadN (cs := [.int .i64 (a0.1), .int .i64 (a0.2.1), .int .i64 (a0.2.2.1), .slice Az0_3 (a0.2.2.2.length) cz0_3]) tv_68 rfl rfl (c_blkN 1 rfl)) rfl rfl fun a_94 HE95 => ?_
              refine dr_take (i := 1) (ls' := #[true, true, false, false, false, false, false, false, false, false, false, false, false, false, false, false, false, false, false]) HE95 HS93 rfl (by kernel_rfl) (by kernel_rfl) (by kernel_rfl) (fun _ _ _ h => h) rfl (wt0 rfl) (x_loadN (cs := [.int .i64 (e31.1), .slice Ae31_1 (e31.2.1.length) ce31_1, .slice Ae31_2 (e31.2.2.1.length) ce31_2, .slice Ae31_3 (e31.2.2.2.1.length) ce31_3, .int .i64 (e31.2.2.2.2)]) tv_123 rfl rfl (c_blkN 0 rfl)) rfl rfl fun a_96 HE97 => ?_
              refine dr_one (i := 2) (ls' := #[true, true, true, false, false, false, false, false, false, false, false, false, false, false, false, false, false, false, false]) rfl (by kernel_rfl) rfl fun K_98 hK99 => ?_
              refine st_call HE97 (wt0 rfl) rfl rfl rfl en_153 rfl rfl (impl_validMultiRule [.int .i64 (a0.1), .int .i64 (a0.2.1), .int .i64 (a0.2.2.1), .slice Az0_3 (a0.2.2.2.length) cz0_3] a0 [.int .i64 (e31.1), .slice Ae31_1 (e31.2.1.length) ce31_1, .slice Ae31_2 (e31.2.2.1.length) ce31_2, .slice Ae31_3 (e31.2.2.2.1.length) ce31_3, .int .i64 (e31.2.2.2.2)] e31 _ (HH92.oldR H0) (HH92.oldR Qe31) (by omega) (by omega)) fun e w' hr => ?_
              obtain ⟨rfl, hbr33⟩ := hr
              have HH100 := HH92.on hbr33
              refine ⟨_, rfl, fun a_101 HE102 => hK99 _ _ (by exact HH100.sel [0, 1] (by decide) rfl) ?_⟩
              have HS103 := HH100.sel [0, 1] (by decide) rfl
              refine dr_take (i := 3) (ls' := #[true, true, true, true, false, false, false, false, false, false, false, false, false, false, false, false, false, false, false]) HE102 HS103 rfl (by kernel_rfl) (by kernel_rfl) (by kernel_rfl) (fun _ _ _ h => h) rfl (wt0 rfl) (x_not rfl) rfl rfl fun a_104 HE105 => ?_
              refine dr_take (i := 4) (ls' := #[true, true, true, true, true, false, false, false, false, false, false, false, false, false, false, false, false, false, false]) HE105 HS103 rfl (by kernel_rfl) (by kernel_rfl) (by kernel_rfl) (fun _ _ _ h => h) rfl (wt0 rfl) (x_move rfl) rfl rfl fun a_106 HE107 => ?_
              rcases Bool.eq_false_or_eq_true ((validMR a0 e31)) with hc34 | hc34
              · refine dr_take (i := 5) (ls' := #[true, true, true, true, true, true, false, false, false, false, false, false, false, false, false, false, false, false, false]) HE107 HS103 rfl (by kernel_rfl) (by kernel_rfl) (by kernel_rfl) (fun _ _ _ h => h) rfl (wtT HE107 rfl rfl rfl (not_f hc34)) (x_move rfl) rfl rfl fun a_108 HE109 => ?_
                refine dr_take (i := 6) (ls' := #[true, true, true, true, true, true, true, false, false, false, false, false, false, false, false, false, false, false, false]) HE109 HS103 rfl (by kernel_rfl) (by kernel_rfl) (by kernel_rfl) (fun _ _ _ h => h) rfl (wtT HE109 rfl rfl rfl (not_f hc34)) (x_gtr rfl rfl) rfl rfl fun a_110 HE111 => ?_
                refine dr_take (i := 7) (ls' := #[true, true, true, true, true, true, true, true, false, false, false, false, false, false, false, false, false, false, false]) HE111 HS103 rfl (by kernel_rfl) (by kernel_rfl) (by kernel_rfl) (fun _ _ _ h => h) rfl (wtT HE111 rfl rfl rfl (not_f hc34)) (x_move rfl) rfl rfl fun a_112 HE113 => ?_
                by_cases hc35 : 0 < (k : Int)
                · refine dr_take (i := 8) (ls' := #[true, true, true, true, true, true, true, true, true, false, false, false, false, false, false, false, false, false, false]) HE113 HS103 rfl (by kernel_rfl) (by kernel_rfl) (by kernel_rfl) (fun _ _ _ h => h) rfl (wtT HE113 rfl rfl rfl (decide_eq_true hc35)) (x_fieldAddr fa_68_3 rfl) rfl rfl fun a_114 HE115 => ?_
                  refine dr_take (i := 9) (ls' := #[true, true, true, true, true, true, true, true, true, true, false, false, false, false, false, false, false, false, false]) HE115 HS103 rfl (by kernel_rfl) (by kernel_rfl) (by kernel_rfl) (fun _ _ _ h => h) rfl (wtT HE115 rfl rfl rfl (decide_eq_true hc35)) (x_load1 tv_66 rfl (c_blk 1 rfl rfl)) rfl rfl fun a_116 HE117 => ?_
                  refine dr_take (i := 10) (ls' := #[true, true, true, true, true, true, true, true, true, true, true, false, false, false, false, false, false, false, false]) HE117 HS103 rfl (by kernel_rfl) (by kernel_rfl) (by kernel_rfl) (fun _ _ _ h => h) rfl (wtT HE117 rfl rfl rfl (decide_eq_true hc35)) (x_move rfl) rfl rfl fun a_118 HE119 => ?_
                  refine dr_take (i := 11) (ls' := #[true, true, true, true, true, true, true, true, true, true, true, true, false, false, false, false, false, false, false]) HE119 HS103 rfl (by kernel_rfl) (by kernel_rfl) (by kernel_rfl) (fun _ _ _ h => h) rfl (wtT HE119 rfl rfl rfl (decide_eq_true hc35)) (x_sub rfl rfl (by exact ⟨by omega, by omega⟩)) rfl rfl fun a_120 HE121 => ?_
                  have ke36 : (k - 1) < a0.2.2.2.length := by omega
                  obtain ⟨be36, fe36, ese36, Ae36, Re36, De36⟩ := el_old gz0_3 ke36
                  obtain ⟨e36, xe36⟩ : ∃ x_, x_ = a0.2.2.2[(k - 1)] := ⟨_, rfl⟩
                  rw [← xe36] at Re36
                  have Qe36 := Re36
                  obtain ⟨Ae36_1, ce36_1, Ae36_2, ce36_2, Ae36_3, ce36_3, rfl, ge36_0, ge36_1, ge36_2, ge36_3, ge36_4⟩ := shape_MultiRule Re36
                  have je36_0 := ge36_0; unfold I64 at je36_0
                  have le36_1 := ge36_1.len
                  have le36_2 := ge36_2.len
                  have le36_3 := ge36_3.len
                  have je36_4 := ge36_4; unfold I64 at je36_4
                  have ge36 : a0.2.2.2[(k - 1)]?.getD default = e36 := by rw [List.getElem?_eq_getElem ke36, xe36]; rfl
                  refine dr_take (i := 12) (ls' := #[true, true, true, true, true, true, true, true, true, true, true, true, true, false, false, false, false, false, false]) HE121 HS103 rfl (by kernel_rfl) (by kernel_rfl) (by kernel_rfl) (fun _ _ _ h => h) rfl (wtT HE121 rfl rfl rfl (decide_eq_true hc35)) (x_indexAddr ts_66 rfl rfl Ae36 (by omega) ke36) rfl rfl fun a_122 HE123 => ?_
                  refine dr_take (i := 13) (ls' := #[true, true, true, true, true, true, true, true, true, true, true, true, true, true, false, false, false, false, false]) HE123 HS103 rfl (by kernel_rfl) (by kernel_rfl) (by kernel_rfl) (fun _ _ _ h => h) rfl (wtT HE123 rfl rfl rfl (decide_eq_true hc35)) (x_loadN (cs := [.int .i64 (e36.1), .slice Ae36_1 (e36.2.1.length) ce36_1, .slice Ae36_2 (e36.2.2.1.length) ce36_2, .slice Ae36_3 (e36.2.2.2.1.length) ce36_3, .int .i64 (e36.2.2.2.2)]) tv_123 rfl rfl (c_oldN De36)) rfl rfl fun a_124 HE125 => ?_
                  refine dr_take (i := 14) (ls' := #[true, true, true, true, true, true, true, true, true, true, true, true, true, true, true, false, false, false, false]) HE125 HS103 rfl (by kernel_rfl) (by kernel_rfl) (by kernel_rfl) (fun _ _ _ h => h) rfl (wtT HE125 rfl rfl rfl (decide_eq_true hc35)) (x_loadN (cs := [.int .i64 (e31.1), .slice Ae31_1 (e31.2.1.length) ce31_1, .slice Ae31_2 (e31.2.2.1.length) ce31_2, .slice Ae31_3 (e31.2.2.2.1.length) ce31_3, .int .i64 (e31.2.2.2.2)]) tv_123 rfl rfl (c_blkN 0 rfl)) rfl rfl fun a_126 HE127 => ?_
                  refine dr_one (i := 15) (ls' := #[true, true, true, true, true, true, true, true, true, true, true, true, true, true, true, true, false, false, false]) rfl (by kernel_rfl) rfl fun K_128 hK129 => ?_
                  refine st_call HE127 (wtT HE127 rfl rfl rfl (decide_eq_true hc35)) rfl rfl rfl en_154 rfl rfl (impl_compareMultiRules [.int .i64 (e36.1), .slice Ae36_1 (e36.2.1.length) ce36_1, .slice Ae36_2 (e36.2.2.1.length) ce36_2, .slice Ae36_3 (e36.2.2.2.1.length) ce36_3, .int .i64 (e36.2.2.2.2)] e36 [.int .i64 (e31.1), .slice Ae31_1 (e31.2.1.length) ce31_1, .slice Ae31_2 (e31.2.2.1.length) ce31_2, .slice Ae31_3 (e31.2.2.2.1.length) ce31_3, .int .i64 (e31.2.2.2.2)] e31 _ (HH100.oldR Qe36) (HH100.oldR Qe31)) fun e w' hr => ?_
                  obtain ⟨rfl, hbr37⟩ := hr
                  have HH130 := HH100.on hbr37
                  refine ⟨_, rfl, fun a_131 HE132 => hK129 _ _ (by exact HH130.sel [0, 1] (by decide) rfl) ?_⟩
                  have HS133 := HH130.sel [0, 1] (by decide) rfl
                  refine dr_take (i := 16) (ls' := #[true, true, true, true, true, true, true, true, true, true, true, true, true, true, true, true, true, false, false]) HE132 HS133 rfl (by kernel_rfl) (by kernel_rfl) (by kernel_rfl) (fun _ _ _ h => h) rfl (wtT HE132 rfl rfl rfl (decide_eq_true hc35)) (x_geq rfl rfl) rfl rfl fun a_134 HE135 => ?_
                  refine dr_take (i := 17) (ls' := #[true, true, true, true, true, true, true, true, true, true, true, true, true, true, true, true, true, true, false]) HE135 HS133 rfl (by kernel_rfl) (by kernel_rfl) (by kernel_rfl) (fun _ _ _ h => h) rfl (wtT HE135 rfl rfl rfl (not_f hc34)) (x_pickT rfl (decide_eq_true hc35) rfl) rfl rfl fun a_136 HE137 => ?_
                  refine dr_take (i := 18) (ls' := #[true, true, true, true, true, true, true, true, true, true, true, true, true, true, true, true, true, true, true]) HE137 HS133 rfl (by kernel_rfl) (by kernel_rfl) (by kernel_rfl) (fun _ _ _ h => h) rfl (wt0 rfl) (x_pickF rfl (not_f hc34) rfl) rfl rfl fun a_138 HE139 => ?_
                  refine dr_done (by kernel_rfl) ?_
                  clear HH91 a_87 HE88 a_94 HE95 HH92 a_96 HE97 HS93 a_101 HE102 a_104 HE105 a_106 HE107 a_108 HE109 a_110 HE111 a_112 HE113 a_114 HE115 a_116 HE117 a_118 HE119 a_120 HE121 a_122 HE123 a_124 HE125 K_98 hK99 HH100 a_126 HE127 HS103 a_131 HE132 a_134 HE135 a_136 HE137 hK129 K_128
                  refine nrm ?_
                  refine cnd_d HE139 rfl (fun hc38 => ?_) (fun hc38 => ?_)
                  · refine wp_seq ?_
                    refine rg ?_
                    refine pl_x HE139 HH130 (wt0 rfl) (x_assign rfl) rfl rfl fun a_140 HE141 => ?_
                    refine wpList_nil ?_
                    clear a_138 HE139
                    refine nrm ?_
                    refine wp_ret ?_
                    refine (blk_ret (thn_ret (thn_ret (blk_ret (thn_ret ?_)))))
                    refine ret1 HE141 rfl (rv_tmp rfl) ?_
                    have hF : (validMulti a0) = false := by
                      first | (simp [validMulti, hc23, hc25, hc27, hc28, p29_0, p29_1, hc30, xe31, hc34, hc35, xe36, hc38]; done) | (unfold validMulti; rw [decide_eq_false (by omega)]; simp) | (unfold validMulti; rw [rg_hit (by omega : k < a0.2.2.2.length) (by unfold badMR; grind [beforeMR, validMR, rowB])]; simp) | (have hq := p29_1; rw [show k = a0.2.2.2.length from by omega] at hq; unfold validMulti; rw [hq, decide_eq_true (by omega)]; simp [hc23, hc25, hc27, hc28, p29_0, p29_1, hc30, xe31, hc34, hc35, xe36, hc38])
                    exact ⟨by first | (rw [hF] <;> rfl) | rfl | (rw [hF]; simp only [Ending.returned.injEq, Value.slice.injEq, true_and, and_true]; first | omega | (simp; done)) | (rw [hF]; simp; omega), HH130.below⟩
                  · refine wp_skip ?_
                    refine blk_n ?_
                    refine nrm ?_
                    refine rg ?_
                    refine pl_x HE139 HH130 (wt0 rfl) (x_add rfl rfl (by exact ⟨by omega, by omega⟩)) rfl rfl fun a_142 HE143 => ?_
                    refine pl_x HE143 HH130 (wt0 rfl) (x_move rfl) rfl rfl fun a_144 HE145 => ?_
                    refine wpList_nil ?_
                    clear a_138 HE139 a_142 HE143
                    exact nrm ⟨a0.2.2.2.length - (k + 1), (by omega), k + 1, rfl, HE145.sub ⟨(lkI rfl (by first | rfl | omega | (simp [hc23, hc25, hc27, hc28, p29_0, p29_1, hc30, xe31, hc34, hc35, xe36, hc38]; done))), rfl, rfl, rfl, trivial⟩, (HH130.sel [1] (by decide) rfl), (by first | omega | assumption | (simp; done) | simp_all), (by exact rg_step p29_1 (by unfold badMR; grind [beforeMR, validMR, rowB]))⟩
                · refine dr_takeNo (i := 8) (ls' := #[true, true, true, true, true, true, true, true, true, false, false, false, false, false, false, false, false, false, false]) HE113 HS103 rfl (by kernel_rfl) (by kernel_rfl) (by kernel_rfl) (fun _ _ _ h => h) rfl (wtF HE113 rfl rfl rfl (decide_eq_false hc35)) rfl rfl fun a_146 HE147 => ?_
                  refine dr_takeNo (i := 9) (ls' := #[true, true, true, true, true, true, true, true, true, true, false, false, false, false, false, false, false, false, false]) HE147 HS103 rfl (by kernel_rfl) (by kernel_rfl) (by kernel_rfl) (fun _ _ _ h => h) rfl (wtF HE147 rfl rfl rfl (decide_eq_false hc35)) rfl rfl fun a_148 HE149 => ?_
                  refine dr_takeNo (i := 10) (ls' := #[true, true, true, true, true, true, true, true, true, true, true, false, false, false, false, false, false, false, false]) HE149 HS103 rfl (by kernel_rfl) (by kernel_rfl) (by kernel_rfl) (fun _ _ _ h => h) rfl (wtF HE149 rfl rfl rfl (decide_eq_false hc35)) rfl rfl fun a_150 HE151 => ?_
                  refine dr_takeNo (i := 11) (ls' := #[true, true, true, true, true, true, true, true, true, true, true, true, false, false, false, false, false, false, false]) HE151 HS103 rfl (by kernel_rfl) (by kernel_rfl) (by kernel_rfl) (fun _ _ _ h => h) rfl (wtF HE151 rfl rfl rfl (decide_eq_false hc35)) rfl rfl fun a_152 HE153 => ?_
                  refine dr_takeNo (i := 12) (ls' := #[true, true, true, true, true, true, true, true, true, true, true, true, true, false, false, false, false, false, false]) HE153 HS103 rfl (by kernel_rfl) (by kernel_rfl) (by kernel_rfl) (fun _ _ _ h => h) rfl (wtF HE153 rfl rfl rfl (decide_eq_false hc35)) rfl rfl fun a_154 HE155 => ?_
                  refine dr_takeNo (i := 13) (ls' := #[true, true, true, true, true, true, true, true, true, true, true, true, true, true, false, false, false, false, false]) HE155 HS103 rfl (by kernel_rfl) (by kernel_rfl) (by kernel_rfl) (fun _ _ _ h => h) rfl (wtF HE155 rfl rfl rfl (decide_eq_false hc35)) rfl rfl fun a_156 HE157 => ?_
                  refine dr_takeNo (i := 14) (ls' := #[true, true, true, true, true, true, true, true, true, true, true, true, true, true, true, false, false, false, false]) HE157 HS103 rfl (by kernel_rfl) (by kernel_rfl) (by kernel_rfl) (fun _ _ _ h => h) rfl (wtF HE157 rfl rfl rfl (decide_eq_false hc35)) rfl rfl fun a_158 HE159 => ?_
                  refine dr_takeNo (i := 15) (ls' := #[true, true, true, true, true, true, true, true, true, true, true, true, true, true, true, true, false, false, false]) HE159 HS103 rfl (by kernel_rfl) (by kernel_rfl) (by kernel_rfl) (fun _ _ _ h => h) rfl (wtF HE159 rfl rfl rfl (decide_eq_false hc35)) rfl rfl fun a_160 HE161 => ?_
                  refine dr_takeNo (i := 16) (ls' := #[true, true, true, true, true, true, true, true, true, true, true, true, true, true, true, true, true, false, false]) HE161 HS103 rfl (by kernel_rfl) (by kernel_rfl) (by kernel_rfl) (fun _ _ _ h => h) rfl (wtF HE161 rfl rfl rfl (decide_eq_false hc35)) rfl rfl fun a_162 HE163 => ?_
                  refine dr_take (i := 17) (ls' := #[true, true, true, true, true, true, true, true, true, true, true, true, true, true, true, true, true, true, false]) HE163 HS103 rfl (by kernel_rfl) (by kernel_rfl) (by kernel_rfl) (fun _ _ _ h => h) rfl (wtT HE163 rfl rfl rfl (not_f hc34)) (x_pickF rfl (decide_eq_false hc35) rfl) rfl rfl fun a_164 HE165 => ?_
                  refine dr_take (i := 18) (ls' := #[true, true, true, true, true, true, true, true, true, true, true, true, true, true, true, true, true, true, true]) HE165 HS103 rfl (by kernel_rfl) (by kernel_rfl) (by kernel_rfl) (fun _ _ _ h => h) rfl (wt0 rfl) (x_pickF rfl (not_f hc34) rfl) rfl rfl fun a_166 HE167 => ?_
                  refine dr_done (by kernel_rfl) ?_
                  clear HH91 a_87 HE88 a_94 HE95 HH92 a_96 HE97 HS93 a_101 HE102 a_104 HE105 a_106 HE107 a_108 HE109 a_110 HE111 a_112 HE113 a_146 HE147 a_148 HE149 a_150 HE151 a_152 HE153 a_154 HE155 a_156 HE157 a_158 HE159 a_160 HE161 a_162 HE163 a_164 HE165 hK99 K_98
                  refine nrm ?_
                  refine cndF HE167 rfl rfl ?_
                  refine wp_skip ?_
                  refine blk_n ?_
                  refine nrm ?_
                  refine rg ?_
                  refine pl_x HE167 HH100 (wt0 rfl) (x_add rfl rfl (by exact ⟨by omega, by omega⟩)) rfl rfl fun a_168 HE169 => ?_
                  refine pl_x HE169 HH100 (wt0 rfl) (x_move rfl) rfl rfl fun a_170 HE171 => ?_
                  refine wpList_nil ?_
                  clear a_166 HE167 a_168 HE169
                  exact nrm ⟨a0.2.2.2.length - (k + 1), (by omega), k + 1, rfl, HE171.sub ⟨(lkI rfl (by first | rfl | omega | (simp [hc23, hc25, hc27, hc28, p29_0, p29_1, hc30, xe31, hc34, hc35]; done))), rfl, rfl, rfl, trivial⟩, (HH100.sel [1] (by decide) rfl), (by first | omega | assumption | (simp; done) | simp_all), (by exact rg_step p29_1 (by unfold badMR; grind [beforeMR, validMR, rowB]))⟩
              · refine dr_takeNo (i := 5) (ls' := #[true, true, true, true, true, true, false, false, false, false, false, false, false, false, false, false, false, false, false]) HE107 HS103 rfl (by kernel_rfl) (by kernel_rfl) (by kernel_rfl) (fun _ _ _ h => h) rfl (wtF HE107 rfl rfl rfl (not_t hc34)) rfl rfl fun a_172 HE173 => ?_
                refine dr_takeNo (i := 6) (ls' := #[true, true, true, true, true, true, true, false, false, false, false, false, false, false, false, false, false, false, false]) HE173 HS103 rfl (by kernel_rfl) (by kernel_rfl) (by kernel_rfl) (fun _ _ _ h => h) rfl (wtF HE173 rfl rfl rfl (not_t hc34)) rfl rfl fun a_174 HE175 => ?_
                refine dr_takeNo (i := 7) (ls' := #[true, true, true, true, true, true, true, true, false, false, false, false, false, false, false, false, false, false, false]) HE175 HS103 rfl (by kernel_rfl) (by kernel_rfl) (by kernel_rfl) (fun _ _ _ h => h) rfl (wtF HE175 rfl rfl rfl (not_t hc34)) rfl rfl fun a_176 HE177 => ?_
                refine dr_takeNo (i := 8) (ls' := #[true, true, true, true, true, true, true, true, true, false, false, false, false, false, false, false, false, false, false]) HE177 HS103 rfl (by kernel_rfl) (by kernel_rfl) (by kernel_rfl) (fun _ _ _ h => h) rfl (wtU HE177 rfl rfl rfl) rfl rfl fun a_178 HE179 => ?_
                refine dr_takeNo (i := 9) (ls' := #[true, true, true, true, true, true, true, true, true, true, false, false, false, false, false, false, false, false, false]) HE179 HS103 rfl (by kernel_rfl) (by kernel_rfl) (by kernel_rfl) (fun _ _ _ h => h) rfl (wtU HE179 rfl rfl rfl) rfl rfl fun a_180 HE181 => ?_
                refine dr_takeNo (i := 10) (ls' := #[true, true, true, true, true, true, true, true, true, true, true, false, false, false, false, false, false, false, false]) HE181 HS103 rfl (by kernel_rfl) (by kernel_rfl) (by kernel_rfl) (fun _ _ _ h => h) rfl (wtU HE181 rfl rfl rfl) rfl rfl fun a_182 HE183 => ?_
                refine dr_takeNo (i := 11) (ls' := #[true, true, true, true, true, true, true, true, true, true, true, true, false, false, false, false, false, false, false]) HE183 HS103 rfl (by kernel_rfl) (by kernel_rfl) (by kernel_rfl) (fun _ _ _ h => h) rfl (wtU HE183 rfl rfl rfl) rfl rfl fun a_184 HE185 => ?_
                refine dr_takeNo (i := 12) (ls' := #[true, true, true, true, true, true, true, true, true, true, true, true, true, false, false, false, false, false, false]) HE185 HS103 rfl (by kernel_rfl) (by kernel_rfl) (by kernel_rfl) (fun _ _ _ h => h) rfl (wtU HE185 rfl rfl rfl) rfl rfl fun a_186 HE187 => ?_
                refine dr_takeNo (i := 13) (ls' := #[true, true, true, true, true, true, true, true, true, true, true, true, true, true, false, false, false, false, false]) HE187 HS103 rfl (by kernel_rfl) (by kernel_rfl) (by kernel_rfl) (fun _ _ _ h => h) rfl (wtU HE187 rfl rfl rfl) rfl rfl fun a_188 HE189 => ?_
                refine dr_takeNo (i := 14) (ls' := #[true, true, true, true, true, true, true, true, true, true, true, true, true, true, true, false, false, false, false]) HE189 HS103 rfl (by kernel_rfl) (by kernel_rfl) (by kernel_rfl) (fun _ _ _ h => h) rfl (wtU HE189 rfl rfl rfl) rfl rfl fun a_190 HE191 => ?_
                refine dr_takeNo (i := 15) (ls' := #[true, true, true, true, true, true, true, true, true, true, true, true, true, true, true, true, false, false, false]) HE191 HS103 rfl (by kernel_rfl) (by kernel_rfl) (by kernel_rfl) (fun _ _ _ h => h) rfl (wtU HE191 rfl rfl rfl) rfl rfl fun a_192 HE193 => ?_
                refine dr_takeNo (i := 16) (ls' := #[true, true, true, true, true, true, true, true, true, true, true, true, true, true, true, true, true, false, false]) HE193 HS103 rfl (by kernel_rfl) (by kernel_rfl) (by kernel_rfl) (fun _ _ _ h => h) rfl (wtU HE193 rfl rfl rfl) rfl rfl fun a_194 HE195 => ?_
                refine dr_takeNo (i := 17) (ls' := #[true, true, true, true, true, true, true, true, true, true, true, true, true, true, true, true, true, true, false]) HE195 HS103 rfl (by kernel_rfl) (by kernel_rfl) (by kernel_rfl) (fun _ _ _ h => h) rfl (wtF HE195 rfl rfl rfl (not_t hc34)) rfl rfl fun a_196 HE197 => ?_
                refine dr_take (i := 18) (ls' := #[true, true, true, true, true, true, true, true, true, true, true, true, true, true, true, true, true, true, true]) HE197 HS103 rfl (by kernel_rfl) (by kernel_rfl) (by kernel_rfl) (fun _ _ _ h => h) rfl (wt0 rfl) (x_pickT rfl (not_t hc34) rfl) rfl rfl fun a_198 HE199 => ?_
                refine dr_done (by kernel_rfl) ?_
                clear HH91 a_87 HE88 a_94 HE95 HH92 a_96 HE97 HS93 a_101 HE102 a_104 HE105 a_106 HE107 a_172 HE173 a_174 HE175 a_176 HE177 a_178 HE179 a_180 HE181 a_182 HE183 a_184 HE185 a_186 HE187 a_188 HE189 a_190 HE191 a_192 HE193 a_194 HE195 a_196 HE197 hK99 K_98
                refine nrm ?_
                refine cndT HE199 rfl rfl ?_
                refine wp_seq ?_
                refine rg ?_
                refine pl_x HE199 HH100 (wt0 rfl) (x_assign rfl) rfl rfl fun a_200 HE201 => ?_
                refine wpList_nil ?_
                clear a_198 HE199
                refine nrm ?_
                refine wp_ret ?_
                refine (blk_ret (thn_ret (thn_ret (blk_ret (thn_ret ?_)))))
                refine ret1 HE201 rfl (rv_tmp rfl) ?_
                have hF : (validMulti a0) = false := by
                  first | (simp [validMulti, hc23, hc25, hc27, hc28, p29_0, p29_1, hc30, xe31, hc34]; done) | (unfold validMulti; rw [decide_eq_false (by omega)]; simp) | (unfold validMulti; rw [rg_hit (by omega : k < a0.2.2.2.length) (by unfold badMR; grind [beforeMR, validMR, rowB])]; simp) | (have hq := p29_1; rw [show k = a0.2.2.2.length from by omega] at hq; unfold validMulti; rw [hq, decide_eq_true (by omega)]; simp [hc23, hc25, hc27, hc28, p29_0, p29_1, hc30, xe31, hc34])
                exact ⟨by first | (rw [hF] <;> rfl) | rfl | (rw [hF]; simp only [Ending.returned.injEq, Value.slice.injEq, true_and, and_true]; first | omega | (simp; done)) | (rw [hF]; simp; omega), HH100.below⟩
            · refine wp_exit ?_
              refine (thn_exit (thn_exit (blk_hit ?_)))
              refine nrm ?_
              refine wp_seq ?_
              refine rg ?_
              refine pl_x HE75 HH73 (wt0 rfl) (x_assign rfl) rfl rfl fun a_202 HE203 => ?_
              refine wpList_nil ?_
              clear a_74 HE75
              refine nrm ?_
              refine wp_ret ?_
              refine ret1 HE203 rfl (rv_tmp rfl) ?_
              have hF : (validMulti a0) = true := by
                first | (simp [validMulti, hc23, hc25, hc27, hc28, p29_0, p29_1, hc30]; done) | (unfold validMulti; rw [decide_eq_false (by omega)]; simp) | (unfold validMulti; rw [rg_hit (by omega : k < a0.2.2.2.length) (by unfold badMR; grind [beforeMR, validMR, rowB])]; simp) | (have hq := p29_1; rw [show k = a0.2.2.2.length from by omega] at hq; unfold validMulti; rw [hq, decide_eq_true (by omega)]; simp [hc23, hc25, hc27, hc28, p29_0, p29_1, hc30])
              exact ⟨by first | (rw [hF] <;> rfl) | rfl | (rw [hF]; simp only [Ending.returned.injEq, Value.slice.injEq, true_and, and_true]; first | omega | (simp; done)) | (rw [hF]; simp; omega), HH73.below⟩
      · refine pl_no HE50 (wtF HE50 rfl rfl rfl (not_t hc27)) rfl rfl fun a_204 HE205 => ?_
        refine pl_no HE205 (wtF HE205 rfl rfl rfl (not_t hc27)) rfl rfl fun a_206 HE207 => ?_
        refine pl_no HE207 (wtF HE207 rfl rfl rfl (not_t hc27)) rfl rfl fun a_208 HE209 => ?_
        refine pl_no HE209 (wtF HE209 rfl rfl rfl (not_t hc27)) rfl rfl fun a_210 HE211 => ?_
        refine pl_x HE211 HH8 (wt0 rfl) (x_pickT rfl (not_t hc27) rfl) rfl rfl fun a_212 HE213 => ?_
        refine wpList_nil ?_
        clear a_9 HE10 a_11 HE12 a_13 HE14 a_17 HE18 a_19 HE20 a_21 HE22 a_23 HE24 K_15 hK16 a_25 HE26 a_29 HE30 a_31 HE32 a_33 HE34 a_35 HE36 a_37 HE38 K_27 hK28 a_39 HE40 a_43 HE44 a_45 HE46 a_47 HE48 a_49 HE50 a_204 HE205 a_206 HE207 a_208 HE209 a_210 HE211 hK42 K_41
        refine nrm ?_
        refine cndT HE213 rfl rfl ?_
        refine wp_seq ?_
        refine rg ?_
        refine pl_x HE213 HH8 (wt0 rfl) (x_assign rfl) rfl rfl fun a_214 HE215 => ?_
        refine wpList_nil ?_
        clear a_212 HE213
        refine nrm ?_
        refine wp_ret ?_
        refine (thn_ret ?_)
        refine ret1 HE215 rfl (rv_tmp rfl) ?_
        have hF : (validMulti a0) = false := by
          first | (simp [validMulti, hc23, hc25, hc27]; done) | (unfold validMulti; rw [decide_eq_false (by omega)]; simp) | (unfold validMulti; rw [rg_hit (by omega : k < a0.2.2.2.length) (by unfold badMR; grind [beforeMR, validMR, rowB])]; simp) | (have hq := p0_1; rw [show k = a0.2.2.2.length from by omega] at hq; unfold validMulti; rw [hq, decide_eq_true (by omega)]; simp [hc23, hc25, hc27])
        exact ⟨by first | (rw [hF] <;> rfl) | rfl | (rw [hF]; simp only [Ending.returned.injEq, Value.slice.injEq, true_and, and_true]; first | omega | (simp; done)) | (rw [hF]; simp; omega), HH8.below⟩
    · refine pl_no HE36 (wtF HE36 rfl rfl rfl (not_t hc25)) rfl rfl fun a_216 HE217 => ?_
      refine pl_no HE217 (wtF HE217 rfl rfl rfl (not_t hc25)) rfl rfl fun a_218 HE219 => ?_
      refine pl_no HE219 (wtF HE219 rfl rfl rfl (not_t hc25)) rfl rfl fun a_220 HE221 => ?_
      refine pl_no HE221 (wtF HE221 rfl rfl rfl (not_t hc25)) rfl rfl fun a_222 HE223 => ?_
      refine pl_x HE223 HH8 (wt0 rfl) (x_pickT rfl (not_t hc25) rfl) rfl rfl fun a_224 HE225 => ?_
      refine pl_x HE225 HH8 (wt0 rfl) (x_move rfl) rfl rfl fun a_226 HE227 => ?_
      refine pl_no HE227 (wtF HE227 rfl rfl rfl rfl) rfl rfl fun a_228 HE229 => ?_
      refine pl_no HE229 (wtF HE229 rfl rfl rfl rfl) rfl rfl fun a_230 HE231 => ?_
      refine pl_no HE231 (wtF HE231 rfl rfl rfl rfl) rfl rfl fun a_232 HE233 => ?_
      refine pl_no HE233 (wtF HE233 rfl rfl rfl rfl) rfl rfl fun a_234 HE235 => ?_
      refine pl_x HE235 HH8 (wt0 rfl) (x_pickT rfl rfl rfl) rfl rfl fun a_236 HE237 => ?_
      refine wpList_nil ?_
      clear a_9 HE10 a_11 HE12 a_13 HE14 a_17 HE18 a_19 HE20 a_21 HE22 a_23 HE24 K_15 hK16 a_25 HE26 a_29 HE30 a_31 HE32 a_33 HE34 a_35 HE36 a_216 HE217 a_218 HE219 a_220 HE221 a_222 HE223 a_224 HE225 a_226 HE227 a_228 HE229 a_230 HE231 a_232 HE233 a_234 HE235 hK28 K_27
      refine nrm ?_
      refine cndT HE237 rfl rfl ?_
      refine wp_seq ?_
      refine rg ?_
      refine pl_x HE237 HH8 (wt0 rfl) (x_assign rfl) rfl rfl fun a_238 HE239 => ?_
      refine wpList_nil ?_
      clear a_236 HE237
      refine nrm ?_
      refine wp_ret ?_
      refine (thn_ret ?_)
      refine ret1 HE239 rfl (rv_tmp rfl) ?_
      have hF : (validMulti a0) = false := by
        first | (simp [validMulti, hc23, hc25]; done) | (unfold validMulti; rw [decide_eq_false (by omega)]; simp) | (unfold validMulti; rw [rg_hit (by omega : k < a0.2.2.2.length) (by unfold badMR; grind [beforeMR, validMR, rowB])]; simp) | (have hq := p0_1; rw [show k = a0.2.2.2.length from by omega] at hq; unfold validMulti; rw [hq, decide_eq_true (by omega)]; simp [hc23, hc25])
      exact ⟨by first | (rw [hF] <;> rfl) | rfl | (rw [hF]; simp only [Ending.returned.injEq, Value.slice.injEq, true_and, and_true]; first | omega | (simp; done)) | (rw [hF]; simp; omega), HH8.below⟩
  · refine pl_no HE22 (wtF HE22 rfl rfl rfl (not_t hc23)) rfl rfl fun a_240 HE241 => ?_
    refine pl_no HE241 (wtF HE241 rfl rfl rfl (not_t hc23)) rfl rfl fun a_242 HE243 => ?_
    refine pl_no HE243 (wtF HE243 rfl rfl rfl (not_t hc23)) rfl rfl fun a_244 HE245 => ?_
    refine pl_no HE245 (wtF HE245 rfl rfl rfl (not_t hc23)) rfl rfl fun a_246 HE247 => ?_
    refine pl_x HE247 HH8 (wt0 rfl) (x_pickT rfl (not_t hc23) rfl) rfl rfl fun a_248 HE249 => ?_
    refine pl_x HE249 HH8 (wt0 rfl) (x_move rfl) rfl rfl fun a_250 HE251 => ?_
    refine pl_no HE251 (wtF HE251 rfl rfl rfl rfl) rfl rfl fun a_252 HE253 => ?_
    refine pl_no HE253 (wtF HE253 rfl rfl rfl rfl) rfl rfl fun a_254 HE255 => ?_
    refine pl_no HE255 (wtF HE255 rfl rfl rfl rfl) rfl rfl fun a_256 HE257 => ?_
    refine pl_no HE257 (wtF HE257 rfl rfl rfl rfl) rfl rfl fun a_258 HE259 => ?_
    refine pl_x HE259 HH8 (wt0 rfl) (x_pickT rfl rfl rfl) rfl rfl fun a_260 HE261 => ?_
    refine pl_x HE261 HH8 (wt0 rfl) (x_move rfl) rfl rfl fun a_262 HE263 => ?_
    refine pl_no HE263 (wtF HE263 rfl rfl rfl rfl) rfl rfl fun a_264 HE265 => ?_
    refine pl_no HE265 (wtF HE265 rfl rfl rfl rfl) rfl rfl fun a_266 HE267 => ?_
    refine pl_no HE267 (wtF HE267 rfl rfl rfl rfl) rfl rfl fun a_268 HE269 => ?_
    refine pl_no HE269 (wtF HE269 rfl rfl rfl rfl) rfl rfl fun a_270 HE271 => ?_
    refine pl_x HE271 HH8 (wt0 rfl) (x_pickT rfl rfl rfl) rfl rfl fun a_272 HE273 => ?_
    refine wpList_nil ?_
    clear a_9 HE10 a_11 HE12 a_13 HE14 a_17 HE18 a_19 HE20 a_21 HE22 a_240 HE241 a_242 HE243 a_244 HE245 a_246 HE247 a_248 HE249 a_250 HE251 a_252 HE253 a_254 HE255 a_256 HE257 a_258 HE259 a_260 HE261 a_262 HE263 a_264 HE265 a_266 HE267 a_268 HE269 a_270 HE271 hK16 K_15
    refine nrm ?_
    refine cndT HE273 rfl rfl ?_
    refine wp_seq ?_
    refine rg ?_
    refine pl_x HE273 HH8 (wt0 rfl) (x_assign rfl) rfl rfl fun a_274 HE275 => ?_
    refine wpList_nil ?_
    clear a_272 HE273
    refine nrm ?_
    refine wp_ret ?_
    refine (thn_ret ?_)
    refine ret1 HE275 rfl (rv_tmp rfl) ?_
    have hF : (validMulti a0) = false := by
      first | (simp [validMulti, hc23]; done) | (unfold validMulti; rw [decide_eq_false (by omega)]; simp) | (unfold validMulti; rw [rg_hit (by omega : k < a0.2.2.2.length) (by unfold badMR; grind [beforeMR, validMR, rowB])]; simp) | (have hq := p0_1; rw [show k = a0.2.2.2.length from by omega] at hq; unfold validMulti; rw [hq, decide_eq_true (by omega)]; simp [hc23])
    exact ⟨by first | (rw [hF] <;> rfl) | rfl | (rw [hF]; simp only [Ending.returned.injEq, Value.slice.injEq, true_and, and_true]; first | omega | (simp; done)) | (rw [hF]; simp; omega), HH8.below⟩

set_option maxRecDepth 100000 in
set_option maxHeartbeats 4000000 in
theorem spec_l06Is (p0 o0 : Nat) (es0 : List Value) (a0 : tMulti) (w : World) (h0 : eMulti.R w (Old w) es0 a0) (hq0 : ∀ j v, es0[j]? = some v → w.cell? ⟨p0, o0 + j, none⟩ = some v) :
    Calls Tryz.prog 95 #[.pointer (some ⟨p0, o0, none⟩)] w fun e w' => e = .returned (.bool (validMulti a0)) ∧ Below w.heap.size w w' := by
  have H0 := h0
  obtain ⟨Az0_3, cz0_3, rfl, gz0_0, gz0_1, gz0_2, gz0_3⟩ := shape_Multi h0
  have jz0_0 := gz0_0; unfold I64 at jz0_0
  have jz0_1 := gz0_1; unfold I64 at jz0_1
  have jz0_2 := gz0_2; unfold I64 at jz0_2
  have lz0_3 := gz0_3.len
  have HH1 := Held.start Nob w
  refine enter (n := 132) Tryz.func95 rfl rfl rfl fun a_2 HE3 => ?_
  refine wp_seq ?_
  refine rg ?_
  refine pl_x HE3 HH1 (wt0 rfl) (x_assign rfl) rfl rfl fun a_4 HE5 => ?_
  refine wpList_nil ?_
  clear a_2 HE3
  refine nrm ?_
  refine wp_seq ?_
  refine wp_seq ?_
  refine rg ?_
  refine pl_x HE5 HH1 (wt0 rfl) (x_move rfl) rfl rfl fun a_6 HE7 => ?_
  refine pl_x HE7 HH1 (wt0 rfl) (x_nilCheck rfl) rfl rfl fun a_8 HE9 => ?_
  refine pl_x HE9 HH1 (wt0 rfl) (x_fieldAddr fa_68_0 rfl) rfl rfl fun a_10 HE11 => ?_
  refine pl_x HE11 HH1 (wt0 rfl) (x_load1 tv_2 rfl (c_old (hq0 0 _ rfl))) rfl rfl fun a_12 HE13 => ?_
  refine pl fun K_14 hK15 => ?_
  refine st_call HE13 (wt0 rfl) rfl rfl rfl en_115 rfl rfl (spec_l00In a0.1 2 3 _ ) fun e w' hr => ?_
  obtain ⟨rfl, rfl⟩ := hr
  refine ⟨_, rfl, fun a_16 HE17 => hK15 _ _ ?_⟩
  refine pl_x HE17 HH1 (wt0 rfl) (x_not rfl) rfl rfl fun a_18 HE19 => ?_
  refine pl_x HE19 HH1 (wt0 rfl) (x_move rfl) rfl rfl fun a_20 HE21 => ?_
  rcases Bool.eq_false_or_eq_true ((withinB a0.1 2 3)) with hc22 | hc22
  · refine pl_x HE21 HH1 (wtT HE21 rfl rfl rfl (not_f hc22)) (x_move rfl) rfl rfl fun a_22 HE23 => ?_
    refine pl_x HE23 HH1 (wtT HE23 rfl rfl rfl (not_f hc22)) (x_nilCheck rfl) rfl rfl fun a_24 HE25 => ?_
    refine pl_x HE25 HH1 (wtT HE25 rfl rfl rfl (not_f hc22)) (x_fieldAddr fa_68_1 rfl) rfl rfl fun a_26 HE27 => ?_
    refine pl_x HE27 HH1 (wtT HE27 rfl rfl rfl (not_f hc22)) (x_load1 tv_2 rfl (c_old (hq0 1 _ rfl))) rfl rfl fun a_28 HE29 => ?_
    refine pl fun K_30 hK31 => ?_
    refine st_call HE29 (wtT HE29 rfl rfl rfl (not_f hc22)) rfl rfl rfl en_115 rfl rfl (spec_l00In a0.2.1 2 3 _ ) fun e w' hr => ?_
    obtain ⟨rfl, rfl⟩ := hr
    refine ⟨_, rfl, fun a_32 HE33 => hK31 _ _ ?_⟩
    refine pl_x HE33 HH1 (wtT HE33 rfl rfl rfl (not_f hc22)) (x_not rfl) rfl rfl fun a_34 HE35 => ?_
    refine pl_x HE35 HH1 (wt0 rfl) (x_pickF rfl (not_f hc22) rfl) rfl rfl fun a_36 HE37 => ?_
    refine pl_x HE37 HH1 (wt0 rfl) (x_move rfl) rfl rfl fun a_38 HE39 => ?_
    rcases Bool.eq_false_or_eq_true ((withinB a0.2.1 2 3)) with hc24 | hc24
    · have v1 := withinB_true.1 hc24
      refine pl_x HE39 HH1 (wtT HE39 rfl rfl rfl (not_f hc24)) (x_move rfl) rfl rfl fun a_40 HE41 => ?_
      refine pl_x HE41 HH1 (wtT HE41 rfl rfl rfl (not_f hc24)) (x_nilCheck rfl) rfl rfl fun a_42 HE43 => ?_
      refine pl_x HE43 HH1 (wtT HE43 rfl rfl rfl (not_f hc24)) (x_fieldAddr fa_68_2 rfl) rfl rfl fun a_44 HE45 => ?_
      refine pl_x HE45 HH1 (wtT HE45 rfl rfl rfl (not_f hc24)) (x_load1 tv_2 rfl (c_old (hq0 2 _ rfl))) rfl rfl fun a_46 HE47 => ?_
      refine pl fun K_48 hK49 => ?_
      refine st_call HE47 (wtT HE47 rfl rfl rfl (not_f hc24)) rfl rfl rfl en_115 rfl rfl (spec_l00In a0.2.2.1 1 16 _ ) fun e w' hr => ?_
      obtain ⟨rfl, rfl⟩ := hr
      refine ⟨_, rfl, fun a_50 HE51 => hK49 _ _ ?_⟩
      refine pl_x HE51 HH1 (wtT HE51 rfl rfl rfl (not_f hc24)) (x_not rfl) rfl rfl fun a_52 HE53 => ?_
      refine pl_x HE53 HH1 (wt0 rfl) (x_pickF rfl (not_f hc24) rfl) rfl rfl fun a_54 HE55 => ?_
      refine pl_x HE55 HH1 (wt0 rfl) (x_move rfl) rfl rfl fun a_56 HE57 => ?_
      rcases Bool.eq_false_or_eq_true ((withinB a0.2.2.1 1 16)) with hc26 | hc26
      · have v2 := withinB_true.1 hc26
        refine pl_x HE57 HH1 (wtT HE57 rfl rfl rfl (not_f hc26)) (x_move rfl) rfl rfl fun a_58 HE59 => ?_
        refine pl_x HE59 HH1 (wtT HE59 rfl rfl rfl (not_f hc26)) (x_nilCheck rfl) rfl rfl fun a_60 HE61 => ?_
        refine pl_x HE61 HH1 (wtT HE61 rfl rfl rfl (not_f hc26)) (x_fieldAddr fa_68_3 rfl) rfl rfl fun a_62 HE63 => ?_
        refine pl_x HE63 HH1 (wtT HE63 rfl rfl rfl (not_f hc26)) (x_load1 tv_66 rfl (c_old (hq0 3 _ rfl))) rfl rfl fun a_64 HE65 => ?_
        refine pl_x HE65 HH1 (wtT HE65 rfl rfl rfl (not_f hc26)) (x_len Tryz.underlying66 rfl) rfl rfl fun a_66 HE67 => ?_
        refine pl_x HE67 HH1 (wtT HE67 rfl rfl rfl (not_f hc26)) (x_gtr rfl rfl) rfl rfl fun a_68 HE69 => ?_
        refine pl_x HE69 HH1 (wt0 rfl) (x_pickF rfl (not_f hc26) rfl) rfl rfl fun a_70 HE71 => ?_
        refine wpList_nil ?_
        clear a_4 HE5 a_6 HE7 a_8 HE9 a_10 HE11 a_12 HE13 a_16 HE17 a_18 HE19 a_20 HE21 a_22 HE23 a_24 HE25 a_26 HE27 K_14 hK15 a_28 HE29 a_32 HE33 a_34 HE35 a_36 HE37 a_38 HE39 a_40 HE41 a_42 HE43 a_44 HE45 K_30 hK31 a_46 HE47 a_50 HE51 a_52 HE53 a_54 HE55 a_56 HE57 a_58 HE59 a_60 HE61 a_62 HE63 a_64 HE65 a_66 HE67 a_68 HE69 hK49 K_48
        refine nrm ?_
        refine cnd_d HE71 rfl (fun hc27 => ?_) (fun hc27 => ?_)
        · refine wp_seq ?_
          refine rg ?_
          refine pl_x HE71 HH1 (wt0 rfl) (x_assign rfl) rfl rfl fun a_72 HE73 => ?_
          refine wpList_nil ?_
          clear a_70 HE71
          refine nrm ?_
          refine wp_ret ?_
          refine (thn_ret ?_)
          refine ret1 HE73 rfl (rv_tmp rfl) ?_
          have hF : (validMulti a0) = false := by
            first | (simp [validMulti, hc22, hc24, hc26, hc27]; done) | (unfold validMulti; rw [decide_eq_false (by omega)]; simp) | (unfold validMulti; rw [rg_hit (by omega : k < a0.2.2.2.length) (by unfold badMR; grind [beforeMR, validMR, rowB])]; simp) | (have hq := p0_1; rw [show k = a0.2.2.2.length from by omega] at hq; unfold validMulti; rw [hq, decide_eq_true (by omega)]; simp [hc22, hc24, hc26, hc27])
          exact ⟨by first | (rw [hF] <;> rfl) | rfl | (rw [hF]; simp only [Ending.returned.injEq, Value.slice.injEq, true_and, and_true]; first | omega | (simp; done)) | (rw [hF]; simp; omega), HH1.below⟩
        · refine wp_skip ?_
          refine nrm ?_
          refine wp_seq ?_
          refine wp_seq ?_
          refine rg ?_
          refine pl_x HE71 HH1 (wt0 rfl) (x_assign rfl) rfl rfl fun a_74 HE75 => ?_
          refine wpList_nil ?_
          clear a_70 HE71
          refine nrm ?_
          refine wp_block ?_
          refine lp (fun m a w' => ∃ (k : Nat), m = a0.2.2.2.length - k ∧ Env 132 [(3, .int .i64 (k : Int)), (0, .pointer (some ⟨p0, o0, none⟩))] a ∧ Held Nob w [] w' ∧ (k ≤ a0.2.2.2.length) ∧ ((List.range k).any (badMR a0) = false)) (a0.2.2.2.length - (0)) ?_ ?_
          · exact ⟨0, rfl, HE75.sub ⟨(lkI rfl (by first | rfl | omega | (simp [hc22, hc24, hc26, hc27]; done))), rfl, trivial⟩, (HH1.sel [] (by decide) rfl), (by first | omega | assumption | (simp; done) | simp_all), (by rfl)⟩
          · rintro m a_76 w' ⟨k, rfl, HE77, HH78, p28_0, p28_1⟩
            refine wp_seq ?_
            refine wp_seq ?_
            refine rg ?_
            refine pl_x HE77 HH78 (wt0 rfl) (x_move rfl) rfl rfl fun a_79 HE80 => ?_
            refine pl_x HE80 HH78 (wt0 rfl) (x_move rfl) rfl rfl fun a_81 HE82 => ?_
            refine pl_x HE82 HH78 (wt0 rfl) (x_nilCheck rfl) rfl rfl fun a_83 HE84 => ?_
            refine pl_x HE84 HH78 (wt0 rfl) (x_fieldAddr fa_68_3 rfl) rfl rfl fun a_85 HE86 => ?_
            refine pl_x HE86 HH78 (wt0 rfl) (x_load1 tv_66 rfl (c_old (hq0 3 _ rfl))) rfl rfl fun a_87 HE88 => ?_
            refine pl_x HE88 HH78 (wt0 rfl) (x_len Tryz.underlying66 rfl) rfl rfl fun a_89 HE90 => ?_
            refine pl_x HE90 HH78 (wt0 rfl) (x_lss rfl rfl) rfl rfl fun a_91 HE92 => ?_
            refine wpList_nil ?_
            clear a_74 HE75 HH1 a_76 HE77 a_79 HE80 a_81 HE82 a_83 HE84 a_85 HE86 a_87 HE88 a_89 HE90
            refine nrm ?_
            refine cnd_d HE92 rfl (fun hc29 => ?_) (fun hc29 => ?_)
            · refine wp_skip ?_
              refine nrm ?_
              refine wp_seq ?_
              refine wp_block ?_
              refine wp_seq ?_
              refine rg ?_
              refine pl_x HE92 HH78 (wt0 rfl) (x_move rfl) rfl rfl fun a_93 HE94 => ?_
              refine pl_x HE94 HH78 (wt0 rfl) (x_nilCheck rfl) rfl rfl fun a_95 HE96 => ?_
              refine pl_x HE96 HH78 (wt0 rfl) (x_fieldAddr fa_68_3 rfl) rfl rfl fun a_97 HE98 => ?_
              refine pl_x HE98 HH78 (wt0 rfl) (x_load1 tv_66 rfl (c_old (hq0 3 _ rfl))) rfl rfl fun a_99 HE100 => ?_
              refine pl_x HE100 HH78 (wt0 rfl) (x_move rfl) rfl rfl fun a_101 HE102 => ?_
              have ke30 : k < a0.2.2.2.length := by omega
              obtain ⟨be30, fe30, ese30, Ae30, Re30, De30⟩ := el_old gz0_3 ke30
              obtain ⟨e30, xe30⟩ : ∃ x_, x_ = a0.2.2.2[k] := ⟨_, rfl⟩
              rw [← xe30] at Re30
              have Qe30 := Re30
              obtain ⟨Ae30_1, ce30_1, Ae30_2, ce30_2, Ae30_3, ce30_3, rfl, ge30_0, ge30_1, ge30_2, ge30_3, ge30_4⟩ := shape_MultiRule Re30
              have je30_0 := ge30_0; unfold I64 at je30_0
              have le30_1 := ge30_1.len
              have le30_2 := ge30_2.len
              have le30_3 := ge30_3.len
              have je30_4 := ge30_4; unfold I64 at je30_4
              have ge30 : a0.2.2.2[k]?.getD default = e30 := by rw [List.getElem?_eq_getElem ke30, xe30]; rfl
              refine pl_x HE102 HH78 (wt0 rfl) (x_indexAddr ts_66 rfl rfl Ae30 rfl ke30) rfl rfl fun a_103 HE104 => ?_
              refine pl_x HE104 HH78 (wt0 rfl) (x_assign rfl) rfl rfl fun a_105 HE106 => ?_
              refine wpList_nil ?_
              clear a_91 HE92 a_93 HE94 a_95 HE96 a_97 HE98 a_99 HE100 a_101 HE102 a_103 HE104
              refine nrm ?_
              refine wp_seq ?_
              refine wp_seq ?_
              refine dr_start (Held Nob w []) 24 #[false, false, false, false, false, false, false, false, false, false, false, false, false, false, false, false, false, false, false, false, false, false, false, false] hmix rfl rfl HH78 (fun _ h => h.sel [] (by decide) rfl) fun w' HH107 => ?_
              have HS108 := HH107
              refine dr_take (i := 0) (ls' := #[true, false, false, false, false, false, false, false, false, false, false, false, false, false, false, false, false, false, false, false, false, false, false, false]) HE106 HS108 rfl (by kernel_rfl) (by kernel_rfl) (by kernel_rfl) (fun _ _ _ h => h) rfl (wt0 rfl) (x_move rfl) rfl rfl fun a_109 HE110 => ?_
              refine dr_take (i := 1) (ls' := #[true, true, false, false, false, false, false, false, false, false, false, false, false, false, false, false, false, false, false, false, false, false, false, false]) HE110 HS108 rfl (by kernel_rfl) (by kernel_rfl) (by kernel_rfl) (fun _ _ _ h => h) rfl (wt0 rfl) (x_nilCheck rfl) rfl rfl fun a_111 HE112 => ?_
              refine dr_take (i := 2) (ls' := #[true, true, true, false, false, false, false, false, false, false, false, false, false, false, false, false, false, false, false, false, false, false, false, false]) HE112 HS108 rfl (by kernel_rfl) (by kernel_rfl) (by kernel_rfl) (fun _ _ _ h => h) rfl (wt0 rfl) (x_fieldAddr fa_123_0 rfl) rfl rfl fun a_113 HE114 => ?_
              refine dr_take (i := 3) (ls' := #[true, true, true, true, false, false, false, false, false, false, false, false, false, false, false, false, false, false, false, false, false, false, false, false]) HE114 HS108 rfl (by kernel_rfl) (by kernel_rfl) (by kernel_rfl) (fun _ _ _ h => h) rfl (wt0 rfl) (x_load1 tv_2 rfl (c_old (De30 0 _ rfl))) rfl rfl fun a_115 HE116 => ?_
              refine dr_take (i := 4) (ls' := #[true, true, true, true, true, false, false, false, false, false, false, false, false, false, false, false, false, false, false, false, false, false, false, false]) HE116 HS108 rfl (by kernel_rfl) (by kernel_rfl) (by kernel_rfl) (fun _ _ _ h => h) rfl (wt0 rfl) (x_move rfl) rfl rfl fun a_117 HE118 => ?_
              refine dr_take (i := 5) (ls' := #[true, true, true, true, true, true, false, false, false, false, false, false, false, false, false, false, false, false, false, false, false, false, false, false]) HE118 HS108 rfl (by kernel_rfl) (by kernel_rfl) (by kernel_rfl) (fun _ _ _ h => h) rfl (wt0 rfl) (x_nilCheck rfl) rfl rfl fun a_119 HE120 => ?_
              refine dr_take (i := 6) (ls' := #[true, true, true, true, true, true, true, false, false, false, false, false, false, false, false, false, false, false, false, false, false, false, false, false]) HE120 HS108 rfl (by kernel_rfl) (by kernel_rfl) (by kernel_rfl) (fun _ _ _ h => h) rfl (wt0 rfl) (x_fieldAddr fa_68_2 rfl) rfl rfl fun a_121 HE122 => ?_
              refine dr_take (i := 7) (ls' := #[true, true, true, true, true, true, true, true, false, false, false, false, false, false, false, false, false, false, false, false, false, false, false, false]) HE122 HS108 rfl (by kernel_rfl) (by kernel_rfl) (by kernel_rfl) (fun _ _ _ h => h) rfl (wt0 rfl) (x_load1 tv_2 rfl (c_old (hq0 2 _ rfl))) rfl rfl fun a_123 HE124 => ?_
              refine dr_take (i := 8) (ls' := #[true, true, true, true, true, true, true, true, true, false, false, false, false, false, false, false, false, false, false, false, false, false, false, false]) HE124 HS108 rfl (by kernel_rfl) (by kernel_rfl) (by kernel_rfl) (fun _ _ _ h => h) rfl (wt0 rfl) (x_sub rfl rfl (by exact ⟨by omega, by omega⟩)) rfl rfl fun a_125 HE126 => ?_
              refine dr_one (i := 9) (ls' := #[true, true, true, true, true, true, true, true, true, true, false, false, false, false, false, false, false, false, false, false, false, false, false, false]) rfl (by kernel_rfl) rfl fun K_127 hK128 => ?_
              refine st_call HE126 (wt0 rfl) rfl rfl rfl en_115 rfl rfl (spec_l00In e30.1 0 (a0.2.2.1 - 1) _ ) fun e w' hr => ?_
              obtain ⟨rfl, rfl⟩ := hr
              refine ⟨_, rfl, fun a_129 HE130 => hK128 _ _ (by exact HH107.sel [] (by decide) rfl) ?_⟩
              have HS131 := HH107.sel [] (by decide) rfl
              refine dr_take (i := 10) (ls' := #[true, true, true, true, true, true, true, true, true, true, true, false, false, false, false, false, false, false, false, false, false, false, false, false]) HE130 HS131 rfl (by kernel_rfl) (by kernel_rfl) (by kernel_rfl) (fun _ _ _ h => h) rfl (wt0 rfl) (x_not rfl) rfl rfl fun a_132 HE133 => ?_
              refine dr_take (i := 11) (ls' := #[true, true, true, true, true, true, true, true, true, true, true, true, false, false, false, false, false, false, false, false, false, false, false, false]) HE133 HS131 rfl (by kernel_rfl) (by kernel_rfl) (by kernel_rfl) (fun _ _ _ h => h) rfl (wt0 rfl) (x_move rfl) rfl rfl fun a_134 HE135 => ?_
              rcases Bool.eq_false_or_eq_true ((withinB e30.1 0 (a0.2.2.1 - 1))) with hc32 | hc32
              · refine dr_take (i := 12) (ls' := #[true, true, true, true, true, true, true, true, true, true, true, true, true, false, false, false, false, false, false, false, false, false, false, false]) HE135 HS131 rfl (by kernel_rfl) (by kernel_rfl) (by kernel_rfl) (fun _ _ _ h => h) rfl (wtT HE135 rfl rfl rfl (not_f hc32)) (x_move rfl) rfl rfl fun a_136 HE137 => ?_
                refine dr_take (i := 13) (ls' := #[true, true, true, true, true, true, true, true, true, true, true, true, true, true, false, false, false, false, false, false, false, false, false, false]) HE137 HS131 rfl (by kernel_rfl) (by kernel_rfl) (by kernel_rfl) (fun _ _ _ h => h) rfl (wtT HE137 rfl rfl rfl (not_f hc32)) (x_nilCheck rfl) rfl rfl fun a_138 HE139 => ?_
                refine dr_take (i := 14) (ls' := #[true, true, true, true, true, true, true, true, true, true, true, true, true, true, true, false, false, false, false, false, false, false, false, false]) HE139 HS131 rfl (by kernel_rfl) (by kernel_rfl) (by kernel_rfl) (fun _ _ _ h => h) rfl (wtT HE139 rfl rfl rfl (not_f hc32)) (x_fieldAddr fa_123_4 rfl) rfl rfl fun a_140 HE141 => ?_
                refine dr_take (i := 15) (ls' := #[true, true, true, true, true, true, true, true, true, true, true, true, true, true, true, true, false, false, false, false, false, false, false, false]) HE141 HS131 rfl (by kernel_rfl) (by kernel_rfl) (by kernel_rfl) (fun _ _ _ h => h) rfl (wtT HE141 rfl rfl rfl (not_f hc32)) (x_load1 tv_2 rfl (c_old (De30 4 _ rfl))) rfl rfl fun a_142 HE143 => ?_
                refine dr_take (i := 16) (ls' := #[true, true, true, true, true, true, true, true, true, true, true, true, true, true, true, true, true, false, false, false, false, false, false, false]) HE143 HS131 rfl (by kernel_rfl) (by kernel_rfl) (by kernel_rfl) (fun _ _ _ h => h) rfl (wtT HE143 rfl rfl rfl (not_f hc32)) (x_move rfl) rfl rfl fun a_144 HE145 => ?_
                refine dr_take (i := 17) (ls' := #[true, true, true, true, true, true, true, true, true, true, true, true, true, true, true, true, true, true, false, false, false, false, false, false]) HE145 HS131 rfl (by kernel_rfl) (by kernel_rfl) (by kernel_rfl) (fun _ _ _ h => h) rfl (wtT HE145 rfl rfl rfl (not_f hc32)) (x_nilCheck rfl) rfl rfl fun a_146 HE147 => ?_
                refine dr_take (i := 18) (ls' := #[true, true, true, true, true, true, true, true, true, true, true, true, true, true, true, true, true, true, true, false, false, false, false, false]) HE147 HS131 rfl (by kernel_rfl) (by kernel_rfl) (by kernel_rfl) (fun _ _ _ h => h) rfl (wtT HE147 rfl rfl rfl (not_f hc32)) (x_fieldAddr fa_68_2 rfl) rfl rfl fun a_148 HE149 => ?_
                refine dr_take (i := 19) (ls' := #[true, true, true, true, true, true, true, true, true, true, true, true, true, true, true, true, true, true, true, true, false, false, false, false]) HE149 HS131 rfl (by kernel_rfl) (by kernel_rfl) (by kernel_rfl) (fun _ _ _ h => h) rfl (wtT HE149 rfl rfl rfl (not_f hc32)) (x_load1 tv_2 rfl (c_old (hq0 2 _ rfl))) rfl rfl fun a_150 HE151 => ?_
                refine dr_take (i := 20) (ls' := #[true, true, true, true, true, true, true, true, true, true, true, true, true, true, true, true, true, true, true, true, true, false, false, false]) HE151 HS131 rfl (by kernel_rfl) (by kernel_rfl) (by kernel_rfl) (fun _ _ _ h => h) rfl (wtT HE151 rfl rfl rfl (not_f hc32)) (x_sub rfl rfl (by exact ⟨by omega, by omega⟩)) rfl rfl fun a_152 HE153 => ?_
                refine dr_one (i := 21) (ls' := #[true, true, true, true, true, true, true, true, true, true, true, true, true, true, true, true, true, true, true, true, true, true, false, false]) rfl (by kernel_rfl) rfl fun K_154 hK155 => ?_
                refine st_call HE153 (wtT HE153 rfl rfl rfl (not_f hc32)) rfl rfl rfl en_115 rfl rfl (spec_l00In e30.2.2.2.2 0 (a0.2.2.1 - 1) _ ) fun e w' hr => ?_
                obtain ⟨rfl, rfl⟩ := hr
                refine ⟨_, rfl, fun a_156 HE157 => hK155 _ _ (by exact HH107.sel [] (by decide) rfl) ?_⟩
                have HS158 := HH107.sel [] (by decide) rfl
                refine dr_take (i := 22) (ls' := #[true, true, true, true, true, true, true, true, true, true, true, true, true, true, true, true, true, true, true, true, true, true, true, false]) HE157 HS158 rfl (by kernel_rfl) (by kernel_rfl) (by kernel_rfl) (fun _ _ _ h => h) rfl (wtT HE157 rfl rfl rfl (not_f hc32)) (x_not rfl) rfl rfl fun a_159 HE160 => ?_
                refine dr_take (i := 23) (ls' := #[true, true, true, true, true, true, true, true, true, true, true, true, true, true, true, true, true, true, true, true, true, true, true, true]) HE160 HS158 rfl (by kernel_rfl) (by kernel_rfl) (by kernel_rfl) (fun _ _ _ h => h) rfl (wt0 rfl) (x_pickF rfl (not_f hc32) rfl) rfl rfl fun a_161 HE162 => ?_
                refine dr_done (by kernel_rfl) ?_
                clear HH78 a_105 HE106 a_109 HE110 a_111 HE112 a_113 HE114 a_115 HE116 a_117 HE118 a_119 HE120 a_121 HE122 a_123 HE124 a_125 HE126 HS108 a_129 HE130 a_132 HE133 a_134 HE135 a_136 HE137 a_138 HE139 a_140 HE141 a_142 HE143 a_144 HE145 a_146 HE147 a_148 HE149 a_150 HE151 K_127 hK128 a_152 HE153 HS131 a_156 HE157 a_159 HE160 hK155 K_154
                refine nrm ?_
                refine cnd_nb HE162 rfl (fun hc34 => ?_) (fun hc34 => ?_)
                · refine wp_seq ?_
                  refine rg ?_
                  refine pl_x HE162 HH107 (wt0 rfl) (x_assign rfl) rfl rfl fun a_163 HE164 => ?_
                  refine wpList_nil ?_
                  clear a_161 HE162
                  refine nrm ?_
                  refine wp_ret ?_
                  refine (thn_ret (blk_ret (thn_ret (thn_ret (blk_ret (thn_ret ?_))))))
                  refine ret1 HE164 rfl (rv_tmp rfl) ?_
                  have hF : (validMulti a0) = false := by
                    first | (simp [validMulti, hc22, hc24, hc26, hc27, p28_0, p28_1, hc29, xe30, hc32, hc34]; done) | (unfold validMulti; rw [decide_eq_false (by omega)]; simp) | (unfold validMulti; rw [rg_hit (by omega : k < a0.2.2.2.length) (by unfold badMR; grind [beforeMR, validMR, rowB])]; simp) | (have hq := p28_1; rw [show k = a0.2.2.2.length from by omega] at hq; unfold validMulti; rw [hq, decide_eq_true (by omega)]; simp [hc22, hc24, hc26, hc27, p28_0, p28_1, hc29, xe30, hc32, hc34])
                  exact ⟨by first | (rw [hF] <;> rfl) | rfl | (rw [hF]; simp only [Ending.returned.injEq, Value.slice.injEq, true_and, and_true]; first | omega | (simp; done)) | (rw [hF]; simp; omega), HH107.below⟩
                · refine wp_skip ?_
                  refine nrm ?_
                  refine wp_seq ?_
                  refine wp_seq ?_
                  refine dr_start (Held Nob w []) 44 #[false, false, false, false, false, false, false, false, false, false, false, false, false, false, false, false, false, false, false, false, false, false, false, false, false, false, false, false, false, false, false, false, false, false, false, false, false, false, false, false, false, false, false, false] hmix rfl rfl HH107 (fun _ h => h.sel [] (by decide) rfl) fun w' HH165 => ?_
                  have HS166 := HH165
                  refine dr_take (i := 0) (ls' := #[true, false, false, false, false, false, false, false, false, false, false, false, false, false, false, false, false, false, false, false, false, false, false, false, false, false, false, false, false, false, false, false, false, false, false, false, false, false, false, false, false, false, false, false]) HE162 HS166 rfl (by kernel_rfl) (by kernel_rfl) (by kernel_rfl) (fun _ _ _ h => h) rfl (wt0 rfl) (x_move rfl) rfl rfl fun a_167 HE168 => ?_
                  refine dr_take (i := 1) (ls' := #[true, true, false, false, false, false, false, false, false, false, false, false, false, false, false, false, false, false, false, false, false, false, false, false, false, false, false, false, false, false, false, false, false, false, false, false, false, false, false, false, false, false, false, false]) HE168 HS166 rfl (by kernel_rfl) (by kernel_rfl) (by kernel_rfl) (fun _ _ _ h => h) rfl (wt0 rfl) (x_nilCheck rfl) rfl rfl fun a_169 HE170 => ?_
                  refine dr_take (i := 2) (ls' := #[true, true, true, false, false, false, false, false, false, false, false, false, false, false, false, false, false, false, false, false, false, false, false, false, false, false, false, false, false, false, false, false, false, false, false, false, false, false, false, false, false, false, false, false]) HE170 HS166 rfl (by kernel_rfl) (by kernel_rfl) (by kernel_rfl) (fun _ _ _ h => h) rfl (wt0 rfl) (x_fieldAddr fa_123_1 rfl) rfl rfl fun a_171 HE172 => ?_
                  refine dr_take (i := 3) (ls' := #[true, true, true, true, false, false, false, false, false, false, false, false, false, false, false, false, false, false, false, false, false, false, false, false, false, false, false, false, false, false, false, false, false, false, false, false, false, false, false, false, false, false, false, false]) HE172 HS166 rfl (by kernel_rfl) (by kernel_rfl) (by kernel_rfl) (fun _ _ _ h => h) rfl (wt0 rfl) (x_load1 tv_25 rfl (c_old (De30 1 _ rfl))) rfl rfl fun a_173 HE174 => ?_
                  refine dr_take (i := 4) (ls' := #[true, true, true, true, true, false, false, false, false, false, false, false, false, false, false, false, false, false, false, false, false, false, false, false, false, false, false, false, false, false, false, false, false, false, false, false, false, false, false, false, false, false, false, false]) HE174 HS166 rfl (by kernel_rfl) (by kernel_rfl) (by kernel_rfl) (fun _ _ _ h => h) rfl (wt0 rfl) (x_move rfl) rfl rfl fun a_175 HE176 => ?_
                  refine dr_take (i := 5) (ls' := #[true, true, true, true, true, true, false, false, false, false, false, false, false, false, false, false, false, false, false, false, false, false, false, false, false, false, false, false, false, false, false, false, false, false, false, false, false, false, false, false, false, false, false, false]) HE176 HS166 rfl (by kernel_rfl) (by kernel_rfl) (by kernel_rfl) (fun _ _ _ h => h) rfl (wt0 rfl) (x_nilCheck rfl) rfl rfl fun a_177 HE178 => ?_
                  refine dr_take (i := 6) (ls' := #[true, true, true, true, true, true, true, false, false, false, false, false, false, false, false, false, false, false, false, false, false, false, false, false, false, false, false, false, false, false, false, false, false, false, false, false, false, false, false, false, false, false, false, false]) HE178 HS166 rfl (by kernel_rfl) (by kernel_rfl) (by kernel_rfl) (fun _ _ _ h => h) rfl (wt0 rfl) (x_fieldAddr fa_68_0 rfl) rfl rfl fun a_179 HE180 => ?_
                  refine dr_take (i := 7) (ls' := #[true, true, true, true, true, true, true, true, false, false, false, false, false, false, false, false, false, false, false, false, false, false, false, false, false, false, false, false, false, false, false, false, false, false, false, false, false, false, false, false, false, false, false, false]) HE180 HS166 rfl (by kernel_rfl) (by kernel_rfl) (by kernel_rfl) (fun _ _ _ h => h) rfl (wt0 rfl) (x_load1 tv_2 rfl (c_old (hq0 0 _ rfl))) rfl rfl fun a_181 HE182 => ?_
                  refine dr_take (i := 8) (ls' := #[true, true, true, true, true, true, true, true, true, false, false, false, false, false, false, false, false, false, false, false, false, false, false, false, false, false, false, false, false, false, false, false, false, false, false, false, false, false, false, false, false, false, false, false]) HE182 HS166 rfl (by kernel_rfl) (by kernel_rfl) (by kernel_rfl) (fun _ _ _ h => h) rfl (wt0 rfl) (x_move rfl) rfl rfl fun a_183 HE184 => ?_
                  refine dr_take (i := 9) (ls' := #[true, true, true, true, true, true, true, true, true, true, false, false, false, false, false, false, false, false, false, false, false, false, false, false, false, false, false, false, false, false, false, false, false, false, false, false, false, false, false, false, false, false, false, false]) HE184 HS166 rfl (by kernel_rfl) (by kernel_rfl) (by kernel_rfl) (fun _ _ _ h => h) rfl (wt0 rfl) (x_nilCheck rfl) rfl rfl fun a_185 HE186 => ?_
                  refine dr_take (i := 10) (ls' := #[true, true, true, true, true, true, true, true, true, true, true, false, false, false, false, false, false, false, false, false, false, false, false, false, false, false, false, false, false, false, false, false, false, false, false, false, false, false, false, false, false, false, false, false]) HE186 HS166 rfl (by kernel_rfl) (by kernel_rfl) (by kernel_rfl) (fun _ _ _ h => h) rfl (wt0 rfl) (x_fieldAddr fa_68_1 rfl) rfl rfl fun a_187 HE188 => ?_
                  refine dr_take (i := 11) (ls' := #[true, true, true, true, true, true, true, true, true, true, true, true, false, false, false, false, false, false, false, false, false, false, false, false, false, false, false, false, false, false, false, false, false, false, false, false, false, false, false, false, false, false, false, false]) HE188 HS166 rfl (by kernel_rfl) (by kernel_rfl) (by kernel_rfl) (fun _ _ _ h => h) rfl (wt0 rfl) (x_load1 tv_2 rfl (c_old (hq0 1 _ rfl))) rfl rfl fun a_189 HE190 => ?_
                  refine dr_take (i := 12) (ls' := #[true, true, true, true, true, true, true, true, true, true, true, true, true, false, false, false, false, false, false, false, false, false, false, false, false, false, false, false, false, false, false, false, false, false, false, false, false, false, false, false, false, false, false, false]) HE190 HS166 rfl (by kernel_rfl) (by kernel_rfl) (by kernel_rfl) (fun _ _ _ h => h) rfl (wt0 rfl) (x_sub rfl rfl (by exact ⟨by omega, by omega⟩)) rfl rfl fun a_191 HE192 => ?_
                  refine dr_one (i := 13) (ls' := #[true, true, true, true, true, true, true, true, true, true, true, true, true, true, false, false, false, false, false, false, false, false, false, false, false, false, false, false, false, false, false, false, false, false, false, false, false, false, false, false, false, false, false, false]) rfl (by kernel_rfl) rfl fun K_193 hK194 => ?_
                  refine st_call HE192 (wt0 rfl) rfl rfl rfl en_146 rfl rfl (spec_l06RowE _ _ e30.2.1 a0.1 0 (a0.2.1 - 1) _ (HH165.old ge30_1)) fun e w' hr => ?_
                  obtain ⟨rfl, hbr35⟩ := hr
                  have HH195 := HH165.on hbr35
                  refine ⟨_, rfl, fun a_196 HE197 => hK194 _ _ (by exact HH195.sel [] (by decide) rfl) ?_⟩
                  have HS198 := HH195.sel [] (by decide) rfl
                  refine dr_take (i := 14) (ls' := #[true, true, true, true, true, true, true, true, true, true, true, true, true, true, true, false, false, false, false, false, false, false, false, false, false, false, false, false, false, false, false, false, false, false, false, false, false, false, false, false, false, false, false, false]) HE197 HS198 rfl (by kernel_rfl) (by kernel_rfl) (by kernel_rfl) (fun _ _ _ h => h) rfl (wt0 rfl) (x_not rfl) rfl rfl fun a_199 HE200 => ?_
                  refine dr_take (i := 15) (ls' := #[true, true, true, true, true, true, true, true, true, true, true, true, true, true, true, true, false, false, false, false, false, false, false, false, false, false, false, false, false, false, false, false, false, false, false, false, false, false, false, false, false, false, false, false]) HE200 HS198 rfl (by kernel_rfl) (by kernel_rfl) (by kernel_rfl) (fun _ _ _ h => h) rfl (wt0 rfl) (x_move rfl) rfl rfl fun a_201 HE202 => ?_
                  rcases Bool.eq_false_or_eq_true ((rowB e30.2.1 a0.1 0 (a0.2.1 - 1))) with hc36 | hc36
                  · refine dr_take (i := 16) (ls' := #[true, true, true, true, true, true, true, true, true, true, true, true, true, true, true, true, true, false, false, false, false, false, false, false, false, false, false, false, false, false, false, false, false, false, false, false, false, false, false, false, false, false, false, false]) HE202 HS198 rfl (by kernel_rfl) (by kernel_rfl) (by kernel_rfl) (fun _ _ _ h => h) rfl (wtT HE202 rfl rfl rfl (not_f hc36)) (x_move rfl) rfl rfl fun a_203 HE204 => ?_
                    refine dr_take (i := 17) (ls' := #[true, true, true, true, true, true, true, true, true, true, true, true, true, true, true, true, true, true, false, false, false, false, false, false, false, false, false, false, false, false, false, false, false, false, false, false, false, false, false, false, false, false, false, false]) HE204 HS198 rfl (by kernel_rfl) (by kernel_rfl) (by kernel_rfl) (fun _ _ _ h => h) rfl (wtT HE204 rfl rfl rfl (not_f hc36)) (x_nilCheck rfl) rfl rfl fun a_205 HE206 => ?_
                    refine dr_take (i := 18) (ls' := #[true, true, true, true, true, true, true, true, true, true, true, true, true, true, true, true, true, true, true, false, false, false, false, false, false, false, false, false, false, false, false, false, false, false, false, false, false, false, false, false, false, false, false, false]) HE206 HS198 rfl (by kernel_rfl) (by kernel_rfl) (by kernel_rfl) (fun _ _ _ h => h) rfl (wtT HE206 rfl rfl rfl (not_f hc36)) (x_fieldAddr fa_123_2 rfl) rfl rfl fun a_207 HE208 => ?_
                    refine dr_take (i := 19) (ls' := #[true, true, true, true, true, true, true, true, true, true, true, true, true, true, true, true, true, true, true, true, false, false, false, false, false, false, false, false, false, false, false, false, false, false, false, false, false, false, false, false, false, false, false, false]) HE208 HS198 rfl (by kernel_rfl) (by kernel_rfl) (by kernel_rfl) (fun _ _ _ h => h) rfl (wtT HE208 rfl rfl rfl (not_f hc36)) (x_load1 tv_25 rfl (c_old (De30 2 _ rfl))) rfl rfl fun a_209 HE210 => ?_
                    refine dr_take (i := 20) (ls' := #[true, true, true, true, true, true, true, true, true, true, true, true, true, true, true, true, true, true, true, true, true, false, false, false, false, false, false, false, false, false, false, false, false, false, false, false, false, false, false, false, false, false, false, false]) HE210 HS198 rfl (by kernel_rfl) (by kernel_rfl) (by kernel_rfl) (fun _ _ _ h => h) rfl (wtT HE210 rfl rfl rfl (not_f hc36)) (x_move rfl) rfl rfl fun a_211 HE212 => ?_
                    refine dr_take (i := 21) (ls' := #[true, true, true, true, true, true, true, true, true, true, true, true, true, true, true, true, true, true, true, true, true, true, false, false, false, false, false, false, false, false, false, false, false, false, false, false, false, false, false, false, false, false, false, false]) HE212 HS198 rfl (by kernel_rfl) (by kernel_rfl) (by kernel_rfl) (fun _ _ _ h => h) rfl (wtT HE212 rfl rfl rfl (not_f hc36)) (x_nilCheck rfl) rfl rfl fun a_213 HE214 => ?_
                    refine dr_take (i := 22) (ls' := #[true, true, true, true, true, true, true, true, true, true, true, true, true, true, true, true, true, true, true, true, true, true, true, false, false, false, false, false, false, false, false, false, false, false, false, false, false, false, false, false, false, false, false, false]) HE214 HS198 rfl (by kernel_rfl) (by kernel_rfl) (by kernel_rfl) (fun _ _ _ h => h) rfl (wtT HE214 rfl rfl rfl (not_f hc36)) (x_fieldAddr fa_68_0 rfl) rfl rfl fun a_215 HE216 => ?_
                    refine dr_take (i := 23) (ls' := #[true, true, true, true, true, true, true, true, true, true, true, true, true, true, true, true, true, true, true, true, true, true, true, true, false, false, false, false, false, false, false, false, false, false, false, false, false, false, false, false, false, false, false, false]) HE216 HS198 rfl (by kernel_rfl) (by kernel_rfl) (by kernel_rfl) (fun _ _ _ h => h) rfl (wtT HE216 rfl rfl rfl (not_f hc36)) (x_load1 tv_2 rfl (c_old (hq0 0 _ rfl))) rfl rfl fun a_217 HE218 => ?_
                    refine dr_take (i := 24) (ls' := #[true, true, true, true, true, true, true, true, true, true, true, true, true, true, true, true, true, true, true, true, true, true, true, true, true, false, false, false, false, false, false, false, false, false, false, false, false, false, false, false, false, false, false, false]) HE218 HS198 rfl (by kernel_rfl) (by kernel_rfl) (by kernel_rfl) (fun _ _ _ h => h) rfl (wtT HE218 rfl rfl rfl (not_f hc36)) (x_move rfl) rfl rfl fun a_219 HE220 => ?_
                    refine dr_take (i := 25) (ls' := #[true, true, true, true, true, true, true, true, true, true, true, true, true, true, true, true, true, true, true, true, true, true, true, true, true, true, false, false, false, false, false, false, false, false, false, false, false, false, false, false, false, false, false, false]) HE220 HS198 rfl (by kernel_rfl) (by kernel_rfl) (by kernel_rfl) (fun _ _ _ h => h) rfl (wtT HE220 rfl rfl rfl (not_f hc36)) (x_nilCheck rfl) rfl rfl fun a_221 HE222 => ?_
                    refine dr_take (i := 26) (ls' := #[true, true, true, true, true, true, true, true, true, true, true, true, true, true, true, true, true, true, true, true, true, true, true, true, true, true, true, false, false, false, false, false, false, false, false, false, false, false, false, false, false, false, false, false]) HE222 HS198 rfl (by kernel_rfl) (by kernel_rfl) (by kernel_rfl) (fun _ _ _ h => h) rfl (wtT HE222 rfl rfl rfl (not_f hc36)) (x_fieldAddr fa_68_1 rfl) rfl rfl fun a_223 HE224 => ?_
                    refine dr_take (i := 27) (ls' := #[true, true, true, true, true, true, true, true, true, true, true, true, true, true, true, true, true, true, true, true, true, true, true, true, true, true, true, true, false, false, false, false, false, false, false, false, false, false, false, false, false, false, false, false]) HE224 HS198 rfl (by kernel_rfl) (by kernel_rfl) (by kernel_rfl) (fun _ _ _ h => h) rfl (wtT HE224 rfl rfl rfl (not_f hc36)) (x_load1 tv_2 rfl (c_old (hq0 1 _ rfl))) rfl rfl fun a_225 HE226 => ?_
                    refine dr_take (i := 28) (ls' := #[true, true, true, true, true, true, true, true, true, true, true, true, true, true, true, true, true, true, true, true, true, true, true, true, true, true, true, true, true, false, false, false, false, false, false, false, false, false, false, false, false, false, false, false]) HE226 HS198 rfl (by kernel_rfl) (by kernel_rfl) (by kernel_rfl) (fun _ _ _ h => h) rfl (wtT HE226 rfl rfl rfl (not_f hc36)) (x_sub rfl rfl (by exact ⟨by omega, by omega⟩)) rfl rfl fun a_227 HE228 => ?_
                    refine dr_one (i := 29) (ls' := #[true, true, true, true, true, true, true, true, true, true, true, true, true, true, true, true, true, true, true, true, true, true, true, true, true, true, true, true, true, true, false, false, false, false, false, false, false, false, false, false, false, false, false, false]) rfl (by kernel_rfl) rfl fun K_229 hK230 => ?_
                    refine st_call HE228 (wtT HE228 rfl rfl rfl (not_f hc36)) rfl rfl rfl en_146 rfl rfl (spec_l06RowE _ _ e30.2.2.1 a0.1 0 (a0.2.1 - 1) _ (HH195.old ge30_2)) fun e w' hr => ?_
                    obtain ⟨rfl, hbr37⟩ := hr
                    have HH231 := HH195.on hbr37
                    refine ⟨_, rfl, fun a_232 HE233 => hK230 _ _ (by exact HH231.sel [] (by decide) rfl) ?_⟩
                    have HS234 := HH231.sel [] (by decide) rfl
                    refine dr_take (i := 30) (ls' := #[true, true, true, true, true, true, true, true, true, true, true, true, true, true, true, true, true, true, true, true, true, true, true, true, true, true, true, true, true, true, true, false, false, false, false, false, false, false, false, false, false, false, false, false]) HE233 HS234 rfl (by kernel_rfl) (by kernel_rfl) (by kernel_rfl) (fun _ _ _ h => h) rfl (wtT HE233 rfl rfl rfl (not_f hc36)) (x_not rfl) rfl rfl fun a_235 HE236 => ?_
                    refine dr_take (i := 31) (ls' := #[true, true, true, true, true, true, true, true, true, true, true, true, true, true, true, true, true, true, true, true, true, true, true, true, true, true, true, true, true, true, true, true, false, false, false, false, false, false, false, false, false, false, false, false]) HE236 HS234 rfl (by kernel_rfl) (by kernel_rfl) (by kernel_rfl) (fun _ _ _ h => h) rfl (wt0 rfl) (x_pickF rfl (not_f hc36) rfl) rfl rfl fun a_237 HE238 => ?_
                    refine dr_take (i := 32) (ls' := #[true, true, true, true, true, true, true, true, true, true, true, true, true, true, true, true, true, true, true, true, true, true, true, true, true, true, true, true, true, true, true, true, true, false, false, false, false, false, false, false, false, false, false, false]) HE238 HS234 rfl (by kernel_rfl) (by kernel_rfl) (by kernel_rfl) (fun _ _ _ h => h) rfl (wt0 rfl) (x_move rfl) rfl rfl fun a_239 HE240 => ?_
                    rcases Bool.eq_false_or_eq_true ((rowB e30.2.2.1 a0.1 0 (a0.2.1 - 1))) with hc38 | hc38
                    · refine dr_take (i := 33) (ls' := #[true, true, true, true, true, true, true, true, true, true, true, true, true, true, true, true, true, true, true, true, true, true, true, true, true, true, true, true, true, true, true, true, true, true, false, false, false, false, false, false, false, false, false, false]) HE240 HS234 rfl (by kernel_rfl) (by kernel_rfl) (by kernel_rfl) (fun _ _ _ h => h) rfl (wtT HE240 rfl rfl rfl (not_f hc38)) (x_move rfl) rfl rfl fun a_241 HE242 => ?_
                      refine dr_take (i := 34) (ls' := #[true, true, true, true, true, true, true, true, true, true, true, true, true, true, true, true, true, true, true, true, true, true, true, true, true, true, true, true, true, true, true, true, true, true, true, false, false, false, false, false, false, false, false, false]) HE242 HS234 rfl (by kernel_rfl) (by kernel_rfl) (by kernel_rfl) (fun _ _ _ h => h) rfl (wtT HE242 rfl rfl rfl (not_f hc38)) (x_nilCheck rfl) rfl rfl fun a_243 HE244 => ?_
                      refine dr_take (i := 35) (ls' := #[true, true, true, true, true, true, true, true, true, true, true, true, true, true, true, true, true, true, true, true, true, true, true, true, true, true, true, true, true, true, true, true, true, true, true, true, false, false, false, false, false, false, false, false]) HE244 HS234 rfl (by kernel_rfl) (by kernel_rfl) (by kernel_rfl) (fun _ _ _ h => h) rfl (wtT HE244 rfl rfl rfl (not_f hc38)) (x_fieldAddr fa_123_3 rfl) rfl rfl fun a_245 HE246 => ?_
                      refine dr_take (i := 36) (ls' := #[true, true, true, true, true, true, true, true, true, true, true, true, true, true, true, true, true, true, true, true, true, true, true, true, true, true, true, true, true, true, true, true, true, true, true, true, true, false, false, false, false, false, false, false]) HE246 HS234 rfl (by kernel_rfl) (by kernel_rfl) (by kernel_rfl) (fun _ _ _ h => h) rfl (wtT HE246 rfl rfl rfl (not_f hc38)) (x_load1 tv_25 rfl (c_old (De30 3 _ rfl))) rfl rfl fun a_247 HE248 => ?_
                      refine dr_take (i := 37) (ls' := #[true, true, true, true, true, true, true, true, true, true, true, true, true, true, true, true, true, true, true, true, true, true, true, true, true, true, true, true, true, true, true, true, true, true, true, true, true, true, false, false, false, false, false, false]) HE248 HS234 rfl (by kernel_rfl) (by kernel_rfl) (by kernel_rfl) (fun _ _ _ h => h) rfl (wtT HE248 rfl rfl rfl (not_f hc38)) (x_move rfl) rfl rfl fun a_249 HE250 => ?_
                      refine dr_take (i := 38) (ls' := #[true, true, true, true, true, true, true, true, true, true, true, true, true, true, true, true, true, true, true, true, true, true, true, true, true, true, true, true, true, true, true, true, true, true, true, true, true, true, true, false, false, false, false, false]) HE250 HS234 rfl (by kernel_rfl) (by kernel_rfl) (by kernel_rfl) (fun _ _ _ h => h) rfl (wtT HE250 rfl rfl rfl (not_f hc38)) (x_nilCheck rfl) rfl rfl fun a_251 HE252 => ?_
                      refine dr_take (i := 39) (ls' := #[true, true, true, true, true, true, true, true, true, true, true, true, true, true, true, true, true, true, true, true, true, true, true, true, true, true, true, true, true, true, true, true, true, true, true, true, true, true, true, true, false, false, false, false]) HE252 HS234 rfl (by kernel_rfl) (by kernel_rfl) (by kernel_rfl) (fun _ _ _ h => h) rfl (wtT HE252 rfl rfl rfl (not_f hc38)) (x_fieldAddr fa_68_0 rfl) rfl rfl fun a_253 HE254 => ?_
                      refine dr_take (i := 40) (ls' := #[true, true, true, true, true, true, true, true, true, true, true, true, true, true, true, true, true, true, true, true, true, true, true, true, true, true, true, true, true, true, true, true, true, true, true, true, true, true, true, true, true, false, false, false]) HE254 HS234 rfl (by kernel_rfl) (by kernel_rfl) (by kernel_rfl) (fun _ _ _ h => h) rfl (wtT HE254 rfl rfl rfl (not_f hc38)) (x_load1 tv_2 rfl (c_old (hq0 0 _ rfl))) rfl rfl fun a_255 HE256 => ?_
                      refine dr_one (i := 41) (ls' := #[true, true, true, true, true, true, true, true, true, true, true, true, true, true, true, true, true, true, true, true, true, true, true, true, true, true, true, true, true, true, true, true, true, true, true, true, true, true, true, true, true, true, false, false]) rfl (by kernel_rfl) rfl fun K_257 hK258 => ?_
                      refine st_call HE256 (wtT HE256 rfl rfl rfl (not_f hc38)) rfl rfl rfl en_146 rfl rfl (spec_l06RowE _ _ e30.2.2.2.1 a0.1 (-1) 1 _ (HH231.old ge30_3)) fun e w' hr => ?_
                      obtain ⟨rfl, hbr39⟩ := hr
                      have HH259 := HH231.on hbr39
                      refine ⟨_, rfl, fun a_260 HE261 => hK258 _ _ (by exact HH259.sel [] (by decide) rfl) ?_⟩
                      have HS262 := HH259.sel [] (by decide) rfl
                      refine dr_take (i := 42) (ls' := #[true, true, true, true, true, true, true, true, true, true, true, true, true, true, true, true, true, true, true, true, true, true, true, true, true, true, true, true, true, true, true, true, true, true, true, true, true, true, true, true, true, true, true, false]) HE261 HS262 rfl (by kernel_rfl) (by kernel_rfl) (by kernel_rfl) (fun _ _ _ h => h) rfl (wtT HE261 rfl rfl rfl (not_f hc38)) (x_not rfl) rfl rfl fun a_263 HE264 => ?_
                      refine dr_take (i := 43) (ls' := #[true, true, true, true, true, true, true, true, true, true, true, true, true, true, true, true, true, true, true, true, true, true, true, true, true, true, true, true, true, true, true, true, true, true, true, true, true, true, true, true, true, true, true, true]) HE264 HS262 rfl (by kernel_rfl) (by kernel_rfl) (by kernel_rfl) (fun _ _ _ h => h) rfl (wt0 rfl) (x_pickF rfl (not_f hc38) rfl) rfl rfl fun a_265 HE266 => ?_
                      refine dr_done (by kernel_rfl) ?_
                      clear HH107 HS158 a_161 HE162 a_167 HE168 a_169 HE170 a_171 HE172 a_173 HE174 a_175 HE176 a_177 HE178 a_179 HE180 a_181 HE182 a_183 HE184 a_185 HE186 a_187 HE188 a_189 HE190 HH165 a_191 HE192 HS166 a_196 HE197 a_199 HE200 a_201 HE202 a_203 HE204 a_205 HE206 a_207 HE208 a_209 HE210 a_211 HE212 a_213 HE214 a_215 HE216 a_217 HE218 a_219 HE220 a_221 HE222 a_223 HE224 a_225 HE226 K_193 hK194 HH195 a_227 HE228 HS198 a_232 HE233 a_235 HE236 a_237 HE238 a_239 HE240 a_241 HE242 a_243 HE244 a_245 HE246 a_247 HE248 a_249 HE250 a_251 HE252 a_253 HE254 K_229 hK230 HH231 a_255 HE256 HS234 a_260 HE261 a_263 HE264 hK258 K_257
                      refine nrm ?_
                      refine cnd_nb HE266 rfl (fun hc40 => ?_) (fun hc40 => ?_)
                      · refine wp_seq ?_
                        refine rg ?_
                        refine pl_x HE266 HH259 (wt0 rfl) (x_assign rfl) rfl rfl fun a_267 HE268 => ?_
                        refine wpList_nil ?_
                        clear a_265 HE266
                        refine nrm ?_
                        refine wp_ret ?_
                        refine (thn_ret (blk_ret (thn_ret (thn_ret (blk_ret (thn_ret ?_))))))
                        refine ret1 HE268 rfl (rv_tmp rfl) ?_
                        have hF : (validMulti a0) = false := by
                          first | (simp [validMulti, hc22, hc24, hc26, hc27, p28_0, p28_1, hc29, xe30, hc32, hc34, hc36, hc38, hc40]; done) | (unfold validMulti; rw [decide_eq_false (by omega)]; simp) | (unfold validMulti; rw [rg_hit (by omega : k < a0.2.2.2.length) (by unfold badMR; grind [beforeMR, validMR, rowB])]; simp) | (have hq := p28_1; rw [show k = a0.2.2.2.length from by omega] at hq; unfold validMulti; rw [hq, decide_eq_true (by omega)]; simp [hc22, hc24, hc26, hc27, p28_0, p28_1, hc29, xe30, hc32, hc34, hc36, hc38, hc40])
                        exact ⟨by first | (rw [hF] <;> rfl) | rfl | (rw [hF]; simp only [Ending.returned.injEq, Value.slice.injEq, true_and, and_true]; first | omega | (simp; done)) | (rw [hF]; simp; omega), HH259.below⟩
                      · refine wp_skip ?_
                        refine nrm ?_
                        refine wp_seq ?_
                        refine rg ?_
                        refine pl_x HE266 HH259 (wt0 rfl) (x_move rfl) rfl rfl fun a_269 HE270 => ?_
                        refine pl_x HE270 HH259 (wt0 rfl) (x_gtr rfl rfl) rfl rfl fun a_271 HE272 => ?_
                        refine pl_x HE272 HH259 (wt0 rfl) (x_move rfl) rfl rfl fun a_273 HE274 => ?_
                        by_cases hc41 : 0 < (k : Int)
                        · refine pl_x HE274 HH259 (wtT HE274 rfl rfl rfl (decide_eq_true hc41)) (x_move rfl) rfl rfl fun a_275 HE276 => ?_
                          refine pl_x HE276 HH259 (wtT HE276 rfl rfl rfl (decide_eq_true hc41)) (x_nilCheck rfl) rfl rfl fun a_277 HE278 => ?_
                          refine pl_x HE278 HH259 (wtT HE278 rfl rfl rfl (decide_eq_true hc41)) (x_fieldAddr fa_68_3 rfl) rfl rfl fun a_279 HE280 => ?_
                          refine pl_x HE280 HH259 (wtT HE280 rfl rfl rfl (decide_eq_true hc41)) (x_load1 tv_66 rfl (c_old (hq0 3 _ rfl))) rfl rfl fun a_281 HE282 => ?_
                          refine pl_x HE282 HH259 (wtT HE282 rfl rfl rfl (decide_eq_true hc41)) (x_move rfl) rfl rfl fun a_283 HE284 => ?_
                          refine pl_x HE284 HH259 (wtT HE284 rfl rfl rfl (decide_eq_true hc41)) (x_sub rfl rfl (by exact ⟨by omega, by omega⟩)) rfl rfl fun a_285 HE286 => ?_
                          have ke42 : (k - 1) < a0.2.2.2.length := by omega
                          obtain ⟨be42, fe42, ese42, Ae42, Re42, De42⟩ := el_old gz0_3 ke42
                          obtain ⟨e42, xe42⟩ : ∃ x_, x_ = a0.2.2.2[(k - 1)] := ⟨_, rfl⟩
                          rw [← xe42] at Re42
                          have Qe42 := Re42
                          obtain ⟨Ae42_1, ce42_1, Ae42_2, ce42_2, Ae42_3, ce42_3, rfl, ge42_0, ge42_1, ge42_2, ge42_3, ge42_4⟩ := shape_MultiRule Re42
                          have je42_0 := ge42_0; unfold I64 at je42_0
                          have le42_1 := ge42_1.len
                          have le42_2 := ge42_2.len
                          have le42_3 := ge42_3.len
                          have je42_4 := ge42_4; unfold I64 at je42_4
                          have ge42 : a0.2.2.2[(k - 1)]?.getD default = e42 := by rw [List.getElem?_eq_getElem ke42, xe42]; rfl
                          refine pl_x HE286 HH259 (wtT HE286 rfl rfl rfl (decide_eq_true hc41)) (x_indexAddr ts_66 rfl rfl Ae42 (by omega) ke42) rfl rfl fun a_287 HE288 => ?_
                          refine pl_x HE288 HH259 (wtT HE288 rfl rfl rfl (decide_eq_true hc41)) (x_move rfl) rfl rfl fun a_289 HE290 => ?_
                          refine pl fun K_291 hK292 => ?_
                          refine st_call HE290 (wtT HE290 rfl rfl rfl (decide_eq_true hc41)) rfl rfl rfl en_147 rfl rfl (spec_l06Before _ _ _ e42 _ _ _ e30 _ (HH259.oldR Qe42) (c_oldN De42 _ HH259) (HH259.oldR Qe30) (c_oldN De30 _ HH259)) fun e w' hr => ?_
                          obtain ⟨rfl, hbr43⟩ := hr
                          have HH293 := HH259.on hbr43
                          refine ⟨_, rfl, fun a_294 HE295 => hK292 _ _ ?_⟩
                          refine pl_x HE295 HH293 (wtT HE295 rfl rfl rfl (decide_eq_true hc41)) (x_not rfl) rfl rfl fun a_296 HE297 => ?_
                          refine pl_x HE297 HH293 (wt0 rfl) (x_pickT rfl (decide_eq_true hc41) rfl) rfl rfl fun a_298 HE299 => ?_
                          refine wpList_nil ?_
                          clear a_265 HE266 a_269 HE270 a_271 HE272 a_273 HE274 a_275 HE276 a_277 HE278 a_279 HE280 a_281 HE282 a_283 HE284 a_285 HE286 a_287 HE288 HH259 a_289 HE290 a_294 HE295 a_296 HE297 hK292 K_291
                          refine nrm ?_
                          refine cnd_nb HE299 rfl (fun hc44 => ?_) (fun hc44 => ?_)
                          · refine wp_seq ?_
                            refine rg ?_
                            refine pl_x HE299 HH293 (wt0 rfl) (x_assign rfl) rfl rfl fun a_300 HE301 => ?_
                            refine wpList_nil ?_
                            clear a_298 HE299
                            refine nrm ?_
                            refine wp_ret ?_
                            refine (blk_ret (thn_ret (thn_ret (blk_ret (thn_ret ?_)))))
                            refine ret1 HE301 rfl (rv_tmp rfl) ?_
                            have hF : (validMulti a0) = false := by
                              first | (simp [validMulti, hc22, hc24, hc26, hc27, p28_0, p28_1, hc29, xe30, hc32, hc34, hc36, hc38, hc40, hc41, xe42, hc44]; done) | (unfold validMulti; rw [decide_eq_false (by omega)]; simp) | (unfold validMulti; rw [rg_hit (by omega : k < a0.2.2.2.length) (by unfold badMR; grind [beforeMR, validMR, rowB])]; simp) | (have hq := p28_1; rw [show k = a0.2.2.2.length from by omega] at hq; unfold validMulti; rw [hq, decide_eq_true (by omega)]; simp [hc22, hc24, hc26, hc27, p28_0, p28_1, hc29, xe30, hc32, hc34, hc36, hc38, hc40, hc41, xe42, hc44])
                            exact ⟨by first | (rw [hF] <;> rfl) | rfl | (rw [hF]; simp only [Ending.returned.injEq, Value.slice.injEq, true_and, and_true]; first | omega | (simp; done)) | (rw [hF]; simp; omega), HH293.below⟩
                          · refine wp_skip ?_
                            refine blk_n ?_
                            refine nrm ?_
                            refine rg ?_
                            refine pl_x HE299 HH293 (wt0 rfl) (x_move rfl) rfl rfl fun a_302 HE303 => ?_
                            refine pl_x HE303 HH293 (wt0 rfl) (x_add rfl rfl (by exact ⟨by omega, by omega⟩)) rfl rfl fun a_304 HE305 => ?_
                            refine pl_x HE305 HH293 (wt0 rfl) (x_assign rfl) rfl rfl fun a_306 HE307 => ?_
                            refine wpList_nil ?_
                            clear a_298 HE299 a_302 HE303 a_304 HE305
                            exact nrm ⟨a0.2.2.2.length - (k + 1), (by omega), k + 1, rfl, HE307.sub ⟨(lkI rfl (by first | rfl | omega | (simp [hc22, hc24, hc26, hc27, p28_0, p28_1, hc29, xe30, hc32, hc34, hc36, hc38, hc40, hc41, xe42, hc44]; done))), rfl, trivial⟩, (HH293.sel [] (by decide) rfl), (by first | omega | assumption | (simp; done) | simp_all), (by exact rg_step p28_1 (by unfold badMR; grind [beforeMR, validMR, rowB]))⟩
                        · refine pl_no HE274 (wtF HE274 rfl rfl rfl (decide_eq_false hc41)) rfl rfl fun a_308 HE309 => ?_
                          refine pl_no HE309 (wtF HE309 rfl rfl rfl (decide_eq_false hc41)) rfl rfl fun a_310 HE311 => ?_
                          refine pl_no HE311 (wtF HE311 rfl rfl rfl (decide_eq_false hc41)) rfl rfl fun a_312 HE313 => ?_
                          refine pl_no HE313 (wtF HE313 rfl rfl rfl (decide_eq_false hc41)) rfl rfl fun a_314 HE315 => ?_
                          refine pl_no HE315 (wtF HE315 rfl rfl rfl (decide_eq_false hc41)) rfl rfl fun a_316 HE317 => ?_
                          refine pl_no HE317 (wtF HE317 rfl rfl rfl (decide_eq_false hc41)) rfl rfl fun a_318 HE319 => ?_
                          refine pl_no HE319 (wtF HE319 rfl rfl rfl (decide_eq_false hc41)) rfl rfl fun a_320 HE321 => ?_
                          refine pl_no HE321 (wtF HE321 rfl rfl rfl (decide_eq_false hc41)) rfl rfl fun a_322 HE323 => ?_
                          refine pl_no HE323 (wtF HE323 rfl rfl rfl (decide_eq_false hc41)) rfl rfl fun a_324 HE325 => ?_
                          refine pl_no HE325 (wtF HE325 rfl rfl rfl (decide_eq_false hc41)) rfl rfl fun a_326 HE327 => ?_
                          refine pl_x HE327 HH259 (wt0 rfl) (x_pickF rfl (decide_eq_false hc41) rfl) rfl rfl fun a_328 HE329 => ?_
                          refine wpList_nil ?_
                          clear a_265 HE266 a_269 HE270 a_271 HE272 a_273 HE274 a_308 HE309 a_310 HE311 a_312 HE313 a_314 HE315 a_316 HE317 a_318 HE319 a_320 HE321 a_322 HE323 a_324 HE325 a_326 HE327
                          refine nrm ?_
                          refine cndF HE329 rfl rfl ?_
                          refine wp_skip ?_
                          refine blk_n ?_
                          refine nrm ?_
                          refine rg ?_
                          refine pl_x HE329 HH259 (wt0 rfl) (x_move rfl) rfl rfl fun a_330 HE331 => ?_
                          refine pl_x HE331 HH259 (wt0 rfl) (x_add rfl rfl (by exact ⟨by omega, by omega⟩)) rfl rfl fun a_332 HE333 => ?_
                          refine pl_x HE333 HH259 (wt0 rfl) (x_assign rfl) rfl rfl fun a_334 HE335 => ?_
                          refine wpList_nil ?_
                          clear a_328 HE329 a_330 HE331 a_332 HE333
                          exact nrm ⟨a0.2.2.2.length - (k + 1), (by omega), k + 1, rfl, HE335.sub ⟨(lkI rfl (by first | rfl | omega | (simp [hc22, hc24, hc26, hc27, p28_0, p28_1, hc29, xe30, hc32, hc34, hc36, hc38, hc40, hc41]; done))), rfl, trivial⟩, (HH259.sel [] (by decide) rfl), (by first | omega | assumption | (simp; done) | simp_all), (by exact rg_step p28_1 (by unfold badMR; grind [beforeMR, validMR, rowB]))⟩
                    · refine dr_takeNo (i := 33) (ls' := #[true, true, true, true, true, true, true, true, true, true, true, true, true, true, true, true, true, true, true, true, true, true, true, true, true, true, true, true, true, true, true, true, true, true, false, false, false, false, false, false, false, false, false, false]) HE240 HS234 rfl (by kernel_rfl) (by kernel_rfl) (by kernel_rfl) (fun _ _ _ h => h) rfl (wtF HE240 rfl rfl rfl (not_t hc38)) rfl rfl fun a_336 HE337 => ?_
                      refine dr_takeNo (i := 34) (ls' := #[true, true, true, true, true, true, true, true, true, true, true, true, true, true, true, true, true, true, true, true, true, true, true, true, true, true, true, true, true, true, true, true, true, true, true, false, false, false, false, false, false, false, false, false]) HE337 HS234 rfl (by kernel_rfl) (by kernel_rfl) (by kernel_rfl) (fun _ _ _ h => h) rfl (wtF HE337 rfl rfl rfl (not_t hc38)) rfl rfl fun a_338 HE339 => ?_
                      refine dr_takeNo (i := 35) (ls' := #[true, true, true, true, true, true, true, true, true, true, true, true, true, true, true, true, true, true, true, true, true, true, true, true, true, true, true, true, true, true, true, true, true, true, true, true, false, false, false, false, false, false, false, false]) HE339 HS234 rfl (by kernel_rfl) (by kernel_rfl) (by kernel_rfl) (fun _ _ _ h => h) rfl (wtF HE339 rfl rfl rfl (not_t hc38)) rfl rfl fun a_340 HE341 => ?_
                      refine dr_takeNo (i := 36) (ls' := #[true, true, true, true, true, true, true, true, true, true, true, true, true, true, true, true, true, true, true, true, true, true, true, true, true, true, true, true, true, true, true, true, true, true, true, true, true, false, false, false, false, false, false, false]) HE341 HS234 rfl (by kernel_rfl) (by kernel_rfl) (by kernel_rfl) (fun _ _ _ h => h) rfl (wtF HE341 rfl rfl rfl (not_t hc38)) rfl rfl fun a_342 HE343 => ?_
                      refine dr_takeNo (i := 37) (ls' := #[true, true, true, true, true, true, true, true, true, true, true, true, true, true, true, true, true, true, true, true, true, true, true, true, true, true, true, true, true, true, true, true, true, true, true, true, true, true, false, false, false, false, false, false]) HE343 HS234 rfl (by kernel_rfl) (by kernel_rfl) (by kernel_rfl) (fun _ _ _ h => h) rfl (wtF HE343 rfl rfl rfl (not_t hc38)) rfl rfl fun a_344 HE345 => ?_
                      refine dr_takeNo (i := 38) (ls' := #[true, true, true, true, true, true, true, true, true, true, true, true, true, true, true, true, true, true, true, true, true, true, true, true, true, true, true, true, true, true, true, true, true, true, true, true, true, true, true, false, false, false, false, false]) HE345 HS234 rfl (by kernel_rfl) (by kernel_rfl) (by kernel_rfl) (fun _ _ _ h => h) rfl (wtF HE345 rfl rfl rfl (not_t hc38)) rfl rfl fun a_346 HE347 => ?_
                      refine dr_takeNo (i := 39) (ls' := #[true, true, true, true, true, true, true, true, true, true, true, true, true, true, true, true, true, true, true, true, true, true, true, true, true, true, true, true, true, true, true, true, true, true, true, true, true, true, true, true, false, false, false, false]) HE347 HS234 rfl (by kernel_rfl) (by kernel_rfl) (by kernel_rfl) (fun _ _ _ h => h) rfl (wtF HE347 rfl rfl rfl (not_t hc38)) rfl rfl fun a_348 HE349 => ?_
                      refine dr_takeNo (i := 40) (ls' := #[true, true, true, true, true, true, true, true, true, true, true, true, true, true, true, true, true, true, true, true, true, true, true, true, true, true, true, true, true, true, true, true, true, true, true, true, true, true, true, true, true, false, false, false]) HE349 HS234 rfl (by kernel_rfl) (by kernel_rfl) (by kernel_rfl) (fun _ _ _ h => h) rfl (wtF HE349 rfl rfl rfl (not_t hc38)) rfl rfl fun a_350 HE351 => ?_
                      refine dr_takeNo (i := 41) (ls' := #[true, true, true, true, true, true, true, true, true, true, true, true, true, true, true, true, true, true, true, true, true, true, true, true, true, true, true, true, true, true, true, true, true, true, true, true, true, true, true, true, true, true, false, false]) HE351 HS234 rfl (by kernel_rfl) (by kernel_rfl) (by kernel_rfl) (fun _ _ _ h => h) rfl (wtF HE351 rfl rfl rfl (not_t hc38)) rfl rfl fun a_352 HE353 => ?_
                      refine dr_takeNo (i := 42) (ls' := #[true, true, true, true, true, true, true, true, true, true, true, true, true, true, true, true, true, true, true, true, true, true, true, true, true, true, true, true, true, true, true, true, true, true, true, true, true, true, true, true, true, true, true, false]) HE353 HS234 rfl (by kernel_rfl) (by kernel_rfl) (by kernel_rfl) (fun _ _ _ h => h) rfl (wtF HE353 rfl rfl rfl (not_t hc38)) rfl rfl fun a_354 HE355 => ?_
                      refine dr_take (i := 43) (ls' := #[true, true, true, true, true, true, true, true, true, true, true, true, true, true, true, true, true, true, true, true, true, true, true, true, true, true, true, true, true, true, true, true, true, true, true, true, true, true, true, true, true, true, true, true]) HE355 HS234 rfl (by kernel_rfl) (by kernel_rfl) (by kernel_rfl) (fun _ _ _ h => h) rfl (wt0 rfl) (x_pickT rfl (not_t hc38) rfl) rfl rfl fun a_356 HE357 => ?_
                      refine dr_done (by kernel_rfl) ?_
                      clear HH107 HS158 a_161 HE162 a_167 HE168 a_169 HE170 a_171 HE172 a_173 HE174 a_175 HE176 a_177 HE178 a_179 HE180 a_181 HE182 a_183 HE184 a_185 HE186 a_187 HE188 a_189 HE190 HH165 a_191 HE192 HS166 a_196 HE197 a_199 HE200 a_201 HE202 a_203 HE204 a_205 HE206 a_207 HE208 a_209 HE210 a_211 HE212 a_213 HE214 a_215 HE216 a_217 HE218 a_219 HE220 a_221 HE222 a_223 HE224 a_225 HE226 K_193 hK194 HH195 a_227 HE228 HS198 a_232 HE233 a_235 HE236 a_237 HE238 a_239 HE240 a_336 HE337 a_338 HE339 a_340 HE341 a_342 HE343 a_344 HE345 a_346 HE347 a_348 HE349 a_350 HE351 a_352 HE353 a_354 HE355 hK230 K_229
                      refine nrm ?_
                      refine cndT HE357 rfl rfl ?_
                      refine wp_seq ?_
                      refine rg ?_
                      refine pl_x HE357 HH231 (wt0 rfl) (x_assign rfl) rfl rfl fun a_358 HE359 => ?_
                      refine wpList_nil ?_
                      clear a_356 HE357
                      refine nrm ?_
                      refine wp_ret ?_
                      refine (thn_ret (blk_ret (thn_ret (thn_ret (blk_ret (thn_ret ?_))))))
                      refine ret1 HE359 rfl (rv_tmp rfl) ?_
                      have hF : (validMulti a0) = false := by
                        first | (simp [validMulti, hc22, hc24, hc26, hc27, p28_0, p28_1, hc29, xe30, hc32, hc34, hc36, hc38]; done) | (unfold validMulti; rw [decide_eq_false (by omega)]; simp) | (unfold validMulti; rw [rg_hit (by omega : k < a0.2.2.2.length) (by unfold badMR; grind [beforeMR, validMR, rowB])]; simp) | (have hq := p28_1; rw [show k = a0.2.2.2.length from by omega] at hq; unfold validMulti; rw [hq, decide_eq_true (by omega)]; simp [hc22, hc24, hc26, hc27, p28_0, p28_1, hc29, xe30, hc32, hc34, hc36, hc38])
                      exact ⟨by first | (rw [hF] <;> rfl) | rfl | (rw [hF]; simp only [Ending.returned.injEq, Value.slice.injEq, true_and, and_true]; first | omega | (simp; done)) | (rw [hF]; simp; omega), HH231.below⟩
                  · refine dr_takeNo (i := 16) (ls' := #[true, true, true, true, true, true, true, true, true, true, true, true, true, true, true, true, true, false, false, false, false, false, false, false, false, false, false, false, false, false, false, false, false, false, false, false, false, false, false, false, false, false, false, false]) HE202 HS198 rfl (by kernel_rfl) (by kernel_rfl) (by kernel_rfl) (fun _ _ _ h => h) rfl (wtF HE202 rfl rfl rfl (not_t hc36)) rfl rfl fun a_360 HE361 => ?_
                    refine dr_takeNo (i := 17) (ls' := #[true, true, true, true, true, true, true, true, true, true, true, true, true, true, true, true, true, true, false, false, false, false, false, false, false, false, false, false, false, false, false, false, false, false, false, false, false, false, false, false, false, false, false, false]) HE361 HS198 rfl (by kernel_rfl) (by kernel_rfl) (by kernel_rfl) (fun _ _ _ h => h) rfl (wtF HE361 rfl rfl rfl (not_t hc36)) rfl rfl fun a_362 HE363 => ?_
                    refine dr_takeNo (i := 18) (ls' := #[true, true, true, true, true, true, true, true, true, true, true, true, true, true, true, true, true, true, true, false, false, false, false, false, false, false, false, false, false, false, false, false, false, false, false, false, false, false, false, false, false, false, false, false]) HE363 HS198 rfl (by kernel_rfl) (by kernel_rfl) (by kernel_rfl) (fun _ _ _ h => h) rfl (wtF HE363 rfl rfl rfl (not_t hc36)) rfl rfl fun a_364 HE365 => ?_
                    refine dr_takeNo (i := 19) (ls' := #[true, true, true, true, true, true, true, true, true, true, true, true, true, true, true, true, true, true, true, true, false, false, false, false, false, false, false, false, false, false, false, false, false, false, false, false, false, false, false, false, false, false, false, false]) HE365 HS198 rfl (by kernel_rfl) (by kernel_rfl) (by kernel_rfl) (fun _ _ _ h => h) rfl (wtF HE365 rfl rfl rfl (not_t hc36)) rfl rfl fun a_366 HE367 => ?_
                    refine dr_takeNo (i := 20) (ls' := #[true, true, true, true, true, true, true, true, true, true, true, true, true, true, true, true, true, true, true, true, true, false, false, false, false, false, false, false, false, false, false, false, false, false, false, false, false, false, false, false, false, false, false, false]) HE367 HS198 rfl (by kernel_rfl) (by kernel_rfl) (by kernel_rfl) (fun _ _ _ h => h) rfl (wtF HE367 rfl rfl rfl (not_t hc36)) rfl rfl fun a_368 HE369 => ?_
                    refine dr_takeNo (i := 21) (ls' := #[true, true, true, true, true, true, true, true, true, true, true, true, true, true, true, true, true, true, true, true, true, true, false, false, false, false, false, false, false, false, false, false, false, false, false, false, false, false, false, false, false, false, false, false]) HE369 HS198 rfl (by kernel_rfl) (by kernel_rfl) (by kernel_rfl) (fun _ _ _ h => h) rfl (wtF HE369 rfl rfl rfl (not_t hc36)) rfl rfl fun a_370 HE371 => ?_
                    refine dr_takeNo (i := 22) (ls' := #[true, true, true, true, true, true, true, true, true, true, true, true, true, true, true, true, true, true, true, true, true, true, true, false, false, false, false, false, false, false, false, false, false, false, false, false, false, false, false, false, false, false, false, false]) HE371 HS198 rfl (by kernel_rfl) (by kernel_rfl) (by kernel_rfl) (fun _ _ _ h => h) rfl (wtF HE371 rfl rfl rfl (not_t hc36)) rfl rfl fun a_372 HE373 => ?_
                    refine dr_takeNo (i := 23) (ls' := #[true, true, true, true, true, true, true, true, true, true, true, true, true, true, true, true, true, true, true, true, true, true, true, true, false, false, false, false, false, false, false, false, false, false, false, false, false, false, false, false, false, false, false, false]) HE373 HS198 rfl (by kernel_rfl) (by kernel_rfl) (by kernel_rfl) (fun _ _ _ h => h) rfl (wtF HE373 rfl rfl rfl (not_t hc36)) rfl rfl fun a_374 HE375 => ?_
                    refine dr_takeNo (i := 24) (ls' := #[true, true, true, true, true, true, true, true, true, true, true, true, true, true, true, true, true, true, true, true, true, true, true, true, true, false, false, false, false, false, false, false, false, false, false, false, false, false, false, false, false, false, false, false]) HE375 HS198 rfl (by kernel_rfl) (by kernel_rfl) (by kernel_rfl) (fun _ _ _ h => h) rfl (wtF HE375 rfl rfl rfl (not_t hc36)) rfl rfl fun a_376 HE377 => ?_
                    refine dr_takeNo (i := 25) (ls' := #[true, true, true, true, true, true, true, true, true, true, true, true, true, true, true, true, true, true, true, true, true, true, true, true, true, true, false, false, false, false, false, false, false, false, false, false, false, false, false, false, false, false, false, false]) HE377 HS198 rfl (by kernel_rfl) (by kernel_rfl) (by kernel_rfl) (fun _ _ _ h => h) rfl (wtF HE377 rfl rfl rfl (not_t hc36)) rfl rfl fun a_378 HE379 => ?_
                    refine dr_takeNo (i := 26) (ls' := #[true, true, true, true, true, true, true, true, true, true, true, true, true, true, true, true, true, true, true, true, true, true, true, true, true, true, true, false, false, false, false, false, false, false, false, false, false, false, false, false, false, false, false, false]) HE379 HS198 rfl (by kernel_rfl) (by kernel_rfl) (by kernel_rfl) (fun _ _ _ h => h) rfl (wtF HE379 rfl rfl rfl (not_t hc36)) rfl rfl fun a_380 HE381 => ?_
                    refine dr_takeNo (i := 27) (ls' := #[true, true, true, true, true, true, true, true, true, true, true, true, true, true, true, true, true, true, true, true, true, true, true, true, true, true, true, true, false, false, false, false, false, false, false, false, false, false, false, false, false, false, false, false]) HE381 HS198 rfl (by kernel_rfl) (by kernel_rfl) (by kernel_rfl) (fun _ _ _ h => h) rfl (wtF HE381 rfl rfl rfl (not_t hc36)) rfl rfl fun a_382 HE383 => ?_
                    refine dr_takeNo (i := 28) (ls' := #[true, true, true, true, true, true, true, true, true, true, true, true, true, true, true, true, true, true, true, true, true, true, true, true, true, true, true, true, true, false, false, false, false, false, false, false, false, false, false, false, false, false, false, false]) HE383 HS198 rfl (by kernel_rfl) (by kernel_rfl) (by kernel_rfl) (fun _ _ _ h => h) rfl (wtF HE383 rfl rfl rfl (not_t hc36)) rfl rfl fun a_384 HE385 => ?_
                    refine dr_takeNo (i := 29) (ls' := #[true, true, true, true, true, true, true, true, true, true, true, true, true, true, true, true, true, true, true, true, true, true, true, true, true, true, true, true, true, true, false, false, false, false, false, false, false, false, false, false, false, false, false, false]) HE385 HS198 rfl (by kernel_rfl) (by kernel_rfl) (by kernel_rfl) (fun _ _ _ h => h) rfl (wtF HE385 rfl rfl rfl (not_t hc36)) rfl rfl fun a_386 HE387 => ?_
                    refine dr_takeNo (i := 30) (ls' := #[true, true, true, true, true, true, true, true, true, true, true, true, true, true, true, true, true, true, true, true, true, true, true, true, true, true, true, true, true, true, true, false, false, false, false, false, false, false, false, false, false, false, false, false]) HE387 HS198 rfl (by kernel_rfl) (by kernel_rfl) (by kernel_rfl) (fun _ _ _ h => h) rfl (wtF HE387 rfl rfl rfl (not_t hc36)) rfl rfl fun a_388 HE389 => ?_
                    refine dr_take (i := 31) (ls' := #[true, true, true, true, true, true, true, true, true, true, true, true, true, true, true, true, true, true, true, true, true, true, true, true, true, true, true, true, true, true, true, true, false, false, false, false, false, false, false, false, false, false, false, false]) HE389 HS198 rfl (by kernel_rfl) (by kernel_rfl) (by kernel_rfl) (fun _ _ _ h => h) rfl (wt0 rfl) (x_pickT rfl (not_t hc36) rfl) rfl rfl fun a_390 HE391 => ?_
                    refine dr_take (i := 32) (ls' := #[true, true, true, true, true, true, true, true, true, true, true, true, true, true, true, true, true, true, true, true, true, true, true, true, true, true, true, true, true, true, true, true, true, false, false, false, false, false, false, false, false, false, false, false]) HE391 HS198 rfl (by kernel_rfl) (by kernel_rfl) (by kernel_rfl) (fun _ _ _ h => h) rfl (wt0 rfl) (x_move rfl) rfl rfl fun a_392 HE393 => ?_
                    refine dr_takeNo (i := 33) (ls' := #[true, true, true, true, true, true, true, true, true, true, true, true, true, true, true, true, true, true, true, true, true, true, true, true, true, true, true, true, true, true, true, true, true, true, false, false, false, false, false, false, false, false, false, false]) HE393 HS198 rfl (by kernel_rfl) (by kernel_rfl) (by kernel_rfl) (fun _ _ _ h => h) rfl (wtF HE393 rfl rfl rfl rfl) rfl rfl fun a_394 HE395 => ?_
                    refine dr_takeNo (i := 34) (ls' := #[true, true, true, true, true, true, true, true, true, true, true, true, true, true, true, true, true, true, true, true, true, true, true, true, true, true, true, true, true, true, true, true, true, true, true, false, false, false, false, false, false, false, false, false]) HE395 HS198 rfl (by kernel_rfl) (by kernel_rfl) (by kernel_rfl) (fun _ _ _ h => h) rfl (wtF HE395 rfl rfl rfl rfl) rfl rfl fun a_396 HE397 => ?_
                    refine dr_takeNo (i := 35) (ls' := #[true, true, true, true, true, true, true, true, true, true, true, true, true, true, true, true, true, true, true, true, true, true, true, true, true, true, true, true, true, true, true, true, true, true, true, true, false, false, false, false, false, false, false, false]) HE397 HS198 rfl (by kernel_rfl) (by kernel_rfl) (by kernel_rfl) (fun _ _ _ h => h) rfl (wtF HE397 rfl rfl rfl rfl) rfl rfl fun a_398 HE399 => ?_
                    refine dr_takeNo (i := 36) (ls' := #[true, true, true, true, true, true, true, true, true, true, true, true, true, true, true, true, true, true, true, true, true, true, true, true, true, true, true, true, true, true, true, true, true, true, true, true, true, false, false, false, false, false, false, false]) HE399 HS198 rfl (by kernel_rfl) (by kernel_rfl) (by kernel_rfl) (fun _ _ _ h => h) rfl (wtF HE399 rfl rfl rfl rfl) rfl rfl fun a_400 HE401 => ?_
                    refine dr_takeNo (i := 37) (ls' := #[true, true, true, true, true, true, true, true, true, true, true, true, true, true, true, true, true, true, true, true, true, true, true, true, true, true, true, true, true, true, true, true, true, true, true, true, true, true, false, false, false, false, false, false]) HE401 HS198 rfl (by kernel_rfl) (by kernel_rfl) (by kernel_rfl) (fun _ _ _ h => h) rfl (wtF HE401 rfl rfl rfl rfl) rfl rfl fun a_402 HE403 => ?_
                    refine dr_takeNo (i := 38) (ls' := #[true, true, true, true, true, true, true, true, true, true, true, true, true, true, true, true, true, true, true, true, true, true, true, true, true, true, true, true, true, true, true, true, true, true, true, true, true, true, true, false, false, false, false, false]) HE403 HS198 rfl (by kernel_rfl) (by kernel_rfl) (by kernel_rfl) (fun _ _ _ h => h) rfl (wtF HE403 rfl rfl rfl rfl) rfl rfl fun a_404 HE405 => ?_
                    refine dr_takeNo (i := 39) (ls' := #[true, true, true, true, true, true, true, true, true, true, true, true, true, true, true, true, true, true, true, true, true, true, true, true, true, true, true, true, true, true, true, true, true, true, true, true, true, true, true, true, false, false, false, false]) HE405 HS198 rfl (by kernel_rfl) (by kernel_rfl) (by kernel_rfl) (fun _ _ _ h => h) rfl (wtF HE405 rfl rfl rfl rfl) rfl rfl fun a_406 HE407 => ?_
                    refine dr_takeNo (i := 40) (ls' := #[true, true, true, true, true, true, true, true, true, true, true, true, true, true, true, true, true, true, true, true, true, true, true, true, true, true, true, true, true, true, true, true, true, true, true, true, true, true, true, true, true, false, false, false]) HE407 HS198 rfl (by kernel_rfl) (by kernel_rfl) (by kernel_rfl) (fun _ _ _ h => h) rfl (wtF HE407 rfl rfl rfl rfl) rfl rfl fun a_408 HE409 => ?_
                    refine dr_takeNo (i := 41) (ls' := #[true, true, true, true, true, true, true, true, true, true, true, true, true, true, true, true, true, true, true, true, true, true, true, true, true, true, true, true, true, true, true, true, true, true, true, true, true, true, true, true, true, true, false, false]) HE409 HS198 rfl (by kernel_rfl) (by kernel_rfl) (by kernel_rfl) (fun _ _ _ h => h) rfl (wtF HE409 rfl rfl rfl rfl) rfl rfl fun a_410 HE411 => ?_
                    refine dr_takeNo (i := 42) (ls' := #[true, true, true, true, true, true, true, true, true, true, true, true, true, true, true, true, true, true, true, true, true, true, true, true, true, true, true, true, true, true, true, true, true, true, true, true, true, true, true, true, true, true, true, false]) HE411 HS198 rfl (by kernel_rfl) (by kernel_rfl) (by kernel_rfl) (fun _ _ _ h => h) rfl (wtF HE411 rfl rfl rfl rfl) rfl rfl fun a_412 HE413 => ?_
                    refine dr_take (i := 43) (ls' := #[true, true, true, true, true, true, true, true, true, true, true, true, true, true, true, true, true, true, true, true, true, true, true, true, true, true, true, true, true, true, true, true, true, true, true, true, true, true, true, true, true, true, true, true]) HE413 HS198 rfl (by kernel_rfl) (by kernel_rfl) (by kernel_rfl) (fun _ _ _ h => h) rfl (wt0 rfl) (x_pickT rfl rfl rfl) rfl rfl fun a_414 HE415 => ?_
                    refine dr_done (by kernel_rfl) ?_
                    clear HH107 HS158 a_161 HE162 a_167 HE168 a_169 HE170 a_171 HE172 a_173 HE174 a_175 HE176 a_177 HE178 a_179 HE180 a_181 HE182 a_183 HE184 a_185 HE186 a_187 HE188 a_189 HE190 HH165 a_191 HE192 HS166 a_196 HE197 a_199 HE200 a_201 HE202 a_360 HE361 a_362 HE363 a_364 HE365 a_366 HE367 a_368 HE369 a_370 HE371 a_372 HE373 a_374 HE375 a_376 HE377 a_378 HE379 a_380 HE381 a_382 HE383 a_384 HE385 a_386 HE387 a_388 HE389 a_390 HE391 a_392 HE393 a_394 HE395 a_396 HE397 a_398 HE399 a_400 HE401 a_402 HE403 a_404 HE405 a_406 HE407 a_408 HE409 a_410 HE411 a_412 HE413 hK194 K_193
                    refine nrm ?_
                    refine cndT HE415 rfl rfl ?_
                    refine wp_seq ?_
                    refine rg ?_
                    refine pl_x HE415 HH195 (wt0 rfl) (x_assign rfl) rfl rfl fun a_416 HE417 => ?_
                    refine wpList_nil ?_
                    clear a_414 HE415
                    refine nrm ?_
                    refine wp_ret ?_
                    refine (thn_ret (blk_ret (thn_ret (thn_ret (blk_ret (thn_ret ?_))))))
                    refine ret1 HE417 rfl (rv_tmp rfl) ?_
                    have hF : (validMulti a0) = false := by
                      first | (simp [validMulti, hc22, hc24, hc26, hc27, p28_0, p28_1, hc29, xe30, hc32, hc34, hc36]; done) | (unfold validMulti; rw [decide_eq_false (by omega)]; simp) | (unfold validMulti; rw [rg_hit (by omega : k < a0.2.2.2.length) (by unfold badMR; grind [beforeMR, validMR, rowB])]; simp) | (have hq := p28_1; rw [show k = a0.2.2.2.length from by omega] at hq; unfold validMulti; rw [hq, decide_eq_true (by omega)]; simp [hc22, hc24, hc26, hc27, p28_0, p28_1, hc29, xe30, hc32, hc34, hc36])
                    exact ⟨by first | (rw [hF] <;> rfl) | rfl | (rw [hF]; simp only [Ending.returned.injEq, Value.slice.injEq, true_and, and_true]; first | omega | (simp; done)) | (rw [hF]; simp; omega), HH195.below⟩
              · refine dr_takeNo (i := 12) (ls' := #[true, true, true, true, true, true, true, true, true, true, true, true, true, false, false, false, false, false, false, false, false, false, false, false]) HE135 HS131 rfl (by kernel_rfl) (by kernel_rfl) (by kernel_rfl) (fun _ _ _ h => h) rfl (wtF HE135 rfl rfl rfl (not_t hc32)) rfl rfl fun a_418 HE419 => ?_
                refine dr_takeNo (i := 13) (ls' := #[true, true, true, true, true, true, true, true, true, true, true, true, true, true, false, false, false, false, false, false, false, false, false, false]) HE419 HS131 rfl (by kernel_rfl) (by kernel_rfl) (by kernel_rfl) (fun _ _ _ h => h) rfl (wtF HE419 rfl rfl rfl (not_t hc32)) rfl rfl fun a_420 HE421 => ?_
                refine dr_takeNo (i := 14) (ls' := #[true, true, true, true, true, true, true, true, true, true, true, true, true, true, true, false, false, false, false, false, false, false, false, false]) HE421 HS131 rfl (by kernel_rfl) (by kernel_rfl) (by kernel_rfl) (fun _ _ _ h => h) rfl (wtF HE421 rfl rfl rfl (not_t hc32)) rfl rfl fun a_422 HE423 => ?_
                refine dr_takeNo (i := 15) (ls' := #[true, true, true, true, true, true, true, true, true, true, true, true, true, true, true, true, false, false, false, false, false, false, false, false]) HE423 HS131 rfl (by kernel_rfl) (by kernel_rfl) (by kernel_rfl) (fun _ _ _ h => h) rfl (wtF HE423 rfl rfl rfl (not_t hc32)) rfl rfl fun a_424 HE425 => ?_
                refine dr_takeNo (i := 16) (ls' := #[true, true, true, true, true, true, true, true, true, true, true, true, true, true, true, true, true, false, false, false, false, false, false, false]) HE425 HS131 rfl (by kernel_rfl) (by kernel_rfl) (by kernel_rfl) (fun _ _ _ h => h) rfl (wtF HE425 rfl rfl rfl (not_t hc32)) rfl rfl fun a_426 HE427 => ?_
                refine dr_takeNo (i := 17) (ls' := #[true, true, true, true, true, true, true, true, true, true, true, true, true, true, true, true, true, true, false, false, false, false, false, false]) HE427 HS131 rfl (by kernel_rfl) (by kernel_rfl) (by kernel_rfl) (fun _ _ _ h => h) rfl (wtF HE427 rfl rfl rfl (not_t hc32)) rfl rfl fun a_428 HE429 => ?_
                refine dr_takeNo (i := 18) (ls' := #[true, true, true, true, true, true, true, true, true, true, true, true, true, true, true, true, true, true, true, false, false, false, false, false]) HE429 HS131 rfl (by kernel_rfl) (by kernel_rfl) (by kernel_rfl) (fun _ _ _ h => h) rfl (wtF HE429 rfl rfl rfl (not_t hc32)) rfl rfl fun a_430 HE431 => ?_
                refine dr_takeNo (i := 19) (ls' := #[true, true, true, true, true, true, true, true, true, true, true, true, true, true, true, true, true, true, true, true, false, false, false, false]) HE431 HS131 rfl (by kernel_rfl) (by kernel_rfl) (by kernel_rfl) (fun _ _ _ h => h) rfl (wtF HE431 rfl rfl rfl (not_t hc32)) rfl rfl fun a_432 HE433 => ?_
                refine dr_takeNo (i := 20) (ls' := #[true, true, true, true, true, true, true, true, true, true, true, true, true, true, true, true, true, true, true, true, true, false, false, false]) HE433 HS131 rfl (by kernel_rfl) (by kernel_rfl) (by kernel_rfl) (fun _ _ _ h => h) rfl (wtF HE433 rfl rfl rfl (not_t hc32)) rfl rfl fun a_434 HE435 => ?_
                refine dr_takeNo (i := 21) (ls' := #[true, true, true, true, true, true, true, true, true, true, true, true, true, true, true, true, true, true, true, true, true, true, false, false]) HE435 HS131 rfl (by kernel_rfl) (by kernel_rfl) (by kernel_rfl) (fun _ _ _ h => h) rfl (wtF HE435 rfl rfl rfl (not_t hc32)) rfl rfl fun a_436 HE437 => ?_
                refine dr_takeNo (i := 22) (ls' := #[true, true, true, true, true, true, true, true, true, true, true, true, true, true, true, true, true, true, true, true, true, true, true, false]) HE437 HS131 rfl (by kernel_rfl) (by kernel_rfl) (by kernel_rfl) (fun _ _ _ h => h) rfl (wtF HE437 rfl rfl rfl (not_t hc32)) rfl rfl fun a_438 HE439 => ?_
                refine dr_take (i := 23) (ls' := #[true, true, true, true, true, true, true, true, true, true, true, true, true, true, true, true, true, true, true, true, true, true, true, true]) HE439 HS131 rfl (by kernel_rfl) (by kernel_rfl) (by kernel_rfl) (fun _ _ _ h => h) rfl (wt0 rfl) (x_pickT rfl (not_t hc32) rfl) rfl rfl fun a_440 HE441 => ?_
                refine dr_done (by kernel_rfl) ?_
                clear HH78 a_105 HE106 a_109 HE110 a_111 HE112 a_113 HE114 a_115 HE116 a_117 HE118 a_119 HE120 a_121 HE122 a_123 HE124 a_125 HE126 HS108 a_129 HE130 a_132 HE133 a_134 HE135 a_418 HE419 a_420 HE421 a_422 HE423 a_424 HE425 a_426 HE427 a_428 HE429 a_430 HE431 a_432 HE433 a_434 HE435 a_436 HE437 a_438 HE439 hK128 K_127
                refine nrm ?_
                refine cndT HE441 rfl rfl ?_
                refine wp_seq ?_
                refine rg ?_
                refine pl_x HE441 HH107 (wt0 rfl) (x_assign rfl) rfl rfl fun a_442 HE443 => ?_
                refine wpList_nil ?_
                clear a_440 HE441
                refine nrm ?_
                refine wp_ret ?_
                refine (thn_ret (blk_ret (thn_ret (thn_ret (blk_ret (thn_ret ?_))))))
                refine ret1 HE443 rfl (rv_tmp rfl) ?_
                have hF : (validMulti a0) = false := by
                  first | (simp [validMulti, hc22, hc24, hc26, hc27, p28_0, p28_1, hc29, xe30, hc32]; done) | (unfold validMulti; rw [decide_eq_false (by omega)]; simp) | (unfold validMulti; rw [rg_hit (by omega : k < a0.2.2.2.length) (by unfold badMR; grind [beforeMR, validMR, rowB])]; simp) | (have hq := p28_1; rw [show k = a0.2.2.2.length from by omega] at hq; unfold validMulti; rw [hq, decide_eq_true (by omega)]; simp [hc22, hc24, hc26, hc27, p28_0, p28_1, hc29, xe30, hc32])
                exact ⟨by first | (rw [hF] <;> rfl) | rfl | (rw [hF]; simp only [Ending.returned.injEq, Value.slice.injEq, true_and, and_true]; first | omega | (simp; done)) | (rw [hF]; simp; omega), HH107.below⟩
            · refine wp_exit ?_
              refine (thn_exit (thn_exit (blk_hit ?_)))
              refine nrm ?_
              refine wp_seq ?_
              refine rg ?_
              refine pl_x HE92 HH78 (wt0 rfl) (x_assign rfl) rfl rfl fun a_444 HE445 => ?_
              refine wpList_nil ?_
              clear a_91 HE92
              refine nrm ?_
              refine wp_ret ?_
              refine ret1 HE445 rfl (rv_tmp rfl) ?_
              have hF : (validMulti a0) = true := by
                first | (simp [validMulti, hc22, hc24, hc26, hc27, p28_0, p28_1, hc29]; done) | (unfold validMulti; rw [decide_eq_false (by omega)]; simp) | (unfold validMulti; rw [rg_hit (by omega : k < a0.2.2.2.length) (by unfold badMR; grind [beforeMR, validMR, rowB])]; simp) | (have hq := p28_1; rw [show k = a0.2.2.2.length from by omega] at hq; unfold validMulti; rw [hq, decide_eq_true (by omega)]; simp [hc22, hc24, hc26, hc27, p28_0, p28_1, hc29])
              exact ⟨by first | (rw [hF] <;> rfl) | rfl | (rw [hF]; simp only [Ending.returned.injEq, Value.slice.injEq, true_and, and_true]; first | omega | (simp; done)) | (rw [hF]; simp; omega), HH78.below⟩
      · refine pl_no HE57 (wtF HE57 rfl rfl rfl (not_t hc26)) rfl rfl fun a_446 HE447 => ?_
        refine pl_no HE447 (wtF HE447 rfl rfl rfl (not_t hc26)) rfl rfl fun a_448 HE449 => ?_
        refine pl_no HE449 (wtF HE449 rfl rfl rfl (not_t hc26)) rfl rfl fun a_450 HE451 => ?_
        refine pl_no HE451 (wtF HE451 rfl rfl rfl (not_t hc26)) rfl rfl fun a_452 HE453 => ?_
        refine pl_no HE453 (wtF HE453 rfl rfl rfl (not_t hc26)) rfl rfl fun a_454 HE455 => ?_
        refine pl_no HE455 (wtF HE455 rfl rfl rfl (not_t hc26)) rfl rfl fun a_456 HE457 => ?_
        refine pl_x HE457 HH1 (wt0 rfl) (x_pickT rfl (not_t hc26) rfl) rfl rfl fun a_458 HE459 => ?_
        refine wpList_nil ?_
        clear a_4 HE5 a_6 HE7 a_8 HE9 a_10 HE11 a_12 HE13 a_16 HE17 a_18 HE19 a_20 HE21 a_22 HE23 a_24 HE25 a_26 HE27 K_14 hK15 a_28 HE29 a_32 HE33 a_34 HE35 a_36 HE37 a_38 HE39 a_40 HE41 a_42 HE43 a_44 HE45 K_30 hK31 a_46 HE47 a_50 HE51 a_52 HE53 a_54 HE55 a_56 HE57 a_446 HE447 a_448 HE449 a_450 HE451 a_452 HE453 a_454 HE455 a_456 HE457 hK49 K_48
        refine nrm ?_
        refine cndT HE459 rfl rfl ?_
        refine wp_seq ?_
        refine rg ?_
        refine pl_x HE459 HH1 (wt0 rfl) (x_assign rfl) rfl rfl fun a_460 HE461 => ?_
        refine wpList_nil ?_
        clear a_458 HE459
        refine nrm ?_
        refine wp_ret ?_
        refine (thn_ret ?_)
        refine ret1 HE461 rfl (rv_tmp rfl) ?_
        have hF : (validMulti a0) = false := by
          first | (simp [validMulti, hc22, hc24, hc26]; done) | (unfold validMulti; rw [decide_eq_false (by omega)]; simp) | (unfold validMulti; rw [rg_hit (by omega : k < a0.2.2.2.length) (by unfold badMR; grind [beforeMR, validMR, rowB])]; simp) | (have hq := p0_1; rw [show k = a0.2.2.2.length from by omega] at hq; unfold validMulti; rw [hq, decide_eq_true (by omega)]; simp [hc22, hc24, hc26])
        exact ⟨by first | (rw [hF] <;> rfl) | rfl | (rw [hF]; simp only [Ending.returned.injEq, Value.slice.injEq, true_and, and_true]; first | omega | (simp; done)) | (rw [hF]; simp; omega), HH1.below⟩
    · refine pl_no HE39 (wtF HE39 rfl rfl rfl (not_t hc24)) rfl rfl fun a_462 HE463 => ?_
      refine pl_no HE463 (wtF HE463 rfl rfl rfl (not_t hc24)) rfl rfl fun a_464 HE465 => ?_
      refine pl_no HE465 (wtF HE465 rfl rfl rfl (not_t hc24)) rfl rfl fun a_466 HE467 => ?_
      refine pl_no HE467 (wtF HE467 rfl rfl rfl (not_t hc24)) rfl rfl fun a_468 HE469 => ?_
      refine pl_no HE469 (wtF HE469 rfl rfl rfl (not_t hc24)) rfl rfl fun a_470 HE471 => ?_
      refine pl_no HE471 (wtF HE471 rfl rfl rfl (not_t hc24)) rfl rfl fun a_472 HE473 => ?_
      refine pl_x HE473 HH1 (wt0 rfl) (x_pickT rfl (not_t hc24) rfl) rfl rfl fun a_474 HE475 => ?_
      refine pl_x HE475 HH1 (wt0 rfl) (x_move rfl) rfl rfl fun a_476 HE477 => ?_
      refine pl_no HE477 (wtF HE477 rfl rfl rfl rfl) rfl rfl fun a_478 HE479 => ?_
      refine pl_no HE479 (wtF HE479 rfl rfl rfl rfl) rfl rfl fun a_480 HE481 => ?_
      refine pl_no HE481 (wtF HE481 rfl rfl rfl rfl) rfl rfl fun a_482 HE483 => ?_
      refine pl_no HE483 (wtF HE483 rfl rfl rfl rfl) rfl rfl fun a_484 HE485 => ?_
      refine pl_no HE485 (wtF HE485 rfl rfl rfl rfl) rfl rfl fun a_486 HE487 => ?_
      refine pl_no HE487 (wtF HE487 rfl rfl rfl rfl) rfl rfl fun a_488 HE489 => ?_
      refine pl_x HE489 HH1 (wt0 rfl) (x_pickT rfl rfl rfl) rfl rfl fun a_490 HE491 => ?_
      refine wpList_nil ?_
      clear a_4 HE5 a_6 HE7 a_8 HE9 a_10 HE11 a_12 HE13 a_16 HE17 a_18 HE19 a_20 HE21 a_22 HE23 a_24 HE25 a_26 HE27 K_14 hK15 a_28 HE29 a_32 HE33 a_34 HE35 a_36 HE37 a_38 HE39 a_462 HE463 a_464 HE465 a_466 HE467 a_468 HE469 a_470 HE471 a_472 HE473 a_474 HE475 a_476 HE477 a_478 HE479 a_480 HE481 a_482 HE483 a_484 HE485 a_486 HE487 a_488 HE489 hK31 K_30
      refine nrm ?_
      refine cndT HE491 rfl rfl ?_
      refine wp_seq ?_
      refine rg ?_
      refine pl_x HE491 HH1 (wt0 rfl) (x_assign rfl) rfl rfl fun a_492 HE493 => ?_
      refine wpList_nil ?_
      clear a_490 HE491
      refine nrm ?_
      refine wp_ret ?_
      refine (thn_ret ?_)
      refine ret1 HE493 rfl (rv_tmp rfl) ?_
      have hF : (validMulti a0) = false := by
        first | (simp [validMulti, hc22, hc24]; done) | (unfold validMulti; rw [decide_eq_false (by omega)]; simp) | (unfold validMulti; rw [rg_hit (by omega : k < a0.2.2.2.length) (by unfold badMR; grind [beforeMR, validMR, rowB])]; simp) | (have hq := p0_1; rw [show k = a0.2.2.2.length from by omega] at hq; unfold validMulti; rw [hq, decide_eq_true (by omega)]; simp [hc22, hc24])
      exact ⟨by first | (rw [hF] <;> rfl) | rfl | (rw [hF]; simp only [Ending.returned.injEq, Value.slice.injEq, true_and, and_true]; first | omega | (simp; done)) | (rw [hF]; simp; omega), HH1.below⟩
  · refine pl_no HE21 (wtF HE21 rfl rfl rfl (not_t hc22)) rfl rfl fun a_494 HE495 => ?_
    refine pl_no HE495 (wtF HE495 rfl rfl rfl (not_t hc22)) rfl rfl fun a_496 HE497 => ?_
    refine pl_no HE497 (wtF HE497 rfl rfl rfl (not_t hc22)) rfl rfl fun a_498 HE499 => ?_
    refine pl_no HE499 (wtF HE499 rfl rfl rfl (not_t hc22)) rfl rfl fun a_500 HE501 => ?_
    refine pl_no HE501 (wtF HE501 rfl rfl rfl (not_t hc22)) rfl rfl fun a_502 HE503 => ?_
    refine pl_no HE503 (wtF HE503 rfl rfl rfl (not_t hc22)) rfl rfl fun a_504 HE505 => ?_
    refine pl_x HE505 HH1 (wt0 rfl) (x_pickT rfl (not_t hc22) rfl) rfl rfl fun a_506 HE507 => ?_
    refine pl_x HE507 HH1 (wt0 rfl) (x_move rfl) rfl rfl fun a_508 HE509 => ?_
    refine pl_no HE509 (wtF HE509 rfl rfl rfl rfl) rfl rfl fun a_510 HE511 => ?_
    refine pl_no HE511 (wtF HE511 rfl rfl rfl rfl) rfl rfl fun a_512 HE513 => ?_
    refine pl_no HE513 (wtF HE513 rfl rfl rfl rfl) rfl rfl fun a_514 HE515 => ?_
    refine pl_no HE515 (wtF HE515 rfl rfl rfl rfl) rfl rfl fun a_516 HE517 => ?_
    refine pl_no HE517 (wtF HE517 rfl rfl rfl rfl) rfl rfl fun a_518 HE519 => ?_
    refine pl_no HE519 (wtF HE519 rfl rfl rfl rfl) rfl rfl fun a_520 HE521 => ?_
    refine pl_x HE521 HH1 (wt0 rfl) (x_pickT rfl rfl rfl) rfl rfl fun a_522 HE523 => ?_
    refine pl_x HE523 HH1 (wt0 rfl) (x_move rfl) rfl rfl fun a_524 HE525 => ?_
    refine pl_no HE525 (wtF HE525 rfl rfl rfl rfl) rfl rfl fun a_526 HE527 => ?_
    refine pl_no HE527 (wtF HE527 rfl rfl rfl rfl) rfl rfl fun a_528 HE529 => ?_
    refine pl_no HE529 (wtF HE529 rfl rfl rfl rfl) rfl rfl fun a_530 HE531 => ?_
    refine pl_no HE531 (wtF HE531 rfl rfl rfl rfl) rfl rfl fun a_532 HE533 => ?_
    refine pl_no HE533 (wtF HE533 rfl rfl rfl rfl) rfl rfl fun a_534 HE535 => ?_
    refine pl_no HE535 (wtF HE535 rfl rfl rfl rfl) rfl rfl fun a_536 HE537 => ?_
    refine pl_x HE537 HH1 (wt0 rfl) (x_pickT rfl rfl rfl) rfl rfl fun a_538 HE539 => ?_
    refine wpList_nil ?_
    clear a_4 HE5 a_6 HE7 a_8 HE9 a_10 HE11 a_12 HE13 a_16 HE17 a_18 HE19 a_20 HE21 a_494 HE495 a_496 HE497 a_498 HE499 a_500 HE501 a_502 HE503 a_504 HE505 a_506 HE507 a_508 HE509 a_510 HE511 a_512 HE513 a_514 HE515 a_516 HE517 a_518 HE519 a_520 HE521 a_522 HE523 a_524 HE525 a_526 HE527 a_528 HE529 a_530 HE531 a_532 HE533 a_534 HE535 a_536 HE537 hK15 K_14
    refine nrm ?_
    refine cndT HE539 rfl rfl ?_
    refine wp_seq ?_
    refine rg ?_
    refine pl_x HE539 HH1 (wt0 rfl) (x_assign rfl) rfl rfl fun a_540 HE541 => ?_
    refine wpList_nil ?_
    clear a_538 HE539
    refine nrm ?_
    refine wp_ret ?_
    refine (thn_ret ?_)
    refine ret1 HE541 rfl (rv_tmp rfl) ?_
    have hF : (validMulti a0) = false := by
      first | (simp [validMulti, hc22]; done) | (unfold validMulti; rw [decide_eq_false (by omega)]; simp) | (unfold validMulti; rw [rg_hit (by omega : k < a0.2.2.2.length) (by unfold badMR; grind [beforeMR, validMR, rowB])]; simp) | (have hq := p0_1; rw [show k = a0.2.2.2.length from by omega] at hq; unfold validMulti; rw [hq, decide_eq_true (by omega)]; simp [hc22])
    exact ⟨by first | (rw [hF] <;> rfl) | rfl | (rw [hF]; simp only [Ending.returned.injEq, Value.slice.injEq, true_and, and_true]; first | omega | (simp; done)) | (rw [hF]; simp; omega), HH1.below⟩

theorem validMulti_facts {m : tMulti} (h : validMulti m = true) : (2 ≤ m.1 ∧ m.1 ≤ 3) ∧ (2 ≤ m.2.1 ∧ m.2.1 ≤ 3) ∧ (1 ≤ m.2.2.1 ∧ m.2.2.1 ≤ 16) ∧ m.2.2.2.length ≤ 60 := by
  unfold validMulti at h
  simp only [Bool.and_eq_true, decide_eq_true_eq] at h
  have h1 := withinB_true.1 h.1.1.1.1
  have h2 := withinB_true.1 h.1.1.1.2
  have h3 := withinB_true.1 h.1.1.2
  exact ⟨h1, h2, h3, by omega⟩

def eBldT : TypeId := 5

abbrev rBld (w : World) (b : Nat) (S : Nat → Prop) (l : List UInt8) : Res := rBldT 201 5 w.heap.size b S l

/-- The library's table that the decimal forms are made with. -/
def Glob (w : World) : Prop := Lib.TabIs Tryz.prog w "internal/strconv.uint64pow10" .u64 Lib.pow10Tab

theorem globNum : Tryz.prog.globalNamed "internal/strconv.uint64pow10" = some 3 := by kernel_rfl

theorem Held.glob {w0 w : World} {rs : List Res} (h : Held Nob w0 rs w) (hG : Glob w0) : Glob w := tab_below globNum hG h.below

theorem grow_below (w : World) (k : Nat) (os : Array Obj) : Below w.heap.size w (Go.Sort.grow (w.drewN k) os) :=
  ⟨rfl, rfl, rfl, by show w.heap.size ≤ (w.heap ++ os).size; rw [Array.size_append]; omega, fun b hb => Go.Sort.heap_grow_old (w.drewN k) os hb⟩

def shelf_M173_ren : Go.Shelf.Ren := ⟨fun | 173 => 164 | 246 => 203 | 283 => 223 | 284 => 224 | 285 => 225 | 286 => 226 | 129 => 236 | 317 => 235 | 318 => 237 | 319 => 238 | 320 => 239 | 337 => 240 | 338 => 241 | n => n, fun | 2 => 2 | 3 => 3 | 9 => 9 | 4 => 4 | 171 => 243 | 0 => 0 | 53 => 216 | 37 => 22 | 5 => 5 | 173 => 246 | 212 => 256 | 51 => 234 | 20 => 20 | 213 => 257 | 46 => 210 | 232 => 264 | 233 => 265 | n => n, fun | 17 => 3 | 18 => 6 | 19 => 7 | n => n⟩

end Go.Proofs.YtcfdkckchbdafaaGreatDoor
