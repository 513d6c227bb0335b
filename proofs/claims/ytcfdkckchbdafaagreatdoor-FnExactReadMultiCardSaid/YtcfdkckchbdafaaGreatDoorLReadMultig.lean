/- What the proof of FnExactReadMulti needs: contracts of the functions that it reaches, each once. -/
import Derived.Test.YtcfdkckchbdafaaGreatDoorProg
import Derived.Test.YtcfdkckchbdafaaGreatDoorQMem
import Derived.Test.YtcfdkckchbdafaaGreatDoorQOpen
import Derived.Test.YtcfdkckchbdafaaGreatDoorLReadMultia
import Derived.Test.YtcfdkckchbdafaaGreatDoorLReadMultib
import Derived.Test.YtcfdkckchbdafaaGreatDoorLReadMultic
import Derived.Test.YtcfdkckchbdafaaGreatDoorLReadMultid
import Derived.Test.YtcfdkckchbdafaaGreatDoorLReadMultie
import Derived.Test.YtcfdkckchbdafaaGreatDoorLReadMultif
import Derived.WalkKit
import Derived.WalkSpells
import Derived.Below
import Derived.LoopTactic
import Derived.Outline
import Derived.Deep.QuietTactic
import Derived.BigQuiet
import Derived.Deep.LoopGhost
import Derived.Handy
import Derived.Lib.Hide
import Derived.Shelf.Abstract
import Derived.StillTailTactics
import Derived.OwnWalk
import Derived.Maps.AppendAt
import Derived.RegionTactic
import Derived.Deep.RegionHeld3
import Derived.IntWalk
import Derived.Deep.Upon
import Derived.Laws.OwnMore
import Derived.Maps.AppendAt
import Derived.Laws.BytesString
import Derived.Laws.Strings
import Derived.Lib.Bytes
import Derived.Lib.Strings
import Derived.Lib.FrozenHead
import Derived.Lib.RuneBytes
import Derived.Lib.LaidTab
import Derived.Laws.StructEq
import Derived.Lib.MapLaws
import Derived.Lib.OthersKept
import Derived.Laws.RangeAny
import Derived.Scope
import Derived.Lib.ItoaLen
import Derived.Lib.Join
import Derived.Shelf.Strconv.Itoa4
import Derived.Shelf.Strings.OnBuilder
import Derived.Shelf.Strings.BuilderK
import Derived.Shelf.Strings.BuilderRune
import Derived.Shelf.LaysM
import Derived.Ground.NamesProg
import Derived.Lib.ParseIntBTie
import Derived.Lib.SplitLaws
import Derived.Lib.Replace
import Derived.Shelf.LaysC
import Derived.Shelf.Strconv.ErrVarParseInt
import Derived.Shelf.Strconv.ParseIntPublic10
import Derived.Shelf.Strings.Prefix
import Derived.Shelf.Strings.Cut
import Derived.Shelf.Strings.Split
import Derived.Shelf.Strings.Replace
import Derived.Shelf.Small.Wraps
import Derived.Stop.IfaceNil
import Derived.Shelf.Small.Utf8
import Derived.Shelf.Strings.Runes
namespace Go.Proofs.YtcfdkckchbdafaaGreatDoor
open Go.RowKit

open Go.Lib in
set_option maxRecDepth 100000 in
set_option maxHeartbeats 4000000 in
theorem spec_l01Split (a0 : List UInt8) (a1 : Int) (c : UInt8) (w : World) (s0 : a0.length ≤ 2000000) (s1 : a1 = (c.toNat : Int)) :
    Calls Tryz.prog 63 #[.string (bs a0), .int .u8 a1] w fun e w' => ∃ (A0' : Option Addr) (c0' : Nat), e = .returned (.slice A0' (splitR c a0).length c0') ∧ So eTxt w' (Fr w w') A0' c0' (splitR c a0) ∧ Below w.heap.size w w' := by
  have HH1 := Held.start Nob w
  refine enter (n := 35) Tryz.func63 rfl rfl rfl fun a_2 HE3 => ?_
  refine wp_seq ?_
  refine rg ?_
  refine pl_x HE3 HH1 (wt0 rfl) (x_assign rfl) rfl rfl fun a_4 HE5 => ?_
  refine wpList_nil ?_
  clear a_2 HE3
  refine nrm ?_
  refine wp_seq ?_
  refine rg ?_
  refine pl fun K_6 hK7 => ?_
  refine st_lit (m := 0) (cs := []) (e := 9) HE5 HH1 (run_lit ts_78 HE5 (vs := []) rfl rfl (by simp [Value.cells]) rfl (by decide)) (wt0 rfl) rfl rfl fun q21 a_8 w' HE9 HH10 => hK7 _ _ ?_
  refine pl_x HE9 HH10 (wt0 rfl) (x_assign rfl) rfl rfl fun a_11 HE12 => ?_
  refine wpList_nil ?_
  clear a_4 HE5 HH1 a_8 HE9 hK7 K_6
  refine nrm ?_
  refine wp_seq ?_
  refine rg ?_
  refine pl_x HE12 HH10 (wt0 rfl) (x_assign rfl) rfl rfl fun a_13 HE14 => ?_
  refine wpList_nil ?_
  clear a_11 HE12
  refine nrm ?_
  refine wp_seq ?_
  refine wp_seq ?_
  refine rg ?_
  refine pl_x HE14 HH10 (wt0 rfl) (x_assign rfl) rfl rfl fun a_15 HE16 => ?_
  refine wpList_nil ?_
  clear a_13 HE14
  refine nrm ?_
  refine wp_block ?_
  have HH17 := Held.vecFlat (E := eTxt) (xs := []) (css := []) HH10 rfl (Nat.zero_le _) (fun i x hx => by simp at hx)
  refine lp (fun m a w' => ∃ (k : Nat) (j : Int) (l : List (List UInt8)) (A_5 : Option Addr) (c_5 : Nat) (S_5 : Nat → Prop), m = a0.length - k ∧ Env 35 [(5, .slice A_5 (List.length l) c_5), (6, .int .i64 j), (7, .int .i64 (k : Int)), (0, .string (bs a0)), (1, .int .u8 (a1))] a ∧ Held Nob w [rVec eTxt 9 S_5 A_5 c_5 l] w' ∧ (0 ≤ j ∧ j ≤ (k : Int)) ∧ (k ≤ a0.length) ∧ (splitR c a0 = l ++ preP ((a0.drop j.toNat).take (k - j.toNat)) (splitR c (a0.drop k))) ∧ (l.length ≤ k)) (a0.length - (0)) ?_ ?_
  · have E22 : ([]) = ([] : List (List UInt8)) := by
      first | rfl | simp
    exact ⟨0, 0, [], (some ⟨q21, 0, none⟩), (List.length (α := (List UInt8)) []), (fun b => b = q21), rfl, HE16.sub ⟨(by rw [E22]; rfl), rfl, (lkI rfl (by first | rfl | omega | (simp []; done))), rfl, rfl, trivial⟩, ((HH17.sel [0] (by decide) rfl).to (by first | rfl | (rw [E22]; done) | (rw [E22]; rfl) | (simp only [E22]; done) | (simp only [E22]; rfl) | (rw [E22]; simp only [List.length_set]; done))), (by first | omega | assumption | (simp; done) | simp_all), (by first | omega | assumption | (simp; done) | simp_all), (by exact spl_zero c a0), (by first | omega | assumption | (simp; done) | simp_all)⟩
  · rintro m a_18 w' ⟨k, j, l, A_5, c_5, S_5, rfl, HE19, HH20, p23_0, p23_1, p23_2, p23_3⟩
    refine wp_seq ?_
    refine wp_seq ?_
    refine rg ?_
    refine pl_x HE19 HH20 (wt0 rfl) (x_move rfl) rfl rfl fun a_21 HE22 => ?_
    refine pl_x HE22 HH20 (wt0 rfl) (x_move rfl) rfl rfl fun a_23 HE24 => ?_
    refine pl_x HE24 HH20 (wt0 rfl) (x_lenB Tryz.underlying9 rfl) rfl rfl fun a_25 HE26 => ?_
    refine pl_x HE26 HH20 (wt0 rfl) (x_lss rfl rfl) rfl rfl fun a_27 HE28 => ?_
    refine wpList_nil ?_
    clear HH10 a_15 HE16 HH17 a_18 HE19 a_21 HE22 a_23 HE24 a_25 HE26
    refine nrm ?_
    refine cnd_d HE28 rfl (fun hc24 => ?_) (fun hc24 => ?_)
    · refine wp_skip ?_
      refine nrm ?_
      refine wp_seq ?_
      refine wp_block ?_
      refine wp_seq ?_
      refine rg ?_
      refine pl_x HE28 HH20 (wt0 rfl) (x_move rfl) rfl rfl fun a_29 HE30 => ?_
      refine pl_x HE30 HH20 (wt0 rfl) (x_move rfl) rfl rfl fun a_31 HE32 => ?_
      have ke25 : k < List.length a0 := by first | omega | (simp only [List.length_cons, List.length_nil]; omega)
      obtain ⟨e25, xe25⟩ : ∃ x_, x_ = a0[k] := ⟨_, rfl⟩
      have je25 : 0 ≤ (e25.toNat : Int) ∧ (e25.toNat : Int) ≤ 255 := by have := e25.toNat_lt; omega
      refine pl_x HE32 HH20 (wt0 rfl) (x_idxB Tryz.underlying9 rfl rfl rfl ke25 xe25) rfl rfl fun a_33 HE34 => ?_
      refine pl_x HE34 HH20 (wt0 rfl) (x_move rfl) rfl rfl fun a_35 HE36 => ?_
      refine pl_x HE36 HH20 (wt0 rfl) (x_eql rfl rfl) rfl rfl fun a_37 HE38 => ?_
      refine wpList_nil ?_
      clear a_27 HE28 a_29 HE30 a_31 HE32 a_33 HE34 a_35 HE36
      refine nrm ?_
      refine cnd_e HE38 rfl (fun hc26 => ?_) (fun hc26 => ?_)
      · refine wp_seq ?_
        refine rg ?_
        refine pl_x HE38 HH20 (wt0 rfl) (x_move rfl) rfl rfl fun a_39 HE40 => ?_
        refine pl_x HE40 HH20 (wt0 rfl) (x_move rfl) rfl rfl fun a_41 HE42 => ?_
        refine pl_x HE42 HH20 (wt0 rfl) (x_move rfl) rfl rfl fun a_43 HE44 => ?_
        refine pl_x HE44 HH20 (wt0 rfl) (x_move rfl) rfl rfl fun a_45 HE46 => ?_
        refine pl_x HE46 HH20 (wt0 rfl) (x_sliceSH (k := ((j).toNat)) (k2 := k) Tryz.underlying9 rfl rfl rfl (by omega) rfl (by omega) (by first | omega | (simp only [List.length_append, List.length_cons, List.length_nil]; omega) | (simp; omega))) rfl rfl fun a_47 HE48 => ?_
        refine pl fun K_49 hK50 => ?_
        refine st_lit (m := 1) (cs := [.string (bs ((a0.drop ((j).toNat)).take (k - (j).toNat)))]) (e := 9) HE48 HH20 (run_lit ts_78 HE48 (vs := [.string (bs ((a0.drop ((j).toNat)).take (k - (j).toNat)))]) rfl rfl (by simp [Value.cells]) rfl (by decide)) (wt0 rfl) rfl rfl fun q27 a_51 w' HE52 HH53 => hK50 _ _ ?_
        refine pl fun K_54 hK55 => ?_
        refine st_app1F ((a0.drop ((j).toNat)).take (k - (j).toNat)) HE52 HH53 ts_78 [1, 0] (by decide) rfl (fun _ => (oS (by first | omega | (simp only [List.length_append, List.length_cons, List.length_nil]; omega) | (simp; omega)))) rfl rfl (by simp [Value.oneCell']) (by unfold maxLen; first | omega | (simp; done) | (simp; omega)) (by first | omega | (simp; done) | (simp; omega)) (wt0 rfl) rfl fun A28 c29 S30 a_56 w' HE57 HH58 => hK55 _ _ ?_
        refine pl_x HE57 HH58 (wt0 rfl) (x_assign rfl) rfl rfl fun a_59 HE60 => ?_
        refine wpList_nil ?_
        clear a_37 HE38 a_39 HE40 a_41 HE42 a_43 HE44 a_45 HE46 a_47 HE48 HH20 K_49 hK50 a_51 HE52 HH53 a_56 HE57 hK55 K_54
        refine nrm ?_
        refine rg ?_
        refine pl_x HE60 HH58 (wt0 rfl) (x_move rfl) rfl rfl fun a_61 HE62 => ?_
        refine pl_x HE62 HH58 (wt0 rfl) (x_add rfl rfl (by exact ⟨by omega, by omega⟩)) rfl rfl fun a_63 HE64 => ?_
        refine pl_x HE64 HH58 (wt0 rfl) (x_assign rfl) rfl rfl fun a_65 HE66 => ?_
        refine wpList_nil ?_
        clear a_59 HE60 a_61 HE62 a_63 HE64
        refine blk_n ?_
        refine nrm ?_
        refine rg ?_
        refine pl_x HE66 HH58 (wt0 rfl) (x_move rfl) rfl rfl fun a_67 HE68 => ?_
        refine pl_x HE68 HH58 (wt0 rfl) (x_add rfl rfl (by exact ⟨by omega, by omega⟩)) rfl rfl fun a_69 HE70 => ?_
        refine pl_x HE70 HH58 (wt0 rfl) (x_assign rfl) rfl rfl fun a_71 HE72 => ?_
        refine wpList_nil ?_
        clear a_65 HE66 a_67 HE68 a_69 HE70
        have E31 : ((l ++ [((a0.drop ((j).toNat)).take (k - (j).toNat))])) = (l ++ [((a0.drop ((j).toNat)).take (k - (j).toNat))]) := by
          first | rfl | simp
        exact nrm ⟨a0.length - (k + 1), (by omega), k + 1, ((k : Int) + 1), (l ++ [((a0.drop ((j).toNat)).take (k - (j).toNat))]), A28, c29, S30, rfl, HE72.sub ⟨(by rw [E31]; rfl), rfl, (lkI rfl (by first | rfl | omega | (simp [p23_0, p23_1, p23_2, p23_3, hc24, xe25, hc26]; done))), rfl, rfl, trivial⟩, ((HH58.sel [0] (by decide) rfl).to (by first | rfl | (rw [E31]; done) | (rw [E31]; rfl) | (simp only [E31]; done) | (simp only [E31]; rfl) | (rw [E31]; simp only [List.length_set]; done))), (by first | omega | assumption | (simp; done) | simp_all), (by first | omega | assumption | (simp; done) | simp_all), (by first | exact spl_ne p23_2 (by omega) (by omega) (fun hh => hc26 (by rw [xe25, hh, s1])) | exact spl_eq p23_2 (by omega) (UInt8.toNat_inj.1 (by rw [← xe25]; omega))), (by first | omega | (rw [List.length_append]; simp; omega))⟩
      · refine wp_skip ?_
        refine blk_n ?_
        refine nrm ?_
        refine rg ?_
        refine pl_x HE38 HH20 (wt0 rfl) (x_move rfl) rfl rfl fun a_73 HE74 => ?_
        refine pl_x HE74 HH20 (wt0 rfl) (x_add rfl rfl (by exact ⟨by omega, by omega⟩)) rfl rfl fun a_75 HE76 => ?_
        refine pl_x HE76 HH20 (wt0 rfl) (x_assign rfl) rfl rfl fun a_77 HE78 => ?_
        refine wpList_nil ?_
        clear a_37 HE38 a_73 HE74 a_75 HE76
        exact nrm ⟨a0.length - (k + 1), (by omega), k + 1, j, l, A_5, c_5, S_5, rfl, HE78.sub ⟨rfl, rfl, (lkI rfl (by first | rfl | omega | (simp [p23_0, p23_1, p23_2, p23_3, hc24, xe25, hc26]; done))), rfl, rfl, trivial⟩, (HH20.sel [0] (by decide) rfl), (by first | omega | assumption | (simp; done) | simp_all), (by first | omega | assumption | (simp; done) | simp_all), (by first | exact spl_ne p23_2 (by omega) (by omega) (fun hh => hc26 (by rw [xe25, hh, s1])) | exact spl_eq p23_2 (by omega) (UInt8.toNat_inj.1 (by rw [← xe25]; omega))), (by first | omega | (rw [List.length_append]; simp; omega))⟩
    · refine wp_exit ?_
      refine (thn_exit (thn_exit (blk_hit ?_)))
      refine nrm ?_
      refine wp_seq ?_
      refine rg ?_
      refine pl_x HE28 HH20 (wt0 rfl) (x_move rfl) rfl rfl fun a_79 HE80 => ?_
      refine pl_x HE80 HH20 (wt0 rfl) (x_move rfl) rfl rfl fun a_81 HE82 => ?_
      refine pl_x HE82 HH20 (wt0 rfl) (x_move rfl) rfl rfl fun a_83 HE84 => ?_
      refine pl_x HE84 HH20 (wt0 rfl) (x_sliceSL (k := ((j).toNat)) Tryz.underlying9 rfl rfl (by omega) (by first | omega | (simp only [List.length_append, List.length_cons, List.length_nil]; omega) | (simp; omega))) rfl rfl fun a_85 HE86 => ?_
      refine pl fun K_87 hK88 => ?_
      refine st_lit (m := 1) (cs := [.string (bs (a0.drop ((j).toNat)))]) (e := 9) HE86 HH20 (run_lit ts_78 HE86 (vs := [.string (bs (a0.drop ((j).toNat)))]) rfl rfl (by simp [Value.cells]) rfl (by decide)) (wt0 rfl) rfl rfl fun q32 a_89 w' HE90 HH91 => hK88 _ _ ?_
      refine pl fun K_92 hK93 => ?_
      refine st_app1F (a0.drop ((j).toNat)) HE90 HH91 ts_78 [1, 0] (by decide) rfl (fun _ => (oS (by first | omega | (simp only [List.length_append, List.length_cons, List.length_nil]; omega) | (simp; omega)))) rfl rfl (by simp [Value.oneCell']) (by unfold maxLen; first | omega | (simp; done) | (simp; omega)) (by first | omega | (simp; done) | (simp; omega)) (wt0 rfl) rfl fun A33 c34 S35 a_94 w' HE95 HH96 => hK93 _ _ ?_
      refine pl_x HE95 HH96 (wt0 rfl) (x_assign rfl) rfl rfl fun a_97 HE98 => ?_
      refine wpList_nil ?_
      clear a_27 HE28 a_79 HE80 a_81 HE82 a_83 HE84 a_85 HE86 HH20 K_87 hK88 a_89 HE90 HH91 a_94 HE95 hK93 K_92
      refine nrm ?_
      refine wp_ret ?_
      refine ret1 HE98 rfl (rv_tmp rfl) ?_
      have HH99 := HH96.vecSo
      have hF : (splitR c a0) = (l ++ [(a0.drop ((j).toNat))]) := by
        exact spl_end p23_2 (by omega)
      exact ⟨A33, c34, by first | (rw [hF] <;> rfl) | rfl | (rw [hF]; simp only [Ending.returned.injEq, Value.slice.injEq, true_and, and_true]; first | omega | (simp; done)) | (rw [hF]; simp; omega), by rw [hF]; exact (HH99.so (i := 0) rfl), HH99.below⟩

open Go.Lib in
set_option maxRecDepth 100000 in
set_option maxHeartbeats 4000000 in
theorem spec_l01Digit (a0 : Int) (w : World)  :
    Calls Tryz.prog 116 #[.int .u8 a0] w fun e w' => e = .returned (.bool (digB a0)) ∧ Below w.heap.size w w' := by
  have HH1 := Held.start Nob w
  refine enter (n := 9) Tryz.func116 rfl rfl rfl fun a_2 HE3 => ?_
  refine wp_seq ?_
  refine rg ?_
  refine pl_x HE3 HH1 (wt0 rfl) (x_assign rfl) rfl rfl fun a_4 HE5 => ?_
  refine wpList_nil ?_
  clear a_2 HE3
  refine nrm ?_
  refine wp_seq ?_
  refine rg ?_
  refine pl_x HE5 HH1 (wt0 rfl) (x_move rfl) rfl rfl fun a_6 HE7 => ?_
  refine pl_x HE7 HH1 (wt0 rfl) (x_geq rfl rfl) rfl rfl fun a_8 HE9 => ?_
  refine pl_x HE9 HH1 (wt0 rfl) (x_move rfl) rfl rfl fun a_10 HE11 => ?_
  by_cases hc21 : 48 ≤ a0
  · refine pl_x HE11 HH1 (wtT HE11 rfl rfl rfl (decide_eq_true hc21)) (x_move rfl) rfl rfl fun a_12 HE13 => ?_
    refine pl_x HE13 HH1 (wtT HE13 rfl rfl rfl (decide_eq_true hc21)) (x_leq rfl rfl) rfl rfl fun a_14 HE15 => ?_
    refine pl_x HE15 HH1 (wt0 rfl) (x_pickT rfl (decide_eq_true hc21) rfl) rfl rfl fun a_16 HE17 => ?_
    refine pl_x HE17 HH1 (wt0 rfl) (x_assign rfl) rfl rfl fun a_18 HE19 => ?_
    refine wpList_nil ?_
    clear a_4 HE5 a_6 HE7 a_8 HE9 a_10 HE11 a_12 HE13 a_14 HE15 a_16 HE17
    refine nrm ?_
    refine wp_ret ?_
    refine ret1 HE19 rfl (rv_tmp rfl) ?_
    have hF : (digB a0) = decide (a0 ≤ 57) := by
      unfold digB; first | (simp [hc21]; done) | grind
    exact ⟨by first | (rw [hF] <;> rfl) | rfl | (rw [hF]; simp only [Ending.returned.injEq, Value.slice.injEq, true_and, and_true]; first | omega | (simp; done)) | (rw [hF]; simp; omega), HH1.below⟩
  · refine pl_no HE11 (wtF HE11 rfl rfl rfl (decide_eq_false hc21)) rfl rfl fun a_20 HE21 => ?_
    refine pl_no HE21 (wtF HE21 rfl rfl rfl (decide_eq_false hc21)) rfl rfl fun a_22 HE23 => ?_
    refine pl_x HE23 HH1 (wt0 rfl) (x_pickF rfl (decide_eq_false hc21) rfl) rfl rfl fun a_24 HE25 => ?_
    refine pl_x HE25 HH1 (wt0 rfl) (x_assign rfl) rfl rfl fun a_26 HE27 => ?_
    refine wpList_nil ?_
    clear a_4 HE5 a_6 HE7 a_8 HE9 a_10 HE11 a_20 HE21 a_22 HE23 a_24 HE25
    refine nrm ?_
    refine wp_ret ?_
    refine ret1 HE27 rfl (rv_tmp rfl) ?_
    have hF : (digB a0) = false := by
      unfold digB; first | (simp [hc21]; done) | grind
    exact ⟨by first | (rw [hF] <;> rfl) | rfl | (rw [hF]; simp only [Ending.returned.injEq, Value.slice.injEq, true_and, and_true]; first | omega | (simp; done)) | (rw [hF]; simp; omega), HH1.below⟩

open Go.Lib in
set_option maxRecDepth 100000 in
set_option maxHeartbeats 4000000 in
theorem spec_l01Number (a0 : List UInt8) (w : World) (s0 : a0.length ≤ 2000000) :
    Calls Tryz.prog 65 #[.string (bs a0)] w fun e w' => e = .returned (.tuple #[.int .i64 (numC a0).1, .bool (numC a0).2]) ∧ Below w.heap.size w w' := by
  have HH1 := Held.start Nob w
  refine enter (n := 62) Tryz.func65 rfl rfl rfl fun a_2 HE3 => ?_
  refine wp_seq ?_
  refine rg ?_
  refine pl_x HE3 HH1 (wt0 rfl) (x_assign rfl) rfl rfl fun a_4 HE5 => ?_
  refine pl_x HE5 HH1 (wt0 rfl) (x_assign rfl) rfl rfl fun a_6 HE7 => ?_
  refine wpList_nil ?_
  clear a_2 HE3 a_4 HE5
  refine nrm ?_
  refine wp_seq ?_
  refine rg ?_
  refine pl_x HE7 HH1 (wt0 rfl) (x_assign rfl) rfl rfl fun a_8 HE9 => ?_
  refine wpList_nil ?_
  clear a_6 HE7
  refine nrm ?_
  refine wp_seq ?_
  refine wp_seq ?_
  refine rg ?_
  refine pl_x HE9 HH1 (wt0 rfl) (x_move rfl) rfl rfl fun a_10 HE11 => ?_
  refine pl_x HE11 HH1 (wt0 rfl) (x_lenB Tryz.underlying9 rfl) rfl rfl fun a_12 HE13 => ?_
  refine pl_x HE13 HH1 (wt0 rfl) (x_gtr rfl rfl) rfl rfl fun a_14 HE15 => ?_
  refine pl_x HE15 HH1 (wt0 rfl) (x_move rfl) rfl rfl fun a_16 HE17 => ?_
  by_cases hc21 : 0 < (List.length a0 : Int)
  · have w0 : 0 < a0.length := by omega
    refine pl_x HE17 HH1 (wtT HE17 rfl rfl rfl (decide_eq_true hc21)) (x_move rfl) rfl rfl fun a_18 HE19 => ?_
    have ke22 : 0 < List.length a0 := by first | omega | (simp only [List.length_cons, List.length_nil]; omega)
    obtain ⟨e22, xe22⟩ : ∃ x_, x_ = a0[0] := ⟨_, rfl⟩
    have je22 : 0 ≤ (e22.toNat : Int) ∧ (e22.toNat : Int) ≤ 255 := by have := e22.toNat_lt; omega
    refine pl_x HE19 HH1 (wtT HE19 rfl rfl rfl (decide_eq_true hc21)) (x_idxB Tryz.underlying9 rfl rfl rfl ke22 xe22) rfl rfl fun a_20 HE21 => ?_
    refine pl_x HE21 HH1 (wtT HE21 rfl rfl rfl (decide_eq_true hc21)) (x_eql rfl rfl) rfl rfl fun a_22 HE23 => ?_
    refine pl_x HE23 HH1 (wt0 rfl) (x_pickT rfl (decide_eq_true hc21) rfl) rfl rfl fun a_24 HE25 => ?_
    refine wpList_nil ?_
    clear a_8 HE9 a_10 HE11 a_12 HE13 a_14 HE15 a_16 HE17 a_18 HE19 a_20 HE21 a_22 HE23
    refine nrm ?_
    refine cnd_e HE25 rfl (fun hc23 => ?_) (fun hc23 => ?_)
    · have o0 := ofP_neg (by omega) xe22 hc23
      refine rg ?_
      refine pl_x HE25 HH1 (wt0 rfl) (x_assign rfl) rfl rfl fun a_26 HE27 => ?_
      refine wpList_nil ?_
      clear a_24 HE25
      refine nrm ?_
      refine wp_seq ?_
      refine wp_seq ?_
      refine rg ?_
      refine pl_x HE27 HH1 (wt0 rfl) (x_move rfl) rfl rfl fun a_28 HE29 => ?_
      refine pl_x HE29 HH1 (wt0 rfl) (x_lenB Tryz.underlying9 rfl) rfl rfl fun a_30 HE31 => ?_
      refine pl_x HE31 HH1 (wt0 rfl) (x_move rfl) rfl rfl fun a_32 HE33 => ?_
      refine pl_x HE33 HH1 (wt0 rfl) (x_eql rfl rfl) rfl rfl fun a_34 HE35 => ?_
      refine pl_x HE35 HH1 (wt0 rfl) (x_move rfl) rfl rfl fun a_36 HE37 => ?_
      by_cases hc24 : (List.length a0 : Int) = 1
      · refine pl_no HE37 (wtF HE37 rfl rfl rfl (beq_t hc24)) rfl rfl fun a_38 HE39 => ?_
        refine pl_no HE39 (wtF HE39 rfl rfl rfl (beq_t hc24)) rfl rfl fun a_40 HE41 => ?_
        refine pl_no HE41 (wtF HE41 rfl rfl rfl (beq_t hc24)) rfl rfl fun a_42 HE43 => ?_
        refine pl_no HE43 (wtF HE43 rfl rfl rfl (beq_t hc24)) rfl rfl fun a_44 HE45 => ?_
        refine pl_no HE45 (wtF HE45 rfl rfl rfl (beq_t hc24)) rfl rfl fun a_46 HE47 => ?_
        refine pl_x HE47 HH1 (wt0 rfl) (x_pickT rfl (beq_t hc24) rfl) rfl rfl fun a_48 HE49 => ?_
        refine pl_x HE49 HH1 (wt0 rfl) (x_move rfl) rfl rfl fun a_50 HE51 => ?_
        refine pl_no HE51 (wtF HE51 rfl rfl rfl rfl) rfl rfl fun a_52 HE53 => ?_
        refine pl_no HE53 (wtF HE53 rfl rfl rfl rfl) rfl rfl fun a_54 HE55 => ?_
        refine pl_no HE55 (wtF HE55 rfl rfl rfl rfl) rfl rfl fun a_56 HE57 => ?_
        refine pl_no HE57 (wtF HE57 rfl rfl rfl rfl) rfl rfl fun a_58 HE59 => ?_
        refine pl_no HE59 (wtF HE59 rfl rfl rfl rfl) rfl rfl fun a_60 HE61 => ?_
        refine pl_no HE61 (wtU HE61 rfl rfl rfl) rfl rfl fun a_62 HE63 => ?_
        refine pl_no HE63 (wtU HE63 rfl rfl rfl) rfl rfl fun a_64 HE65 => ?_
        refine pl_no HE65 (wtU HE65 rfl rfl rfl) rfl rfl fun a_66 HE67 => ?_
        refine pl_no HE67 (wtF HE67 rfl rfl rfl rfl) rfl rfl fun a_68 HE69 => ?_
        refine pl_x HE69 HH1 (wt0 rfl) (x_pickT rfl rfl rfl) rfl rfl fun a_70 HE71 => ?_
        refine wpList_nil ?_
        clear a_26 HE27 a_28 HE29 a_30 HE31 a_32 HE33 a_34 HE35 a_36 HE37 a_38 HE39 a_40 HE41 a_42 HE43 a_44 HE45 a_46 HE47 a_48 HE49 a_50 HE51 a_52 HE53 a_54 HE55 a_56 HE57 a_58 HE59 a_60 HE61 a_62 HE63 a_64 HE65 a_66 HE67 a_68 HE69
        refine nrm ?_
        refine cndT HE71 rfl rfl ?_
        refine wp_seq ?_
        refine rg ?_
        refine pl_x HE71 HH1 (wt0 rfl) (x_assign rfl) rfl rfl fun a_72 HE73 => ?_
        refine pl_x HE73 HH1 (wt0 rfl) (x_assign rfl) rfl rfl fun a_74 HE75 => ?_
        refine wpList_nil ?_
        clear a_70 HE71 a_72 HE73
        refine nrm ?_
        refine wp_ret ?_
        refine (thn_ret ?_)
        refine ret2 HE75 rfl (rv_tmp rfl) (rv_tmp rfl) ?_
        have hF : (numC a0) = (0, false) := by
          first | exact numC_len0 (by omega) | exact numC_len18 (by omega) | exact numC_zero (by omega) (by omega) xe22 (by omega) (by omega) | exact numC_dig (by omega) (by omega) xe22 (by omega) | (exfalso; omega) | (rw [numC_yes (i := i) (by omega) (numC_ok (by omega) (by omega) (by omega) z0 (by omega) (by omega) p0_2), o0]; simp)
        exact ⟨by first | (rw [hF] <;> rfl) | rfl | (rw [hF]; simp only [Ending.returned.injEq, Value.slice.injEq, true_and, and_true]; first | omega | (simp; done)) | (rw [hF]; simp; omega), HH1.below⟩
      · refine pl_x HE37 HH1 (wtT HE37 rfl rfl rfl (beq_f hc24)) (x_move rfl) rfl rfl fun a_76 HE77 => ?_
        refine pl_x HE77 HH1 (wtT HE77 rfl rfl rfl (beq_f hc24)) (x_lenB Tryz.underlying9 rfl) rfl rfl fun a_78 HE79 => ?_
        refine pl_x HE79 HH1 (wtT HE79 rfl rfl rfl (beq_f hc24)) (x_move rfl) rfl rfl fun a_80 HE81 => ?_
        refine pl_x HE81 HH1 (wtT HE81 rfl rfl rfl (beq_f hc24)) (x_sub rfl rfl (by exact ⟨by omega, by omega⟩)) rfl rfl fun a_82 HE83 => ?_
        refine pl_x HE83 HH1 (wtT HE83 rfl rfl rfl (beq_f hc24)) (x_gtr rfl rfl) rfl rfl fun a_84 HE85 => ?_
        refine pl_x HE85 HH1 (wt0 rfl) (x_pickF rfl (beq_f hc24) rfl) rfl rfl fun a_86 HE87 => ?_
        refine pl_x HE87 HH1 (wt0 rfl) (x_move rfl) rfl rfl fun a_88 HE89 => ?_
        by_cases hc25 : 18 < ((List.length a0 : Int) - 1)
        · refine pl_no HE89 (wtF HE89 rfl rfl rfl (decide_eq_true hc25)) rfl rfl fun a_90 HE91 => ?_
          refine pl_no HE91 (wtF HE91 rfl rfl rfl (decide_eq_true hc25)) rfl rfl fun a_92 HE93 => ?_
          refine pl_no HE93 (wtF HE93 rfl rfl rfl (decide_eq_true hc25)) rfl rfl fun a_94 HE95 => ?_
          refine pl_no HE95 (wtF HE95 rfl rfl rfl (decide_eq_true hc25)) rfl rfl fun a_96 HE97 => ?_
          refine pl_no HE97 (wtF HE97 rfl rfl rfl (decide_eq_true hc25)) rfl rfl fun a_98 HE99 => ?_
          refine pl_no HE99 (wtU HE99 rfl rfl rfl) rfl rfl fun a_100 HE101 => ?_
          refine pl_no HE101 (wtU HE101 rfl rfl rfl) rfl rfl fun a_102 HE103 => ?_
          refine pl_no HE103 (wtU HE103 rfl rfl rfl) rfl rfl fun a_104 HE105 => ?_
          refine pl_no HE105 (wtF HE105 rfl rfl rfl (decide_eq_true hc25)) rfl rfl fun a_106 HE107 => ?_
          refine pl_x HE107 HH1 (wt0 rfl) (x_pickT rfl (decide_eq_true hc25) rfl) rfl rfl fun a_108 HE109 => ?_
          refine wpList_nil ?_
          clear a_26 HE27 a_28 HE29 a_30 HE31 a_32 HE33 a_34 HE35 a_36 HE37 a_76 HE77 a_78 HE79 a_80 HE81 a_82 HE83 a_84 HE85 a_86 HE87 a_88 HE89 a_90 HE91 a_92 HE93 a_94 HE95 a_96 HE97 a_98 HE99 a_100 HE101 a_102 HE103 a_104 HE105 a_106 HE107
          refine nrm ?_
          refine cndT HE109 rfl rfl ?_
          refine wp_seq ?_
          refine rg ?_
          refine pl_x HE109 HH1 (wt0 rfl) (x_assign rfl) rfl rfl fun a_110 HE111 => ?_
          refine pl_x HE111 HH1 (wt0 rfl) (x_assign rfl) rfl rfl fun a_112 HE113 => ?_
          refine wpList_nil ?_
          clear a_108 HE109 a_110 HE111
          refine nrm ?_
          refine wp_ret ?_
          refine (thn_ret ?_)
          refine ret2 HE113 rfl (rv_tmp rfl) (rv_tmp rfl) ?_
          have hF : (numC a0) = (0, false) := by
            first | exact numC_len0 (by omega) | exact numC_len18 (by omega) | exact numC_zero (by omega) (by omega) xe22 (by omega) (by omega) | exact numC_dig (by omega) (by omega) xe22 (by omega) | (exfalso; omega) | (rw [numC_yes (i := i) (by omega) (numC_ok (by omega) (by omega) (by omega) z0 (by omega) (by omega) p0_2), o0]; simp)
          exact ⟨by first | (rw [hF] <;> rfl) | rfl | (rw [hF]; simp only [Ending.returned.injEq, Value.slice.injEq, true_and, and_true]; first | omega | (simp; done)) | (rw [hF]; simp; omega), HH1.below⟩
        · refine pl_x HE89 HH1 (wtT HE89 rfl rfl rfl (decide_eq_false hc25)) (x_move rfl) rfl rfl fun a_114 HE115 => ?_
          refine pl_x HE115 HH1 (wtT HE115 rfl rfl rfl (decide_eq_false hc25)) (x_move rfl) rfl rfl fun a_116 HE117 => ?_
          have ke26 : 1 < List.length a0 := by first | omega | (simp only [List.length_cons, List.length_nil]; omega)
          obtain ⟨e26, xe26⟩ : ∃ x_, x_ = a0[1] := ⟨_, rfl⟩
          have je26 : 0 ≤ (e26.toNat : Int) ∧ (e26.toNat : Int) ≤ 255 := by have := e26.toNat_lt; omega
          refine pl_x HE117 HH1 (wtT HE117 rfl rfl rfl (decide_eq_false hc25)) (x_idxB Tryz.underlying9 rfl rfl rfl ke26 xe26) rfl rfl fun a_118 HE119 => ?_
          refine pl_x HE119 HH1 (wtT HE119 rfl rfl rfl (decide_eq_false hc25)) (x_eql rfl rfl) rfl rfl fun a_120 HE121 => ?_
          refine pl_x HE121 HH1 (wtT HE121 rfl rfl rfl (decide_eq_false hc25)) (x_move rfl) rfl rfl fun a_122 HE123 => ?_
          by_cases hc27 : (e26.toNat : Int) = 48
          · have z0 := xe26
            refine pl_x HE123 HH1 (wtT HE123 rfl rfl rfl (beq_t hc27)) (x_move rfl) rfl rfl fun a_124 HE125 => ?_
            refine pl_x HE125 HH1 (wtT HE125 rfl rfl rfl (beq_t hc27)) (x_lenB Tryz.underlying9 rfl) rfl rfl fun a_126 HE127 => ?_
            refine pl_x HE127 HH1 (wtT HE127 rfl rfl rfl (beq_t hc27)) (x_gtr rfl rfl) rfl rfl fun a_128 HE129 => ?_
            refine pl_x HE129 HH1 (wtT HE129 rfl rfl rfl (decide_eq_false hc25)) (x_pickT rfl (beq_t hc27) rfl) rfl rfl fun a_130 HE131 => ?_
            refine pl_x HE131 HH1 (wt0 rfl) (x_pickF rfl (decide_eq_false hc25) rfl) rfl rfl fun a_132 HE133 => ?_
            refine wpList_nil ?_
            clear a_26 HE27 a_28 HE29 a_30 HE31 a_32 HE33 a_34 HE35 a_36 HE37 a_76 HE77 a_78 HE79 a_80 HE81 a_82 HE83 a_84 HE85 a_86 HE87 a_88 HE89 a_114 HE115 a_116 HE117 a_118 HE119 a_120 HE121 a_122 HE123 a_124 HE125 a_126 HE127 a_128 HE129 a_130 HE131
            refine nrm ?_
            refine cnd_d HE133 rfl (fun hc28 => ?_) (fun hc28 => ?_)
            · refine wp_seq ?_
              refine rg ?_
              refine pl_x HE133 HH1 (wt0 rfl) (x_assign rfl) rfl rfl fun a_134 HE135 => ?_
              refine pl_x HE135 HH1 (wt0 rfl) (x_assign rfl) rfl rfl fun a_136 HE137 => ?_
              refine wpList_nil ?_
              clear a_132 HE133 a_134 HE135
              refine nrm ?_
              refine wp_ret ?_
              refine (thn_ret ?_)
              refine ret2 HE137 rfl (rv_tmp rfl) (rv_tmp rfl) ?_
              have hF : (numC a0) = (0, false) := by
                first | exact numC_len0 (by omega) | exact numC_len18 (by omega) | exact numC_zero (by omega) (by omega) xe26 (by omega) (by omega) | exact numC_dig (by omega) (by omega) xe26 (by omega) | (exfalso; omega) | (rw [numC_yes (i := i) (by omega) (numC_ok (by omega) (by omega) (by omega) z0 (by omega) (by omega) p0_2), o0]; simp)
              exact ⟨by first | (rw [hF] <;> rfl) | rfl | (rw [hF]; simp only [Ending.returned.injEq, Value.slice.injEq, true_and, and_true]; first | omega | (simp; done)) | (rw [hF]; simp; omega), HH1.below⟩
            · refine wp_skip ?_
              refine nrm ?_
              refine wp_seq ?_
              refine rg ?_
              refine pl_x HE133 HH1 (wt0 rfl) (x_assign rfl) rfl rfl fun a_138 HE139 => ?_
              refine wpList_nil ?_
              clear a_132 HE133
              refine nrm ?_
              refine wp_seq ?_
              refine wp_seq ?_
              refine rg ?_
              refine pl_x HE139 HH1 (wt0 rfl) (x_move rfl) rfl rfl fun a_140 HE141 => ?_
              refine pl_x HE141 HH1 (wt0 rfl) (x_assign rfl) rfl rfl fun a_142 HE143 => ?_
              refine wpList_nil ?_
              clear a_138 HE139 a_140 HE141
              refine nrm ?_
              refine wp_block ?_
              refine lp (fun m a w' => ∃ (i : Nat), m = a0.length - i ∧ Env 62 [(5, .int .i64 (valD 0 (dgs a0 i) : Int)), (6, .int .i64 (i : Int)), (0, .string (bs a0)), (4, .int .i64 (1))] a ∧ Held Nob w [] w' ∧ (ofP a0 ≤ i) ∧ (i ≤ a0.length) ∧ ((dgs a0 i).all isDg = true)) (a0.length - (ofP a0)) ?_ ?_
              · exact ⟨ofP a0, rfl, HE143.sub ⟨(lkI rfl (by rw [dgs_zero, valD_nil]; rfl)), (lkI rfl (by omega)), rfl, rfl, trivial⟩, (HH1.sel [] (by decide) rfl), (by first | omega | assumption | (simp; done) | simp_all), (by first | omega | assumption | (simp; done) | simp_all), (by rw [dgs_zero]; rfl)⟩
              · rintro m a_144 w' ⟨i, rfl, HE145, HH146, p29_0, p29_1, p29_2⟩
                refine wp_seq ?_
                refine wp_seq ?_
                refine rg ?_
                refine pl_x HE145 HH146 (wt0 rfl) (x_move rfl) rfl rfl fun a_147 HE148 => ?_
                refine pl_x HE148 HH146 (wt0 rfl) (x_move rfl) rfl rfl fun a_149 HE150 => ?_
                refine pl_x HE150 HH146 (wt0 rfl) (x_lenB Tryz.underlying9 rfl) rfl rfl fun a_151 HE152 => ?_
                refine pl_x HE152 HH146 (wt0 rfl) (x_lss rfl rfl) rfl rfl fun a_153 HE154 => ?_
                refine wpList_nil ?_
                clear a_142 HE143 HH1 a_144 HE145 a_147 HE148 a_149 HE150 a_151 HE152
                refine nrm ?_
                refine cnd_d HE154 rfl (fun hc30 => ?_) (fun hc30 => ?_)
                · have nb := dgs_bd p29_2 (by omega) (by omega)
                  refine wp_skip ?_
                  refine nrm ?_
                  refine wp_seq ?_
                  refine wp_block ?_
                  refine wp_seq ?_
                  refine wp_seq ?_
                  refine rg ?_
                  refine pl_x HE154 HH146 (wt0 rfl) (x_move rfl) rfl rfl fun a_155 HE156 => ?_
                  refine pl_x HE156 HH146 (wt0 rfl) (x_move rfl) rfl rfl fun a_157 HE158 => ?_
                  have ke31 : i < List.length a0 := by first | omega | (simp only [List.length_cons, List.length_nil]; omega)
                  obtain ⟨e31, xe31⟩ : ∃ x_, x_ = a0[i] := ⟨_, rfl⟩
                  have je31 : 0 ≤ (e31.toNat : Int) ∧ (e31.toNat : Int) ≤ 255 := by have := e31.toNat_lt; omega
                  refine pl_x HE158 HH146 (wt0 rfl) (x_idxB Tryz.underlying9 rfl rfl rfl ke31 xe31) rfl rfl fun a_159 HE160 => ?_
                  refine pl fun K_161 hK162 => ?_
                  refine st_call HE160 (wt0 rfl) rfl rfl rfl en_116 rfl rfl (spec_l01Digit (e31.toNat : Int) _ ) fun e w' hr => ?_
                  obtain ⟨rfl, hbr32⟩ := hr
                  have HH163 := HH146.on hbr32
                  refine ⟨_, rfl, fun a_164 HE165 => hK162 _ _ ?_⟩
                  refine pl_x HE165 HH163 (wt0 rfl) (x_not rfl) rfl rfl fun a_166 HE167 => ?_
                  refine wpList_nil ?_
                  clear a_153 HE154 a_155 HE156 a_157 HE158 HH146 a_159 HE160 a_164 HE165 hK162 K_161
                  refine nrm ?_
                  refine cnd_nb HE167 rfl (fun hc33 => ?_) (fun hc33 => ?_)
                  · have d0 := hc33
                    unfold digB at d0
                    simp only [Bool.and_eq_false_iff, decide_eq_false_iff_not] at d0
                    refine wp_seq ?_
                    refine rg ?_
                    refine pl_x HE167 HH163 (wt0 rfl) (x_assign rfl) rfl rfl fun a_168 HE169 => ?_
                    refine pl_x HE169 HH163 (wt0 rfl) (x_assign rfl) rfl rfl fun a_170 HE171 => ?_
                    refine wpList_nil ?_
                    clear a_166 HE167 a_168 HE169
                    refine nrm ?_
                    refine wp_ret ?_
                    refine (thn_ret (blk_ret (thn_ret (thn_ret (blk_ret (thn_ret ?_))))))
                    refine ret2 HE171 rfl (rv_tmp rfl) (rv_tmp rfl) ?_
                    have hF : (numC a0) = (0, false) := by
                      first | exact numC_len0 (by omega) | exact numC_len18 (by omega) | exact numC_zero (by omega) (by omega) xe31 (by omega) (by omega) | exact numC_dig (by omega) (by omega) xe31 (by omega) | (exfalso; omega) | (rw [numC_yes (i := i) (by omega) (numC_ok (by omega) (by omega) (by omega) z0 (by omega) (by omega) p29_2), o0]; simp)
                    exact ⟨by first | (rw [hF] <;> rfl) | rfl | (rw [hF]; simp only [Ending.returned.injEq, Value.slice.injEq, true_and, and_true]; first | omega | (simp; done)) | (rw [hF]; simp; omega), HH163.below⟩
                  · have d0 := hc33
                    unfold digB at d0
                    simp only [Bool.and_eq_true, decide_eq_true_eq] at d0
                    refine wp_skip ?_
                    refine nrm ?_
                    refine rg ?_
                    refine pl_x HE167 HH163 (wt0 rfl) (x_move rfl) rfl rfl fun a_172 HE173 => ?_
                    refine pl_x HE173 HH163 (wt0 rfl) (x_mul rfl rfl (by exact ⟨by omega, by omega⟩)) rfl rfl fun a_174 HE175 => ?_
                    refine pl_x HE175 HH163 (wt0 rfl) (x_move rfl) rfl rfl fun a_176 HE177 => ?_
                    refine pl_x HE177 HH163 (wt0 rfl) (x_move rfl) rfl rfl fun a_178 HE179 => ?_
                    refine pl_x HE179 HH163 (wt0 rfl) (x_idxB Tryz.underlying9 rfl rfl rfl ke31 xe31) rfl rfl fun a_180 HE181 => ?_
                    refine pl_x HE181 HH163 (wt0 rfl) (x_sub8 rfl rfl (by constructor <;> omega)) rfl rfl fun a_182 HE183 => ?_
                    refine pl_x HE183 HH163 (wt0 rfl) (x_conv Tryz.underlying5 Tryz.underlying2 rfl (by exact ⟨by omega, by omega⟩)) rfl rfl fun a_184 HE185 => ?_
                    refine pl_x HE185 HH163 (wt0 rfl) (x_add rfl rfl (by exact ⟨by omega, by omega⟩)) rfl rfl fun a_186 HE187 => ?_
                    refine pl_x HE187 HH163 (wt0 rfl) (x_assign rfl) rfl rfl fun a_188 HE189 => ?_
                    refine wpList_nil ?_
                    clear a_166 HE167 a_172 HE173 a_174 HE175 a_176 HE177 a_178 HE179 a_180 HE181 a_182 HE183 a_184 HE185 a_186 HE187
                    refine blk_n ?_
                    refine nrm ?_
                    refine rg ?_
                    refine pl_x HE189 HH163 (wt0 rfl) (x_move rfl) rfl rfl fun a_190 HE191 => ?_
                    refine pl_x HE191 HH163 (wt0 rfl) (x_add rfl rfl (by exact ⟨by omega, by omega⟩)) rfl rfl fun a_192 HE193 => ?_
                    refine pl_x HE193 HH163 (wt0 rfl) (x_assign rfl) rfl rfl fun a_194 HE195 => ?_
                    refine wpList_nil ?_
                    clear a_188 HE189 a_190 HE191 a_192 HE193
                    exact nrm ⟨a0.length - (i + 1), (by omega), i + 1, rfl, HE195.sub ⟨(lkI rfl (by rw [dgs_step (by omega) (by omega) xe31, valD_snoc, dgv_def]; omega)), (lkI rfl (by first | rfl | omega | (simp [hc21, xe22, hc23, hc24, hc25, xe26, hc27, hc28, p29_0, p29_1, p29_2, hc30, xe31, hc33]; done))), rfl, rfl, trivial⟩, (HH163.sel [] (by decide) rfl), (by first | omega | assumption | (simp; done) | simp_all), (by first | omega | assumption | (simp; done) | simp_all), (by exact dgs_all p29_2 (by omega) (by omega) xe31 (by omega))⟩
                · have nb := dgs_bd18 p29_2 (by omega)
                  refine wp_exit ?_
                  refine (thn_exit (thn_exit (blk_hit ?_)))
                  refine nrm ?_
                  refine wp_seq ?_
                  refine wp_seq ?_
                  refine rg ?_
                  refine pl_x HE154 HH146 (wt0 rfl) (x_move rfl) rfl rfl fun a_196 HE197 => ?_
                  refine pl_x HE197 HH146 (wt0 rfl) (x_eql rfl rfl) rfl rfl fun a_198 HE199 => ?_
                  refine wpList_nil ?_
                  clear a_153 HE154 a_196 HE197
                  refine nrm ?_
                  refine cndT HE199 rfl (beq_t rfl) ?_
                  refine rg ?_
                  refine pl_x HE199 HH146 (wt0 rfl) (x_move rfl) rfl rfl fun a_200 HE201 => ?_
                  refine pl_x HE201 HH146 (wt0 rfl) (x_neg rfl (by exact ⟨by omega, by omega⟩)) rfl rfl fun a_202 HE203 => ?_
                  refine pl_x HE203 HH146 (wt0 rfl) (x_assign rfl) rfl rfl fun a_204 HE205 => ?_
                  refine wpList_nil ?_
                  clear a_198 HE199 a_200 HE201 a_202 HE203
                  refine nrm ?_
                  refine wp_seq ?_
                  refine rg ?_
                  refine pl_x HE205 HH146 (wt0 rfl) (x_move rfl) rfl rfl fun a_206 HE207 => ?_
                  refine pl_x HE207 HH146 (wt0 rfl) (x_assign rfl) rfl rfl fun a_208 HE209 => ?_
                  refine pl_x HE209 HH146 (wt0 rfl) (x_assign rfl) rfl rfl fun a_210 HE211 => ?_
                  refine wpList_nil ?_
                  clear a_204 HE205 a_206 HE207 a_208 HE209
                  refine nrm ?_
                  refine wp_ret ?_
                  refine ret2 HE211 rfl (rv_tmp rfl) (rv_tmp rfl) ?_
                  have hF : (numC a0) = (-(valD 0 (dgs a0 i) : Int), true) := by
                    first | exact numC_len0 (by omega) | exact numC_len18 (by omega) | exact numC_zero (by omega) (by omega) xe26 (by omega) (by omega) | exact numC_dig (by omega) (by omega) xe26 (by omega) | (exfalso; omega) | (rw [numC_yes (i := i) (by omega) (numC_ok (by omega) (by omega) (by omega) z0 (by omega) (by omega) p29_2), o0]; simp)
                  exact ⟨by first | (rw [hF] <;> rfl) | rfl | (rw [hF]; simp only [Ending.returned.injEq, Value.slice.injEq, true_and, and_true]; first | omega | (simp; done)) | (rw [hF]; simp; omega), HH146.below⟩
          · have z0 := xe26
            refine pl_no HE123 (wtF HE123 rfl rfl rfl (beq_f hc27)) rfl rfl fun a_212 HE213 => ?_
            refine pl_no HE213 (wtF HE213 rfl rfl rfl (beq_f hc27)) rfl rfl fun a_214 HE215 => ?_
            refine pl_no HE215 (wtF HE215 rfl rfl rfl (beq_f hc27)) rfl rfl fun a_216 HE217 => ?_
            refine pl_x HE217 HH1 (wtT HE217 rfl rfl rfl (decide_eq_false hc25)) (x_pickF rfl (beq_f hc27) rfl) rfl rfl fun a_218 HE219 => ?_
            refine pl_x HE219 HH1 (wt0 rfl) (x_pickF rfl (decide_eq_false hc25) rfl) rfl rfl fun a_220 HE221 => ?_
            refine wpList_nil ?_
            clear a_26 HE27 a_28 HE29 a_30 HE31 a_32 HE33 a_34 HE35 a_36 HE37 a_76 HE77 a_78 HE79 a_80 HE81 a_82 HE83 a_84 HE85 a_86 HE87 a_88 HE89 a_114 HE115 a_116 HE117 a_118 HE119 a_120 HE121 a_122 HE123 a_212 HE213 a_214 HE215 a_216 HE217 a_218 HE219
            refine nrm ?_
            refine cndF HE221 rfl rfl ?_
            refine wp_skip ?_
            refine nrm ?_
            refine wp_seq ?_
            refine rg ?_
            refine pl_x HE221 HH1 (wt0 rfl) (x_assign rfl) rfl rfl fun a_222 HE223 => ?_
            refine wpList_nil ?_
            clear a_220 HE221
            refine nrm ?_
            refine wp_seq ?_
            refine wp_seq ?_
            refine rg ?_
            refine pl_x HE223 HH1 (wt0 rfl) (x_move rfl) rfl rfl fun a_224 HE225 => ?_
            refine pl_x HE225 HH1 (wt0 rfl) (x_assign rfl) rfl rfl fun a_226 HE227 => ?_
            refine wpList_nil ?_
            clear a_222 HE223 a_224 HE225
            refine nrm ?_
            refine wp_block ?_
            refine lp (fun m a w' => ∃ (i : Nat), m = a0.length - i ∧ Env 62 [(5, .int .i64 (valD 0 (dgs a0 i) : Int)), (6, .int .i64 (i : Int)), (0, .string (bs a0)), (4, .int .i64 (1))] a ∧ Held Nob w [] w' ∧ (ofP a0 ≤ i) ∧ (i ≤ a0.length) ∧ ((dgs a0 i).all isDg = true)) (a0.length - (ofP a0)) ?_ ?_
            · exact ⟨ofP a0, rfl, HE227.sub ⟨(lkI rfl (by rw [dgs_zero, valD_nil]; rfl)), (lkI rfl (by omega)), rfl, rfl, trivial⟩, (HH1.sel [] (by decide) rfl), (by first | omega | assumption | (simp; done) | simp_all), (by first | omega | assumption | (simp; done) | simp_all), (by rw [dgs_zero]; rfl)⟩
            · rintro m a_228 w' ⟨i, rfl, HE229, HH230, p34_0, p34_1, p34_2⟩
              refine wp_seq ?_
              refine wp_seq ?_
              refine rg ?_
              refine pl_x HE229 HH230 (wt0 rfl) (x_move rfl) rfl rfl fun a_231 HE232 => ?_
              refine pl_x HE232 HH230 (wt0 rfl) (x_move rfl) rfl rfl fun a_233 HE234 => ?_
              refine pl_x HE234 HH230 (wt0 rfl) (x_lenB Tryz.underlying9 rfl) rfl rfl fun a_235 HE236 => ?_
              refine pl_x HE236 HH230 (wt0 rfl) (x_lss rfl rfl) rfl rfl fun a_237 HE238 => ?_
              refine wpList_nil ?_
              clear a_226 HE227 HH1 a_228 HE229 a_231 HE232 a_233 HE234 a_235 HE236
              refine nrm ?_
              refine cnd_d HE238 rfl (fun hc35 => ?_) (fun hc35 => ?_)
              · have nb := dgs_bd p34_2 (by omega) (by omega)
                refine wp_skip ?_
                refine nrm ?_
                refine wp_seq ?_
                refine wp_block ?_
                refine wp_seq ?_
                refine wp_seq ?_
                refine rg ?_
                refine pl_x HE238 HH230 (wt0 rfl) (x_move rfl) rfl rfl fun a_239 HE240 => ?_
                refine pl_x HE240 HH230 (wt0 rfl) (x_move rfl) rfl rfl fun a_241 HE242 => ?_
                have ke36 : i < List.length a0 := by first | omega | (simp only [List.length_cons, List.length_nil]; omega)
                obtain ⟨e36, xe36⟩ : ∃ x_, x_ = a0[i] := ⟨_, rfl⟩
                have je36 : 0 ≤ (e36.toNat : Int) ∧ (e36.toNat : Int) ≤ 255 := by have := e36.toNat_lt; omega
                refine pl_x HE242 HH230 (wt0 rfl) (x_idxB Tryz.underlying9 rfl rfl rfl ke36 xe36) rfl rfl fun a_243 HE244 => ?_
                refine pl fun K_245 hK246 => ?_
                refine st_call HE244 (wt0 rfl) rfl rfl rfl en_116 rfl rfl (spec_l01Digit (e36.toNat : Int) _ ) fun e w' hr => ?_
                obtain ⟨rfl, hbr37⟩ := hr
                have HH247 := HH230.on hbr37
                refine ⟨_, rfl, fun a_248 HE249 => hK246 _ _ ?_⟩
                refine pl_x HE249 HH247 (wt0 rfl) (x_not rfl) rfl rfl fun a_250 HE251 => ?_
                refine wpList_nil ?_
                clear a_237 HE238 a_239 HE240 a_241 HE242 HH230 a_243 HE244 a_248 HE249 hK246 K_245
                refine nrm ?_
                refine cnd_nb HE251 rfl (fun hc38 => ?_) (fun hc38 => ?_)
                · have d0 := hc38
                  unfold digB at d0
                  simp only [Bool.and_eq_false_iff, decide_eq_false_iff_not] at d0
                  refine wp_seq ?_
                  refine rg ?_
                  refine pl_x HE251 HH247 (wt0 rfl) (x_assign rfl) rfl rfl fun a_252 HE253 => ?_
                  refine pl_x HE253 HH247 (wt0 rfl) (x_assign rfl) rfl rfl fun a_254 HE255 => ?_
                  refine wpList_nil ?_
                  clear a_250 HE251 a_252 HE253
                  refine nrm ?_
                  refine wp_ret ?_
                  refine (thn_ret (blk_ret (thn_ret (thn_ret (blk_ret (thn_ret ?_))))))
                  refine ret2 HE255 rfl (rv_tmp rfl) (rv_tmp rfl) ?_
                  have hF : (numC a0) = (0, false) := by
                    first | exact numC_len0 (by omega) | exact numC_len18 (by omega) | exact numC_zero (by omega) (by omega) xe36 (by omega) (by omega) | exact numC_dig (by omega) (by omega) xe36 (by omega) | (exfalso; omega) | (rw [numC_yes (i := i) (by omega) (numC_ok (by omega) (by omega) (by omega) z0 (by omega) (by omega) p34_2), o0]; simp)
                  exact ⟨by first | (rw [hF] <;> rfl) | rfl | (rw [hF]; simp only [Ending.returned.injEq, Value.slice.injEq, true_and, and_true]; first | omega | (simp; done)) | (rw [hF]; simp; omega), HH247.below⟩
                · have d0 := hc38
                  unfold digB at d0
                  simp only [Bool.and_eq_true, decide_eq_true_eq] at d0
                  refine wp_skip ?_
                  refine nrm ?_
                  refine rg ?_
                  refine pl_x HE251 HH247 (wt0 rfl) (x_move rfl) rfl rfl fun a_256 HE257 => ?_
                  refine pl_x HE257 HH247 (wt0 rfl) (x_mul rfl rfl (by exact ⟨by omega, by omega⟩)) rfl rfl fun a_258 HE259 => ?_
                  refine pl_x HE259 HH247 (wt0 rfl) (x_move rfl) rfl rfl fun a_260 HE261 => ?_
                  refine pl_x HE261 HH247 (wt0 rfl) (x_move rfl) rfl rfl fun a_262 HE263 => ?_
                  refine pl_x HE263 HH247 (wt0 rfl) (x_idxB Tryz.underlying9 rfl rfl rfl ke36 xe36) rfl rfl fun a_264 HE265 => ?_
                  refine pl_x HE265 HH247 (wt0 rfl) (x_sub8 rfl rfl (by constructor <;> omega)) rfl rfl fun a_266 HE267 => ?_
                  refine pl_x HE267 HH247 (wt0 rfl) (x_conv Tryz.underlying5 Tryz.underlying2 rfl (by exact ⟨by omega, by omega⟩)) rfl rfl fun a_268 HE269 => ?_
                  refine pl_x HE269 HH247 (wt0 rfl) (x_add rfl rfl (by exact ⟨by omega, by omega⟩)) rfl rfl fun a_270 HE271 => ?_
                  refine pl_x HE271 HH247 (wt0 rfl) (x_assign rfl) rfl rfl fun a_272 HE273 => ?_
                  refine wpList_nil ?_
                  clear a_250 HE251 a_256 HE257 a_258 HE259 a_260 HE261 a_262 HE263 a_264 HE265 a_266 HE267 a_268 HE269 a_270 HE271
                  refine blk_n ?_
                  refine nrm ?_
                  refine rg ?_
                  refine pl_x HE273 HH247 (wt0 rfl) (x_move rfl) rfl rfl fun a_274 HE275 => ?_
                  refine pl_x HE275 HH247 (wt0 rfl) (x_add rfl rfl (by exact ⟨by omega, by omega⟩)) rfl rfl fun a_276 HE277 => ?_
                  refine pl_x HE277 HH247 (wt0 rfl) (x_assign rfl) rfl rfl fun a_278 HE279 => ?_
                  refine wpList_nil ?_
                  clear a_272 HE273 a_274 HE275 a_276 HE277
                  exact nrm ⟨a0.length - (i + 1), (by omega), i + 1, rfl, HE279.sub ⟨(lkI rfl (by rw [dgs_step (by omega) (by omega) xe36, valD_snoc, dgv_def]; omega)), (lkI rfl (by first | rfl | omega | (simp [hc21, xe22, hc23, hc24, hc25, xe26, hc27, p34_0, p34_1, p34_2, hc35, xe36, hc38]; done))), rfl, rfl, trivial⟩, (HH247.sel [] (by decide) rfl), (by first | omega | assumption | (simp; done) | simp_all), (by first | omega | assumption | (simp; done) | simp_all), (by exact dgs_all p34_2 (by omega) (by omega) xe36 (by omega))⟩
              · have nb := dgs_bd18 p34_2 (by omega)
                refine wp_exit ?_
                refine (thn_exit (thn_exit (blk_hit ?_)))
                refine nrm ?_
                refine wp_seq ?_
                refine wp_seq ?_
                refine rg ?_
                refine pl_x HE238 HH230 (wt0 rfl) (x_move rfl) rfl rfl fun a_280 HE281 => ?_
                refine pl_x HE281 HH230 (wt0 rfl) (x_eql rfl rfl) rfl rfl fun a_282 HE283 => ?_
                refine wpList_nil ?_
                clear a_237 HE238 a_280 HE281
                refine nrm ?_
                refine cndT HE283 rfl (beq_t rfl) ?_
                refine rg ?_
                refine pl_x HE283 HH230 (wt0 rfl) (x_move rfl) rfl rfl fun a_284 HE285 => ?_
                refine pl_x HE285 HH230 (wt0 rfl) (x_neg rfl (by exact ⟨by omega, by omega⟩)) rfl rfl fun a_286 HE287 => ?_
                refine pl_x HE287 HH230 (wt0 rfl) (x_assign rfl) rfl rfl fun a_288 HE289 => ?_
                refine wpList_nil ?_
                clear a_282 HE283 a_284 HE285 a_286 HE287
                refine nrm ?_
                refine wp_seq ?_
                refine rg ?_
                refine pl_x HE289 HH230 (wt0 rfl) (x_move rfl) rfl rfl fun a_290 HE291 => ?_
                refine pl_x HE291 HH230 (wt0 rfl) (x_assign rfl) rfl rfl fun a_292 HE293 => ?_
                refine pl_x HE293 HH230 (wt0 rfl) (x_assign rfl) rfl rfl fun a_294 HE295 => ?_
                refine wpList_nil ?_
                clear a_288 HE289 a_290 HE291 a_292 HE293
                refine nrm ?_
                refine wp_ret ?_
                refine ret2 HE295 rfl (rv_tmp rfl) (rv_tmp rfl) ?_
                have hF : (numC a0) = (-(valD 0 (dgs a0 i) : Int), true) := by
                  first | exact numC_len0 (by omega) | exact numC_len18 (by omega) | exact numC_zero (by omega) (by omega) xe26 (by omega) (by omega) | exact numC_dig (by omega) (by omega) xe26 (by omega) | (exfalso; omega) | (rw [numC_yes (i := i) (by omega) (numC_ok (by omega) (by omega) (by omega) z0 (by omega) (by omega) p34_2), o0]; simp)
                exact ⟨by first | (rw [hF] <;> rfl) | rfl | (rw [hF]; simp only [Ending.returned.injEq, Value.slice.injEq, true_and, and_true]; first | omega | (simp; done)) | (rw [hF]; simp; omega), HH230.below⟩
    · have o0 := ofP_pos (by omega) xe22 hc23
      refine wp_skip ?_
      refine nrm ?_
      refine wp_seq ?_
      refine wp_seq ?_
      refine rg ?_
      refine pl_x HE25 HH1 (wt0 rfl) (x_move rfl) rfl rfl fun a_296 HE297 => ?_
      refine pl_x HE297 HH1 (wt0 rfl) (x_lenB Tryz.underlying9 rfl) rfl rfl fun a_298 HE299 => ?_
      refine pl_x HE299 HH1 (wt0 rfl) (x_move rfl) rfl rfl fun a_300 HE301 => ?_
      refine pl_x HE301 HH1 (wt0 rfl) (x_eql rfl rfl) rfl rfl fun a_302 HE303 => ?_
      refine pl_x HE303 HH1 (wt0 rfl) (x_move rfl) rfl rfl fun a_304 HE305 => ?_
      by_cases hc39 : (List.length a0 : Int) = 0
      · refine pl_no HE305 (wtF HE305 rfl rfl rfl (beq_t hc39)) rfl rfl fun a_306 HE307 => ?_
        refine pl_no HE307 (wtF HE307 rfl rfl rfl (beq_t hc39)) rfl rfl fun a_308 HE309 => ?_
        refine pl_no HE309 (wtF HE309 rfl rfl rfl (beq_t hc39)) rfl rfl fun a_310 HE311 => ?_
        refine pl_no HE311 (wtF HE311 rfl rfl rfl (beq_t hc39)) rfl rfl fun a_312 HE313 => ?_
        refine pl_no HE313 (wtF HE313 rfl rfl rfl (beq_t hc39)) rfl rfl fun a_314 HE315 => ?_
        refine pl_x HE315 HH1 (wt0 rfl) (x_pickT rfl (beq_t hc39) rfl) rfl rfl fun a_316 HE317 => ?_
        refine pl_x HE317 HH1 (wt0 rfl) (x_move rfl) rfl rfl fun a_318 HE319 => ?_
        refine pl_no HE319 (wtF HE319 rfl rfl rfl rfl) rfl rfl fun a_320 HE321 => ?_
        refine pl_no HE321 (wtF HE321 rfl rfl rfl rfl) rfl rfl fun a_322 HE323 => ?_
        refine pl_no HE323 (wtF HE323 rfl rfl rfl rfl) rfl rfl fun a_324 HE325 => ?_
        refine pl_no HE325 (wtF HE325 rfl rfl rfl rfl) rfl rfl fun a_326 HE327 => ?_
        refine pl_no HE327 (wtF HE327 rfl rfl rfl rfl) rfl rfl fun a_328 HE329 => ?_
        refine pl_no HE329 (wtU HE329 rfl rfl rfl) rfl rfl fun a_330 HE331 => ?_
        refine pl_no HE331 (wtU HE331 rfl rfl rfl) rfl rfl fun a_332 HE333 => ?_
        refine pl_no HE333 (wtU HE333 rfl rfl rfl) rfl rfl fun a_334 HE335 => ?_
        refine pl_no HE335 (wtF HE335 rfl rfl rfl rfl) rfl rfl fun a_336 HE337 => ?_
        refine pl_x HE337 HH1 (wt0 rfl) (x_pickT rfl rfl rfl) rfl rfl fun a_338 HE339 => ?_
        refine wpList_nil ?_
        clear a_24 HE25 a_296 HE297 a_298 HE299 a_300 HE301 a_302 HE303 a_304 HE305 a_306 HE307 a_308 HE309 a_310 HE311 a_312 HE313 a_314 HE315 a_316 HE317 a_318 HE319 a_320 HE321 a_322 HE323 a_324 HE325 a_326 HE327 a_328 HE329 a_330 HE331 a_332 HE333 a_334 HE335 a_336 HE337
        refine nrm ?_
        refine cndT HE339 rfl rfl ?_
        refine wp_seq ?_
        refine rg ?_
        refine pl_x HE339 HH1 (wt0 rfl) (x_assign rfl) rfl rfl fun a_340 HE341 => ?_
        refine pl_x HE341 HH1 (wt0 rfl) (x_assign rfl) rfl rfl fun a_342 HE343 => ?_
        refine wpList_nil ?_
        clear a_338 HE339 a_340 HE341
        refine nrm ?_
        refine wp_ret ?_
        refine (thn_ret ?_)
        refine ret2 HE343 rfl (rv_tmp rfl) (rv_tmp rfl) ?_
        have hF : (numC a0) = (0, false) := by
          first | exact numC_len0 (by omega) | exact numC_len18 (by omega) | exact numC_zero (by omega) (by omega) xe22 (by omega) (by omega) | exact numC_dig (by omega) (by omega) xe22 (by omega) | (exfalso; omega) | (rw [numC_yes (i := i) (by omega) (numC_ok (by omega) (by omega) (by omega) z0 (by omega) (by omega) p0_2), o0]; simp)
        exact ⟨by first | (rw [hF] <;> rfl) | rfl | (rw [hF]; simp only [Ending.returned.injEq, Value.slice.injEq, true_and, and_true]; first | omega | (simp; done)) | (rw [hF]; simp; omega), HH1.below⟩
      · refine pl_x HE305 HH1 (wtT HE305 rfl rfl rfl (beq_f hc39)) (x_move rfl) rfl rfl fun a_344 HE345 => ?_
        refine pl_x HE345 HH1 (wtT HE345 rfl rfl rfl (beq_f hc39)) (x_lenB Tryz.underlying9 rfl) rfl rfl fun a_346 HE347 => ?_
        refine pl_x HE347 HH1 (wtT HE347 rfl rfl rfl (beq_f hc39)) (x_move rfl) rfl rfl fun a_348 HE349 => ?_
        refine pl_x HE349 HH1 (wtT HE349 rfl rfl rfl (beq_f hc39)) (x_sub rfl rfl (by exact ⟨by omega, by omega⟩)) rfl rfl fun a_350 HE351 => ?_
        refine pl_x HE351 HH1 (wtT HE351 rfl rfl rfl (beq_f hc39)) (x_gtr rfl rfl) rfl rfl fun a_352 HE353 => ?_
        refine pl_x HE353 HH1 (wt0 rfl) (x_pickF rfl (beq_f hc39) rfl) rfl rfl fun a_354 HE355 => ?_
        refine pl_x HE355 HH1 (wt0 rfl) (x_move rfl) rfl rfl fun a_356 HE357 => ?_
        by_cases hc40 : 18 < ((List.length a0 : Int) - 0)
        · refine pl_no HE357 (wtF HE357 rfl rfl rfl (decide_eq_true hc40)) rfl rfl fun a_358 HE359 => ?_
          refine pl_no HE359 (wtF HE359 rfl rfl rfl (decide_eq_true hc40)) rfl rfl fun a_360 HE361 => ?_
          refine pl_no HE361 (wtF HE361 rfl rfl rfl (decide_eq_true hc40)) rfl rfl fun a_362 HE363 => ?_
          refine pl_no HE363 (wtF HE363 rfl rfl rfl (decide_eq_true hc40)) rfl rfl fun a_364 HE365 => ?_
          refine pl_no HE365 (wtF HE365 rfl rfl rfl (decide_eq_true hc40)) rfl rfl fun a_366 HE367 => ?_
          refine pl_no HE367 (wtU HE367 rfl rfl rfl) rfl rfl fun a_368 HE369 => ?_
          refine pl_no HE369 (wtU HE369 rfl rfl rfl) rfl rfl fun a_370 HE371 => ?_
          refine pl_no HE371 (wtU HE371 rfl rfl rfl) rfl rfl fun a_372 HE373 => ?_
          refine pl_no HE373 (wtF HE373 rfl rfl rfl (decide_eq_true hc40)) rfl rfl fun a_374 HE375 => ?_
          refine pl_x HE375 HH1 (wt0 rfl) (x_pickT rfl (decide_eq_true hc40) rfl) rfl rfl fun a_376 HE377 => ?_
          refine wpList_nil ?_
          clear a_24 HE25 a_296 HE297 a_298 HE299 a_300 HE301 a_302 HE303 a_304 HE305 a_344 HE345 a_346 HE347 a_348 HE349 a_350 HE351 a_352 HE353 a_354 HE355 a_356 HE357 a_358 HE359 a_360 HE361 a_362 HE363 a_364 HE365 a_366 HE367 a_368 HE369 a_370 HE371 a_372 HE373 a_374 HE375
          refine nrm ?_
          refine cndT HE377 rfl rfl ?_
          refine wp_seq ?_
          refine rg ?_
          refine pl_x HE377 HH1 (wt0 rfl) (x_assign rfl) rfl rfl fun a_378 HE379 => ?_
          refine pl_x HE379 HH1 (wt0 rfl) (x_assign rfl) rfl rfl fun a_380 HE381 => ?_
          refine wpList_nil ?_
          clear a_376 HE377 a_378 HE379
          refine nrm ?_
          refine wp_ret ?_
          refine (thn_ret ?_)
          refine ret2 HE381 rfl (rv_tmp rfl) (rv_tmp rfl) ?_
          have hF : (numC a0) = (0, false) := by
            first | exact numC_len0 (by omega) | exact numC_len18 (by omega) | exact numC_zero (by omega) (by omega) xe22 (by omega) (by omega) | exact numC_dig (by omega) (by omega) xe22 (by omega) | (exfalso; omega) | (rw [numC_yes (i := i) (by omega) (numC_ok (by omega) (by omega) (by omega) z0 (by omega) (by omega) p0_2), o0]; simp)
          exact ⟨by first | (rw [hF] <;> rfl) | rfl | (rw [hF]; simp only [Ending.returned.injEq, Value.slice.injEq, true_and, and_true]; first | omega | (simp; done)) | (rw [hF]; simp; omega), HH1.below⟩
        · refine pl_x HE357 HH1 (wtT HE357 rfl rfl rfl (decide_eq_false hc40)) (x_move rfl) rfl rfl fun a_382 HE383 => ?_
          refine pl_x HE383 HH1 (wtT HE383 rfl rfl rfl (decide_eq_false hc40)) (x_move rfl) rfl rfl fun a_384 HE385 => ?_
          refine pl_x HE385 HH1 (wtT HE385 rfl rfl rfl (decide_eq_false hc40)) (x_idxB Tryz.underlying9 rfl rfl rfl ke22 xe22) rfl rfl fun a_386 HE387 => ?_
          refine pl_x HE387 HH1 (wtT HE387 rfl rfl rfl (decide_eq_false hc40)) (x_eql rfl rfl) rfl rfl fun a_388 HE389 => ?_
          refine pl_x HE389 HH1 (wtT HE389 rfl rfl rfl (decide_eq_false hc40)) (x_move rfl) rfl rfl fun a_390 HE391 => ?_
          by_cases hc41 : (e22.toNat : Int) = 48
          · have z0 := xe22
            refine pl_x HE391 HH1 (wtT HE391 rfl rfl rfl (beq_t hc41)) (x_move rfl) rfl rfl fun a_392 HE393 => ?_
            refine pl_x HE393 HH1 (wtT HE393 rfl rfl rfl (beq_t hc41)) (x_lenB Tryz.underlying9 rfl) rfl rfl fun a_394 HE395 => ?_
            refine pl_x HE395 HH1 (wtT HE395 rfl rfl rfl (beq_t hc41)) (x_gtr rfl rfl) rfl rfl fun a_396 HE397 => ?_
            refine pl_x HE397 HH1 (wtT HE397 rfl rfl rfl (decide_eq_false hc40)) (x_pickT rfl (beq_t hc41) rfl) rfl rfl fun a_398 HE399 => ?_
            refine pl_x HE399 HH1 (wt0 rfl) (x_pickF rfl (decide_eq_false hc40) rfl) rfl rfl fun a_400 HE401 => ?_
            refine wpList_nil ?_
            clear a_24 HE25 a_296 HE297 a_298 HE299 a_300 HE301 a_302 HE303 a_304 HE305 a_344 HE345 a_346 HE347 a_348 HE349 a_350 HE351 a_352 HE353 a_354 HE355 a_356 HE357 a_382 HE383 a_384 HE385 a_386 HE387 a_388 HE389 a_390 HE391 a_392 HE393 a_394 HE395 a_396 HE397 a_398 HE399
            refine nrm ?_
            refine cnd_d HE401 rfl (fun hc42 => ?_) (fun hc42 => ?_)
            · refine wp_seq ?_
              refine rg ?_
              refine pl_x HE401 HH1 (wt0 rfl) (x_assign rfl) rfl rfl fun a_402 HE403 => ?_
              refine pl_x HE403 HH1 (wt0 rfl) (x_assign rfl) rfl rfl fun a_404 HE405 => ?_
              refine wpList_nil ?_
              clear a_400 HE401 a_402 HE403
              refine nrm ?_
              refine wp_ret ?_
              refine (thn_ret ?_)
              refine ret2 HE405 rfl (rv_tmp rfl) (rv_tmp rfl) ?_
              have hF : (numC a0) = (0, false) := by
                first | exact numC_len0 (by omega) | exact numC_len18 (by omega) | exact numC_zero (by omega) (by omega) xe22 (by omega) (by omega) | exact numC_dig (by omega) (by omega) xe22 (by omega) | (exfalso; omega) | (rw [numC_yes (i := i) (by omega) (numC_ok (by omega) (by omega) (by omega) z0 (by omega) (by omega) p0_2), o0]; simp)
              exact ⟨by first | (rw [hF] <;> rfl) | rfl | (rw [hF]; simp only [Ending.returned.injEq, Value.slice.injEq, true_and, and_true]; first | omega | (simp; done)) | (rw [hF]; simp; omega), HH1.below⟩
            · refine wp_skip ?_
              refine nrm ?_
              refine wp_seq ?_
              refine rg ?_
              refine pl_x HE401 HH1 (wt0 rfl) (x_assign rfl) rfl rfl fun a_406 HE407 => ?_
              refine wpList_nil ?_
              clear a_400 HE401
              refine nrm ?_
              refine wp_seq ?_
              refine wp_seq ?_
              refine rg ?_
              refine pl_x HE407 HH1 (wt0 rfl) (x_move rfl) rfl rfl fun a_408 HE409 => ?_
              refine pl_x HE409 HH1 (wt0 rfl) (x_assign rfl) rfl rfl fun a_410 HE411 => ?_
              refine wpList_nil ?_
              clear a_406 HE407 a_408 HE409
              refine nrm ?_
              refine wp_block ?_
              refine lp (fun m a w' => ∃ (i : Nat), m = a0.length - i ∧ Env 62 [(5, .int .i64 (valD 0 (dgs a0 i) : Int)), (6, .int .i64 (i : Int)), (0, .string (bs a0)), (4, .int .i64 (0))] a ∧ Held Nob w [] w' ∧ (ofP a0 ≤ i) ∧ (i ≤ a0.length) ∧ ((dgs a0 i).all isDg = true)) (a0.length - (ofP a0)) ?_ ?_
              · exact ⟨ofP a0, rfl, HE411.sub ⟨(lkI rfl (by rw [dgs_zero, valD_nil]; rfl)), (lkI rfl (by omega)), rfl, rfl, trivial⟩, (HH1.sel [] (by decide) rfl), (by first | omega | assumption | (simp; done) | simp_all), (by first | omega | assumption | (simp; done) | simp_all), (by rw [dgs_zero]; rfl)⟩
              · rintro m a_412 w' ⟨i, rfl, HE413, HH414, p43_0, p43_1, p43_2⟩
                refine wp_seq ?_
                refine wp_seq ?_
                refine rg ?_
                refine pl_x HE413 HH414 (wt0 rfl) (x_move rfl) rfl rfl fun a_415 HE416 => ?_
                refine pl_x HE416 HH414 (wt0 rfl) (x_move rfl) rfl rfl fun a_417 HE418 => ?_
                refine pl_x HE418 HH414 (wt0 rfl) (x_lenB Tryz.underlying9 rfl) rfl rfl fun a_419 HE420 => ?_
                refine pl_x HE420 HH414 (wt0 rfl) (x_lss rfl rfl) rfl rfl fun a_421 HE422 => ?_
                refine wpList_nil ?_
                clear a_410 HE411 HH1 a_412 HE413 a_415 HE416 a_417 HE418 a_419 HE420
                refine nrm ?_
                refine cnd_d HE422 rfl (fun hc44 => ?_) (fun hc44 => ?_)
                · have nb := dgs_bd p43_2 (by omega) (by omega)
                  refine wp_skip ?_
                  refine nrm ?_
                  refine wp_seq ?_
                  refine wp_block ?_
                  refine wp_seq ?_
                  refine wp_seq ?_
                  refine rg ?_
                  refine pl_x HE422 HH414 (wt0 rfl) (x_move rfl) rfl rfl fun a_423 HE424 => ?_
                  refine pl_x HE424 HH414 (wt0 rfl) (x_move rfl) rfl rfl fun a_425 HE426 => ?_
                  have ke45 : i < List.length a0 := by first | omega | (simp only [List.length_cons, List.length_nil]; omega)
                  obtain ⟨e45, xe45⟩ : ∃ x_, x_ = a0[i] := ⟨_, rfl⟩
                  have je45 : 0 ≤ (e45.toNat : Int) ∧ (e45.toNat : Int) ≤ 255 := by have := e45.toNat_lt; omega
                  refine pl_x HE426 HH414 (wt0 rfl) (x_idxB Tryz.underlying9 rfl rfl rfl ke45 xe45) rfl rfl fun a_427 HE428 => ?_
                  refine pl fun K_429 hK430 => ?_
                  refine st_call HE428 (wt0 rfl) rfl rfl rfl en_116 rfl rfl (spec_l01Digit (e45.toNat : Int) _ ) fun e w' hr => ?_
                  obtain ⟨rfl, hbr46⟩ := hr
                  have HH431 := HH414.on hbr46
                  refine ⟨_, rfl, fun a_432 HE433 => hK430 _ _ ?_⟩
                  refine pl_x HE433 HH431 (wt0 rfl) (x_not rfl) rfl rfl fun a_434 HE435 => ?_
                  refine wpList_nil ?_
                  clear a_421 HE422 a_423 HE424 a_425 HE426 HH414 a_427 HE428 a_432 HE433 hK430 K_429
                  refine nrm ?_
                  refine cnd_nb HE435 rfl (fun hc47 => ?_) (fun hc47 => ?_)
                  · have d0 := hc47
                    unfold digB at d0
                    simp only [Bool.and_eq_false_iff, decide_eq_false_iff_not] at d0
                    refine wp_seq ?_
                    refine rg ?_
                    refine pl_x HE435 HH431 (wt0 rfl) (x_assign rfl) rfl rfl fun a_436 HE437 => ?_
                    refine pl_x HE437 HH431 (wt0 rfl) (x_assign rfl) rfl rfl fun a_438 HE439 => ?_
                    refine wpList_nil ?_
                    clear a_434 HE435 a_436 HE437
                    refine nrm ?_
                    refine wp_ret ?_
                    refine (thn_ret (blk_ret (thn_ret (thn_ret (blk_ret (thn_ret ?_))))))
                    refine ret2 HE439 rfl (rv_tmp rfl) (rv_tmp rfl) ?_
                    have hF : (numC a0) = (0, false) := by
                      first | exact numC_len0 (by omega) | exact numC_len18 (by omega) | exact numC_zero (by omega) (by omega) xe45 (by omega) (by omega) | exact numC_dig (by omega) (by omega) xe45 (by omega) | (exfalso; omega) | (rw [numC_yes (i := i) (by omega) (numC_ok (by omega) (by omega) (by omega) z0 (by omega) (by omega) p43_2), o0]; simp)
                    exact ⟨by first | (rw [hF] <;> rfl) | rfl | (rw [hF]; simp only [Ending.returned.injEq, Value.slice.injEq, true_and, and_true]; first | omega | (simp; done)) | (rw [hF]; simp; omega), HH431.below⟩
                  · have d0 := hc47
                    unfold digB at d0
                    simp only [Bool.and_eq_true, decide_eq_true_eq] at d0
                    refine wp_skip ?_
                    refine nrm ?_
                    refine rg ?_
                    refine pl_x HE435 HH431 (wt0 rfl) (x_move rfl) rfl rfl fun a_440 HE441 => ?_
                    refine pl_x HE441 HH431 (wt0 rfl) (x_mul rfl rfl (by exact ⟨by omega, by omega⟩)) rfl rfl fun a_442 HE443 => ?_
                    refine pl_x HE443 HH431 (wt0 rfl) (x_move rfl) rfl rfl fun a_444 HE445 => ?_
                    refine pl_x HE445 HH431 (wt0 rfl) (x_move rfl) rfl rfl fun a_446 HE447 => ?_
                    refine pl_x HE447 HH431 (wt0 rfl) (x_idxB Tryz.underlying9 rfl rfl rfl ke45 xe45) rfl rfl fun a_448 HE449 => ?_
                    refine pl_x HE449 HH431 (wt0 rfl) (x_sub8 rfl rfl (by constructor <;> omega)) rfl rfl fun a_450 HE451 => ?_
                    refine pl_x HE451 HH431 (wt0 rfl) (x_conv Tryz.underlying5 Tryz.underlying2 rfl (by exact ⟨by omega, by omega⟩)) rfl rfl fun a_452 HE453 => ?_
                    refine pl_x HE453 HH431 (wt0 rfl) (x_add rfl rfl (by exact ⟨by omega, by omega⟩)) rfl rfl fun a_454 HE455 => ?_
                    refine pl_x HE455 HH431 (wt0 rfl) (x_assign rfl) rfl rfl fun a_456 HE457 => ?_
                    refine wpList_nil ?_
                    clear a_434 HE435 a_440 HE441 a_442 HE443 a_444 HE445 a_446 HE447 a_448 HE449 a_450 HE451 a_452 HE453 a_454 HE455
                    refine blk_n ?_
                    refine nrm ?_
                    refine rg ?_
                    refine pl_x HE457 HH431 (wt0 rfl) (x_move rfl) rfl rfl fun a_458 HE459 => ?_
                    refine pl_x HE459 HH431 (wt0 rfl) (x_add rfl rfl (by exact ⟨by omega, by omega⟩)) rfl rfl fun a_460 HE461 => ?_
                    refine pl_x HE461 HH431 (wt0 rfl) (x_assign rfl) rfl rfl fun a_462 HE463 => ?_
                    refine wpList_nil ?_
                    clear a_456 HE457 a_458 HE459 a_460 HE461
                    exact nrm ⟨a0.length - (i + 1), (by omega), i + 1, rfl, HE463.sub ⟨(lkI rfl (by rw [dgs_step (by omega) (by omega) xe45, valD_snoc, dgv_def]; omega)), (lkI rfl (by first | rfl | omega | (simp [hc21, xe22, hc23, hc39, hc40, hc41, hc42, p43_0, p43_1, p43_2, hc44, xe45, hc47]; done))), rfl, rfl, trivial⟩, (HH431.sel [] (by decide) rfl), (by first | omega | assumption | (simp; done) | simp_all), (by first | omega | assumption | (simp; done) | simp_all), (by exact dgs_all p43_2 (by omega) (by omega) xe45 (by omega))⟩
                · have nb := dgs_bd18 p43_2 (by omega)
                  refine wp_exit ?_
                  refine (thn_exit (thn_exit (blk_hit ?_)))
                  refine nrm ?_
                  refine wp_seq ?_
                  refine wp_seq ?_
                  refine rg ?_
                  refine pl_x HE422 HH414 (wt0 rfl) (x_move rfl) rfl rfl fun a_464 HE465 => ?_
                  refine pl_x HE465 HH414 (wt0 rfl) (x_eql rfl rfl) rfl rfl fun a_466 HE467 => ?_
                  refine wpList_nil ?_
                  clear a_421 HE422 a_464 HE465
                  refine nrm ?_
                  refine cnd_e HE467 rfl (fun hc48 => ?_) (fun hc48 => ?_)
                  · refine rg ?_
                    refine pl_x HE467 HH414 (wt0 rfl) (x_move rfl) rfl rfl fun a_468 HE469 => ?_
                    refine pl_x HE469 HH414 (wt0 rfl) (x_neg rfl (by exact ⟨by omega, by omega⟩)) rfl rfl fun a_470 HE471 => ?_
                    refine pl_x HE471 HH414 (wt0 rfl) (x_assign rfl) rfl rfl fun a_472 HE473 => ?_
                    refine wpList_nil ?_
                    clear a_466 HE467 a_468 HE469 a_470 HE471
                    refine nrm ?_
                    refine wp_seq ?_
                    refine rg ?_
                    refine pl_x HE473 HH414 (wt0 rfl) (x_move rfl) rfl rfl fun a_474 HE475 => ?_
                    refine pl_x HE475 HH414 (wt0 rfl) (x_assign rfl) rfl rfl fun a_476 HE477 => ?_
                    refine pl_x HE477 HH414 (wt0 rfl) (x_assign rfl) rfl rfl fun a_478 HE479 => ?_
                    refine wpList_nil ?_
                    clear a_472 HE473 a_474 HE475 a_476 HE477
                    refine nrm ?_
                    refine wp_ret ?_
                    refine ret2 HE479 rfl (rv_tmp rfl) (rv_tmp rfl) ?_
                    have hF : (numC a0) = (-(valD 0 (dgs a0 i) : Int), true) := by
                      first | exact numC_len0 (by omega) | exact numC_len18 (by omega) | exact numC_zero (by omega) (by omega) xe22 (by omega) (by omega) | exact numC_dig (by omega) (by omega) xe22 (by omega) | (exfalso; omega) | (rw [numC_yes (i := i) (by omega) (numC_ok (by omega) (by omega) (by omega) z0 (by omega) (by omega) p43_2), o0]; simp)
                    exact ⟨by first | (rw [hF] <;> rfl) | rfl | (rw [hF]; simp only [Ending.returned.injEq, Value.slice.injEq, true_and, and_true]; first | omega | (simp; done)) | (rw [hF]; simp; omega), HH414.below⟩
                  · refine wp_skip ?_
                    refine nrm ?_
                    refine wp_seq ?_
                    refine rg ?_
                    refine pl_x HE467 HH414 (wt0 rfl) (x_move rfl) rfl rfl fun a_480 HE481 => ?_
                    refine pl_x HE481 HH414 (wt0 rfl) (x_assign rfl) rfl rfl fun a_482 HE483 => ?_
                    refine pl_x HE483 HH414 (wt0 rfl) (x_assign rfl) rfl rfl fun a_484 HE485 => ?_
                    refine wpList_nil ?_
                    clear a_466 HE467 a_480 HE481 a_482 HE483
                    refine nrm ?_
                    refine wp_ret ?_
                    refine ret2 HE485 rfl (rv_tmp rfl) (rv_tmp rfl) ?_
                    have hF : (numC a0) = ((valD 0 (dgs a0 i) : Int), true) := by
                      first | exact numC_len0 (by omega) | exact numC_len18 (by omega) | exact numC_zero (by omega) (by omega) xe22 (by omega) (by omega) | exact numC_dig (by omega) (by omega) xe22 (by omega) | (exfalso; omega) | (rw [numC_yes (i := i) (by omega) (numC_ok (by omega) (by omega) (by omega) z0 (by omega) (by omega) p43_2), o0]; simp)
                    exact ⟨by first | (rw [hF] <;> rfl) | rfl | (rw [hF]; simp only [Ending.returned.injEq, Value.slice.injEq, true_and, and_true]; first | omega | (simp; done)) | (rw [hF]; simp; omega), HH414.below⟩
          · have z0 := xe22
            refine pl_no HE391 (wtF HE391 rfl rfl rfl (beq_f hc41)) rfl rfl fun a_486 HE487 => ?_
            refine pl_no HE487 (wtF HE487 rfl rfl rfl (beq_f hc41)) rfl rfl fun a_488 HE489 => ?_
            refine pl_no HE489 (wtF HE489 rfl rfl rfl (beq_f hc41)) rfl rfl fun a_490 HE491 => ?_
            refine pl_x HE491 HH1 (wtT HE491 rfl rfl rfl (decide_eq_false hc40)) (x_pickF rfl (beq_f hc41) rfl) rfl rfl fun a_492 HE493 => ?_
            refine pl_x HE493 HH1 (wt0 rfl) (x_pickF rfl (decide_eq_false hc40) rfl) rfl rfl fun a_494 HE495 => ?_
            refine wpList_nil ?_
            clear a_24 HE25 a_296 HE297 a_298 HE299 a_300 HE301 a_302 HE303 a_304 HE305 a_344 HE345 a_346 HE347 a_348 HE349 a_350 HE351 a_352 HE353 a_354 HE355 a_356 HE357 a_382 HE383 a_384 HE385 a_386 HE387 a_388 HE389 a_390 HE391 a_486 HE487 a_488 HE489 a_490 HE491 a_492 HE493
            refine nrm ?_
            refine cndF HE495 rfl rfl ?_
            refine wp_skip ?_
            refine nrm ?_
            refine wp_seq ?_
            refine rg ?_
            refine pl_x HE495 HH1 (wt0 rfl) (x_assign rfl) rfl rfl fun a_496 HE497 => ?_
            refine wpList_nil ?_
            clear a_494 HE495
            refine nrm ?_
            refine wp_seq ?_
            refine wp_seq ?_
            refine rg ?_
            refine pl_x HE497 HH1 (wt0 rfl) (x_move rfl) rfl rfl fun a_498 HE499 => ?_
            refine pl_x HE499 HH1 (wt0 rfl) (x_assign rfl) rfl rfl fun a_500 HE501 => ?_
            refine wpList_nil ?_
            clear a_496 HE497 a_498 HE499
            refine nrm ?_
            refine wp_block ?_
            refine lp (fun m a w' => ∃ (i : Nat), m = a0.length - i ∧ Env 62 [(5, .int .i64 (valD 0 (dgs a0 i) : Int)), (6, .int .i64 (i : Int)), (0, .string (bs a0)), (4, .int .i64 (0))] a ∧ Held Nob w [] w' ∧ (ofP a0 ≤ i) ∧ (i ≤ a0.length) ∧ ((dgs a0 i).all isDg = true)) (a0.length - (ofP a0)) ?_ ?_
            · exact ⟨ofP a0, rfl, HE501.sub ⟨(lkI rfl (by rw [dgs_zero, valD_nil]; rfl)), (lkI rfl (by omega)), rfl, rfl, trivial⟩, (HH1.sel [] (by decide) rfl), (by first | omega | assumption | (simp; done) | simp_all), (by first | omega | assumption | (simp; done) | simp_all), (by rw [dgs_zero]; rfl)⟩
            · rintro m a_502 w' ⟨i, rfl, HE503, HH504, p49_0, p49_1, p49_2⟩
              refine wp_seq ?_
              refine wp_seq ?_
              refine rg ?_
              refine pl_x HE503 HH504 (wt0 rfl) (x_move rfl) rfl rfl fun a_505 HE506 => ?_
              refine pl_x HE506 HH504 (wt0 rfl) (x_move rfl) rfl rfl fun a_507 HE508 => ?_
              refine pl_x HE508 HH504 (wt0 rfl) (x_lenB Tryz.underlying9 rfl) rfl rfl fun a_509 HE510 => ?_
              refine pl_x HE510 HH504 (wt0 rfl) (x_lss rfl rfl) rfl rfl fun a_511 HE512 => ?_
              refine wpList_nil ?_
              clear a_500 HE501 HH1 a_502 HE503 a_505 HE506 a_507 HE508 a_509 HE510
              refine nrm ?_
              refine cnd_d HE512 rfl (fun hc50 => ?_) (fun hc50 => ?_)
              · have nb := dgs_bd p49_2 (by omega) (by omega)
                refine wp_skip ?_
                refine nrm ?_
                refine wp_seq ?_
                refine wp_block ?_
                refine wp_seq ?_
                refine wp_seq ?_
                refine rg ?_
                refine pl_x HE512 HH504 (wt0 rfl) (x_move rfl) rfl rfl fun a_513 HE514 => ?_
                refine pl_x HE514 HH504 (wt0 rfl) (x_move rfl) rfl rfl fun a_515 HE516 => ?_
                have ke51 : i < List.length a0 := by first | omega | (simp only [List.length_cons, List.length_nil]; omega)
                obtain ⟨e51, xe51⟩ : ∃ x_, x_ = a0[i] := ⟨_, rfl⟩
                have je51 : 0 ≤ (e51.toNat : Int) ∧ (e51.toNat : Int) ≤ 255 := by have := e51.toNat_lt; omega
                refine pl_x HE516 HH504 (wt0 rfl) (x_idxB Tryz.underlying9 rfl rfl rfl ke51 xe51) rfl rfl fun a_517 HE518 => ?_
                refine pl fun K_519 hK520 => ?_
                refine st_call HE518 (wt0 rfl) rfl rfl rfl en_116 rfl rfl (spec_l01Digit (e51.toNat : Int) _ ) fun e w' hr => ?_
                obtain ⟨rfl, hbr52⟩ := hr
                have HH521 := HH504.on hbr52
                refine ⟨_, rfl, fun a_522 HE523 => hK520 _ _ ?_⟩
                refine pl_x HE523 HH521 (wt0 rfl) (x_not rfl) rfl rfl fun a_524 HE525 => ?_
                refine wpList_nil ?_
                clear a_511 HE512 a_513 HE514 a_515 HE516 HH504 a_517 HE518 a_522 HE523 hK520 K_519
                refine nrm ?_
                refine cnd_nb HE525 rfl (fun hc53 => ?_) (fun hc53 => ?_)
                · have d0 := hc53
                  unfold digB at d0
                  simp only [Bool.and_eq_false_iff, decide_eq_false_iff_not] at d0
                  refine wp_seq ?_
                  refine rg ?_
                  refine pl_x HE525 HH521 (wt0 rfl) (x_assign rfl) rfl rfl fun a_526 HE527 => ?_
                  refine pl_x HE527 HH521 (wt0 rfl) (x_assign rfl) rfl rfl fun a_528 HE529 => ?_
                  refine wpList_nil ?_
                  clear a_524 HE525 a_526 HE527
                  refine nrm ?_
                  refine wp_ret ?_
                  refine (thn_ret (blk_ret (thn_ret (thn_ret (blk_ret (thn_ret ?_))))))
                  refine ret2 HE529 rfl (rv_tmp rfl) (rv_tmp rfl) ?_
                  have hF : (numC a0) = (0, false) := by
                    first | exact numC_len0 (by omega) | exact numC_len18 (by omega) | exact numC_zero (by omega) (by omega) xe51 (by omega) (by omega) | exact numC_dig (by omega) (by omega) xe51 (by omega) | (exfalso; omega) | (rw [numC_yes (i := i) (by omega) (numC_ok (by omega) (by omega) (by omega) z0 (by omega) (by omega) p49_2), o0]; simp)
                  exact ⟨by first | (rw [hF] <;> rfl) | rfl | (rw [hF]; simp only [Ending.returned.injEq, Value.slice.injEq, true_and, and_true]; first | omega | (simp; done)) | (rw [hF]; simp; omega), HH521.below⟩
                · have d0 := hc53
                  unfold digB at d0
                  simp only [Bool.and_eq_true, decide_eq_true_eq] at d0
                  refine wp_skip ?_
                  refine nrm ?_
                  refine rg ?_
                  refine pl_x HE525 HH521 (wt0 rfl) (x_move rfl) rfl rfl fun a_530 HE531 => ?_
                  refine pl_x HE531 HH521 (wt0 rfl) (x_mul rfl rfl (by exact ⟨by omega, by omega⟩)) rfl rfl fun a_532 HE533 => ?_
                  refine pl_x HE533 HH521 (wt0 rfl) (x_move rfl) rfl rfl fun a_534 HE535 => ?_
                  refine pl_x HE535 HH521 (wt0 rfl) (x_move rfl) rfl rfl fun a_536 HE537 => ?_
                  refine pl_x HE537 HH521 (wt0 rfl) (x_idxB Tryz.underlying9 rfl rfl rfl ke51 xe51) rfl rfl fun a_538 HE539 => ?_
                  refine pl_x HE539 HH521 (wt0 rfl) (x_sub8 rfl rfl (by constructor <;> omega)) rfl rfl fun a_540 HE541 => ?_
                  refine pl_x HE541 HH521 (wt0 rfl) (x_conv Tryz.underlying5 Tryz.underlying2 rfl (by exact ⟨by omega, by omega⟩)) rfl rfl fun a_542 HE543 => ?_
                  refine pl_x HE543 HH521 (wt0 rfl) (x_add rfl rfl (by exact ⟨by omega, by omega⟩)) rfl rfl fun a_544 HE545 => ?_
                  refine pl_x HE545 HH521 (wt0 rfl) (x_assign rfl) rfl rfl fun a_546 HE547 => ?_
                  refine wpList_nil ?_
                  clear a_524 HE525 a_530 HE531 a_532 HE533 a_534 HE535 a_536 HE537 a_538 HE539 a_540 HE541 a_542 HE543 a_544 HE545
                  refine blk_n ?_
                  refine nrm ?_
                  refine rg ?_
                  refine pl_x HE547 HH521 (wt0 rfl) (x_move rfl) rfl rfl fun a_548 HE549 => ?_
                  refine pl_x HE549 HH521 (wt0 rfl) (x_add rfl rfl (by exact ⟨by omega, by omega⟩)) rfl rfl fun a_550 HE551 => ?_
                  refine pl_x HE551 HH521 (wt0 rfl) (x_assign rfl) rfl rfl fun a_552 HE553 => ?_
                  refine wpList_nil ?_
                  clear a_546 HE547 a_548 HE549 a_550 HE551
                  exact nrm ⟨a0.length - (i + 1), (by omega), i + 1, rfl, HE553.sub ⟨(lkI rfl (by rw [dgs_step (by omega) (by omega) xe51, valD_snoc, dgv_def]; omega)), (lkI rfl (by first | rfl | omega | (simp [hc21, xe22, hc23, hc39, hc40, hc41, p49_0, p49_1, p49_2, hc50, xe51, hc53]; done))), rfl, rfl, trivial⟩, (HH521.sel [] (by decide) rfl), (by first | omega | assumption | (simp; done) | simp_all), (by first | omega | assumption | (simp; done) | simp_all), (by exact dgs_all p49_2 (by omega) (by omega) xe51 (by omega))⟩
              · have nb := dgs_bd18 p49_2 (by omega)
                refine wp_exit ?_
                refine (thn_exit (thn_exit (blk_hit ?_)))
                refine nrm ?_
                refine wp_seq ?_
                refine wp_seq ?_
                refine rg ?_
                refine pl_x HE512 HH504 (wt0 rfl) (x_move rfl) rfl rfl fun a_554 HE555 => ?_
                refine pl_x HE555 HH504 (wt0 rfl) (x_eql rfl rfl) rfl rfl fun a_556 HE557 => ?_
                refine wpList_nil ?_
                clear a_511 HE512 a_554 HE555
                refine nrm ?_
                refine cnd_e HE557 rfl (fun hc54 => ?_) (fun hc54 => ?_)
                · refine rg ?_
                  refine pl_x HE557 HH504 (wt0 rfl) (x_move rfl) rfl rfl fun a_558 HE559 => ?_
                  refine pl_x HE559 HH504 (wt0 rfl) (x_neg rfl (by exact ⟨by omega, by omega⟩)) rfl rfl fun a_560 HE561 => ?_
                  refine pl_x HE561 HH504 (wt0 rfl) (x_assign rfl) rfl rfl fun a_562 HE563 => ?_
                  refine wpList_nil ?_
                  clear a_556 HE557 a_558 HE559 a_560 HE561
                  refine nrm ?_
                  refine wp_seq ?_
                  refine rg ?_
                  refine pl_x HE563 HH504 (wt0 rfl) (x_move rfl) rfl rfl fun a_564 HE565 => ?_
                  refine pl_x HE565 HH504 (wt0 rfl) (x_assign rfl) rfl rfl fun a_566 HE567 => ?_
                  refine pl_x HE567 HH504 (wt0 rfl) (x_assign rfl) rfl rfl fun a_568 HE569 => ?_
                  refine wpList_nil ?_
                  clear a_562 HE563 a_564 HE565 a_566 HE567
                  refine nrm ?_
                  refine wp_ret ?_
                  refine ret2 HE569 rfl (rv_tmp rfl) (rv_tmp rfl) ?_
                  have hF : (numC a0) = (-(valD 0 (dgs a0 i) : Int), true) := by
                    first | exact numC_len0 (by omega) | exact numC_len18 (by omega) | exact numC_zero (by omega) (by omega) xe22 (by omega) (by omega) | exact numC_dig (by omega) (by omega) xe22 (by omega) | (exfalso; omega) | (rw [numC_yes (i := i) (by omega) (numC_ok (by omega) (by omega) (by omega) z0 (by omega) (by omega) p49_2), o0]; simp)
                  exact ⟨by first | (rw [hF] <;> rfl) | rfl | (rw [hF]; simp only [Ending.returned.injEq, Value.slice.injEq, true_and, and_true]; first | omega | (simp; done)) | (rw [hF]; simp; omega), HH504.below⟩
                · refine wp_skip ?_
                  refine nrm ?_
                  refine wp_seq ?_
                  refine rg ?_
                  refine pl_x HE557 HH504 (wt0 rfl) (x_move rfl) rfl rfl fun a_570 HE571 => ?_
                  refine pl_x HE571 HH504 (wt0 rfl) (x_assign rfl) rfl rfl fun a_572 HE573 => ?_
                  refine pl_x HE573 HH504 (wt0 rfl) (x_assign rfl) rfl rfl fun a_574 HE575 => ?_
                  refine wpList_nil ?_
                  clear a_556 HE557 a_570 HE571 a_572 HE573
                  refine nrm ?_
                  refine wp_ret ?_
                  refine ret2 HE575 rfl (rv_tmp rfl) (rv_tmp rfl) ?_
                  have hF : (numC a0) = ((valD 0 (dgs a0 i) : Int), true) := by
                    first | exact numC_len0 (by omega) | exact numC_len18 (by omega) | exact numC_zero (by omega) (by omega) xe22 (by omega) (by omega) | exact numC_dig (by omega) (by omega) xe22 (by omega) | (exfalso; omega) | (rw [numC_yes (i := i) (by omega) (numC_ok (by omega) (by omega) (by omega) z0 (by omega) (by omega) p49_2), o0]; simp)
                  exact ⟨by first | (rw [hF] <;> rfl) | rfl | (rw [hF]; simp only [Ending.returned.injEq, Value.slice.injEq, true_and, and_true]; first | omega | (simp; done)) | (rw [hF]; simp; omega), HH504.below⟩
  · have o0 := ofP_nil (s := a0) (by omega)
    refine pl_no HE17 (wtF HE17 rfl rfl rfl (decide_eq_false hc21)) rfl rfl fun a_576 HE577 => ?_
    refine pl_no HE577 (wtF HE577 rfl rfl rfl (decide_eq_false hc21)) rfl rfl fun a_578 HE579 => ?_
    refine pl_no HE579 (wtF HE579 rfl rfl rfl (decide_eq_false hc21)) rfl rfl fun a_580 HE581 => ?_
    refine pl_x HE581 HH1 (wt0 rfl) (x_pickF rfl (decide_eq_false hc21) rfl) rfl rfl fun a_582 HE583 => ?_
    refine wpList_nil ?_
    clear a_8 HE9 a_10 HE11 a_12 HE13 a_14 HE15 a_16 HE17 a_576 HE577 a_578 HE579 a_580 HE581
    refine nrm ?_
    refine cndF HE583 rfl rfl ?_
    refine wp_skip ?_
    refine nrm ?_
    refine wp_seq ?_
    refine wp_seq ?_
    refine rg ?_
    refine pl_x HE583 HH1 (wt0 rfl) (x_move rfl) rfl rfl fun a_584 HE585 => ?_
    refine pl_x HE585 HH1 (wt0 rfl) (x_lenB Tryz.underlying9 rfl) rfl rfl fun a_586 HE587 => ?_
    refine pl_x HE587 HH1 (wt0 rfl) (x_move rfl) rfl rfl fun a_588 HE589 => ?_
    refine pl_x HE589 HH1 (wt0 rfl) (x_eql rfl rfl) rfl rfl fun a_590 HE591 => ?_
    refine pl_x HE591 HH1 (wt0 rfl) (x_move rfl) rfl rfl fun a_592 HE593 => ?_
    by_cases hc55 : (List.length a0 : Int) = 0
    · refine pl_no HE593 (wtF HE593 rfl rfl rfl (beq_t hc55)) rfl rfl fun a_594 HE595 => ?_
      refine pl_no HE595 (wtF HE595 rfl rfl rfl (beq_t hc55)) rfl rfl fun a_596 HE597 => ?_
      refine pl_no HE597 (wtF HE597 rfl rfl rfl (beq_t hc55)) rfl rfl fun a_598 HE599 => ?_
      refine pl_no HE599 (wtF HE599 rfl rfl rfl (beq_t hc55)) rfl rfl fun a_600 HE601 => ?_
      refine pl_no HE601 (wtF HE601 rfl rfl rfl (beq_t hc55)) rfl rfl fun a_602 HE603 => ?_
      refine pl_x HE603 HH1 (wt0 rfl) (x_pickT rfl (beq_t hc55) rfl) rfl rfl fun a_604 HE605 => ?_
      refine pl_x HE605 HH1 (wt0 rfl) (x_move rfl) rfl rfl fun a_606 HE607 => ?_
      refine pl_no HE607 (wtF HE607 rfl rfl rfl rfl) rfl rfl fun a_608 HE609 => ?_
      refine pl_no HE609 (wtF HE609 rfl rfl rfl rfl) rfl rfl fun a_610 HE611 => ?_
      refine pl_no HE611 (wtF HE611 rfl rfl rfl rfl) rfl rfl fun a_612 HE613 => ?_
      refine pl_no HE613 (wtF HE613 rfl rfl rfl rfl) rfl rfl fun a_614 HE615 => ?_
      refine pl_no HE615 (wtF HE615 rfl rfl rfl rfl) rfl rfl fun a_616 HE617 => ?_
      refine pl_no HE617 (wtU HE617 rfl rfl rfl) rfl rfl fun a_618 HE619 => ?_
      refine pl_no HE619 (wtU HE619 rfl rfl rfl) rfl rfl fun a_620 HE621 => ?_
      refine pl_no HE621 (wtU HE621 rfl rfl rfl) rfl rfl fun a_622 HE623 => ?_
      refine pl_no HE623 (wtF HE623 rfl rfl rfl rfl) rfl rfl fun a_624 HE625 => ?_
      refine pl_x HE625 HH1 (wt0 rfl) (x_pickT rfl rfl rfl) rfl rfl fun a_626 HE627 => ?_
      refine wpList_nil ?_
      clear a_582 HE583 a_584 HE585 a_586 HE587 a_588 HE589 a_590 HE591 a_592 HE593 a_594 HE595 a_596 HE597 a_598 HE599 a_600 HE601 a_602 HE603 a_604 HE605 a_606 HE607 a_608 HE609 a_610 HE611 a_612 HE613 a_614 HE615 a_616 HE617 a_618 HE619 a_620 HE621 a_622 HE623 a_624 HE625
      refine nrm ?_
      refine cndT HE627 rfl rfl ?_
      refine wp_seq ?_
      refine rg ?_
      refine pl_x HE627 HH1 (wt0 rfl) (x_assign rfl) rfl rfl fun a_628 HE629 => ?_
      refine pl_x HE629 HH1 (wt0 rfl) (x_assign rfl) rfl rfl fun a_630 HE631 => ?_
      refine wpList_nil ?_
      clear a_626 HE627 a_628 HE629
      refine nrm ?_
      refine wp_ret ?_
      refine (thn_ret ?_)
      refine ret2 HE631 rfl (rv_tmp rfl) (rv_tmp rfl) ?_
      have hF : (numC a0) = (0, false) := by
        first | exact numC_len0 (by omega) | exact numC_len18 (by omega) | exact numC_zero (by omega) (by omega) xe0 (by omega) (by omega) | exact numC_dig (by omega) (by omega) xe0 (by omega) | (exfalso; omega) | (rw [numC_yes (i := i) (by omega) (numC_ok (by omega) (by omega) (by omega) z0 (by omega) (by omega) p0_2), o0]; simp)
      exact ⟨by first | (rw [hF] <;> rfl) | rfl | (rw [hF]; simp only [Ending.returned.injEq, Value.slice.injEq, true_and, and_true]; first | omega | (simp; done)) | (rw [hF]; simp; omega), HH1.below⟩
    · refine pl_x HE593 HH1 (wtT HE593 rfl rfl rfl (beq_f hc55)) (x_move rfl) rfl rfl fun a_632 HE633 => ?_
      refine pl_x HE633 HH1 (wtT HE633 rfl rfl rfl (beq_f hc55)) (x_lenB Tryz.underlying9 rfl) rfl rfl fun a_634 HE635 => ?_
      refine pl_x HE635 HH1 (wtT HE635 rfl rfl rfl (beq_f hc55)) (x_move rfl) rfl rfl fun a_636 HE637 => ?_
      refine pl_x HE637 HH1 (wtT HE637 rfl rfl rfl (beq_f hc55)) (x_sub rfl rfl (by exact ⟨by omega, by omega⟩)) rfl rfl fun a_638 HE639 => ?_
      refine pl_x HE639 HH1 (wtT HE639 rfl rfl rfl (beq_f hc55)) (x_gtr rfl rfl) rfl rfl fun a_640 HE641 => ?_
      refine pl_x HE641 HH1 (wt0 rfl) (x_pickF rfl (beq_f hc55) rfl) rfl rfl fun a_642 HE643 => ?_
      refine pl_x HE643 HH1 (wt0 rfl) (x_move rfl) rfl rfl fun a_644 HE645 => ?_
      by_cases hc56 : 18 < ((List.length a0 : Int) - 0)
      · refine pl_no HE645 (wtF HE645 rfl rfl rfl (decide_eq_true hc56)) rfl rfl fun a_646 HE647 => ?_
        refine pl_no HE647 (wtF HE647 rfl rfl rfl (decide_eq_true hc56)) rfl rfl fun a_648 HE649 => ?_
        refine pl_no HE649 (wtF HE649 rfl rfl rfl (decide_eq_true hc56)) rfl rfl fun a_650 HE651 => ?_
        refine pl_no HE651 (wtF HE651 rfl rfl rfl (decide_eq_true hc56)) rfl rfl fun a_652 HE653 => ?_
        refine pl_no HE653 (wtF HE653 rfl rfl rfl (decide_eq_true hc56)) rfl rfl fun a_654 HE655 => ?_
        refine pl_no HE655 (wtU HE655 rfl rfl rfl) rfl rfl fun a_656 HE657 => ?_
        refine pl_no HE657 (wtU HE657 rfl rfl rfl) rfl rfl fun a_658 HE659 => ?_
        refine pl_no HE659 (wtU HE659 rfl rfl rfl) rfl rfl fun a_660 HE661 => ?_
        refine pl_no HE661 (wtF HE661 rfl rfl rfl (decide_eq_true hc56)) rfl rfl fun a_662 HE663 => ?_
        refine pl_x HE663 HH1 (wt0 rfl) (x_pickT rfl (decide_eq_true hc56) rfl) rfl rfl fun a_664 HE665 => ?_
        refine wpList_nil ?_
        clear a_582 HE583 a_584 HE585 a_586 HE587 a_588 HE589 a_590 HE591 a_592 HE593 a_632 HE633 a_634 HE635 a_636 HE637 a_638 HE639 a_640 HE641 a_642 HE643 a_644 HE645 a_646 HE647 a_648 HE649 a_650 HE651 a_652 HE653 a_654 HE655 a_656 HE657 a_658 HE659 a_660 HE661 a_662 HE663
        refine nrm ?_
        refine cndT HE665 rfl rfl ?_
        refine wp_seq ?_
        refine rg ?_
        refine pl_x HE665 HH1 (wt0 rfl) (x_assign rfl) rfl rfl fun a_666 HE667 => ?_
        refine pl_x HE667 HH1 (wt0 rfl) (x_assign rfl) rfl rfl fun a_668 HE669 => ?_
        refine wpList_nil ?_
        clear a_664 HE665 a_666 HE667
        refine nrm ?_
        refine wp_ret ?_
        refine (thn_ret ?_)
        refine ret2 HE669 rfl (rv_tmp rfl) (rv_tmp rfl) ?_
        have hF : (numC a0) = (0, false) := by
          first | exact numC_len0 (by omega) | exact numC_len18 (by omega) | exact numC_zero (by omega) (by omega) xe0 (by omega) (by omega) | exact numC_dig (by omega) (by omega) xe0 (by omega) | (exfalso; omega) | (rw [numC_yes (i := i) (by omega) (numC_ok (by omega) (by omega) (by omega) z0 (by omega) (by omega) p0_2), o0]; simp)
        exact ⟨by first | (rw [hF] <;> rfl) | rfl | (rw [hF]; simp only [Ending.returned.injEq, Value.slice.injEq, true_and, and_true]; first | omega | (simp; done)) | (rw [hF]; simp; omega), HH1.below⟩
      · refine pl_x HE645 HH1 (wtT HE645 rfl rfl rfl (decide_eq_false hc56)) (x_move rfl) rfl rfl fun a_670 HE671 => ?_
        refine pl_x HE671 HH1 (wtT HE671 rfl rfl rfl (decide_eq_false hc56)) (x_move rfl) rfl rfl fun a_672 HE673 => ?_
        have ke57 : 0 < List.length a0 := by first | omega | (simp only [List.length_cons, List.length_nil]; omega)
        obtain ⟨e57, xe57⟩ : ∃ x_, x_ = a0[0] := ⟨_, rfl⟩
        have je57 : 0 ≤ (e57.toNat : Int) ∧ (e57.toNat : Int) ≤ 255 := by have := e57.toNat_lt; omega
        refine pl_x HE673 HH1 (wtT HE673 rfl rfl rfl (decide_eq_false hc56)) (x_idxB Tryz.underlying9 rfl rfl rfl ke57 xe57) rfl rfl fun a_674 HE675 => ?_
        refine pl_x HE675 HH1 (wtT HE675 rfl rfl rfl (decide_eq_false hc56)) (x_eql rfl rfl) rfl rfl fun a_676 HE677 => ?_
        refine pl_x HE677 HH1 (wtT HE677 rfl rfl rfl (decide_eq_false hc56)) (x_move rfl) rfl rfl fun a_678 HE679 => ?_
        by_cases hc58 : (e57.toNat : Int) = 48
        · have z0 := xe57
          refine pl_x HE679 HH1 (wtT HE679 rfl rfl rfl (beq_t hc58)) (x_move rfl) rfl rfl fun a_680 HE681 => ?_
          refine pl_x HE681 HH1 (wtT HE681 rfl rfl rfl (beq_t hc58)) (x_lenB Tryz.underlying9 rfl) rfl rfl fun a_682 HE683 => ?_
          refine pl_x HE683 HH1 (wtT HE683 rfl rfl rfl (beq_t hc58)) (x_gtr rfl rfl) rfl rfl fun a_684 HE685 => ?_
          refine pl_x HE685 HH1 (wtT HE685 rfl rfl rfl (decide_eq_false hc56)) (x_pickT rfl (beq_t hc58) rfl) rfl rfl fun a_686 HE687 => ?_
          refine pl_x HE687 HH1 (wt0 rfl) (x_pickF rfl (decide_eq_false hc56) rfl) rfl rfl fun a_688 HE689 => ?_
          refine wpList_nil ?_
          clear a_582 HE583 a_584 HE585 a_586 HE587 a_588 HE589 a_590 HE591 a_592 HE593 a_632 HE633 a_634 HE635 a_636 HE637 a_638 HE639 a_640 HE641 a_642 HE643 a_644 HE645 a_670 HE671 a_672 HE673 a_674 HE675 a_676 HE677 a_678 HE679 a_680 HE681 a_682 HE683 a_684 HE685 a_686 HE687
          refine nrm ?_
          refine cnd_d HE689 rfl (fun hc59 => ?_) (fun hc59 => ?_)
          · refine wp_seq ?_
            refine rg ?_
            refine pl_x HE689 HH1 (wt0 rfl) (x_assign rfl) rfl rfl fun a_690 HE691 => ?_
            refine pl_x HE691 HH1 (wt0 rfl) (x_assign rfl) rfl rfl fun a_692 HE693 => ?_
            refine wpList_nil ?_
            clear a_688 HE689 a_690 HE691
            refine nrm ?_
            refine wp_ret ?_
            refine (thn_ret ?_)
            refine ret2 HE693 rfl (rv_tmp rfl) (rv_tmp rfl) ?_
            have hF : (numC a0) = (0, false) := by
              first | exact numC_len0 (by omega) | exact numC_len18 (by omega) | exact numC_zero (by omega) (by omega) xe57 (by omega) (by omega) | exact numC_dig (by omega) (by omega) xe57 (by omega) | (exfalso; omega) | (rw [numC_yes (i := i) (by omega) (numC_ok (by omega) (by omega) (by omega) z0 (by omega) (by omega) p0_2), o0]; simp)
            exact ⟨by first | (rw [hF] <;> rfl) | rfl | (rw [hF]; simp only [Ending.returned.injEq, Value.slice.injEq, true_and, and_true]; first | omega | (simp; done)) | (rw [hF]; simp; omega), HH1.below⟩
          · refine wp_skip ?_
            refine nrm ?_
            refine wp_seq ?_
            refine rg ?_
            refine pl_x HE689 HH1 (wt0 rfl) (x_assign rfl) rfl rfl fun a_694 HE695 => ?_
            refine wpList_nil ?_
            clear a_688 HE689
            refine nrm ?_
            refine wp_seq ?_
            refine wp_seq ?_
            refine rg ?_
            refine pl_x HE695 HH1 (wt0 rfl) (x_move rfl) rfl rfl fun a_696 HE697 => ?_
            refine pl_x HE697 HH1 (wt0 rfl) (x_assign rfl) rfl rfl fun a_698 HE699 => ?_
            refine wpList_nil ?_
            clear a_694 HE695 a_696 HE697
            refine nrm ?_
            refine wp_block ?_
            refine lp (fun m a w' => ∃ (i : Nat), m = a0.length - i ∧ Env 62 [(5, .int .i64 (valD 0 (dgs a0 i) : Int)), (6, .int .i64 (i : Int)), (0, .string (bs a0)), (4, .int .i64 (0))] a ∧ Held Nob w [] w' ∧ (ofP a0 ≤ i) ∧ (i ≤ a0.length) ∧ ((dgs a0 i).all isDg = true)) (a0.length - (ofP a0)) ?_ ?_
            · exact ⟨ofP a0, rfl, HE699.sub ⟨(lkI rfl (by rw [dgs_zero, valD_nil]; rfl)), (lkI rfl (by omega)), rfl, rfl, trivial⟩, (HH1.sel [] (by decide) rfl), (by first | omega | assumption | (simp; done) | simp_all), (by first | omega | assumption | (simp; done) | simp_all), (by rw [dgs_zero]; rfl)⟩
            · rintro m a_700 w' ⟨i, rfl, HE701, HH702, p60_0, p60_1, p60_2⟩
              refine wp_seq ?_
              refine wp_seq ?_
              refine rg ?_
              refine pl_x HE701 HH702 (wt0 rfl) (x_move rfl) rfl rfl fun a_703 HE704 => ?_
              refine pl_x HE704 HH702 (wt0 rfl) (x_move rfl) rfl rfl fun a_705 HE706 => ?_
              refine pl_x HE706 HH702 (wt0 rfl) (x_lenB Tryz.underlying9 rfl) rfl rfl fun a_707 HE708 => ?_
              refine pl_x HE708 HH702 (wt0 rfl) (x_lss rfl rfl) rfl rfl fun a_709 HE710 => ?_
              refine wpList_nil ?_
              clear a_698 HE699 HH1 a_700 HE701 a_703 HE704 a_705 HE706 a_707 HE708
              refine nrm ?_
              refine cnd_d HE710 rfl (fun hc61 => ?_) (fun hc61 => ?_)
              · have nb := dgs_bd p60_2 (by omega) (by omega)
                refine wp_skip ?_
                refine nrm ?_
                refine wp_seq ?_
                refine wp_block ?_
                refine wp_seq ?_
                refine wp_seq ?_
                refine rg ?_
                refine pl_x HE710 HH702 (wt0 rfl) (x_move rfl) rfl rfl fun a_711 HE712 => ?_
                refine pl_x HE712 HH702 (wt0 rfl) (x_move rfl) rfl rfl fun a_713 HE714 => ?_
                have ke62 : i < List.length a0 := by first | omega | (simp only [List.length_cons, List.length_nil]; omega)
                obtain ⟨e62, xe62⟩ : ∃ x_, x_ = a0[i] := ⟨_, rfl⟩
                have je62 : 0 ≤ (e62.toNat : Int) ∧ (e62.toNat : Int) ≤ 255 := by have := e62.toNat_lt; omega
                refine pl_x HE714 HH702 (wt0 rfl) (x_idxB Tryz.underlying9 rfl rfl rfl ke62 xe62) rfl rfl fun a_715 HE716 => ?_
                refine pl fun K_717 hK718 => ?_
                refine st_call HE716 (wt0 rfl) rfl rfl rfl en_116 rfl rfl (spec_l01Digit (e62.toNat : Int) _ ) fun e w' hr => ?_
                obtain ⟨rfl, hbr63⟩ := hr
                have HH719 := HH702.on hbr63
                refine ⟨_, rfl, fun a_720 HE721 => hK718 _ _ ?_⟩
                refine pl_x HE721 HH719 (wt0 rfl) (x_not rfl) rfl rfl fun a_722 HE723 => ?_
                refine wpList_nil ?_
                clear a_709 HE710 a_711 HE712 a_713 HE714 HH702 a_715 HE716 a_720 HE721 hK718 K_717
                refine nrm ?_
                refine cnd_nb HE723 rfl (fun hc64 => ?_) (fun hc64 => ?_)
                · have d0 := hc64
                  unfold digB at d0
                  simp only [Bool.and_eq_false_iff, decide_eq_false_iff_not] at d0
                  refine wp_seq ?_
                  refine rg ?_
                  refine pl_x HE723 HH719 (wt0 rfl) (x_assign rfl) rfl rfl fun a_724 HE725 => ?_
                  refine pl_x HE725 HH719 (wt0 rfl) (x_assign rfl) rfl rfl fun a_726 HE727 => ?_
                  refine wpList_nil ?_
                  clear a_722 HE723 a_724 HE725
                  refine nrm ?_
                  refine wp_ret ?_
                  refine (thn_ret (blk_ret (thn_ret (thn_ret (blk_ret (thn_ret ?_))))))
                  refine ret2 HE727 rfl (rv_tmp rfl) (rv_tmp rfl) ?_
                  have hF : (numC a0) = (0, false) := by
                    first | exact numC_len0 (by omega) | exact numC_len18 (by omega) | exact numC_zero (by omega) (by omega) xe62 (by omega) (by omega) | exact numC_dig (by omega) (by omega) xe62 (by omega) | (exfalso; omega) | (rw [numC_yes (i := i) (by omega) (numC_ok (by omega) (by omega) (by omega) z0 (by omega) (by omega) p60_2), o0]; simp)
                  exact ⟨by first | (rw [hF] <;> rfl) | rfl | (rw [hF]; simp only [Ending.returned.injEq, Value.slice.injEq, true_and, and_true]; first | omega | (simp; done)) | (rw [hF]; simp; omega), HH719.below⟩
                · have d0 := hc64
                  unfold digB at d0
                  simp only [Bool.and_eq_true, decide_eq_true_eq] at d0
                  refine wp_skip ?_
                  refine nrm ?_
                  refine rg ?_
                  refine pl_x HE723 HH719 (wt0 rfl) (x_move rfl) rfl rfl fun a_728 HE729 => ?_
                  refine pl_x HE729 HH719 (wt0 rfl) (x_mul rfl rfl (by exact ⟨by omega, by omega⟩)) rfl rfl fun a_730 HE731 => ?_
                  refine pl_x HE731 HH719 (wt0 rfl) (x_move rfl) rfl rfl fun a_732 HE733 => ?_
                  refine pl_x HE733 HH719 (wt0 rfl) (x_move rfl) rfl rfl fun a_734 HE735 => ?_
                  refine pl_x HE735 HH719 (wt0 rfl) (x_idxB Tryz.underlying9 rfl rfl rfl ke62 xe62) rfl rfl fun a_736 HE737 => ?_
                  refine pl_x HE737 HH719 (wt0 rfl) (x_sub8 rfl rfl (by constructor <;> omega)) rfl rfl fun a_738 HE739 => ?_
                  refine pl_x HE739 HH719 (wt0 rfl) (x_conv Tryz.underlying5 Tryz.underlying2 rfl (by exact ⟨by omega, by omega⟩)) rfl rfl fun a_740 HE741 => ?_
                  refine pl_x HE741 HH719 (wt0 rfl) (x_add rfl rfl (by exact ⟨by omega, by omega⟩)) rfl rfl fun a_742 HE743 => ?_
                  refine pl_x HE743 HH719 (wt0 rfl) (x_assign rfl) rfl rfl fun a_744 HE745 => ?_
                  refine wpList_nil ?_
                  clear a_722 HE723 a_728 HE729 a_730 HE731 a_732 HE733 a_734 HE735 a_736 HE737 a_738 HE739 a_740 HE741 a_742 HE743
                  refine blk_n ?_
                  refine nrm ?_
                  refine rg ?_
                  refine pl_x HE745 HH719 (wt0 rfl) (x_move rfl) rfl rfl fun a_746 HE747 => ?_
                  refine pl_x HE747 HH719 (wt0 rfl) (x_add rfl rfl (by exact ⟨by omega, by omega⟩)) rfl rfl fun a_748 HE749 => ?_
                  refine pl_x HE749 HH719 (wt0 rfl) (x_assign rfl) rfl rfl fun a_750 HE751 => ?_
                  refine wpList_nil ?_
                  clear a_744 HE745 a_746 HE747 a_748 HE749
                  exact nrm ⟨a0.length - (i + 1), (by omega), i + 1, rfl, HE751.sub ⟨(lkI rfl (by rw [dgs_step (by omega) (by omega) xe62, valD_snoc, dgv_def]; omega)), (lkI rfl (by first | rfl | omega | (simp [hc21, hc55, hc56, xe57, hc58, hc59, p60_0, p60_1, p60_2, hc61, xe62, hc64]; done))), rfl, rfl, trivial⟩, (HH719.sel [] (by decide) rfl), (by first | omega | assumption | (simp; done) | simp_all), (by first | omega | assumption | (simp; done) | simp_all), (by exact dgs_all p60_2 (by omega) (by omega) xe62 (by omega))⟩
              · have nb := dgs_bd18 p60_2 (by omega)
                refine wp_exit ?_
                refine (thn_exit (thn_exit (blk_hit ?_)))
                refine nrm ?_
                refine wp_seq ?_
                refine wp_seq ?_
                refine rg ?_
                refine pl_x HE710 HH702 (wt0 rfl) (x_move rfl) rfl rfl fun a_752 HE753 => ?_
                refine pl_x HE753 HH702 (wt0 rfl) (x_eql rfl rfl) rfl rfl fun a_754 HE755 => ?_
                refine wpList_nil ?_
                clear a_709 HE710 a_752 HE753
                refine nrm ?_
                refine cnd_e HE755 rfl (fun hc65 => ?_) (fun hc65 => ?_)
                · refine rg ?_
                  refine pl_x HE755 HH702 (wt0 rfl) (x_move rfl) rfl rfl fun a_756 HE757 => ?_
                  refine pl_x HE757 HH702 (wt0 rfl) (x_neg rfl (by exact ⟨by omega, by omega⟩)) rfl rfl fun a_758 HE759 => ?_
                  refine pl_x HE759 HH702 (wt0 rfl) (x_assign rfl) rfl rfl fun a_760 HE761 => ?_
                  refine wpList_nil ?_
                  clear a_754 HE755 a_756 HE757 a_758 HE759
                  refine nrm ?_
                  refine wp_seq ?_
                  refine rg ?_
                  refine pl_x HE761 HH702 (wt0 rfl) (x_move rfl) rfl rfl fun a_762 HE763 => ?_
                  refine pl_x HE763 HH702 (wt0 rfl) (x_assign rfl) rfl rfl fun a_764 HE765 => ?_
                  refine pl_x HE765 HH702 (wt0 rfl) (x_assign rfl) rfl rfl fun a_766 HE767 => ?_
                  refine wpList_nil ?_
                  clear a_760 HE761 a_762 HE763 a_764 HE765
                  refine nrm ?_
                  refine wp_ret ?_
                  refine ret2 HE767 rfl (rv_tmp rfl) (rv_tmp rfl) ?_
                  have hF : (numC a0) = (-(valD 0 (dgs a0 i) : Int), true) := by
                    first | exact numC_len0 (by omega) | exact numC_len18 (by omega) | exact numC_zero (by omega) (by omega) xe57 (by omega) (by omega) | exact numC_dig (by omega) (by omega) xe57 (by omega) | (exfalso; omega) | (rw [numC_yes (i := i) (by omega) (numC_ok (by omega) (by omega) (by omega) z0 (by omega) (by omega) p60_2), o0]; simp)
                  exact ⟨by first | (rw [hF] <;> rfl) | rfl | (rw [hF]; simp only [Ending.returned.injEq, Value.slice.injEq, true_and, and_true]; first | omega | (simp; done)) | (rw [hF]; simp; omega), HH702.below⟩
                · refine wp_skip ?_
                  refine nrm ?_
                  refine wp_seq ?_
                  refine rg ?_
                  refine pl_x HE755 HH702 (wt0 rfl) (x_move rfl) rfl rfl fun a_768 HE769 => ?_
                  refine pl_x HE769 HH702 (wt0 rfl) (x_assign rfl) rfl rfl fun a_770 HE771 => ?_
                  refine pl_x HE771 HH702 (wt0 rfl) (x_assign rfl) rfl rfl fun a_772 HE773 => ?_
                  refine wpList_nil ?_
                  clear a_754 HE755 a_768 HE769 a_770 HE771
                  refine nrm ?_
                  refine wp_ret ?_
                  refine ret2 HE773 rfl (rv_tmp rfl) (rv_tmp rfl) ?_
                  have hF : (numC a0) = ((valD 0 (dgs a0 i) : Int), true) := by
                    first | exact numC_len0 (by omega) | exact numC_len18 (by omega) | exact numC_zero (by omega) (by omega) xe57 (by omega) (by omega) | exact numC_dig (by omega) (by omega) xe57 (by omega) | (exfalso; omega) | (rw [numC_yes (i := i) (by omega) (numC_ok (by omega) (by omega) (by omega) z0 (by omega) (by omega) p60_2), o0]; simp)
                  exact ⟨by first | (rw [hF] <;> rfl) | rfl | (rw [hF]; simp only [Ending.returned.injEq, Value.slice.injEq, true_and, and_true]; first | omega | (simp; done)) | (rw [hF]; simp; omega), HH702.below⟩
        · have z0 := xe57
          refine pl_no HE679 (wtF HE679 rfl rfl rfl (beq_f hc58)) rfl rfl fun a_774 HE775 => ?_
          refine pl_no HE775 (wtF HE775 rfl rfl rfl (beq_f hc58)) rfl rfl fun a_776 HE777 => ?_
          refine pl_no HE777 (wtF HE777 rfl rfl rfl (beq_f hc58)) rfl rfl fun a_778 HE779 => ?_
          refine pl_x HE779 HH1 (wtT HE779 rfl rfl rfl (decide_eq_false hc56)) (x_pickF rfl (beq_f hc58) rfl) rfl rfl fun a_780 HE781 => ?_
          refine pl_x HE781 HH1 (wt0 rfl) (x_pickF rfl (decide_eq_false hc56) rfl) rfl rfl fun a_782 HE783 => ?_
          refine wpList_nil ?_
          clear a_582 HE583 a_584 HE585 a_586 HE587 a_588 HE589 a_590 HE591 a_592 HE593 a_632 HE633 a_634 HE635 a_636 HE637 a_638 HE639 a_640 HE641 a_642 HE643 a_644 HE645 a_670 HE671 a_672 HE673 a_674 HE675 a_676 HE677 a_678 HE679 a_774 HE775 a_776 HE777 a_778 HE779 a_780 HE781
          refine nrm ?_
          refine cndF HE783 rfl rfl ?_
          refine wp_skip ?_
          refine nrm ?_
          refine wp_seq ?_
          refine rg ?_
          refine pl_x HE783 HH1 (wt0 rfl) (x_assign rfl) rfl rfl fun a_784 HE785 => ?_
          refine wpList_nil ?_
          clear a_782 HE783
          refine nrm ?_
          refine wp_seq ?_
          refine wp_seq ?_
          refine rg ?_
          refine pl_x HE785 HH1 (wt0 rfl) (x_move rfl) rfl rfl fun a_786 HE787 => ?_
          refine pl_x HE787 HH1 (wt0 rfl) (x_assign rfl) rfl rfl fun a_788 HE789 => ?_
          refine wpList_nil ?_
          clear a_784 HE785 a_786 HE787
          refine nrm ?_
          refine wp_block ?_
          refine lp (fun m a w' => ∃ (i : Nat), m = a0.length - i ∧ Env 62 [(5, .int .i64 (valD 0 (dgs a0 i) : Int)), (6, .int .i64 (i : Int)), (0, .string (bs a0)), (4, .int .i64 (0))] a ∧ Held Nob w [] w' ∧ (ofP a0 ≤ i) ∧ (i ≤ a0.length) ∧ ((dgs a0 i).all isDg = true)) (a0.length - (ofP a0)) ?_ ?_
          · exact ⟨ofP a0, rfl, HE789.sub ⟨(lkI rfl (by rw [dgs_zero, valD_nil]; rfl)), (lkI rfl (by omega)), rfl, rfl, trivial⟩, (HH1.sel [] (by decide) rfl), (by first | omega | assumption | (simp; done) | simp_all), (by first | omega | assumption | (simp; done) | simp_all), (by rw [dgs_zero]; rfl)⟩
          · rintro m a_790 w' ⟨i, rfl, HE791, HH792, p66_0, p66_1, p66_2⟩
            refine wp_seq ?_
            refine wp_seq ?_
            refine rg ?_
            refine pl_x HE791 HH792 (wt0 rfl) (x_move rfl) rfl rfl fun a_793 HE794 => ?_
            refine pl_x HE794 HH792 (wt0 rfl) (x_move rfl) rfl rfl fun a_795 HE796 => ?_
            refine pl_x HE796 HH792 (wt0 rfl) (x_lenB Tryz.underlying9 rfl) rfl rfl fun a_797 HE798 => ?_
            refine pl_x HE798 HH792 (wt0 rfl) (x_lss rfl rfl) rfl rfl fun a_799 HE800 => ?_
            refine wpList_nil ?_
            clear a_788 HE789 HH1 a_790 HE791 a_793 HE794 a_795 HE796 a_797 HE798
            refine nrm ?_
            refine cnd_d HE800 rfl (fun hc67 => ?_) (fun hc67 => ?_)
            · have nb := dgs_bd p66_2 (by omega) (by omega)
              refine wp_skip ?_
              refine nrm ?_
              refine wp_seq ?_
              refine wp_block ?_
              refine wp_seq ?_
              refine wp_seq ?_
              refine rg ?_
              refine pl_x HE800 HH792 (wt0 rfl) (x_move rfl) rfl rfl fun a_801 HE802 => ?_
              refine pl_x HE802 HH792 (wt0 rfl) (x_move rfl) rfl rfl fun a_803 HE804 => ?_
              have ke68 : i < List.length a0 := by first | omega | (simp only [List.length_cons, List.length_nil]; omega)
              obtain ⟨e68, xe68⟩ : ∃ x_, x_ = a0[i] := ⟨_, rfl⟩
              have je68 : 0 ≤ (e68.toNat : Int) ∧ (e68.toNat : Int) ≤ 255 := by have := e68.toNat_lt; omega
              refine pl_x HE804 HH792 (wt0 rfl) (x_idxB Tryz.underlying9 rfl rfl rfl ke68 xe68) rfl rfl fun a_805 HE806 => ?_
              refine pl fun K_807 hK808 => ?_
              refine st_call HE806 (wt0 rfl) rfl rfl rfl en_116 rfl rfl (spec_l01Digit (e68.toNat : Int) _ ) fun e w' hr => ?_
              obtain ⟨rfl, hbr69⟩ := hr
              have HH809 := HH792.on hbr69
              refine ⟨_, rfl, fun a_810 HE811 => hK808 _ _ ?_⟩
              refine pl_x HE811 HH809 (wt0 rfl) (x_not rfl) rfl rfl fun a_812 HE813 => ?_
              refine wpList_nil ?_
              clear a_799 HE800 a_801 HE802 a_803 HE804 HH792 a_805 HE806 a_810 HE811 hK808 K_807
              refine nrm ?_
              refine cnd_nb HE813 rfl (fun hc70 => ?_) (fun hc70 => ?_)
              · have d0 := hc70
                unfold digB at d0
                simp only [Bool.and_eq_false_iff, decide_eq_false_iff_not] at d0
                refine wp_seq ?_
                refine rg ?_
                refine pl_x HE813 HH809 (wt0 rfl) (x_assign rfl) rfl rfl fun a_814 HE815 => ?_
                refine pl_x HE815 HH809 (wt0 rfl) (x_assign rfl) rfl rfl fun a_816 HE817 => ?_
                refine wpList_nil ?_
                clear a_812 HE813 a_814 HE815
                refine nrm ?_
                refine wp_ret ?_
                refine (thn_ret (blk_ret (thn_ret (thn_ret (blk_ret (thn_ret ?_))))))
                refine ret2 HE817 rfl (rv_tmp rfl) (rv_tmp rfl) ?_
                have hF : (numC a0) = (0, false) := by
                  first | exact numC_len0 (by omega) | exact numC_len18 (by omega) | exact numC_zero (by omega) (by omega) xe68 (by omega) (by omega) | exact numC_dig (by omega) (by omega) xe68 (by omega) | (exfalso; omega) | (rw [numC_yes (i := i) (by omega) (numC_ok (by omega) (by omega) (by omega) z0 (by omega) (by omega) p66_2), o0]; simp)
                exact ⟨by first | (rw [hF] <;> rfl) | rfl | (rw [hF]; simp only [Ending.returned.injEq, Value.slice.injEq, true_and, and_true]; first | omega | (simp; done)) | (rw [hF]; simp; omega), HH809.below⟩
              · have d0 := hc70
                unfold digB at d0
                simp only [Bool.and_eq_true, decide_eq_true_eq] at d0
                refine wp_skip ?_
                refine nrm ?_
                refine rg ?_
                refine pl_x HE813 HH809 (wt0 rfl) (x_move rfl) rfl rfl fun a_818 HE819 => ?_
                refine pl_x HE819 HH809 (wt0 rfl) (x_mul rfl rfl (by exact ⟨by omega, by omega⟩)) rfl rfl fun a_820 HE821 => ?_
                refine pl_x HE821 HH809 (wt0 rfl) (x_move rfl) rfl rfl fun a_822 HE823 => ?_
                refine pl_x HE823 HH809 (wt0 rfl) (x_move rfl) rfl rfl fun a_824 HE825 => ?_
                refine pl_x HE825 HH809 (wt0 rfl) (x_idxB Tryz.underlying9 rfl rfl rfl ke68 xe68) rfl rfl fun a_826 HE827 => ?_
                refine pl_x HE827 HH809 (wt0 rfl) (x_sub8 rfl rfl (by constructor <;> omega)) rfl rfl fun a_828 HE829 => ?_
                refine pl_x HE829 HH809 (wt0 rfl) (x_conv Tryz.underlying5 Tryz.underlying2 rfl (by exact ⟨by omega, by omega⟩)) rfl rfl fun a_830 HE831 => ?_
                refine pl_x HE831 HH809 (wt0 rfl) (x_add rfl rfl (by exact ⟨by omega, by omega⟩)) rfl rfl fun a_832 HE833 => ?_
                refine pl_x HE833 HH809 (wt0 rfl) (x_assign rfl) rfl rfl fun a_834 HE835 => ?_
                refine wpList_nil ?_
                clear a_812 HE813 a_818 HE819 a_820 HE821 a_822 HE823 a_824 HE825 a_826 HE827 a_828 HE829 a_830 HE831 a_832 HE833
                refine blk_n ?_
                refine nrm ?_
                refine rg ?_
                refine pl_x HE835 HH809 (wt0 rfl) (x_move rfl) rfl rfl fun a_836 HE837 => ?_
                refine pl_x HE837 HH809 (wt0 rfl) (x_add rfl rfl (by exact ⟨by omega, by omega⟩)) rfl rfl fun a_838 HE839 => ?_
                refine pl_x HE839 HH809 (wt0 rfl) (x_assign rfl) rfl rfl fun a_840 HE841 => ?_
                refine wpList_nil ?_
                clear a_834 HE835 a_836 HE837 a_838 HE839
                exact nrm ⟨a0.length - (i + 1), (by omega), i + 1, rfl, HE841.sub ⟨(lkI rfl (by rw [dgs_step (by omega) (by omega) xe68, valD_snoc, dgv_def]; omega)), (lkI rfl (by first | rfl | omega | (simp [hc21, hc55, hc56, xe57, hc58, p66_0, p66_1, p66_2, hc67, xe68, hc70]; done))), rfl, rfl, trivial⟩, (HH809.sel [] (by decide) rfl), (by first | omega | assumption | (simp; done) | simp_all), (by first | omega | assumption | (simp; done) | simp_all), (by exact dgs_all p66_2 (by omega) (by omega) xe68 (by omega))⟩
            · have nb := dgs_bd18 p66_2 (by omega)
              refine wp_exit ?_
              refine (thn_exit (thn_exit (blk_hit ?_)))
              refine nrm ?_
              refine wp_seq ?_
              refine wp_seq ?_
              refine rg ?_
              refine pl_x HE800 HH792 (wt0 rfl) (x_move rfl) rfl rfl fun a_842 HE843 => ?_
              refine pl_x HE843 HH792 (wt0 rfl) (x_eql rfl rfl) rfl rfl fun a_844 HE845 => ?_
              refine wpList_nil ?_
              clear a_799 HE800 a_842 HE843
              refine nrm ?_
              refine cnd_e HE845 rfl (fun hc71 => ?_) (fun hc71 => ?_)
              · refine rg ?_
                refine pl_x HE845 HH792 (wt0 rfl) (x_move rfl) rfl rfl fun a_846 HE847 => ?_
                refine pl_x HE847 HH792 (wt0 rfl) (x_neg rfl (by exact ⟨by omega, by omega⟩)) rfl rfl fun a_848 HE849 => ?_
                refine pl_x HE849 HH792 (wt0 rfl) (x_assign rfl) rfl rfl fun a_850 HE851 => ?_
                refine wpList_nil ?_
                clear a_844 HE845 a_846 HE847 a_848 HE849
                refine nrm ?_
                refine wp_seq ?_
                refine rg ?_
                refine pl_x HE851 HH792 (wt0 rfl) (x_move rfl) rfl rfl fun a_852 HE853 => ?_
                refine pl_x HE853 HH792 (wt0 rfl) (x_assign rfl) rfl rfl fun a_854 HE855 => ?_
                refine pl_x HE855 HH792 (wt0 rfl) (x_assign rfl) rfl rfl fun a_856 HE857 => ?_
                refine wpList_nil ?_
                clear a_850 HE851 a_852 HE853 a_854 HE855
                refine nrm ?_
                refine wp_ret ?_
                refine ret2 HE857 rfl (rv_tmp rfl) (rv_tmp rfl) ?_
                have hF : (numC a0) = (-(valD 0 (dgs a0 i) : Int), true) := by
                  first | exact numC_len0 (by omega) | exact numC_len18 (by omega) | exact numC_zero (by omega) (by omega) xe57 (by omega) (by omega) | exact numC_dig (by omega) (by omega) xe57 (by omega) | (exfalso; omega) | (rw [numC_yes (i := i) (by omega) (numC_ok (by omega) (by omega) (by omega) z0 (by omega) (by omega) p66_2), o0]; simp)
                exact ⟨by first | (rw [hF] <;> rfl) | rfl | (rw [hF]; simp only [Ending.returned.injEq, Value.slice.injEq, true_and, and_true]; first | omega | (simp; done)) | (rw [hF]; simp; omega), HH792.below⟩
              · refine wp_skip ?_
                refine nrm ?_
                refine wp_seq ?_
                refine rg ?_
                refine pl_x HE845 HH792 (wt0 rfl) (x_move rfl) rfl rfl fun a_858 HE859 => ?_
                refine pl_x HE859 HH792 (wt0 rfl) (x_assign rfl) rfl rfl fun a_860 HE861 => ?_
                refine pl_x HE861 HH792 (wt0 rfl) (x_assign rfl) rfl rfl fun a_862 HE863 => ?_
                refine wpList_nil ?_
                clear a_844 HE845 a_858 HE859 a_860 HE861
                refine nrm ?_
                refine wp_ret ?_
                refine ret2 HE863 rfl (rv_tmp rfl) (rv_tmp rfl) ?_
                have hF : (numC a0) = ((valD 0 (dgs a0 i) : Int), true) := by
                  first | exact numC_len0 (by omega) | exact numC_len18 (by omega) | exact numC_zero (by omega) (by omega) xe57 (by omega) (by omega) | exact numC_dig (by omega) (by omega) xe57 (by omega) | (exfalso; omega) | (rw [numC_yes (i := i) (by omega) (numC_ok (by omega) (by omega) (by omega) z0 (by omega) (by omega) p66_2), o0]; simp)
                exact ⟨by first | (rw [hF] <;> rfl) | rfl | (rw [hF]; simp only [Ending.returned.injEq, Value.slice.injEq, true_and, and_true]; first | omega | (simp; done)) | (rw [hF]; simp; omega), HH792.below⟩

open Go.Lib in
def mk2 : List Int → List tFraction
  | a :: b :: r => (a, b) :: mk2 r
  | _ => []

open Go.Lib in
def knownL (k : Int) : List tFraction := if k = 0 then mk2 [3, 2] else if k = 1 then mk2 [455, 33, 11, 13, 1, 11, 3, 7, 11, 2, 1, 3] else mk2 [17, 91, 78, 85, 19, 51, 23, 38, 29, 33, 77, 29, 95, 23, 77, 19, 1, 17, 11, 13, 13, 11, 15, 14, 15, 2, 55, 1]

open Go.Lib in
def known (k : Int) : List tFraction × Int := if withinB k 0 2 = true then (knownL k, 0) else ([], 2)

open Go.Lib in
def dgI (c : UInt8) : Int := (c.toNat : Int) - 48

open Go.Lib in
def digR (s : List UInt8) : List Int × Bool := if s.all isDg = true then (s.map dgI, true) else ([], false)

open Go.Lib in
theorem digR_yes {s : List UInt8} {k : Nat} (hk : s.length ≤ k) (h : (s.take k).all isDg = true) : digR s = ((s.take k).map dgI, true) := by
  rw [List.take_of_length_le hk] at h ⊢
  unfold digR; rw [if_pos h]

open Go.Lib in
theorem digR_no {s : List UInt8} {k : Nat} (hk : k < s.length) {e : UInt8} (he : e = s[k]) (h : (e.toNat : Int) < 48 ∨ 57 < (e.toNat : Int)) : digR s = ([], false) := by
  unfold digR
  rw [if_neg]
  intro hh
  have := isDg_iff.1 (List.all_eq_true.1 hh e (by rw [he]; exact List.getElem_mem _))
  omega

open Go.Lib in
theorem digs_snoc {s : List UInt8} {k : Nat} (hk : k < s.length) (h : (s.take k).all isDg = true) {e : UInt8} (he : e = s[k]) (hd : 48 ≤ (e.toNat : Int) ∧ (e.toNat : Int) ≤ 57) : (s.take (k + 1)).all isDg = true := by
  rw [List.take_succ_eq_append_getElem hk, List.all_append, h, ← he]
  simp only [List.all_cons, List.all_nil, Bool.and_true, Bool.true_and]
  exact isDg_iff.2 (by omega)

open Go.Lib in
theorem dgI_snoc {s : List UInt8} {k : Nat} (hk : k < s.length) {e : UInt8} (he : e = s[k]) : (s.take (k + 1)).map dgI = (s.take k).map dgI ++ [(e.toNat : Int) - 48] := by
  rw [List.take_succ_eq_append_getElem hk, List.map_append, ← he]; rfl

open Go.Lib in
theorem digR_len (s : List UInt8) : (digR s).1.length ≤ s.length := by
  unfold digR; split <;> simp

open Go.Lib in
theorem dg_of {x : Int} (h : 0 ≤ x ∧ x ≤ 9) : isDg (UInt8.ofNat (48 + x).toNat) = true ∧ dgI (UInt8.ofNat (48 + x).toNat) = x := by
  have e : (UInt8.ofNat (48 + x).toNat).toNat = (48 + x).toNat := by rw [UInt8.toNat_ofNat']; omega
  exact ⟨isDg_iff.2 (by omega), by unfold dgI; omega⟩

open Go.Lib in
theorem digT_all {l : List Int} (h : ∀ x ∈ l, 0 ≤ x ∧ x ≤ 9) : (digT l).all isDg = true := by
  rw [List.all_eq_true]
  intro c hc
  unfold digT at hc
  obtain ⟨x, hx, rfl⟩ := List.mem_map.1 hc
  exact (dg_of (h x hx)).1

open Go.Lib in
theorem digT_dgI {l : List Int} (h : ∀ x ∈ l, 0 ≤ x ∧ x ≤ 9) : (digT l).map dgI = l := by
  unfold digT
  rw [List.map_map]
  exact (List.map_congr_left fun x hx => (dg_of (h x hx)).2).trans (List.map_id l)

open Go.Lib in
theorem digR_T {l : List Int} (h : ∀ x ∈ l, 0 ≤ x ∧ x ≤ 9) : digR (digT l) = (l, true) := by
  unfold digR; rw [if_pos (digT_all h), digT_dgI h]

open Go.Lib in
theorem digT_no {c : UInt8} (hd : isDg c = false) {l : List Int} (h : ∀ x ∈ l, 0 ≤ x ∧ x ≤ 9) : c ∉ digT l := fun hm => ff (List.all_eq_true.1 (digT_all h) c hm) hd

open Go.Lib in
set_option maxRecDepth 100000 in
set_option maxHeartbeats 4000000 in
theorem impl_readDigits (a0 : List UInt8) (w : World) (s0 : a0.length ≤ 2000000) :
    Calls Tryz.prog 151 #[.string (bs a0)] w fun e w' => ∃ (A0' : Option Addr) (c0' : Nat), e = .returned (.tuple #[.slice A0' (digR a0).1.length c0', .bool (digR a0).2]) ∧ So eInt w' (Fr w w') A0' c0' (digR a0).1 ∧ Below w.heap.size w w' := by
  have HH1 := Held.start Nob w
  refine enter (n := 32) Tryz.func151 rfl rfl rfl fun a_2 HE3 => ?_
  refine wp_seq ?_
  refine rg ?_
  refine pl_x HE3 HH1 (wt0 rfl) (x_assign rfl) rfl rfl fun a_4 HE5 => ?_
  refine pl_x HE5 HH1 (wt0 rfl) (x_assign rfl) rfl rfl fun a_6 HE7 => ?_
  refine wpList_nil ?_
  clear a_2 HE3 a_4 HE5
  refine nrm ?_
  refine wp_seq ?_
  refine rg ?_
  refine pl fun K_8 hK9 => ?_
  refine st_lit (m := 0) (cs := []) (e := 2) HE7 HH1 (run_lit ts_25 HE7 (vs := []) rfl rfl (by simp [Value.cells]) rfl (by decide)) (wt0 rfl) rfl rfl fun q21 a_10 w' HE11 HH12 => hK9 _ _ ?_
  refine pl_x HE11 HH12 (wt0 rfl) (x_assign rfl) rfl rfl fun a_13 HE14 => ?_
  refine wpList_nil ?_
  clear a_6 HE7 HH1 a_10 HE11 hK9 K_8
  refine nrm ?_
  refine wp_seq ?_
  refine wp_seq ?_
  refine rg ?_
  refine pl_x HE14 HH12 (wt0 rfl) (x_assign rfl) rfl rfl fun a_15 HE16 => ?_
  refine wpList_nil ?_
  clear a_13 HE14
  refine nrm ?_
  refine wp_block ?_
  have HH17 := Held.vecFlat (E := eInt) (xs := []) (css := []) HH12 rfl (Nat.zero_le _) (fun i x hx => by simp at hx)
  refine lp (fun m a w' => ∃ (k : Nat) (A_4 : Option Addr) (c_4 : Nat) (S_4 : Nat → Prop), m = a0.length - k ∧ Env 32 [(4, .slice A_4 (List.length ((a0.take k).map dgI)) c_4), (5, .int .i64 (k : Int)), (0, .string (bs a0))] a ∧ Held Nob w [rVec eInt 2 S_4 A_4 c_4 ((a0.take k).map dgI)] w' ∧ (k ≤ a0.length) ∧ ((a0.take k).all isDg = true)) (a0.length - (0)) ?_ ?_
  · have E22 : (a0.take 0).map dgI = ([] : List Int) := by
      simp
    exact ⟨0, (some ⟨q21, 0, none⟩), (List.length (α := Int) []), (fun b => b = q21), rfl, HE16.sub ⟨(by rw [E22]; rfl), (lkI rfl (by first | rfl | omega | (simp []; done))), rfl, trivial⟩, ((HH17.sel [0] (by decide) rfl).to (by first | rfl | (rw [E22]; done) | (rw [E22]; rfl) | (simp only [E22]; done) | (simp only [E22]; rfl) | (rw [E22]; simp only [List.length_set]; done))), (by first | omega | assumption | (simp; done) | simp_all), (by simp)⟩
  · rintro m a_18 w' ⟨k, A_4, c_4, S_4, rfl, HE19, HH20, p23_0, p23_1⟩
    have hn0 : ((a0.take k).map dgI).length ≤ a0.length := by rw [List.length_map, List.length_take]; omega
    refine wp_seq ?_
    refine wp_seq ?_
    refine rg ?_
    refine pl_x HE19 HH20 (wt0 rfl) (x_move rfl) rfl rfl fun a_21 HE22 => ?_
    refine pl_x HE22 HH20 (wt0 rfl) (x_move rfl) rfl rfl fun a_23 HE24 => ?_
    refine pl_x HE24 HH20 (wt0 rfl) (x_lenB Tryz.underlying9 rfl) rfl rfl fun a_25 HE26 => ?_
    refine pl_x HE26 HH20 (wt0 rfl) (x_lss rfl rfl) rfl rfl fun a_27 HE28 => ?_
    refine wpList_nil ?_
    clear HH12 a_15 HE16 HH17 a_18 HE19 a_21 HE22 a_23 HE24 a_25 HE26
    refine nrm ?_
    refine cnd_d HE28 rfl (fun hc24 => ?_) (fun hc24 => ?_)
    · refine wp_skip ?_
      refine nrm ?_
      refine wp_seq ?_
      refine wp_block ?_
      refine wp_seq ?_
      refine wp_seq ?_
      refine rg ?_
      refine pl_x HE28 HH20 (wt0 rfl) (x_move rfl) rfl rfl fun a_29 HE30 => ?_
      refine pl_x HE30 HH20 (wt0 rfl) (x_move rfl) rfl rfl fun a_31 HE32 => ?_
      have ke25 : k < List.length a0 := by first | omega | (simp only [List.length_cons, List.length_nil]; omega)
      obtain ⟨e25, xe25⟩ : ∃ x_, x_ = a0[k] := ⟨_, rfl⟩
      have je25 : 0 ≤ (e25.toNat : Int) ∧ (e25.toNat : Int) ≤ 255 := by have := e25.toNat_lt; omega
      have hx0 := xe25
      refine pl_x HE32 HH20 (wt0 rfl) (x_idxB Tryz.underlying9 rfl rfl rfl ke25 xe25) rfl rfl fun a_33 HE34 => ?_
      refine pl_x HE34 HH20 (wt0 rfl) (x_lss rfl rfl) rfl rfl fun a_35 HE36 => ?_
      refine pl_x HE36 HH20 (wt0 rfl) (x_move rfl) rfl rfl fun a_37 HE38 => ?_
      by_cases hc26 : (e25.toNat : Int) < 48
      · refine pl_no HE38 (wtF HE38 rfl rfl rfl (decide_eq_true hc26)) rfl rfl fun a_39 HE40 => ?_
        refine pl_no HE40 (wtF HE40 rfl rfl rfl (decide_eq_true hc26)) rfl rfl fun a_41 HE42 => ?_
        refine pl_no HE42 (wtF HE42 rfl rfl rfl (decide_eq_true hc26)) rfl rfl fun a_43 HE44 => ?_
        refine pl_no HE44 (wtF HE44 rfl rfl rfl (decide_eq_true hc26)) rfl rfl fun a_45 HE46 => ?_
        refine pl_x HE46 HH20 (wt0 rfl) (x_pickT rfl (decide_eq_true hc26) rfl) rfl rfl fun a_47 HE48 => ?_
        refine wpList_nil ?_
        clear a_27 HE28 a_29 HE30 a_31 HE32 a_33 HE34 a_35 HE36 a_37 HE38 a_39 HE40 a_41 HE42 a_43 HE44 a_45 HE46
        refine nrm ?_
        refine cndT HE48 rfl rfl ?_
        refine wp_seq ?_
        refine rg ?_
        refine pl_x HE48 HH20 (wt0 rfl) (x_assign rfl) rfl rfl fun a_49 HE50 => ?_
        refine pl_x HE50 HH20 (wt0 rfl) (x_assign rfl) rfl rfl fun a_51 HE52 => ?_
        refine wpList_nil ?_
        clear a_47 HE48 a_49 HE50
        refine nrm ?_
        refine wp_ret ?_
        refine (thn_ret (blk_ret (thn_ret (thn_ret (blk_ret (thn_ret ?_))))))
        refine ret2 HE52 rfl (rv_tmp rfl) (rv_tmp rfl) ?_
        have hF : (digR a0) = ([], false) := by
          first | exact digR_yes (by omega) p23_1 | exact digR_no (by omega) hx0 (by omega)
        exact ⟨none, 0, by first | (rw [hF] <;> rfl) | rfl | (rw [hF]; simp only [Ending.returned.injEq, Value.slice.injEq, true_and, and_true]; first | omega | (simp; done)) | (rw [hF]; simp; omega), by rw [hF]; exact (So.nil (Nat.zero_le _)), HH20.below⟩
      · refine pl_x HE38 HH20 (wtT HE38 rfl rfl rfl (decide_eq_false hc26)) (x_move rfl) rfl rfl fun a_53 HE54 => ?_
        refine pl_x HE54 HH20 (wtT HE54 rfl rfl rfl (decide_eq_false hc26)) (x_move rfl) rfl rfl fun a_55 HE56 => ?_
        refine pl_x HE56 HH20 (wtT HE56 rfl rfl rfl (decide_eq_false hc26)) (x_idxB Tryz.underlying9 rfl rfl rfl ke25 xe25) rfl rfl fun a_57 HE58 => ?_
        refine pl_x HE58 HH20 (wtT HE58 rfl rfl rfl (decide_eq_false hc26)) (x_gtr rfl rfl) rfl rfl fun a_59 HE60 => ?_
        refine pl_x HE60 HH20 (wt0 rfl) (x_pickF rfl (decide_eq_false hc26) rfl) rfl rfl fun a_61 HE62 => ?_
        refine wpList_nil ?_
        clear a_27 HE28 a_29 HE30 a_31 HE32 a_33 HE34 a_35 HE36 a_37 HE38 a_53 HE54 a_55 HE56 a_57 HE58 a_59 HE60
        refine nrm ?_
        refine cnd_d HE62 rfl (fun hc27 => ?_) (fun hc27 => ?_)
        · refine wp_seq ?_
          refine rg ?_
          refine pl_x HE62 HH20 (wt0 rfl) (x_assign rfl) rfl rfl fun a_63 HE64 => ?_
          refine pl_x HE64 HH20 (wt0 rfl) (x_assign rfl) rfl rfl fun a_65 HE66 => ?_
          refine wpList_nil ?_
          clear a_61 HE62 a_63 HE64
          refine nrm ?_
          refine wp_ret ?_
          refine (thn_ret (blk_ret (thn_ret (thn_ret (blk_ret (thn_ret ?_))))))
          refine ret2 HE66 rfl (rv_tmp rfl) (rv_tmp rfl) ?_
          have hF : (digR a0) = ([], false) := by
            first | exact digR_yes (by omega) p23_1 | exact digR_no (by omega) hx0 (by omega)
          exact ⟨none, 0, by first | (rw [hF] <;> rfl) | rfl | (rw [hF]; simp only [Ending.returned.injEq, Value.slice.injEq, true_and, and_true]; first | omega | (simp; done)) | (rw [hF]; simp; omega), by rw [hF]; exact (So.nil (Nat.zero_le _)), HH20.below⟩
        · refine wp_skip ?_
          refine nrm ?_
          refine rg ?_
          refine pl_x HE62 HH20 (wt0 rfl) (x_move rfl) rfl rfl fun a_67 HE68 => ?_
          refine pl_x HE68 HH20 (wt0 rfl) (x_move rfl) rfl rfl fun a_69 HE70 => ?_
          refine pl_x HE70 HH20 (wt0 rfl) (x_move rfl) rfl rfl fun a_71 HE72 => ?_
          refine pl_x HE72 HH20 (wt0 rfl) (x_idxB Tryz.underlying9 rfl rfl rfl ke25 xe25) rfl rfl fun a_73 HE74 => ?_
          refine pl_x HE74 HH20 (wt0 rfl) (x_sub8 rfl rfl (by constructor <;> omega)) rfl rfl fun a_75 HE76 => ?_
          refine pl_x HE76 HH20 (wt0 rfl) (x_conv Tryz.underlying5 Tryz.underlying2 rfl (by exact ⟨by omega, by omega⟩)) rfl rfl fun a_77 HE78 => ?_
          refine pl fun K_79 hK80 => ?_
          refine st_lit (m := 1) (cs := [.int .i64 (((e25.toNat : Int) - 48))]) (e := 2) HE78 HH20 (run_lit ts_25 HE78 (vs := [.int .i64 (((e25.toNat : Int) - 48))]) rfl rfl (by simp [Value.cells]) rfl (by decide)) (wt0 rfl) rfl rfl fun q28 a_81 w' HE82 HH83 => hK80 _ _ ?_
          refine pl fun K_84 hK85 => ?_
          refine st_app1F ((e25.toNat : Int) - 48) HE82 HH83 ts_25 [1, 0] (by decide) rfl (fun _ => (oI (by exact ⟨by omega, by omega⟩))) rfl rfl (by simp [Value.oneCell']) (by unfold maxLen; first | omega | (simp; done) | (simp; omega)) (by first | omega | (simp; done) | (simp; omega)) (wt0 rfl) rfl fun A29 c30 S31 a_86 w' HE87 HH88 => hK85 _ _ ?_
          refine pl_x HE87 HH88 (wt0 rfl) (x_assign rfl) rfl rfl fun a_89 HE90 => ?_
          refine wpList_nil ?_
          clear a_61 HE62 a_67 HE68 a_69 HE70 a_71 HE72 a_73 HE74 a_75 HE76 a_77 HE78 HH20 K_79 hK80 a_81 HE82 HH83 a_86 HE87 hK85 K_84
          refine blk_n ?_
          refine nrm ?_
          refine rg ?_
          refine pl_x HE90 HH88 (wt0 rfl) (x_move rfl) rfl rfl fun a_91 HE92 => ?_
          refine pl_x HE92 HH88 (wt0 rfl) (x_add rfl rfl (by exact ⟨by omega, by omega⟩)) rfl rfl fun a_93 HE94 => ?_
          refine pl_x HE94 HH88 (wt0 rfl) (x_assign rfl) rfl rfl fun a_95 HE96 => ?_
          refine wpList_nil ?_
          clear a_89 HE90 a_91 HE92 a_93 HE94
          have E32 : (a0.take (k + 1)).map dgI = ((a0.take k).map dgI ++ [((e25.toNat : Int) - 48)]) := by
            exact dgI_snoc (by omega) hx0
          exact nrm ⟨a0.length - (k + 1), (by omega), k + 1, A29, c30, S31, rfl, HE96.sub ⟨(by rw [E32]; rfl), (lkI rfl (by first | rfl | omega | (simp [p23_0, p23_1, hc24, xe25, hc26, hc27]; done))), rfl, trivial⟩, ((HH88.sel [0] (by decide) rfl).to (by first | rfl | (rw [E32]; done) | (rw [E32]; rfl) | (simp only [E32]; done) | (simp only [E32]; rfl) | (rw [E32]; simp only [List.length_set]; done))), (by first | omega | assumption | (simp; done) | simp_all), (by exact digs_snoc (by omega) p23_1 hx0 (by omega))⟩
    · refine wp_exit ?_
      refine (thn_exit (thn_exit (blk_hit ?_)))
      refine nrm ?_
      refine wp_seq ?_
      refine rg ?_
      refine pl_x HE28 HH20 (wt0 rfl) (x_move rfl) rfl rfl fun a_97 HE98 => ?_
      refine pl_x HE98 HH20 (wt0 rfl) (x_assign rfl) rfl rfl fun a_99 HE100 => ?_
      refine pl_x HE100 HH20 (wt0 rfl) (x_assign rfl) rfl rfl fun a_101 HE102 => ?_
      refine wpList_nil ?_
      clear a_27 HE28 a_97 HE98 a_99 HE100
      refine nrm ?_
      refine wp_ret ?_
      refine ret2 HE102 rfl (rv_tmp rfl) (rv_tmp rfl) ?_
      have HH103 := HH20.vecSo
      have hF : (digR a0) = ((a0.take k).map dgI, true) := by
        first | exact digR_yes (by omega) p23_1 | exact digR_no (by omega) hx0 (by omega)
      exact ⟨A_4, c_4, by first | (rw [hF] <;> rfl) | rfl | (rw [hF]; simp only [Ending.returned.injEq, Value.slice.injEq, true_and, and_true]; first | omega | (simp; done)) | (rw [hF]; simp; omega), by rw [hF]; exact (HH103.so (i := 0) rfl), HH103.below⟩

open Go.Lib in
def movF (s : List UInt8) : Nat → Nat → List Int
  | 0, _ => []
  | n + 1, p => if p < s.length then mvR (rnA s p).1 :: movF s n (p + (rnA s p).2) else []

open Go.Lib in
def movI (s : List UInt8) : List Int := movF s s.length 0

open Go.Lib in
def mvK (c : UInt8) : Bool := c == 76 || (c == 83 || c == 82)

open Go.Lib in
def mvS (c : UInt8) : Int := if c = 76 then -1 else if c = 83 then 0 else 1

open Go.Lib in
def movS (s : List UInt8) : List Int × Bool := if s.all mvK = true then (s.map mvS, true) else ([], false)

open Go.Lib in
def l06D (s : List UInt8) : List Int × Bool := if s.length ≤ 3 ∧ s.all isDg = true then (s.map dgI, true) else ([], false)

open Go.Lib in
theorem movB_cases {x : Int} (h : -1 ≤ x ∧ x ≤ 1) : (x = -1 ∧ movB x = 76) ∨ (x = 0 ∧ movB x = 83) ∨ (x = 1 ∧ movB x = 82) := by
  obtain rfl | rfl | rfl : x = -1 ∨ x = 0 ∨ x = 1 := by omega
  · exact .inl ⟨rfl, rfl⟩
  · exact .inr (.inl ⟨rfl, rfl⟩)
  · exact .inr (.inr ⟨rfl, rfl⟩)

open Go.Lib in
theorem movF_T {l : List Int} (h : ∀ x ∈ l, -1 ≤ x ∧ x ≤ 1) : ∀ n p : Nat, p + n = l.length → movF (movT l) n p = l.drop p
  | 0, p, hp => by rw [List.drop_of_length_le (by omega)]; rfl
  | n + 1, p, hp => by
    have hl := movT_len l
    have hq : p < l.length := by omega
    have hb := h l[p] (List.getElem_mem _)
    have e : (movT l)[p]'(by omega) = movB l[p] := by unfold movT; rw [List.getElem_map]
    have e2 : rnA (movT l) p = ((movB l[p]).toNat, 1) := by
      rw [← e]
      refine rnA_one (by omega) ?_
      rw [e]
      rcases movB_cases hb with ⟨_, h2⟩ | ⟨_, h2⟩ | ⟨_, h2⟩ <;> rw [h2] <;> decide
    have e3 : mvR (movB l[p]).toNat = l[p] := by
      rcases movB_cases hb with ⟨h1, h2⟩ | ⟨h1, h2⟩ | ⟨h1, h2⟩ <;> rw [h2, h1] <;> rfl
    rw [movF, if_pos (by omega), e2]
    dsimp only
    rw [movF_T h n (p + 1) (by omega), e3]
    exact (List.drop_eq_getElem_cons hq).symm

open Go.Lib in
theorem movI_T {l : List Int} (h : ∀ x ∈ l, -1 ≤ x ∧ x ≤ 1) : movI (movT l) = l := by
  unfold movI
  rw [movF_T h _ 0 (by rw [movT_len]; omega)]; rfl

open Go.Lib in
theorem movS_T {l : List Int} (h : ∀ x ∈ l, -1 ≤ x ∧ x ≤ 1) : movS (movT l) = (l, true) := by
  have ha : (movT l).all mvK = true := by
    rw [List.all_eq_true]
    intro c hc
    obtain ⟨x, hx, rfl⟩ := List.mem_map.1 hc
    rcases movB_cases (h x hx) with ⟨_, h2⟩ | ⟨_, h2⟩ | ⟨_, h2⟩ <;> rw [h2] <;> rfl
  unfold movS
  rw [if_pos ha]
  unfold movT
  rw [List.map_map]
  refine congrArg (·, true) ((List.map_congr_left fun x hx => ?_).trans (List.map_id l))
  show mvS (movB x) = id x
  rcases movB_cases (h x hx) with ⟨h1, h2⟩ | ⟨h1, h2⟩ | ⟨h1, h2⟩ <;> rw [h2, h1] <;> rfl

open Go.Lib in
theorem movT_no {c : UInt8} (h1 : ¬ c = 76) (h2 : ¬ c = 83) (h3 : ¬ c = 82) {l : List Int} (h : ∀ x ∈ l, -1 ≤ x ∧ x ≤ 1) : c ∉ movT l := by
  intro hm
  obtain ⟨x, hx, rfl⟩ := List.mem_map.1 hm
  rcases movB_cases (h x hx) with ⟨_, e⟩ | ⟨_, e⟩ | ⟨_, e⟩
  · exact h1 e
  · exact h2 e
  · exact h3 e

open Go.Lib in
theorem l06D_T {l : List Int} (h : ∀ x ∈ l, 0 ≤ x ∧ x ≤ 9) (hl : l.length ≤ 3) : l06D (digT l) = (l, true) := by
  unfold l06D
  rw [if_pos ⟨by rw [digT_len]; exact hl, digT_all h⟩, digT_dgI h]

open Go.Lib in
def mrI (ps : List (List UInt8)) : tMultiRule := ((numR (ps[0]?.getD [])).1, (digR (ps[1]?.getD [])).1, (digR (ps[2]?.getD [])).1, movI (ps[3]?.getD []), (numR (ps[4]?.getD [])).1)

open Go.Lib in
def readMR (line : List UInt8) : tMultiRule := if (splitR 32 line).length = 5 then mrI (splitR 32 line) else (-1, [], [], [], 0)

open Go.Lib in
def mrS (ps : List (List UInt8)) : tMultiRule := ((numC (ps[0]?.getD [])).1, (l06D (ps[1]?.getD [])).1, (l06D (ps[2]?.getD [])).1, (movS (ps[3]?.getD [])).1, (numC (ps[4]?.getD [])).1)

open Go.Lib in
def mrK (ps : List (List UInt8)) : Bool := (numC (ps[0]?.getD [])).2 && ((l06D (ps[1]?.getD [])).2 && ((l06D (ps[2]?.getD [])).2 && ((movS (ps[3]?.getD [])).2 && (numC (ps[4]?.getD [])).2)))

open Go.Lib in
def lineS (line : List UInt8) : tMultiRule := mrS (splitR 32 line)

open Go.Lib in
def lineK (line : List UInt8) : Bool := decide ((splitR 32 line).length = 5) && mrK (splitR 32 line)

open Go.Lib in
def muI (s : List UInt8) : tMulti := ((numR ((splitR 32 ((splitR 10 s)[0]?.getD []))[0]?.getD [])).1, (numR ((splitR 32 ((splitR 10 s)[0]?.getD []))[1]?.getD [])).1, (numR ((splitR 32 ((splitR 10 s)[0]?.getD []))[2]?.getD [])).1, ((splitR 10 s).drop 1).map readMR)

open Go.Lib in
def rdMuI (s : List UInt8) : tMulti × Bool :=
  if (splitR 32 ((splitR 10 s)[0]?.getD [])).length = 3 ∧ (splitR 10 s).length ≤ 61 ∧ validMulti (muI s) = true ∧ multText (muI s) = s then (muI s, true) else ((0, 0, 0, []), false)

open Go.Lib in
def muS (s : List UInt8) : tMulti := ((numC ((splitR 32 ((splitR 10 s)[0]?.getD []))[0]?.getD [])).1, (numC ((splitR 32 ((splitR 10 s)[0]?.getD []))[1]?.getD [])).1, (numC ((splitR 32 ((splitR 10 s)[0]?.getD []))[2]?.getD [])).1, ((splitR 10 s).drop 1).map lineS)

open Go.Lib in
def hdK (ps : List (List UInt8)) : Bool := (numC (ps[0]?.getD [])).2 && ((numC (ps[1]?.getD [])).2 && (numC (ps[2]?.getD [])).2)

open Go.Lib in
def rdMuS (s : List UInt8) : tMulti × Bool :=
  if (splitR 10 s).length ≤ 61 ∧ (splitR 32 ((splitR 10 s)[0]?.getD [])).length = 3 ∧ (hdK (splitR 32 ((splitR 10 s)[0]?.getD [])) = true ∧ ((splitR 10 s).drop 1).all lineK = true) ∧ validMulti (muS s) = true ∧ multT (muS s) = s then (muS s, true) else ((0, 0, 0, []), false)

open Go.Lib in
theorem join_no {c d : UInt8} (hcd : ¬ c = d) {l : List (List UInt8)} (h : ∀ p ∈ l, c ∉ p) : c ∉ join l [d] := by
  cases l with
  | nil => simp [Go.Lib.join_nil]
  | cons x r =>
    rw [join_cons]
    intro hm
    rcases List.mem_append.1 hm with hm | hm
    · exact h x (by simp) hm
    · unfold joinTail at hm
      obtain ⟨y, hy, hz⟩ := List.mem_flatten.1 hm
      obtain ⟨u, hu, rfl⟩ := List.mem_map.1 hy
      rcases List.mem_append.1 hz with hz | hz
      · exact hcd (List.mem_singleton.1 hz)
      · exact h u (List.mem_cons_of_mem _ hu) hz

open Go.Lib in
theorem mr_pieces {r : tMultiRule} (h : okMr r) {c : UInt8} (h45 : ¬ c = 45) (hd : isDg c = false) (h1 : ¬ c = 76) (h2 : ¬ c = 83) (h3 : ¬ c = 82) : ∀ p ∈ [Go.Lib.itoa r.1, digT r.2.1, digT r.2.2.1, movT r.2.2.2.1, Go.Lib.itoa r.2.2.2.2], c ∉ p := by
  intro p hp
  simp only [List.mem_cons, List.not_mem_nil, or_false] at hp
  rcases hp with rfl | rfl | rfl | rfl | rfl
  · exact itoa_no h45 hd _
  · exact digT_no hd h.2.1.2
  · exact digT_no hd h.2.2.1.2
  · exact movT_no h1 h2 h3 h.2.2.2.1.2
  · exact itoa_no h45 hd _

open Go.Lib in
theorem mr_split {r : tMultiRule} (h : okMr r) : splitR 32 (mrT r) = [Go.Lib.itoa r.1, digT r.2.1, digT r.2.2.1, movT r.2.2.2.1, Go.Lib.itoa r.2.2.2.2] :=
  splitR_join (mr_pieces h (by decide) (by decide) (by decide) (by decide) (by decide))

open Go.Lib in
theorem mu_split {m : tMulti} (h : validMulti m = true) : splitR 10 (multT m) = headT m :: m.2.2.2.map mrT := by
  have e : multT m = join (headT m :: m.2.2.2.map mrT) [10] := by rw [join_cons]; rfl
  rw [e]
  refine splitR_join fun p hp => ?_
  rcases List.mem_cons.1 hp with rfl | hp
  · unfold headT decs
    refine join_no (by decide) fun p hp => ?_
    obtain ⟨v, _, rfl⟩ := List.mem_map.1 hp
    exact itoa_no (by decide) (by decide) _
  · obtain ⟨r, hr, rfl⟩ := List.mem_map.1 hp
    exact join_no (by decide) (mr_pieces (validMulti_ok h r hr) (by decide) (by decide) (by decide) (by decide) (by decide))

open Go.Lib in
theorem hd_split (m : tMulti) : splitR 32 (headT m) = [Go.Lib.itoa m.1, Go.Lib.itoa m.2.1, Go.Lib.itoa m.2.2.1] := split_decs (by decide) (by decide) (by simp)

open Go.Lib in
theorem readMR_T {r : tMultiRule} (h : okMr r) : readMR (mrT r) = r := by
  have := h.1
  have := h.2.2.2.2
  unfold readMR
  rw [mr_split h]
  refine (if_pos rfl).trans ?_
  show ((numR (Go.Lib.itoa r.1)).1, (digR (digT r.2.1)).1, (digR (digT r.2.2.1)).1, movI (movT r.2.2.2.1), (numR (Go.Lib.itoa r.2.2.2.2)).1) = r
  rw [numR_itoa (by omega), numR_itoa (by omega), digR_T h.2.1.2, digR_T h.2.2.1.2, movI_T h.2.2.2.1.2]

open Go.Lib in
theorem lineS_T {r : tMultiRule} (h : okMr r) : lineS (mrT r) = r ∧ lineK (mrT r) = true := by
  have := h.1
  have := h.2.2.2.2
  have e1 := numC_itoa (v := r.1) (by omega)
  have e2 := numC_itoa (v := r.2.2.2.2) (by omega)
  have e3 := l06D_T h.2.1.2 h.2.1.1
  have e4 := l06D_T h.2.2.1.2 h.2.2.1.1
  have e5 := movS_T h.2.2.2.1.2
  constructor
  · unfold lineS
    rw [mr_split h]
    show ((numC (Go.Lib.itoa r.1)).1, (l06D (digT r.2.1)).1, (l06D (digT r.2.2.1)).1, (movS (movT r.2.2.2.1)).1, (numC (Go.Lib.itoa r.2.2.2.2)).1) = r
    rw [e1, e2, e3, e4, e5]
  · unfold lineK
    rw [mr_split h]
    show (decide (5 = 5) && ((numC (Go.Lib.itoa r.1)).2 && ((l06D (digT r.2.1)).2 && ((l06D (digT r.2.2.1)).2 && ((movS (movT r.2.2.2.1)).2 && (numC (Go.Lib.itoa r.2.2.2.2)).2))))) = true
    rw [e1, e2, e3, e4, e5]
    rfl

open Go.Lib in
theorem rdMu_T {m : tMulti} (h : validMulti m = true) : rdMuI (multT m) = (m, true) ∧ rdMuS (multT m) = (m, true) := by
  obtain ⟨h1, h2, h3, h4⟩ := validMulti_facts h
  have hr := validMulti_ok h
  have e0 := mu_split h
  have e1 : splitR 32 ((splitR 10 (multT m))[0]?.getD []) = [Go.Lib.itoa m.1, Go.Lib.itoa m.2.1, Go.Lib.itoa m.2.2.1] := by rw [e0]; exact hd_split m
  have el : (splitR 10 (multT m)).length ≤ 61 := by rw [e0, List.length_cons, List.length_map]; omega
  have ed : (splitR 10 (multT m)).drop 1 = m.2.2.2.map mrT := by rw [e0]; rfl
  have n1 := numR_itoa (v := m.1) (by omega)
  have n2 := numR_itoa (v := m.2.1) (by omega)
  have n3 := numR_itoa (v := m.2.2.1) (by omega)
  have c1 := numC_itoa (v := m.1) (by omega)
  have c2 := numC_itoa (v := m.2.1) (by omega)
  have c3 := numC_itoa (v := m.2.2.1) (by omega)
  have eI : muI (multT m) = m := by
    unfold muI
    rw [e1, ed, List.map_map]
    show ((numR (Go.Lib.itoa m.1)).1, (numR (Go.Lib.itoa m.2.1)).1, (numR (Go.Lib.itoa m.2.2.1)).1, m.2.2.2.map (readMR ∘ mrT)) = m
    have e5 : m.2.2.2.map (readMR ∘ mrT) = m.2.2.2 := (List.map_congr_left fun r h => readMR_T (hr r h)).trans (List.map_id m.2.2.2)
    rw [n1, n2, n3, e5]
  have eS : muS (multT m) = m := by
    unfold muS
    rw [e1, ed, List.map_map]
    show ((numC (Go.Lib.itoa m.1)).1, (numC (Go.Lib.itoa m.2.1)).1, (numC (Go.Lib.itoa m.2.2.1)).1, m.2.2.2.map (lineS ∘ mrT)) = m
    have e5 : m.2.2.2.map (lineS ∘ mrT) = m.2.2.2 := (List.map_congr_left fun r h => (lineS_T (hr r h)).1).trans (List.map_id m.2.2.2)
    rw [c1, c2, c3, e5]
  have eK : hdK (splitR 32 ((splitR 10 (multT m))[0]?.getD [])) = true := by
    rw [e1]
    show ((numC (Go.Lib.itoa m.1)).2 && ((numC (Go.Lib.itoa m.2.1)).2 && (numC (Go.Lib.itoa m.2.2.1)).2)) = true
    rw [c1, c2, c3]; rfl
  have eA : ((splitR 10 (multT m)).drop 1).all lineK = true := by
    rw [ed, List.all_eq_true]
    intro p hp
    obtain ⟨r, h5, rfl⟩ := List.mem_map.1 hp
    exact (lineS_T (hr r h5)).2
  constructor
  · unfold rdMuI
    rw [eI, e1]
    exact if_pos ⟨rfl, el, h, by unfold multText; rw [if_pos h]⟩
  · unfold rdMuS
    rw [eS]
    exact if_pos ⟨el, by rw [e1]; rfl, ⟨eK, eA⟩, h, rfl⟩

open Go.Lib in
theorem rdMu_eq (s : List UInt8) : rdMuS s = rdMuI s := by
  by_cases h : ∃ m, validMulti m = true ∧ multT m = s
  · obtain ⟨m, hv, rfl⟩ := h
    rw [(rdMu_T hv).1, (rdMu_T hv).2]
  · have hI : rdMuI s = ((0, 0, 0, []), false) := by
      unfold rdMuI
      rw [if_neg]
      rintro ⟨_, _, h1, h2⟩
      unfold multText at h2
      rw [if_pos h1] at h2
      exact h ⟨_, h1, h2⟩
    have hS : rdMuS s = ((0, 0, 0, []), false) := by
      unfold rdMuS
      rw [if_neg]
      rintro ⟨_, _, _, h1, h2⟩
      exact h ⟨_, h1, h2⟩
    rw [hI, hS]

end Go.Proofs.YtcfdkckchbdafaaGreatDoor
