/- What the proof of FnExactKnownFractions needs: contracts of the functions that it reaches, each once. -/
import Derived.Test.YthknelhboibbnaaDoorProg
import Derived.Test.YthknelhboibbnaaDoorQMem
import Derived.Test.YthknelhboibbnaaDoorQOpen
import Derived.Test.YthknelhboibbnaaDoorLKnownFractionsa
import Derived.Test.YthknelhboibbnaaDoorLKnownFractionsb
import Derived.WalkKit
import Derived.WalkSpells
import Derived.Below
import Derived.LoopTactic
import Derived.Outline
import Derived.Deep.QuietTactic
import Derived.BigQuiet
import Derived.Deep.LoopGhost
import Derived.Handy
import Derived.Lib.Hide
import Derived.Shelf.Abstract
import Derived.StillTailTactics
import Derived.OwnWalk
import Derived.Maps.AppendAt
import Derived.RegionTactic
import Derived.Deep.RegionHeld3
import Derived.IntWalk
import Derived.Deep.Upon
import Derived.Laws.OwnMore
import Derived.Maps.AppendAt
import Derived.Laws.BytesString
import Derived.Laws.Strings
import Derived.Lib.Bytes
import Derived.Lib.Strings
import Derived.Lib.FrozenHead
import Derived.Lib.RuneBytes
import Derived.Lib.LaidTab
import Derived.Laws.StructEq
import Derived.Lib.ItoaLen
import Derived.Lib.Join
import Derived.Shelf.Strconv.Itoa4
import Derived.Shelf.Strings.OnBuilder
import Derived.Shelf.Strings.BuilderK
import Derived.Shelf.Strings.BuilderRune
import Derived.Shelf.LaysM
import Derived.Ground.NamesProg
import Derived.Lib.ParseIntBTie
import Derived.Lib.SplitLaws
import Derived.Lib.Replace
import Derived.Shelf.LaysC
import Derived.Shelf.Strconv.ErrVarParseInt
import Derived.Shelf.Strconv.ParseIntPublic10
import Derived.Shelf.Strings.Prefix
import Derived.Shelf.Strings.Cut
import Derived.Shelf.Strings.Split
import Derived.Shelf.Strings.Replace
import Derived.Shelf.Small.Wraps
import Derived.Stop.IfaceNil
namespace Go.Proofs.YthknelhboibbnaaDoor
open Go.RowKit

open Go.Lib in
set_option maxRecDepth 100000 in
set_option maxHeartbeats 4000000 in
theorem impl_size_Txt (A0 : Option Addr) (c0 : Nat) (a0 : (List (List UInt8))) (w : World) (h0 : Sl eTxt w (Old w) A0 c0 a0) :
    Calls Tryd.prog 25 #[.slice A0 a0.length c0] w fun e w' => e = .returned (.int .i64 (List.length a0 : Int)) ∧ Below w.heap.size w w' := by
  have l0 := h0.len
  have HH1 := Held.start Nob w
  refine enter (n := 5) Tryd.func25 rfl rfl rfl fun a_2 HE3 => ?_
  refine wp_seq ?_
  refine rg ?_
  refine pl_x HE3 HH1 (wt0 rfl) (x_assign rfl) rfl rfl fun a_4 HE5 => ?_
  refine wpList_nil ?_
  clear a_2 HE3
  refine nrm ?_
  refine wp_seq ?_
  refine rg ?_
  refine pl_x HE5 HH1 (wt0 rfl) (x_move rfl) rfl rfl fun a_6 HE7 => ?_
  refine pl_x HE7 HH1 (wt0 rfl) (x_len Tryd.underlying43 rfl) rfl rfl fun a_8 HE9 => ?_
  refine pl_x HE9 HH1 (wt0 rfl) (x_assign rfl) rfl rfl fun a_10 HE11 => ?_
  refine wpList_nil ?_
  clear a_4 HE5 a_6 HE7 a_8 HE9
  refine nrm ?_
  refine wp_ret ?_
  refine ret1 HE11 rfl (rv_tmp rfl) ?_
  have hF : (List.length a0 : Int) = (a0.length : Int) := by
    rfl
  exact ⟨by first | (rw [hF] <;> rfl) | rfl | (rw [hF]; simp only [Ending.returned.injEq, Value.slice.injEq, true_and, and_true]; first | omega | (simp; done)) | (rw [hF]; simp; omega), HH1.below⟩

open Go.Lib in
set_option maxRecDepth 100000 in
set_option maxHeartbeats 4000000 in
theorem impl_KnownFractions (a0 : Int) (w : World) (hG : Glob2 w) :
    Calls Tryd.prog 8 #[.int .i64 a0] w fun e w' => ∃ (A0' : Option Addr) (c0' : Nat), e = .returned (.tuple #[.slice A0' (known a0).1.length c0', .int .i64 (known a0).2]) ∧ So eFraction w' (Fr w w') A0' c0' (known a0).1 ∧ Below w.heap.size w w' := by
  have HH1 := Held.start Nob w
  refine enter (n := 23) Tryd.func8 rfl rfl rfl fun a_2 HE3 => ?_
  refine wp_seq ?_
  refine rg ?_
  refine pl_x HE3 HH1 (wt0 rfl) (x_assign rfl) rfl rfl fun a_4 HE5 => ?_
  refine pl_x HE5 HH1 (wt0 rfl) (x_assign rfl) rfl rfl fun a_6 HE7 => ?_
  refine wpList_nil ?_
  clear a_2 HE3 a_4 HE5
  refine nrm ?_
  refine wp_seq ?_
  refine rg ?_
  refine pl fun K_8 hK9 => ?_
  refine st_lit (m := 3) (cs := [.string (bs ([51, 47, 50])), .string (bs ([52, 53, 53, 47, 51, 51, 32, 49, 49, 47, 49, 51, 32, 49, 47, 49, 49, 32, 51, 47, 55, 32, 49, 49, 47, 50, 32, 49, 47, 51])), .string (bs ([49, 55, 47, 57, 49, 32, 55, 56, 47, 56, 53, 32, 49, 57, 47, 53, 49, 32, 50, 51, 47, 51, 56, 32, 50, 57, 47, 51, 51, 32, 55, 55, 47, 50, 57, 32, 57, 53, 47, 50, 51, 32, 55, 55, 47, 49, 57, 32, 49, 47, 49, 55, 32, 49, 49, 47, 49, 51, 32, 49, 51, 47, 49, 49, 32, 49, 53, 47, 49, 52, 32, 49, 53, 47, 50, 32, 53, 53, 47, 49]))]) (e := 9) HE7 HH1 (run_lit ts_43 HE7 (vs := [.string (bs ([51, 47, 50])), .string (bs ([52, 53, 53, 47, 51, 51, 32, 49, 49, 47, 49, 51, 32, 49, 47, 49, 49, 32, 51, 47, 55, 32, 49, 49, 47, 50, 32, 49, 47, 51])), .string (bs ([49, 55, 47, 57, 49, 32, 55, 56, 47, 56, 53, 32, 49, 57, 47, 53, 49, 32, 50, 51, 47, 51, 56, 32, 50, 57, 47, 51, 51, 32, 55, 55, 47, 50, 57, 32, 57, 53, 47, 50, 51, 32, 55, 55, 47, 49, 57, 32, 49, 47, 49, 55, 32, 49, 49, 47, 49, 51, 32, 49, 51, 47, 49, 49, 32, 49, 53, 47, 49, 52, 32, 49, 53, 47, 50, 32, 53, 53, 47, 49]))]) rfl rfl (by simp [Value.cells]) rfl (by decide)) (wt0 rfl) rfl rfl fun q21 a_10 w' HE11 HH12 => hK9 _ _ ?_
  refine pl_x HE11 HH12 (wt0 rfl) (x_assign rfl) rfl rfl fun a_13 HE14 => ?_
  refine wpList_nil ?_
  clear a_6 HE7 HH1 a_10 HE11 hK9 K_8
  refine nrm ?_
  refine wp_seq ?_
  refine wp_seq ?_
  refine rg ?_
  refine pl_x HE14 HH12 (wt0 rfl) (x_move rfl) rfl rfl fun a_15 HE16 => ?_
  refine pl_x HE16 HH12 (wt0 rfl) (x_move rfl) rfl rfl fun a_17 HE18 => ?_
  refine pl fun K_19 hK20 => ?_
  have HH21 := Held.vecFlat (E := eTxt) (xs := [[51, 47, 50], [52, 53, 53, 47, 51, 51, 32, 49, 49, 47, 49, 51, 32, 49, 47, 49, 49, 32, 51, 47, 55, 32, 49, 49, 47, 50, 32, 49, 47, 51], [49, 55, 47, 57, 49, 32, 55, 56, 47, 56, 53, 32, 49, 57, 47, 53, 49, 32, 50, 51, 47, 51, 56, 32, 50, 57, 47, 51, 51, 32, 55, 55, 47, 50, 57, 32, 57, 53, 47, 50, 51, 32, 55, 55, 47, 49, 57, 32, 49, 47, 49, 55, 32, 49, 49, 47, 49, 51, 32, 49, 51, 47, 49, 49, 32, 49, 53, 47, 49, 52, 32, 49, 53, 47, 50, 32, 53, 53, 47, 49]]) (css := [[.string (bs ([51, 47, 50]))], [.string (bs ([52, 53, 53, 47, 51, 51, 32, 49, 49, 47, 49, 51, 32, 49, 47, 49, 49, 32, 51, 47, 55, 32, 49, 49, 47, 50, 32, 49, 47, 51]))], [.string (bs ([49, 55, 47, 57, 49, 32, 55, 56, 47, 56, 53, 32, 49, 57, 47, 53, 49, 32, 50, 51, 47, 51, 56, 32, 50, 57, 47, 51, 51, 32, 55, 55, 47, 50, 57, 32, 57, 53, 47, 50, 51, 32, 55, 55, 47, 49, 57, 32, 49, 47, 49, 55, 32, 49, 49, 47, 49, 51, 32, 49, 51, 47, 49, 49, 32, 49, 53, 47, 49, 52, 32, 49, 53, 47, 50, 32, 53, 53, 47, 49]))]]) HH12 rfl (by unfold maxLen; simp) (fun i x hx => by match i with | 0 => exact ⟨_, rfl, fun _ => by simp at hx; subst hx; exact (oS (by first | omega | (simp only [List.length_append, List.length_cons, List.length_nil]; omega) | (simp; omega)))⟩ | 1 => exact ⟨_, rfl, fun _ => by simp at hx; subst hx; exact (oS (by first | omega | (simp only [List.length_append, List.length_cons, List.length_nil]; omega) | (simp; omega)))⟩ | 2 => exact ⟨_, rfl, fun _ => by simp at hx; subst hx; exact (oS (by first | omega | (simp only [List.length_append, List.length_cons, List.length_nil]; omega) | (simp; omega)))⟩ | i + 3 => simp at hx)
  refine st_call HE18 (wt0 rfl) rfl rfl rfl en_25 rfl rfl (impl_size_Txt _ _ ([[51, 47, 50], [52, 53, 53, 47, 51, 51, 32, 49, 49, 47, 49, 51, 32, 49, 47, 49, 49, 32, 51, 47, 55, 32, 49, 49, 47, 50, 32, 49, 47, 51], [49, 55, 47, 57, 49, 32, 55, 56, 47, 56, 53, 32, 49, 57, 47, 53, 49, 32, 50, 51, 47, 51, 56, 32, 50, 57, 47, 51, 51, 32, 55, 55, 47, 50, 57, 32, 57, 53, 47, 50, 51, 32, 55, 55, 47, 49, 57, 32, 49, 47, 49, 55, 32, 49, 49, 47, 49, 51, 32, 49, 51, 47, 49, 49, 32, 49, 53, 47, 49, 52, 32, 49, 53, 47, 50, 32, 53, 53, 47, 49]] : List (List UInt8)) _ (HH21.vecSl (i := 0) rfl)) fun e w' hr => ?_
  obtain ⟨rfl, hbr22⟩ := hr
  have HH22 := HH21.on hbr22
  refine ⟨_, rfl, fun a_23 HE24 => hK20 _ _ ?_⟩
  have HE25 := HE24.castI (t := 10) (y := (3 : Int)) rfl (by rfl)
  refine pl_x HE25 HH22 (wt0 rfl) (x_sub rfl rfl (by exact ⟨by omega, by omega⟩)) rfl rfl fun a_26 HE27 => ?_
  refine pl fun K_28 hK29 => ?_
  refine st_call HE27 (wt0 rfl) rfl rfl rfl en_24 rfl rfl (impl_within a0 0 (3 - 1) _ ) fun e w' hr => ?_
  obtain ⟨rfl, rfl⟩ := hr
  refine ⟨_, rfl, fun a_30 HE31 => hK29 _ _ ?_⟩
  refine pl_x HE31 HH22 (wt0 rfl) (x_not rfl) rfl rfl fun a_32 HE33 => ?_
  refine wpList_nil ?_
  clear a_13 HE14 a_15 HE16 HH12 HH21 a_17 HE18 HE24 a_23 HE25 K_19 hK20 a_26 HE27 a_30 HE31 hK29 K_28
  refine nrm ?_
  refine cnd_nb HE33 rfl (fun hc24 => ?_) (fun hc24 => ?_)
  · refine wp_seq ?_
    refine rg ?_
    refine pl_x HE33 HH22 (wt0 rfl) (x_assign rfl) rfl rfl fun a_34 HE35 => ?_
    refine pl_x HE35 HH22 (wt0 rfl) (x_assign rfl) rfl rfl fun a_36 HE37 => ?_
    refine wpList_nil ?_
    clear a_32 HE33 a_34 HE35
    refine nrm ?_
    refine wp_ret ?_
    refine (thn_ret ?_)
    refine ret2 HE37 rfl (rv_tmp rfl) (rv_tmp rfl) ?_
    have hF : (known a0) = ([], 2) := by
      first | (rw [hk0.1]; unfold known; rw [if_pos (withinB_true.2 (by omega))]; done) | (unfold known; exact if_neg (fun hh => ff hh hc24))
    exact ⟨none, 0, by first | (rw [hF] <;> rfl) | rfl | (rw [hF]; simp only [Ending.returned.injEq, Value.slice.injEq, true_and, and_true]; first | omega | (simp; done)) | (rw [hF]; simp; omega), by rw [hF]; exact (So.nil (Nat.zero_le _)), HH22.below⟩
  · have hw := withinB_true.1 hc24
    refine wp_skip ?_
    refine nrm ?_
    refine wp_seq ?_
    refine rg ?_
    refine pl_x HE33 HH22 (wt0 rfl) (x_move rfl) rfl rfl fun a_38 HE39 => ?_
    refine pl_x HE39 HH22 (wt0 rfl) (x_move rfl) rfl rfl fun a_40 HE41 => ?_
    have HH42 := HH22.vecSo
    have ke25 : (a0).toNat < 3 := by omega
    refine pl_x HE41 HH42 (wt0 rfl) (x_indexAddr ts_43 rfl rfl rfl (by omega) ke25) rfl rfl fun a_43 HE44 => ?_
    obtain ⟨y26, xy26⟩ : ∃ y_, y_ = ([[51, 47, 50], [52, 53, 53, 47, 51, 51, 32, 49, 49, 47, 49, 51, 32, 49, 47, 49, 49, 32, 51, 47, 55, 32, 49, 49, 47, 50, 32, 49, 47, 51], [49, 55, 47, 57, 49, 32, 55, 56, 47, 56, 53, 32, 49, 57, 47, 53, 49, 32, 50, 51, 47, 51, 56, 32, 50, 57, 47, 51, 51, 32, 55, 55, 47, 50, 57, 32, 57, 53, 47, 50, 51, 32, 55, 55, 47, 49, 57, 32, 49, 47, 49, 55, 32, 49, 49, 47, 49, 51, 32, 49, 51, 47, 49, 49, 32, 49, 53, 47, 49, 52, 32, 49, 53, 47, 50, 32, 53, 53, 47, 49]] : List (List UInt8))[(a0).toNat]'(by first | exact ke25 | (simp only [List.length_set]; exact ke25) | omega | (simp only [List.length_set]; omega) | (simp; omega)) := ⟨_, rfl⟩
    have jy26 : List.length y26 ≤ 9223372036854775807 := by rw [xy26]; exact i_ownS HH42 0 rfl _
    have hk0 := known_txt (k := a0) (by omega) (by decide +kernel) _ xy26
    refine pl_x HE44 HH42 (wt0 rfl) (x_load1 tv_9 rfl (c_ownS 0 rfl (by first | exact ke25 | (simp only [List.length_set]; exact ke25) | omega | (simp only [List.length_set]; omega) | (simp; omega)) xy26.symm)) rfl rfl fun a_45 HE46 => ?_
    refine pl fun K_47 hK48 => ?_
    refine st_call HE46 (wt0 rfl) rfl rfl rfl en_16 rfl rfl (impl_ReadFractions y26 _ (HH42.glob2 hG) (by omega)) fun e w' hr => ?_
    obtain ⟨Ar27_0, cr27_0, rfl, hor27_0, hbr27⟩ := hr
    obtain ⟨Sr27, HH49⟩ := HH42.newS hbr27 hor27_0
    refine ⟨_, rfl, fun a_50 HE51 => hK48 _ _ ?_⟩
    refine pl_x HE51 HH49 (wt0 rfl) (x_move rfl) rfl rfl fun a_52 HE53 => ?_
    refine pl_x HE53 HH49 (wt0 rfl) (x_extract rfl rfl) rfl rfl fun a_54 HE55 => ?_
    refine pl_x HE55 HH49 (wt0 rfl) (x_extract rfl rfl) rfl rfl fun a_56 HE57 => ?_
    refine pl_x HE57 HH49 (wt0 rfl) (x_assign rfl) rfl rfl fun a_58 HE59 => ?_
    refine pl_x HE59 HH49 (wt0 rfl) (x_assign rfl) rfl rfl fun a_60 HE61 => ?_
    refine wpList_nil ?_
    clear a_32 HE33 a_38 HE39 HH22 a_40 HE41 a_43 HE44 HH42 a_45 HE46 a_50 HE51 a_52 HE53 a_54 HE55 a_56 HE57 a_58 HE59 hK48 K_47
    refine nrm ?_
    refine wp_seq ?_
    refine rg ?_
    refine pl_x HE61 HH49 (wt0 rfl) (x_move rfl) rfl rfl fun a_62 HE63 => ?_
    refine pl_x HE63 HH49 (wt0 rfl) (x_assign rfl) rfl rfl fun a_64 HE65 => ?_
    refine pl_x HE65 HH49 (wt0 rfl) (x_assign rfl) rfl rfl fun a_66 HE67 => ?_
    refine wpList_nil ?_
    clear a_60 HE61 a_62 HE63 a_64 HE65
    refine nrm ?_
    refine wp_ret ?_
    refine ret2 HE67 rfl (rv_tmp rfl) (rv_tmp rfl) ?_
    have hF : (known a0) = ((rdFrI y26).1, 0) := by
      first | (rw [hk0.1]; unfold known; rw [if_pos (withinB_true.2 (by omega))]; done) | (unfold known; exact if_neg (fun hh => ff hh hc24))
    exact ⟨Ar27_0, cr27_0, by first | (rw [hF] <;> rfl) | rfl | (rw [hF]; simp only [Ending.returned.injEq, Value.slice.injEq, true_and, and_true]; first | omega | (simp; done)) | (rw [hF]; simp; omega), by rw [hF]; exact (HH49.so (i := 0) rfl), HH49.below⟩

open Go.Lib in
set_option maxRecDepth 100000 in
set_option maxHeartbeats 4000000 in
theorem law_KnownFractions (a0 : Int) (w : World) (h0 : I64 a0) (hG : Glob2 w) :
    Calls Tryd.prog 3 #[.int .i64 a0] w fun e w' => e = .returned (.bool true) ∧ Below w.heap.size w w' := by
  unfold I64 at h0
  have n0 : (ct_SFraction (known a0).1 : Int) ≤ 1000000000 := known_ct a0
  have HH1 := Held.start Nob w
  refine enter (n := 63) Tryd.func3 rfl rfl rfl fun a_2 HE3 => ?_
  refine wp_seq ?_
  refine rg ?_
  refine pl_x HE3 HH1 (wt0 rfl) (x_assign rfl) rfl rfl fun a_4 HE5 => ?_
  refine wpList_nil ?_
  clear a_2 HE3
  refine nrm ?_
  refine wp_seq ?_
  refine rg ?_
  refine pl_x HE5 HH1 (wt0 rfl) (x_move rfl) rfl rfl fun a_6 HE7 => ?_
  refine pl fun K_8 hK9 => ?_
  refine st_call HE7 (wt0 rfl) rfl rfl rfl en_7 rfl rfl (spec_KnownFractions a0 _ ) fun e w' hr => ?_
  obtain ⟨Ar21_0, cr21_0, rfl, hor21_0, hbr21⟩ := hr
  obtain ⟨Sr21, HH10⟩ := HH1.newS hbr21 hor21_0
  refine ⟨_, rfl, fun a_11 HE12 => hK9 _ _ ?_⟩
  refine pl_x HE12 HH10 (wt0 rfl) (x_move rfl) rfl rfl fun a_13 HE14 => ?_
  refine pl_x HE14 HH10 (wt0 rfl) (x_extract rfl rfl) rfl rfl fun a_15 HE16 => ?_
  refine pl_x HE16 HH10 (wt0 rfl) (x_extract rfl rfl) rfl rfl fun a_17 HE18 => ?_
  refine pl_x HE18 HH10 (wt0 rfl) (x_assign rfl) rfl rfl fun a_19 HE20 => ?_
  refine pl_x HE20 HH10 (wt0 rfl) (x_assign rfl) rfl rfl fun a_21 HE22 => ?_
  refine wpList_nil ?_
  clear a_4 HE5 HH1 a_6 HE7 a_11 HE12 a_13 HE14 a_15 HE16 a_17 HE18 a_19 HE20 hK9 K_8
  refine nrm ?_
  refine wp_seq ?_
  refine rg ?_
  refine pl_x HE22 HH10 (wt0 rfl) (x_move rfl) rfl rfl fun a_23 HE24 => ?_
  refine pl fun K_25 hK26 => ?_
  refine st_call HE24 (wt0 rfl) rfl rfl rfl en_8 rfl rfl (impl_KnownFractions a0 _ (HH10.glob2 hG)) fun e w' hr => ?_
  obtain ⟨Ar22_0, cr22_0, rfl, hor22_0, hbr22⟩ := hr
  obtain ⟨Sr22, HH27⟩ := HH10.newS hbr22 hor22_0
  refine ⟨_, rfl, fun a_28 HE29 => hK26 _ _ ?_⟩
  refine pl_x HE29 HH27 (wt0 rfl) (x_move rfl) rfl rfl fun a_30 HE31 => ?_
  refine pl_x HE31 HH27 (wt0 rfl) (x_extract rfl rfl) rfl rfl fun a_32 HE33 => ?_
  refine pl_x HE33 HH27 (wt0 rfl) (x_extract rfl rfl) rfl rfl fun a_34 HE35 => ?_
  refine pl_x HE35 HH27 (wt0 rfl) (x_assign rfl) rfl rfl fun a_36 HE37 => ?_
  refine pl_x HE37 HH27 (wt0 rfl) (x_assign rfl) rfl rfl fun a_38 HE39 => ?_
  refine wpList_nil ?_
  clear a_21 HE22 HH10 a_23 HE24 a_28 HE29 a_30 HE31 a_32 HE33 a_34 HE35 a_36 HE37 hK26 K_25
  refine nrm ?_
  refine wp_seq ?_
  refine wp_seq ?_
  refine rg ?_
  refine pl_x HE39 HH27 (wt0 rfl) (x_move rfl) rfl rfl fun a_40 HE41 => ?_
  refine pl_x HE41 HH27 (wt0 rfl) (x_move rfl) rfl rfl fun a_42 HE43 => ?_
  refine pl fun K_44 hK45 => ?_
  refine st_call HE43 (wt0 rfl) rfl rfl rfl en_9 rfl rfl (eq_SFraction_c _ _ _ _ ((known a0).1) ((known a0).1) _ (HH27.sl (i := 0) rfl) (HH27.sl (i := 1) rfl)) fun e w' hr => ?_
  obtain ⟨rfl, hbr23⟩ := hr
  have HH46 := HH27.on hbr23
  clear hbr23
  refine ⟨_, rfl, fun a_47 HE48 => hK45 _ _ ?_⟩
  refine pl_x HE48 HH46 (wt0 rfl) (x_not rfl) rfl rfl fun a_49 HE50 => ?_
  refine pl_x HE50 HH46 (wt0 rfl) (x_move rfl) rfl rfl fun a_51 HE52 => ?_
  refine pl_x HE52 HH46 (wtT HE52 rfl rfl rfl (not_f (eq_SFraction_refl _))) (x_move rfl) rfl rfl fun a_53 HE54 => ?_
  refine pl_x HE54 HH46 (wtT HE54 rfl rfl rfl (not_f (eq_SFraction_refl _))) (x_move rfl) rfl rfl fun a_55 HE56 => ?_
  refine pl_x HE56 HH46 (wtT HE56 rfl rfl rfl (not_f (eq_SFraction_refl _))) (x_neq rfl rfl) rfl rfl fun a_57 HE58 => ?_
  refine pl_x HE58 HH46 (wt0 rfl) (x_pickF rfl (not_f (eq_SFraction_refl _)) rfl) rfl rfl fun a_59 HE60 => ?_
  refine wpList_nil ?_
  clear a_38 HE39 a_40 HE41 HH27 a_42 HE43 a_47 HE48 a_49 HE50 a_51 HE52 a_53 HE54 a_55 HE56 a_57 HE58 hK45 K_44
  refine nrm ?_
  refine cndF HE60 rfl (bne_f rfl) ?_
  refine wp_skip ?_
  refine nrm ?_
  refine wp_seq ?_
  refine rg ?_
  refine pl_x HE60 HH46 (wt0 rfl) (x_assign rfl) rfl rfl fun a_61 HE62 => ?_
  refine wpList_nil ?_
  clear a_59 HE60
  refine nrm ?_
  refine wp_seq ?_
  refine rg ?_
  refine pl_x HE62 HH46 (wt0 rfl) (x_move rfl) rfl rfl fun a_63 HE64 => ?_
  refine pl_x HE64 HH46 (wt0 rfl) (x_move rfl) rfl rfl fun a_65 HE66 => ?_
  refine pl fun K_67 hK68 => ?_
  refine st_call HE66 (wt0 rfl) rfl rfl rfl en_10 rfl rfl (mark_SFraction_c _ _ ((known a0).1) 1 _ _ (so_of_o (HH46.get (i := 0) rfl)) (HH46.lt (i := 0) rfl) (by omega) (by omega)) fun e w' hr => ?_
  obtain ⟨rfl, hsr24, hcr24⟩ := hr
  have HH69 := HH46.mut (i := 0) rfl hcr24 (rSo eFraction Sr22 Ar22_0 cr22_0 (mk_SFraction ((known a0).1) 1)) (oSl hsr24) (fun b hb => .inl hb)
  clear hsr24 hcr24
  refine ⟨_, rfl, fun a_70 HE71 => hK68 _ _ ?_⟩
  refine pl_x HE71 HH69 (wt0 rfl) (x_assign rfl) rfl rfl fun a_72 HE73 => ?_
  refine wpList_nil ?_
  clear a_61 HE62 a_63 HE64 HH46 a_65 HE66 a_70 HE71 hK68 K_67
  refine nrm ?_
  refine wp_seq ?_
  refine rg ?_
  refine pl_x HE73 HH69 (wt0 rfl) (x_assign rfl) rfl rfl fun a_74 HE75 => ?_
  refine wpList_nil ?_
  clear a_72 HE73
  refine nrm ?_
  refine wp_seq ?_
  refine rg ?_
  refine pl_x HE75 HH69 (wt0 rfl) (x_move rfl) rfl rfl fun a_76 HE77 => ?_
  refine pl_x HE77 HH69 (wt0 rfl) (x_move rfl) rfl rfl fun a_78 HE79 => ?_
  refine pl fun K_80 hK81 => ?_
  refine st_call HE79 (wt0 rfl) rfl rfl rfl en_11 rfl rfl (held_SFraction_c _ _ ((known a0).1) 1 _ (HH69.sl (i := 0) rfl) (by omega) (by omega)) fun e w' hr => ?_
  obtain ⟨rfl, hbr25⟩ := hr
  have HH82 := HH69.on hbr25
  clear hbr25
  refine ⟨_, rfl, fun a_83 HE84 => hK81 _ _ ?_⟩
  refine pl_x HE84 HH82 (wt0 rfl) (x_assign rfl) rfl rfl fun a_85 HE86 => ?_
  refine wpList_nil ?_
  clear a_74 HE75 a_76 HE77 HH69 a_78 HE79 a_83 HE84 hK81 K_80
  refine nrm ?_
  refine wp_seq ?_
  refine wp_seq ?_
  refine rg ?_
  refine pl_x HE86 HH82 (wt0 rfl) (x_move rfl) rfl rfl fun a_87 HE88 => ?_
  refine pl_x HE88 HH82 (wt0 rfl) (x_lss rfl rfl) rfl rfl fun a_89 HE90 => ?_
  refine wpList_nil ?_
  clear a_85 HE86 a_87 HE88
  refine nrm ?_
  refine cnd_d HE90 rfl (fun hc26 => ?_) (fun hc26 => ?_)
  · refine wp_seq ?_
    refine rg ?_
    refine pl_x HE90 HH82 (wt0 rfl) (x_assign rfl) rfl rfl fun a_91 HE92 => ?_
    refine wpList_nil ?_
    clear a_89 HE90
    refine nrm ?_
    refine wp_ret ?_
    refine (thn_ret ?_)
    refine ret1 HE92 rfl (rv_tmp rfl) ?_
    have hF : true = false := by
      first | rfl | (exfalso; omega)
    exact ⟨by first | (rw [hF] <;> rfl) | rfl | (rw [hF]; simp only [Ending.returned.injEq, Value.slice.injEq, true_and, and_true]; first | omega | (simp; done)) | (rw [hF]; simp; omega), HH82.below⟩
  · refine wp_skip ?_
    refine nrm ?_
    refine wp_seq ?_
    refine wp_seq ?_
    refine rg ?_
    refine pl_x HE90 HH82 (wt0 rfl) (x_move rfl) rfl rfl fun a_93 HE94 => ?_
    refine pl_x HE94 HH82 (wt0 rfl) (x_move rfl) rfl rfl fun a_95 HE96 => ?_
    refine pl_x HE96 HH82 (wt0 rfl) (x_neq rfl rfl) rfl rfl fun a_97 HE98 => ?_
    refine wpList_nil ?_
    clear a_89 HE90 a_93 HE94 a_95 HE96
    refine nrm ?_
    refine cndF HE98 rfl (bne_f rfl) ?_
    refine wp_skip ?_
    refine nrm ?_
    refine wp_seq ?_
    refine rg ?_
    refine pl_x HE98 HH82 (wt0 rfl) (x_move rfl) rfl rfl fun a_99 HE100 => ?_
    refine pl fun K_101 hK102 => ?_
    refine st_call HE100 (wt0 rfl) rfl rfl rfl en_8 rfl rfl (impl_KnownFractions a0 _ (HH82.glob2 hG)) fun e w' hr => ?_
    obtain ⟨Ar27_0, cr27_0, rfl, hor27_0, hbr27⟩ := hr
    obtain ⟨Sr27, HH103⟩ := HH82.newS hbr27 hor27_0
    refine ⟨_, rfl, fun a_104 HE105 => hK102 _ _ ?_⟩
    refine pl_x HE105 HH103 (wt0 rfl) (x_move rfl) rfl rfl fun a_106 HE107 => ?_
    refine pl_x HE107 HH103 (wt0 rfl) (x_extract rfl rfl) rfl rfl fun a_108 HE109 => ?_
    refine pl_x HE109 HH103 (wt0 rfl) (x_extract rfl rfl) rfl rfl fun a_110 HE111 => ?_
    refine pl_x HE111 HH103 (wt0 rfl) (x_assign rfl) rfl rfl fun a_112 HE113 => ?_
    refine pl_x HE113 HH103 (wt0 rfl) (x_assign rfl) rfl rfl fun a_114 HE115 => ?_
    refine wpList_nil ?_
    clear a_97 HE98 HH82 a_99 HE100 a_104 HE105 a_106 HE107 a_108 HE109 a_110 HE111 a_112 HE113 hK102 K_101
    refine nrm ?_
    refine wp_seq ?_
    refine wp_seq ?_
    refine rg ?_
    refine pl_x HE115 HH103 (wt0 rfl) (x_move rfl) rfl rfl fun a_116 HE117 => ?_
    refine pl_x HE117 HH103 (wt0 rfl) (x_move rfl) rfl rfl fun a_118 HE119 => ?_
    refine pl fun K_120 hK121 => ?_
    refine st_call HE119 (wt0 rfl) rfl rfl rfl en_9 rfl rfl (eq_SFraction_c _ _ _ _ ((known a0).1) ((known a0).1) _ (HH103.sl (i := 0) rfl) (HH103.sl (i := 2) rfl)) fun e w' hr => ?_
    obtain ⟨rfl, hbr28⟩ := hr
    have HH122 := HH103.on hbr28
    clear hbr28
    refine ⟨_, rfl, fun a_123 HE124 => hK121 _ _ ?_⟩
    refine pl_x HE124 HH122 (wt0 rfl) (x_not rfl) rfl rfl fun a_125 HE126 => ?_
    refine pl_x HE126 HH122 (wt0 rfl) (x_move rfl) rfl rfl fun a_127 HE128 => ?_
    refine pl_x HE128 HH122 (wtT HE128 rfl rfl rfl (not_f (eq_SFraction_refl _))) (x_move rfl) rfl rfl fun a_129 HE130 => ?_
    refine pl_x HE130 HH122 (wtT HE130 rfl rfl rfl (not_f (eq_SFraction_refl _))) (x_move rfl) rfl rfl fun a_131 HE132 => ?_
    refine pl_x HE132 HH122 (wtT HE132 rfl rfl rfl (not_f (eq_SFraction_refl _))) (x_neq rfl rfl) rfl rfl fun a_133 HE134 => ?_
    refine pl_x HE134 HH122 (wt0 rfl) (x_pickF rfl (not_f (eq_SFraction_refl _)) rfl) rfl rfl fun a_135 HE136 => ?_
    refine wpList_nil ?_
    clear a_114 HE115 a_116 HE117 HH103 a_118 HE119 a_123 HE124 a_125 HE126 a_127 HE128 a_129 HE130 a_131 HE132 a_133 HE134 hK121 K_120
    refine nrm ?_
    refine cndF HE136 rfl (bne_f rfl) ?_
    refine wp_skip ?_
    refine nrm ?_
    refine wp_seq ?_
    refine rg ?_
    refine pl_x HE136 HH122 (wt0 rfl) (x_assign rfl) rfl rfl fun a_137 HE138 => ?_
    refine wpList_nil ?_
    clear a_135 HE136
    refine nrm ?_
    refine wp_seq ?_
    refine rg ?_
    refine pl_x HE138 HH122 (wt0 rfl) (x_move rfl) rfl rfl fun a_139 HE140 => ?_
    refine pl_x HE140 HH122 (wt0 rfl) (x_move rfl) rfl rfl fun a_141 HE142 => ?_
    refine pl fun K_143 hK144 => ?_
    refine st_call HE142 (wt0 rfl) rfl rfl rfl en_11 rfl rfl (held_SFraction_c _ _ ((known a0).1) 1 _ (HH122.sl (i := 1) rfl) (by omega) (by omega)) fun e w' hr => ?_
    obtain ⟨rfl, hbr29⟩ := hr
    have HH145 := HH122.on hbr29
    clear hbr29
    refine ⟨_, rfl, fun a_146 HE147 => hK144 _ _ ?_⟩
    refine pl_x HE147 HH145 (wt0 rfl) (x_assign rfl) rfl rfl fun a_148 HE149 => ?_
    refine wpList_nil ?_
    clear a_137 HE138 a_139 HE140 HH122 a_141 HE142 a_146 HE147 hK144 K_143
    refine nrm ?_
    refine wp_seq ?_
    refine wp_seq ?_
    refine rg ?_
    refine pl_x HE149 HH145 (wt0 rfl) (x_move rfl) rfl rfl fun a_150 HE151 => ?_
    refine pl_x HE151 HH145 (wt0 rfl) (x_lss rfl rfl) rfl rfl fun a_152 HE153 => ?_
    refine wpList_nil ?_
    clear a_148 HE149 a_150 HE151
    refine nrm ?_
    refine cndF HE153 rfl (decide_eq_false hc26) ?_
    refine wp_skip ?_
    refine nrm ?_
    refine wp_seq ?_
    refine wp_seq ?_
    refine rg ?_
    refine pl_x HE153 HH145 (wt0 rfl) (x_move rfl) rfl rfl fun a_154 HE155 => ?_
    refine pl_x HE155 HH145 (wt0 rfl) (x_move rfl) rfl rfl fun a_156 HE157 => ?_
    refine pl_x HE157 HH145 (wt0 rfl) (x_neq rfl rfl) rfl rfl fun a_158 HE159 => ?_
    refine wpList_nil ?_
    clear a_152 HE153 a_154 HE155 a_156 HE157
    refine nrm ?_
    refine cndF HE159 rfl (bne_f rfl) ?_
    refine wp_skip ?_
    refine nrm ?_
    refine wp_seq ?_
    refine rg ?_
    refine pl_x HE159 HH145 (wt0 rfl) (x_assign rfl) rfl rfl fun a_160 HE161 => ?_
    refine wpList_nil ?_
    clear a_158 HE159
    refine nrm ?_
    refine wp_ret ?_
    refine ret1 HE161 rfl (rv_tmp rfl) ?_
    have hF : true = true := by
      first | rfl | (exfalso; omega)
    exact ⟨by first | (rw [hF] <;> rfl) | rfl | (rw [hF]; simp only [Ending.returned.injEq, Value.slice.injEq, true_and, and_true]; first | omega | (simp; done)) | (rw [hF]; simp; omega), HH145.below⟩

end Go.Proofs.YthknelhboibbnaaDoor
