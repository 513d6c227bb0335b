/- What the proof of FnExactPermuteTapes needs: contracts of the functions that it reaches, each once. -/
import Derived.Test.YtcfdkckchbdafaaProg
import Derived.Test.YtcfdkckchbdafaaQMem
import Derived.Test.YtcfdkckchbdafaaQOpen
import Derived.Test.YtcfdkckchbdafaaLPermuteTapesa
import Derived.Test.YtcfdkckchbdafaaLPermuteTapesb
import Derived.Test.YtcfdkckchbdafaaLPermuteTapesc
import Derived.Test.YtcfdkckchbdafaaLPermuteTapesd
import Derived.Test.YtcfdkckchbdafaaLPermuteTapese
import Derived.WalkKit
import Derived.WalkSpells
import Derived.Below
import Derived.LoopTactic
import Derived.Outline
import Derived.Deep.QuietTactic
import Derived.BigQuiet
import Derived.Deep.LoopGhost
import Derived.Handy
import Derived.Lib.Hide
import Derived.Shelf.Abstract
import Derived.StillTailTactics
import Derived.OwnWalk
import Derived.Maps.AppendAt
import Derived.RegionTactic
import Derived.Deep.RegionHeld3
import Derived.IntWalk
import Derived.Deep.Upon
import Derived.Laws.OwnMore
import Derived.Maps.AppendAt
import Derived.Lib.FrozenHead
import Derived.Lib.RuneBytes
import Derived.Lib.LaidTab
import Derived.Laws.StructEq
import Derived.Lib.SliceRun
import Derived.Lib.AppendZeros
import Derived.Shelf.SortG.Plain
import Derived.Shelf.SortG.SortNone
import Derived.Shelf.SlicesG.CompactI
import Derived.Shelf.SlicesG.SearchI
import Derived.Sort.OwnSortedInts
import Derived.Lib.RowBridge
import Derived.Lib.ItoaLen
import Derived.Lib.Join
import Derived.Shelf.Strconv.Itoa4
import Derived.Shelf.Strings.OnBuilder
import Derived.Shelf.Strings.BuilderK
import Derived.Shelf.Strings.BuilderRune
import Derived.Shelf.LaysM
import Derived.Ground.NamesProg
import Derived.Shelf.SlSortCmp.WholeK
import Derived.Shelf.SlSortCmp.NoneTotal
namespace Go.Proofs.Ytcfdkckchbdafaa
open Go.RowKit

theorem rise_at {ys : List Int} (h : ys.Pairwise (· < ·)) : ∀ (i : Nat) (hi : i < ys.length), (∀ y ∈ ys, 0 ≤ y ∧ y < (ys.length : Int)) → ys[i] = (i : Int) := by
  have up : ∀ (i : Nat) (hi : i < ys.length), (∀ y ∈ ys, 0 ≤ y) → (i : Int) ≤ ys[i] := by
    intro i
    induction i with
    | zero => intro hi h0; exact h0 _ (List.getElem_mem hi)
    | succ i ih =>
      intro hi h0
      have h1 := ih (by omega) h0
      have h2 := List.pairwise_iff_getElem.1 h i (i + 1) (by omega) hi (by omega)
      have h3 : ys[i] < ys[i + 1] := h2
      omega
  have down : ∀ (d i : Nat) (hi : i < ys.length), i + d + 1 = ys.length → (∀ y ∈ ys, y < (ys.length : Int)) → ys[i] ≤ (i : Int) := by
    intro d
    induction d with
    | zero =>
      intro i hi hd h0
      have := h0 _ (List.getElem_mem hi)
      omega
    | succ d ih =>
      intro i hi hd h0
      have h1 := ih (i + 1) (by omega) (by omega) h0
      have h2 := List.pairwise_iff_getElem.1 h i (i + 1) hi (by omega) (by omega)
      have h3 : ys[i] < ys[i + 1] := h2
      omega
  intro i hi h0
  have h1 := up i hi fun y hy => (h0 y hy).1
  have h2 := down (ys.length - 1 - i) i hi (by omega) fun y hy => (h0 y hy).2
  omega

theorem order_iff (xs : List Int) (n : Int) : orderB xs n = true ↔ (xs.length : Int) = n ∧ (∀ x ∈ xs, 0 ≤ x ∧ x < n) ∧ xs.Nodup := by
  have hl := sortI_len xs
  unfold orderB
  simp only [Bool.and_eq_true, decide_eq_true_eq, List.all_eq_true, List.mem_range]
  constructor
  · rintro ⟨h1, h2⟩
    have hat : ∀ (i : Nat) (hi : i < (sortI xs).length), (sortI xs)[i] = (i : Int) := by
      intro i hi
      have := h2 i (by omega)
      rwa [List.getElem?_eq_getElem hi] at this
    refine ⟨h1, fun x hx => ?_, ?_⟩
    · obtain ⟨i, hi, rfl⟩ := List.mem_iff_getElem.1 (sortI_mem.2 hx)
      rw [hat i hi]
      omega
    · refine (List.mergeSort_perm xs (fun x y => decide (x ≤ y))).nodup_iff.1 ?_
      refine List.pairwise_iff_getElem.2 fun i j hi hj hij => ?_
      have e1 := hat i hi
      have e2 := hat j hj
      unfold sortI at e1 e2
      rw [e1, e2]
      omega
  · rintro ⟨h1, h2, h3⟩
    refine ⟨h1, fun i hi => ?_⟩
    have hnd : (sortI xs).Nodup := (List.mergeSort_perm xs (fun x y => decide (x ≤ y))).nodup_iff.2 h3
    have hr : (sortI xs).Pairwise (· < ·) := by
      refine List.pairwise_iff_getElem.2 fun i j hi hj hij => ?_
      have h4 := List.pairwise_iff_getElem.1 (sortI_rise xs) i j hi hj hij
      have h5 : (sortI xs)[i] ≠ (sortI xs)[j] := List.pairwise_iff_getElem.1 hnd i j hi hj hij
      omega
    rw [List.getElem?_eq_getElem (by omega)]
    exact rise_at hr i (by omega) fun y hy => by
      have := h2 y (sortI_mem.1 hy)
      omega

theorem order_len {xs : List Int} {n : Int} (h : ¬ (xs.length : Int) = n) : orderB xs n = false :=
  Bool.eq_false_iff.2 fun h2 => h ((order_iff xs n).1 h2).1

theorem order_all {xs : List Int} {n : Int} (h : (xs.length : Int) = n) (h1 : ∀ x ∈ xs, 0 ≤ x ∧ x < n) (h2 : xs.Nodup) : orderB xs n = true := (order_iff xs n).2 ⟨h, h1, h2⟩

theorem order_srt {xs : List Int} {n : Int} (h : (xs.length : Int) = n) (h1 : ∀ i, i < xs.length → (sortI xs)[i]?.getD 0 = (i : Int)) : orderB xs n = true := by
  unfold orderB
  simp only [Bool.and_eq_true, decide_eq_true_eq, List.all_eq_true, List.mem_range]
  exact ⟨h, h1⟩

theorem order_bad {xs : List Int} {n : Int} {k : Nat} (hk : k < xs.length) (h : ¬ (sortI xs)[k]?.getD 0 = (k : Int)) : orderB xs n = false := by
  refine Bool.eq_false_iff.2 fun h2 => h ?_
  unfold orderB at h2
  simp only [Bool.and_eq_true, decide_eq_true_eq, List.all_eq_true, List.mem_range] at h2
  exact h2.2 k hk

theorem all_succ {p : Nat → Prop} {k : Nat} (h : ∀ i, i < k → p i) (hk : p k) : ∀ i, i < k + 1 → p i := fun i hi => by
  by_cases e : i = k
  · rw [e]; exact hk
  · exact h i (by omega)

set_option maxRecDepth 100000 in
set_option maxHeartbeats 4000000 in
theorem impl_SortList (A0 : Option Addr) (c0 : Nat) (a0 : (List Int)) (w : World) (h0 : Sl eInt w (Old w) A0 c0 a0) (s0 : a0.length ≤ 1000000000) :
    Calls Try.prog 121 #[.slice A0 a0.length c0] w fun e w' => ∃ (A0' : Option Addr) (c0' : Nat), e = .returned (.slice A0' (sortI a0).length c0') ∧ So eInt w' (Fr w w') A0' c0' (sortI a0) ∧ Below w.heap.size w w' := by
  have l0 := h0.len
  have HH1 := Held.start Nob w
  refine enter (n := 9) Try.func121 rfl rfl rfl fun a_2 HE3 => ?_
  refine wp_seq ?_
  refine rg ?_
  refine pl_x HE3 HH1 (wt0 rfl) (x_assign rfl) rfl rfl fun a_4 HE5 => ?_
  refine wpList_nil ?_
  clear a_2 HE3
  refine nrm ?_
  refine wp_seq ?_
  refine rg ?_
  refine pl_x HE5 HH1 (wt0 rfl) (x_move rfl) rfl rfl fun a_6 HE7 => ?_
  refine pl fun K_8 hK9 => ?_
  refine st_call HE7 (wt0 rfl) rfl rfl rfl en_84 rfl rfl (Clone_Int64 _ _ a0 _ (HH1.old h0) (by omega)) fun e w' hr => ?_
  obtain ⟨Ar21_0, cr21_0, rfl, hor21_0, hbr21⟩ := hr
  obtain ⟨Sr21, HH10⟩ := HH1.newS hbr21 hor21_0
  refine ⟨_, rfl, fun a_11 HE12 => hK9 _ _ ?_⟩
  refine pl_x HE12 HH10 (wt0 rfl) (x_assign rfl) rfl rfl fun a_13 HE14 => ?_
  refine wpList_nil ?_
  clear a_4 HE5 HH1 a_6 HE7 a_11 HE12 hK9 K_8
  refine nrm ?_
  refine wp_seq ?_
  refine rg ?_
  refine pl_x HE14 HH10 (wt0 rfl) (x_move rfl) rfl rfl fun a_15 HE16 => ?_
  refine pl fun K_17 hK18 => ?_
  have HH19 : Held Nob w ([rSo eInt Sr21 Ar21_0 cr21_0 a0] ++ []) _ := HH10
  refine st_call HE16 (wt0 rfl) rfl rfl rfl en_135 rfl rfl (Sort_Int64 (Foot [rSo eInt Sr21 Ar21_0 cr21_0 a0]) _ _ a0 _ _ HH19.focus (by omega)) fun e w' hr => ?_
  obtain ⟨Sr22_0, rfl, hbr22⟩ := hr
  have HH20 := HH19.back hbr22
  clear hbr22
  have HH21 : Held Nob w ([rSo eInt Sr22_0 Ar21_0 cr21_0 (sortI a0)] ++ []) _ := HH20
  have hAr22_0 := sortI_len a0
  refine ⟨_, rfl, fun a_22 HE23 => hK18 _ _ ?_⟩
  refine wpList_nil ?_
  clear a_13 HE14 HH10 HH19 HH20 a_15 HE16 hK18 K_17
  refine nrm ?_
  refine wp_seq ?_
  refine rg ?_
  refine pl_x HE23 HH21 (wt0 rfl) (x_move rfl) rfl rfl fun a_24 HE25 => ?_
  refine pl_x HE25 HH21 (wt0 rfl) (x_assign rfl) rfl rfl fun a_26 HE27 => ?_
  refine wpList_nil ?_
  clear a_22 HE23 a_24 HE25
  refine nrm ?_
  refine wp_ret ?_
  refine ret1 HE27 rfl (rv_tmp rfl) ?_
  have hF : (sortI a0) = (sortI a0) := by
    rfl
  exact ⟨Ar21_0, cr21_0, by first | (rw [hF] <;> rfl) | rfl | (rw [hF]; simp only [Ending.returned.injEq, Value.slice.injEq, true_and, and_true]; first | omega | (simp; done)) | (rw [hF]; simp; omega), by rw [hF]; exact (HH21.so (i := 0) rfl), HH21.below⟩

set_option maxRecDepth 100000 in
set_option maxHeartbeats 4000000 in
theorem impl_isOrder (A0 : Option Addr) (c0 : Nat) (a0 : (List Int)) (a1 : Int) (w : World) (h0 : Sl eInt w (Old w) A0 c0 a0) (s0 : -1000 ≤ a1 ∧ a1 ≤ 1000) :
    Calls Try.prog 87 #[.slice A0 a0.length c0, .int .i64 a1] w fun e w' => e = .returned (.bool (orderB a0 a1)) ∧ Below w.heap.size w w' := by
  have l0 := h0.len
  have HH1 := Held.start Nob w
  refine enter (n := 23) Try.func87 rfl rfl rfl fun a_2 HE3 => ?_
  refine wp_seq ?_
  refine rg ?_
  refine pl_x HE3 HH1 (wt0 rfl) (x_assign rfl) rfl rfl fun a_4 HE5 => ?_
  refine wpList_nil ?_
  clear a_2 HE3
  refine nrm ?_
  refine wp_seq ?_
  refine wp_seq ?_
  refine rg ?_
  refine pl_x HE5 HH1 (wt0 rfl) (x_move rfl) rfl rfl fun a_6 HE7 => ?_
  refine pl fun K_8 hK9 => ?_
  refine st_call HE7 (wt0 rfl) rfl rfl rfl en_120 rfl rfl (impl_size_Int64 _ _ _ _) fun e w' hr => ?_
  obtain ⟨rfl, rfl⟩ := hr
  refine ⟨_, rfl, fun a_10 HE11 => hK9 _ _ ?_⟩
  refine pl_x HE11 HH1 (wt0 rfl) (x_move rfl) rfl rfl fun a_12 HE13 => ?_
  refine pl_x HE13 HH1 (wt0 rfl) (x_neq rfl rfl) rfl rfl fun a_14 HE15 => ?_
  refine wpList_nil ?_
  clear a_4 HE5 a_6 HE7 a_10 HE11 a_12 HE13 hK9 K_8
  refine nrm ?_
  refine cnd_ne HE15 rfl (fun hc22 => ?_) (fun hc22 => ?_)
  · refine wp_seq ?_
    refine rg ?_
    refine pl_x HE15 HH1 (wt0 rfl) (x_assign rfl) rfl rfl fun a_16 HE17 => ?_
    refine wpList_nil ?_
    clear a_14 HE15
    refine nrm ?_
    refine wp_ret ?_
    refine (thn_ret ?_)
    refine ret1 HE17 rfl (rv_tmp rfl) ?_
    have hF : (orderB a0 a1) = false := by
      first | exact order_len (by omega) | exact order_bad (k := k) (by omega) (by rw [List.getElem?_eq_getElem (by omega), ← xy0, Option.getD_some]; omega) | exact order_srt (by omega) (fun i hi => p0_1 i (by omega))
    exact ⟨by first | (rw [hF] <;> rfl) | rfl | (rw [hF]; simp only [Ending.returned.injEq, Value.slice.injEq, true_and, and_true]; first | omega | (simp; done)) | (rw [hF]; simp; omega), HH1.below⟩
  · refine wp_skip ?_
    refine nrm ?_
    refine wp_seq ?_
    refine wp_seq ?_
    refine rg ?_
    refine pl_x HE15 HH1 (wt0 rfl) (x_move rfl) rfl rfl fun a_18 HE19 => ?_
    refine pl fun K_20 hK21 => ?_
    refine st_call HE19 (wt0 rfl) rfl rfl rfl en_121 rfl rfl (impl_SortList _ _ a0 _ (HH1.old h0) (by omega)) fun e w' hr => ?_
    obtain ⟨Ar23_0, cr23_0, rfl, hor23_0, hbr23⟩ := hr
    obtain ⟨Sr23, HH22⟩ := HH1.newS hbr23 hor23_0
    refine ⟨_, rfl, fun a_23 HE24 => hK21 _ _ ?_⟩
    refine pl_x HE24 HH22 (wt0 rfl) (x_len Try.underlying37 rfl) rfl rfl fun a_25 HE26 => ?_
    refine pl_x HE26 HH22 (wt0 rfl) (x_move rfl) rfl rfl fun a_27 HE28 => ?_
    refine wpList_nil ?_
    clear a_14 HE15 HH1 a_18 HE19 a_23 HE24 a_25 HE26 hK21 K_20
    refine nrm ?_
    refine wp_block ?_
    refine lp (fun m a w' => ∃ (k : Nat), m = a0.length - k ∧ Env 23 [(14, .int .i64 (k : Int)), (12, .slice Ar23_0 ((sortI a0).length) cr23_0), (13, .int .i64 (((sortI a0).length : Int)))] a ∧ Held Nob w [rSo eInt Sr23 Ar23_0 cr23_0 (sortI a0)] w' ∧ (k ≤ a0.length) ∧ (∀ i, i < k → (sortI a0)[i]?.getD 0 = (i : Int))) (a0.length - (0)) ?_ ?_
    · exact ⟨0, rfl, HE28.sub ⟨(lkI rfl (by first | rfl | omega | (simp [hc22]; done))), rfl, rfl, trivial⟩, (HH22.sel [0] (by decide) rfl), (by first | omega | assumption | (simp; done) | simp_all), (by intro i hi; omega)⟩
    · rintro m a_29 w' ⟨k, rfl, HE30, HH31, p24_0, p24_1⟩
      have hl0 := sortI_len a0
      refine wp_seq ?_
      refine rg ?_
      refine pl_x HE30 HH31 (wt0 rfl) (x_lss rfl rfl) rfl rfl fun a_32 HE33 => ?_
      refine wpList_nil ?_
      clear a_27 HE28 HH22 a_29 HE30
      refine nrm ?_
      refine wp_seq ?_
      refine cnd_d HE33 rfl (fun hc25 => ?_) (fun hc25 => ?_)
      · refine wp_skip ?_
        refine nrm ?_
        refine wp_seq ?_
        refine wp_block ?_
        refine wp_seq ?_
        refine rg ?_
        refine pl_x HE33 HH31 (wt0 rfl) (x_move rfl) rfl rfl fun a_34 HE35 => ?_
        have ke26 : k < (sortI a0).length := by omega
        obtain ⟨be26, fe26, rfl⟩ := el_own HH31 (i := 0) rfl ke26
        refine pl_x HE35 HH31 (wt0 rfl) (x_indexAddr ts_37 rfl rfl rfl rfl ke26) rfl rfl fun a_36 HE37 => ?_
        obtain ⟨y27, xy27⟩ : ∃ y_, y_ = (sortI a0)[k]'(by first | exact ke26 | (simp only [List.length_set]; exact ke26) | omega | (simp only [List.length_set]; omega) | (simp; omega)) := ⟨_, rfl⟩
        have iy27 : I64 y27 := by rw [xy27]; exact i_ownI HH31 0 rfl _
        have jy27 := iy27; unfold I64 at jy27
        refine pl_x HE37 HH31 (wt0 rfl) (x_load1 tv_2 rfl (c_ownV 0 rfl (by first | exact ke26 | (simp only [List.length_set]; exact ke26) | omega | (simp only [List.length_set]; omega) | (simp; omega)) xy27.symm)) rfl rfl fun a_38 HE39 => ?_
        refine pl_x HE39 HH31 (wt0 rfl) (x_assign rfl) rfl rfl fun a_40 HE41 => ?_
        refine pl_x HE41 HH31 (wt0 rfl) (x_assign rfl) rfl rfl fun a_42 HE43 => ?_
        refine wpList_nil ?_
        clear a_32 HE33 a_34 HE35 a_36 HE37 a_38 HE39 a_40 HE41
        refine nrm ?_
        refine wp_seq ?_
        refine rg ?_
        refine pl_x HE43 HH31 (wt0 rfl) (x_move rfl) rfl rfl fun a_44 HE45 => ?_
        refine pl_x HE45 HH31 (wt0 rfl) (x_move rfl) rfl rfl fun a_46 HE47 => ?_
        refine pl_x HE47 HH31 (wt0 rfl) (x_neq rfl rfl) rfl rfl fun a_48 HE49 => ?_
        refine wpList_nil ?_
        clear a_42 HE43 a_44 HE45 a_46 HE47
        refine nrm ?_
        refine cnd_ne HE49 rfl (fun hc28 => ?_) (fun hc28 => ?_)
        · refine wp_seq ?_
          refine rg ?_
          refine pl_x HE49 HH31 (wt0 rfl) (x_assign rfl) rfl rfl fun a_50 HE51 => ?_
          refine wpList_nil ?_
          clear a_48 HE49
          refine nrm ?_
          refine wp_ret ?_
          refine (blk_ret (thn_ret (thn_ret (blk_ret (thn_ret ?_)))))
          refine ret1 HE51 rfl (rv_tmp rfl) ?_
          have hF : (orderB a0 a1) = false := by
            first | exact order_len (by omega) | exact order_bad (k := k) (by omega) (by rw [List.getElem?_eq_getElem (by omega), ← xy27, Option.getD_some]; omega) | exact order_srt (by omega) (fun i hi => p24_1 i (by omega))
          exact ⟨by first | (rw [hF] <;> rfl) | rfl | (rw [hF]; simp only [Ending.returned.injEq, Value.slice.injEq, true_and, and_true]; first | omega | (simp; done)) | (rw [hF]; simp; omega), HH31.below⟩
        · refine wp_skip ?_
          refine blk_n ?_
          refine nrm ?_
          refine rg ?_
          refine pl_x HE49 HH31 (wt0 rfl) (x_add rfl rfl (by exact ⟨by omega, by omega⟩)) rfl rfl fun a_52 HE53 => ?_
          refine pl_x HE53 HH31 (wt0 rfl) (x_move rfl) rfl rfl fun a_54 HE55 => ?_
          refine wpList_nil ?_
          clear a_48 HE49 a_52 HE53
          exact nrm ⟨a0.length - (k + 1), (by omega), k + 1, rfl, HE55.sub ⟨(lkI rfl (by first | rfl | omega | (simp [hc22, p24_0, p24_1, hc25, xy27, hc28]; done))), rfl, rfl, trivial⟩, (HH31.sel [0] (by decide) rfl), (by first | omega | assumption | (simp; done) | simp_all), (by exact all_succ p24_1 (by rw [List.getElem?_eq_getElem (by omega), ← xy27, Option.getD_some]; omega))⟩
      · refine wp_exit ?_
        refine (thn_exit (thn_exit (blk_hit ?_)))
        refine nrm ?_
        refine wp_seq ?_
        refine rg ?_
        refine pl_x HE33 HH31 (wt0 rfl) (x_assign rfl) rfl rfl fun a_56 HE57 => ?_
        refine wpList_nil ?_
        clear a_32 HE33
        refine nrm ?_
        refine wp_ret ?_
        refine ret1 HE57 rfl (rv_tmp rfl) ?_
        have hF : (orderB a0 a1) = true := by
          first | exact order_len (by omega) | exact order_bad (k := k) (by omega) (by rw [List.getElem?_eq_getElem (by omega), ← xy0, Option.getD_some]; omega) | exact order_srt (by omega) (fun i hi => p24_1 i (by omega))
        exact ⟨by first | (rw [hF] <;> rfl) | rfl | (rw [hF]; simp only [Ending.returned.injEq, Value.slice.injEq, true_and, and_true]; first | omega | (simp; done)) | (rw [hF]; simp; omega), HH31.below⟩

theorem Sl.i64 {w : World} {S : Nat → Prop} {A : Option Addr} {c : Nat} {xs : List Int} (h : Sl eInt w S A c xs) : ∀ x ∈ xs, -9223372036854775808 ≤ x ∧ x ≤ 9223372036854775807 := by
  intro x hx
  obtain ⟨i, hi⟩ := List.mem_iff_getElem?.1 hx
  obtain ⟨b, off, _, _, hc⟩ := h.2.2 (fun e => by rw [e] at hx; cases hx)
  obtain ⟨es, ⟨_, h1⟩, _⟩ := hc i x hi
  exact h1

open Go.Lib in
def mk2 : List Int → List tFraction
  | a :: b :: r => (a, b) :: mk2 r
  | _ => []

open Go.Lib in
def knownL (k : Int) : List tFraction := if k = 0 then mk2 [3, 2] else if k = 1 then mk2 [455, 33, 11, 13, 1, 11, 3, 7, 11, 2, 1, 3] else mk2 [17, 91, 78, 85, 19, 51, 23, 38, 29, 33, 77, 29, 95, 23, 77, 19, 1, 17, 11, 13, 13, 11, 15, 14, 15, 2, 55, 1]

open Go.Lib in
def known (k : Int) : List tFraction × Int := if withinB k 0 2 = true then (knownL k, 0) else ([], 2)

def powN (a : List Int) : Nat → List Int
  | 0 => [1]
  | e + 1 => mulN (powN a e) a

def nn (a b : Int) : List Int := mulN (powN [2] a.toNat) (powN [3] b.toNat)

/-- Nothing has changed but for new blocks and draws. -/
def Gr (w w' : World) : Prop := ∃ (q : Nat) (os : Array Obj), w' = Go.Sort.grow (w.drewN q) os

theorem Gr.refl (w : World) : Gr w w := ⟨0, #[], by simp [Go.Sort.grow, World.drewN]⟩

theorem Gr.alloc {w w' : World} (h : Gr w w') (o : Obj) : Gr w (w'.alloc o) := by
  obtain ⟨q, os, rfl⟩ := h
  exact ⟨q, os ++ #[o], by rw [Go.Sort.alloc_eq_grow, Go.Sort.grow_grow]⟩

theorem st_boxG {P : Program} {ops : Array Oper} {Q : Exit → Act → World → Prop} {a : Act} {w : World} {K : Act → World → Prop} {n d : Nat} {L : List (Nat × Value)} {M : Nat → Prop} {w0 wb : World} {rs : List Res} {t : TypeId} {x : Operand} {v : Value} {cs : List Value} {ty : TypeId} {pos : String} {af : Array Edge} {g : Option (Nat × Bool)} (hG : Gr wb w) (hE : Env n L a) (hH : Held M w0 rs w) (hx : ev L x = some v) (hv : v.cells = cs.toArray) (hw : Region.wanted ⟨some d, .box t x, ty, pos, af, g⟩ (yielded ops a.tmps) = true) (hn : Nat.blt d n = true)
    (k : ∀ q a' w', Env n ((d, .pointer (some ⟨q, 0, none⟩)) :: L) a' → Held M w0 (rBlk q t cs :: rs) w' → Gr wb w' → K a' w') : Stp P ops Q ⟨some d, .box t x, ty, pos, af, g⟩ a w K :=
  st_val hE hw (run_box hE hx hv) rfl hn fun a' hE' => k _ a' _ hE' (hH.alloc t cs) (hG.alloc _)

theorem cmpL_anti : ∀ a b : List Int, cmpL b a = - cmpL a b
  | [], [] => rfl
  | [], _ :: _ => rfl
  | _ :: _, [] => rfl
  | x :: xs, y :: ys => by
    have ih := cmpL_anti xs ys
    unfold cmpL
    split <;> split <;> first | omega | (split <;> omega) | rfl

theorem cmpL_zero : ∀ a b : List Int, cmpL a b = 0 → a = b
  | [], [], _ => rfl
  | [], _ :: _, h => by simp [cmpL] at h
  | _ :: _, [], h => by simp [cmpL] at h
  | x :: xs, y :: ys, h => by
    unfold cmpL at h
    split at h
    · omega
    · split at h
      · omega
      · rw [cmpL_zero xs ys h, show x = y by omega]

theorem cmpL_self (a : List Int) : cmpL a a = 0 := by have := cmpL_anti a a; omega

theorem cmpL_trans : ∀ a b c : List Int, cmpL a b < 0 → cmpL b c < 0 → cmpL a c < 0
  | [], [], _, h, _ => by simp [cmpL] at h
  | [], _ :: _, [], _, h => by simp [cmpL] at h
  | [], _ :: _, _ :: _, _, _ => by simp [cmpL]
  | _ :: _, [], _, h, _ => by simp [cmpL] at h
  | _ :: _, _ :: _, [], _, h => by simp [cmpL] at h
  | x :: xs, y :: ys, z :: zs, h1, h2 => by
    have ih := cmpL_trans xs ys zs
    unfold cmpL at h1 h2 ⊢
    by_cases e1 : x < y
    · by_cases e2 : y < z
      · rw [if_pos (by omega)]; omega
      · by_cases e3 : z < y
        · rw [if_neg e2, if_pos e3] at h2; omega
        · rw [if_pos (by omega)]; omega
    · by_cases e3 : y < x
      · rw [if_neg e1, if_pos e3] at h1; omega
      · rw [if_neg e1, if_neg e3] at h1
        obtain rfl : x = y := by omega
        by_cases e2 : x < z
        · rw [if_pos e2]; omega
        · by_cases e4 : z < x
          · rw [if_neg e2, if_pos e4] at h2; omega
          · rw [if_neg e2, if_neg e4] at h2 ⊢
            exact ih h1 h2

theorem cmpMR_anti (a b : tMultiRule) : cmpMR b a = - cmpMR a b := by
  have := cmpL_anti a.2.1 b.2.1
  unfold cmpMR
  by_cases h : a.1 = b.1
  · rw [if_pos h, if_pos h.symm]; exact this
  · rw [if_neg h, if_neg (Ne.symm h)]
    by_cases h2 : a.1 < b.1
    · rw [if_pos h2, if_neg (by omega)]; rfl
    · rw [if_neg h2, if_pos (by omega)]

theorem cmpMR_zero {a b : tMultiRule} : cmpMR a b = 0 ↔ a.1 = b.1 ∧ a.2.1 = b.2.1 := by
  unfold cmpMR
  by_cases h : a.1 = b.1
  · rw [if_pos h]
    exact ⟨fun hc => ⟨h, cmpL_zero _ _ hc⟩, fun hc => by rw [hc.2, cmpL_self]⟩
  · rw [if_neg h]
    exact ⟨fun hc => by split at hc <;> omega, fun hc => absurd hc.1 h⟩

theorem cmpMR_self (a : tMultiRule) : cmpMR a a = 0 := cmpMR_zero.2 ⟨rfl, rfl⟩

theorem cmpMR_trans {a b c : tMultiRule} (h1 : cmpMR a b < 0) (h2 : cmpMR b c < 0) : cmpMR a c < 0 := by
  unfold cmpMR at h1 h2 ⊢
  by_cases e1 : a.1 = b.1
  · by_cases e2 : b.1 = c.1
    · rw [if_pos e1] at h1; rw [if_pos e2] at h2; rw [if_pos (by omega)]
      exact cmpL_trans _ _ _ h1 h2
    · rw [if_neg e2] at h2; rw [if_neg (by omega)]
      by_cases e3 : b.1 < c.1
      · rw [if_pos (by omega)]; omega
      · rw [if_neg e3] at h2; omega
  · rw [if_neg e1] at h1
    by_cases e3 : a.1 < b.1
    · by_cases e2 : b.1 = c.1
      · rw [if_neg (by omega), if_pos (by omega)]; omega
      · rw [if_neg e2] at h2
        by_cases e4 : b.1 < c.1
        · rw [if_neg (by omega), if_pos (by omega)]; omega
        · rw [if_neg e4] at h2; omega
    · rw [if_neg e3] at h1; omega

theorem cmpMR_cong {a b c : tMultiRule} (h : cmpMR a b = 0) : cmpMR a c = cmpMR b c := by
  obtain ⟨h1, h2⟩ := cmpMR_zero.1 h
  unfold cmpMR; rw [h1, h2]

theorem swo_MR {ι : Type} (f : ι → tMultiRule) : Go.Sort.SWO (ltOf fun x y => cmpMR (f x) (f y)) where
  irrefl x := by simp [ltOf, cmpMR_self]
  trans x y z h1 h2 := by
    simp only [ltOf, decide_eq_true_eq] at *
    exact cmpMR_trans h1 h2
  ntrans x y z h1 h2 := by
    simp only [ltOf, decide_eq_false_iff_not] at *
    intro h3
    have a1 := cmpMR_anti (f x) (f y)
    have a2 := cmpMR_anti (f y) (f z)
    by_cases e1 : cmpMR (f y) (f x) = 0
    · have := cmpMR_cong (c := f z) e1; omega
    · by_cases e2 : cmpMR (f z) (f y) = 0
      · have := cmpMR_cong (c := f x) e2
        have := cmpMR_anti (f x) (f z)
        omega
      · have := cmpMR_trans (a := f y) (b := f x) (c := f z) (by omega) h3
        omega

/-- The rules in order. -/
def sortMR (l : List tMultiRule) : List tMultiRule := l.foldl putMR []

def upMR (l : List tMultiRule) : Prop := l.Pairwise fun x y => cmpMR x y < 0

def apartMR (l : List tMultiRule) : Prop := l.Pairwise fun x y => cmpMR x y ≠ 0

theorem putMR_perm (l : List tMultiRule) (r : tMultiRule) : (putMR l r).Perm (r :: l) := by
  unfold putMR
  refine List.perm_middle.trans ?_
  rw [List.take_append_drop]

theorem posMR_behind {l : List tMultiRule} {r : tMultiRule} : ∀ (n : Nat), n ≤ l.length → ∀ i (hi : i < l.length), posMR l r n ≤ i → i < n → cmpMR r l[i] < 0
  | 0, _, _, _, _, h => absurd h (Nat.not_lt_zero _)
  | n + 1, hn, i, hi, h1, h2 => by
    rw [posMR] at h1
    split at h1
    · next hb =>
      by_cases e : i = n
      · subst e
        rw [List.getElem?_eq_getElem hi, Option.getD_some] at hb
        unfold beforeMR at hb
        simpa using hb
      · exact posMR_behind n (by omega) i hi h1 (by omega)
    · omega

theorem posMR_front {l : List tMultiRule} {r : tMultiRule} : ∀ (n : Nat), n ≤ l.length → ∀ k, posMR l r n = k + 1 → ∃ hk : k < l.length, ¬ cmpMR r l[k] < 0
  | 0, _, k, h => by simp [posMR] at h
  | n + 1, hn, k, h => by
    rw [posMR] at h
    split at h
    · exact posMR_front n (by omega) k h
    · next hb =>
      obtain rfl : n = k := by omega
      refine ⟨by omega, ?_⟩
      rw [List.getElem?_eq_getElem (by omega), Option.getD_some] at hb
      unfold beforeMR at hb
      simpa using hb

theorem putMR_up {l : List tMultiRule} {r : tMultiRule} (h : upMR l) (hd : ∀ x ∈ l, cmpMR x r ≠ 0) : upMR (putMR l r) := by
  unfold upMR putMR at *
  have hp := posMR_le l r l.length
  refine List.pairwise_append.2 ⟨h.sublist (List.take_sublist _ _), List.pairwise_cons.2 ⟨fun x hx => ?_, h.sublist (List.drop_sublist _ _)⟩, fun x hx y hy => ?_⟩
  · obtain ⟨i, hi, rfl⟩ := List.mem_iff_getElem.1 hx
    rw [List.getElem_drop]
    rw [List.length_drop] at hi
    exact posMR_behind l.length (Nat.le_refl _) _ _ (by omega) (by omega)
  · obtain ⟨i, hi, rfl⟩ := List.mem_iff_getElem.1 hx
    rw [List.length_take] at hi
    rw [List.getElem_take]
    have hlt : cmpMR l[i] r < 0 := by
      obtain ⟨k, hk⟩ : ∃ k, posMR l r l.length = k + 1 := ⟨posMR l r l.length - 1, by omega⟩
      obtain ⟨hk1, hk2⟩ := posMR_front l.length (Nat.le_refl _) k hk
      have h1 := cmpMR_anti r l[k]
      have h2 := hd l[k] (List.getElem_mem _)
      by_cases e : i = k
      · subst e; omega
      · exact cmpMR_trans (List.pairwise_iff_getElem.1 h i k (by omega) hk1 (by omega)) (by omega)
    rcases List.mem_cons.1 hy with rfl | hy
    · exact hlt
    · obtain ⟨j, hj, rfl⟩ := List.mem_iff_getElem.1 hy
      rw [List.getElem_drop]
      rw [List.length_drop] at hj
      exact List.pairwise_iff_getElem.1 h i _ (by omega) (by omega) (by omega)

theorem foldMR {l : List tMultiRule} : ∀ (acc : List tMultiRule), upMR acc → apartMR (acc ++ l) → upMR (l.foldl putMR acc) ∧ (l.foldl putMR acc).Perm (acc ++ l) := by
  induction l with
  | nil => intro acc h _; exact ⟨h, by simp⟩
  | cons r l ih =>
    intro acc h hd
    have h0 : (putMR acc r ++ l).Perm (acc ++ r :: l) := ((putMR_perm acc r).append_right l).trans (List.perm_middle.symm)
    have h1 : upMR (putMR acc r) := putMR_up h fun x hx => (List.pairwise_append.1 hd).2.2 x hx r (by simp)
    have h2 : apartMR (putMR acc r ++ l) := List.Perm.pairwise h0.symm hd (fun {x y} hxy => by have := cmpMR_anti x y; omega)
    obtain ⟨h3, h4⟩ := ih _ h1 h2
    exact ⟨h3, h4.trans h0⟩

theorem sortMR_up {l : List tMultiRule} (h : apartMR l) : upMR (sortMR l) := (foldMR [] List.Pairwise.nil (by simpa using h)).1

theorem putMR_fold_perm : ∀ (l acc : List tMultiRule), (l.foldl putMR acc).Perm (acc ++ l)
  | [], acc => by simp
  | r :: l, acc => (putMR_fold_perm l (putMR acc r)).trans (((putMR_perm acc r).append_right l).trans (List.perm_middle.symm))

theorem sortMR_perm (l : List tMultiRule) : (sortMR l).Perm l := putMR_fold_perm l []

theorem sortMR_len (l : List tMultiRule) : (sortMR l).length = l.length := (sortMR_perm l).length_eq

theorem upMR_one {l l' : List tMultiRule} (h : upMR l) (h' : upMR l') (hp : l.Perm l') : l = l' :=
  List.Perm.eq_of_pairwise (fun a b _ _ h1 h2 => by have := cmpMR_anti a b; omega) h h' hp

set_option maxRecDepth 100000 in
set_option maxHeartbeats 4000000 in
theorem slices_CompareS (A0 : Option Addr) (c0 : Nat) (a0 : (List Int)) (A1 : Option Addr) (c1 : Nat) (a1 : (List Int)) (w : World) (h0 : Sl eInt w (Old w) A0 c0 a0) (h1 : Sl eInt w (Old w) A1 c1 a1) :
    Calls Try.prog 132 #[.slice A0 a0.length c0, .slice A1 a1.length c1] w fun e w' => e = .returned (.int .i64 (cmpL a0 a1)) ∧ w = w' := by
  have l0 := h0.len
  have l1 := h1.len
  have HH1 := Held.start Nob w
  refine enter (n := 36) Try.func132 rfl rfl rfl fun a_2 HE3 => ?_
  refine wp_seq ?_
  refine rg ?_
  refine pl_x HE3 HH1 (wt0 rfl) (x_assign rfl) rfl rfl fun a_4 HE5 => ?_
  refine wpList_nil ?_
  clear a_2 HE3
  refine nrm ?_
  refine wp_seq ?_
  refine wp_seq ?_
  refine rg ?_
  refine pl_x HE5 HH1 (wt0 rfl) (x_move rfl) rfl rfl fun a_6 HE7 => ?_
  refine pl_x HE7 HH1 (wt0 rfl) (x_len Try.underlying37 rfl) rfl rfl fun a_8 HE9 => ?_
  refine pl_x HE9 HH1 (wt0 rfl) (x_move rfl) rfl rfl fun a_10 HE11 => ?_
  refine wpList_nil ?_
  clear a_4 HE5 a_6 HE7 a_8 HE9
  refine nrm ?_
  refine wp_block ?_
  refine lp (fun m a w' => ∃ (k : Nat), m = a0.length - k ∧ Env 36 [(11, .int .i64 (k : Int)), (0, .slice A0 (a0.length) c0), (1, .slice A1 (a1.length) c1), (9, .slice A0 (a0.length) c0), (10, .int .i64 ((a0.length : Int)))] a ∧ Held Nob w [] w' ∧ (k ≤ a0.length) ∧ (k ≤ a1.length) ∧ (cmpL a0 a1 = cmpL (a0.drop k) (a1.drop k)) ∧ (w = w')) (a0.length - (0)) ?_ ?_
  · exact ⟨0, rfl, HE11.sub ⟨(lkI rfl (by first | rfl | omega | (simp []; done))), rfl, rfl, rfl, rfl, trivial⟩, (HH1.sel [] (by decide) rfl), (by first | omega | assumption | (simp; done) | simp_all), (by first | omega | assumption | (simp; done) | simp_all), (by rfl), (by rfl)⟩
  · rintro m a_12 w' ⟨k, rfl, HE13, HH14, p21_0, p21_1, p21_2, rfl⟩
    refine wp_seq ?_
    refine rg ?_
    refine pl_x HE13 HH14 (wt0 rfl) (x_lss rfl rfl) rfl rfl fun a_15 HE16 => ?_
    refine wpList_nil ?_
    clear a_10 HE11 HH1 a_12 HE13
    refine nrm ?_
    refine wp_seq ?_
    refine cnd_d HE16 rfl (fun hc22 => ?_) (fun hc22 => ?_)
    · refine wp_skip ?_
      refine nrm ?_
      refine wp_seq ?_
      refine wp_block ?_
      refine wp_seq ?_
      refine rg ?_
      refine pl_x HE16 HH14 (wt0 rfl) (x_move rfl) rfl rfl fun a_17 HE18 => ?_
      have ke23 : k < a0.length := by omega
      obtain ⟨be23, fe23, ese23, Ae23, Re23, De23⟩ := el_old h0 ke23
      obtain ⟨e23, xe23⟩ : ∃ x_, x_ = a0[k] := ⟨_, rfl⟩
      rw [← xe23] at Re23
      have Qe23 := Re23
      obtain ⟨rfl, ie23⟩ := Re23
      have je23 := ie23; unfold I64 at je23
      refine pl_x HE18 HH14 (wt0 rfl) (x_indexAddr ts_37 rfl rfl Ae23 rfl ke23) rfl rfl fun a_19 HE20 => ?_
      refine pl_x HE20 HH14 (wt0 rfl) (x_load1 tv_2 rfl (c_old (De23 0 _ rfl))) rfl rfl fun a_21 HE22 => ?_
      refine pl_x HE22 HH14 (wt0 rfl) (x_assign rfl) rfl rfl fun a_23 HE24 => ?_
      refine pl_x HE24 HH14 (wt0 rfl) (x_assign rfl) rfl rfl fun a_25 HE26 => ?_
      refine wpList_nil ?_
      clear a_15 HE16 a_17 HE18 a_19 HE20 a_21 HE22 a_23 HE24
      refine nrm ?_
      refine wp_seq ?_
      refine wp_seq ?_
      refine rg ?_
      refine pl_x HE26 HH14 (wt0 rfl) (x_move rfl) rfl rfl fun a_27 HE28 => ?_
      refine pl_x HE28 HH14 (wt0 rfl) (x_move rfl) rfl rfl fun a_29 HE30 => ?_
      refine pl_x HE30 HH14 (wt0 rfl) (x_len Try.underlying37 rfl) rfl rfl fun a_31 HE32 => ?_
      refine pl_x HE32 HH14 (wt0 rfl) (x_geq rfl rfl) rfl rfl fun a_33 HE34 => ?_
      refine wpList_nil ?_
      clear a_25 HE26 a_27 HE28 a_29 HE30 a_31 HE32
      refine nrm ?_
      refine cnd_d HE34 rfl (fun hc24 => ?_) (fun hc24 => ?_)
      · refine wp_seq ?_
        refine rg ?_
        refine pl_x HE34 HH14 (wt0 rfl) (x_assign rfl) rfl rfl fun a_35 HE36 => ?_
        refine wpList_nil ?_
        clear a_33 HE34
        refine nrm ?_
        refine wp_ret ?_
        refine (thn_ret (blk_ret (thn_ret (thn_ret (blk_ret (thn_ret ?_))))))
        refine ret1 HE36 rfl (rv_tmp rfl) ?_
        have hF : (cmpL a0 a1) = 1 := by
          rw [p21_2]; first | (rw [cmpL_end a0 a1 k (by omega) (by omega) (by omega)]; grind) | (rw [cmpL_step (by omega) (by omega)]; grind [cmpI])
        exact ⟨by first | (rw [hF] <;> rfl) | rfl | (rw [hF]; simp only [Ending.returned.injEq, Value.slice.injEq, true_and, and_true]; first | omega | (simp; done)) | (rw [hF]; simp; omega), rfl⟩
      · refine wp_skip ?_
        refine nrm ?_
        refine wp_seq ?_
        refine rg ?_
        refine pl_x HE34 HH14 (wt0 rfl) (x_move rfl) rfl rfl fun a_37 HE38 => ?_
        refine pl_x HE38 HH14 (wt0 rfl) (x_move rfl) rfl rfl fun a_39 HE40 => ?_
        have ke25 : k < a1.length := by omega
        obtain ⟨be25, fe25, ese25, Ae25, Re25, De25⟩ := el_old h1 ke25
        obtain ⟨e25, xe25⟩ : ∃ x_, x_ = a1[k] := ⟨_, rfl⟩
        rw [← xe25] at Re25
        have Qe25 := Re25
        obtain ⟨rfl, ie25⟩ := Re25
        have je25 := ie25; unfold I64 at je25
        refine pl_x HE40 HH14 (wt0 rfl) (x_indexAddr ts_37 rfl rfl Ae25 rfl ke25) rfl rfl fun a_41 HE42 => ?_
        refine pl_x HE42 HH14 (wt0 rfl) (x_load1 tv_2 rfl (c_old (De25 0 _ rfl))) rfl rfl fun a_43 HE44 => ?_
        refine pl_x HE44 HH14 (wt0 rfl) (x_assign rfl) rfl rfl fun a_45 HE46 => ?_
        refine wpList_nil ?_
        clear a_33 HE34 a_37 HE38 a_39 HE40 a_41 HE42 a_43 HE44
        refine nrm ?_
        refine wp_seq ?_
        refine rg ?_
        refine pl_x HE46 HH14 (wt0 rfl) (x_move rfl) rfl rfl fun a_47 HE48 => ?_
        refine pl_x HE48 HH14 (wt0 rfl) (x_move rfl) rfl rfl fun a_49 HE50 => ?_
        refine pl fun K_51 hK52 => ?_
        refine st_call HE50 (wt0 rfl) rfl rfl rfl en_137 rfl rfl (cmp_Compare e23 e25 _ ) fun e w' hr => ?_
        obtain ⟨rfl, rfl⟩ := hr
        refine ⟨_, rfl, fun a_53 HE54 => hK52 _ _ ?_⟩
        refine pl_x HE54 HH14 (wt0 rfl) (x_assign rfl) rfl rfl fun a_55 HE56 => ?_
        refine wpList_nil ?_
        clear a_45 HE46 a_47 HE48 a_49 HE50 a_53 HE54 hK52 K_51
        refine nrm ?_
        refine wp_seq ?_
        refine rg ?_
        refine pl_x HE56 HH14 (wt0 rfl) (x_move rfl) rfl rfl fun a_57 HE58 => ?_
        refine pl_x HE58 HH14 (wt0 rfl) (x_neq rfl rfl) rfl rfl fun a_59 HE60 => ?_
        refine wpList_nil ?_
        clear a_55 HE56 a_57 HE58
        refine nrm ?_
        refine cnd_ne HE60 rfl (fun hc27 => ?_) (fun hc27 => ?_)
        · refine wp_seq ?_
          refine rg ?_
          refine pl_x HE60 HH14 (wt0 rfl) (x_move rfl) rfl rfl fun a_61 HE62 => ?_
          refine pl_x HE62 HH14 (wt0 rfl) (x_assign rfl) rfl rfl fun a_63 HE64 => ?_
          refine wpList_nil ?_
          clear a_59 HE60 a_61 HE62
          refine nrm ?_
          refine wp_ret ?_
          refine (blk_ret (thn_ret (thn_ret (blk_ret (thn_ret ?_)))))
          refine ret1 HE64 rfl (rv_tmp rfl) ?_
          have hF : (cmpL a0 a1) = (cmpI e23 e25) := by
            rw [p21_2]; first | (rw [cmpL_end a0 a1 k (by omega) (by omega) (by omega)]; grind) | (rw [cmpL_step (by omega) (by omega)]; grind [cmpI])
          exact ⟨by first | (rw [hF] <;> rfl) | rfl | (rw [hF]; simp only [Ending.returned.injEq, Value.slice.injEq, true_and, and_true]; first | omega | (simp; done)) | (rw [hF]; simp; omega), rfl⟩
        · refine wp_skip ?_
          refine blk_n ?_
          refine nrm ?_
          refine rg ?_
          refine pl_x HE60 HH14 (wt0 rfl) (x_add rfl rfl (by exact ⟨by omega, by omega⟩)) rfl rfl fun a_65 HE66 => ?_
          refine pl_x HE66 HH14 (wt0 rfl) (x_move rfl) rfl rfl fun a_67 HE68 => ?_
          refine wpList_nil ?_
          clear a_59 HE60 a_65 HE66
          exact nrm ⟨a0.length - (k + 1), (by omega), k + 1, rfl, HE68.sub ⟨(lkI rfl (by first | rfl | omega | (simp [p21_0, p21_1, p21_2, hc22, xe23, hc24, xe25, hc27]; done))), rfl, rfl, rfl, rfl, trivial⟩, (HH14.sel [] (by decide) rfl), (by first | omega | assumption | (simp; done) | simp_all), (by first | omega | assumption | (simp; done) | simp_all), (by rw [p21_2, cmpL_step (by omega) (by omega)]; grind [cmpI]), (by rfl)⟩
    · refine wp_exit ?_
      refine (thn_exit (thn_exit (blk_hit ?_)))
      refine nrm ?_
      refine wp_seq ?_
      refine wp_seq ?_
      refine rg ?_
      refine pl_x HE16 HH14 (wt0 rfl) (x_move rfl) rfl rfl fun a_69 HE70 => ?_
      refine pl_x HE70 HH14 (wt0 rfl) (x_len Try.underlying37 rfl) rfl rfl fun a_71 HE72 => ?_
      refine pl_x HE72 HH14 (wt0 rfl) (x_move rfl) rfl rfl fun a_73 HE74 => ?_
      refine pl_x HE74 HH14 (wt0 rfl) (x_len Try.underlying37 rfl) rfl rfl fun a_75 HE76 => ?_
      refine pl_x HE76 HH14 (wt0 rfl) (x_lss rfl rfl) rfl rfl fun a_77 HE78 => ?_
      refine wpList_nil ?_
      clear a_15 HE16 a_69 HE70 a_71 HE72 a_73 HE74 a_75 HE76
      refine nrm ?_
      refine cnd_d HE78 rfl (fun hc28 => ?_) (fun hc28 => ?_)
      · refine wp_seq ?_
        refine rg ?_
        refine pl_x HE78 HH14 (wt0 rfl) (x_assign rfl) rfl rfl fun a_79 HE80 => ?_
        refine wpList_nil ?_
        clear a_77 HE78
        refine nrm ?_
        refine wp_ret ?_
        refine (thn_ret ?_)
        refine ret1 HE80 rfl (rv_tmp rfl) ?_
        have hF : (cmpL a0 a1) = -1 := by
          rw [p21_2]; first | (rw [cmpL_end a0 a1 k (by omega) (by omega) (by omega)]; grind) | (rw [cmpL_step (by omega) (by omega)]; grind [cmpI])
        exact ⟨by first | (rw [hF] <;> rfl) | rfl | (rw [hF]; simp only [Ending.returned.injEq, Value.slice.injEq, true_and, and_true]; first | omega | (simp; done)) | (rw [hF]; simp; omega), rfl⟩
      · refine wp_skip ?_
        refine nrm ?_
        refine wp_seq ?_
        refine rg ?_
        refine pl_x HE78 HH14 (wt0 rfl) (x_assign rfl) rfl rfl fun a_81 HE82 => ?_
        refine wpList_nil ?_
        clear a_77 HE78
        refine nrm ?_
        refine wp_ret ?_
        refine ret1 HE82 rfl (rv_tmp rfl) ?_
        have hF : (cmpL a0 a1) = 0 := by
          rw [p21_2]; first | (rw [cmpL_end a0 a1 k (by omega) (by omega) (by omega)]; grind) | (rw [cmpL_step (by omega) (by omega)]; grind [cmpI])
        exact ⟨by first | (rw [hF] <;> rfl) | rfl | (rw [hF]; simp only [Ending.returned.injEq, Value.slice.injEq, true_and, and_true]; first | omega | (simp; done)) | (rw [hF]; simp; omega), rfl⟩

set_option maxRecDepth 100000 in
set_option maxHeartbeats 4000000 in
theorem impl_compareMultiRulesG (es0 : List Value) (a0 : tMultiRule) (es1 : List Value) (a1 : tMultiRule) (w : World) (h0 : eMultiRule.R w (Old w) es0 a0) (h1 : eMultiRule.R w (Old w) es1 a1) :
    Calls Try.prog 115 #[.agg es0.toArray, .agg es1.toArray] w fun e w' => e = .returned (.int .i64 (cmpMR a0 a1)) ∧ Gr w w' := by
  have H0 := h0
  obtain ⟨Az0_1, cz0_1, Az0_2, cz0_2, Az0_3, cz0_3, rfl, gz0_0, gz0_1, gz0_2, gz0_3, gz0_4⟩ := shape_MultiRule h0
  have jz0_0 := gz0_0; unfold I64 at jz0_0
  have lz0_1 := gz0_1.len
  have lz0_2 := gz0_2.len
  have lz0_3 := gz0_3.len
  have jz0_4 := gz0_4; unfold I64 at jz0_4
  have H1 := h1
  obtain ⟨Az1_1, cz1_1, Az1_2, cz1_2, Az1_3, cz1_3, rfl, gz1_0, gz1_1, gz1_2, gz1_3, gz1_4⟩ := shape_MultiRule h1
  have jz1_0 := gz1_0; unfold I64 at jz1_0
  have lz1_1 := gz1_1.len
  have lz1_2 := gz1_2.len
  have lz1_3 := gz1_3.len
  have jz1_4 := gz1_4; unfold I64 at jz1_4
  have HH1 := Held.start Nob w
  have HG := Gr.refl w
  refine enter (n := 20) Try.func115 rfl rfl rfl fun a_2 HE3 => ?_
  refine wp_seq ?_
  refine rg ?_
  refine pl fun K_4 hK5 => ?_
  refine st_boxG (cs := [.int .i64 (a0.1), .slice Az0_1 (a0.2.1.length) cz0_1, .slice Az0_2 (a0.2.2.1.length) cz0_2, .slice Az0_3 (a0.2.2.2.1.length) cz0_3, .int .i64 (a0.2.2.2.2)]) HG HE3 HH1 rfl rfl (wt0 rfl) rfl fun q21 a_6 w' HE7 HH8 HG => hK5 _ _ ?_
  refine pl fun K_9 hK10 => ?_
  refine st_boxG (cs := [.int .i64 (a1.1), .slice Az1_1 (a1.2.1.length) cz1_1, .slice Az1_2 (a1.2.2.1.length) cz1_2, .slice Az1_3 (a1.2.2.2.1.length) cz1_3, .int .i64 (a1.2.2.2.2)]) HG HE7 HH8 rfl rfl (wt0 rfl) rfl fun q22 a_11 w' HE12 HH13 HG => hK10 _ _ ?_
  refine pl_x HE12 HH13 (wt0 rfl) (x_assign rfl) rfl rfl fun a_14 HE15 => ?_
  refine wpList_nil ?_
  clear a_2 HE3 HH1 K_4 hK5 a_6 HE7 HH8 a_11 HE12 hK10 K_9
  refine nrm ?_
  refine wp_seq ?_
  refine wp_seq ?_
  refine rg ?_
  refine pl_x HE15 HH13 (wt0 rfl) (x_fieldAddr fa_108_0 rfl) rfl rfl fun a_16 HE17 => ?_
  refine pl_x HE17 HH13 (wt0 rfl) (x_load1 tv_2 rfl (c_blk 1 rfl rfl)) rfl rfl fun a_18 HE19 => ?_
  refine pl_x HE19 HH13 (wt0 rfl) (x_fieldAddr fa_108_0 rfl) rfl rfl fun a_20 HE21 => ?_
  refine pl_x HE21 HH13 (wt0 rfl) (x_load1 tv_2 rfl (c_blk 0 rfl rfl)) rfl rfl fun a_22 HE23 => ?_
  refine pl_x HE23 HH13 (wt0 rfl) (x_neq rfl rfl) rfl rfl fun a_24 HE25 => ?_
  refine wpList_nil ?_
  clear a_14 HE15 a_16 HE17 a_18 HE19 a_20 HE21 a_22 HE23
  refine nrm ?_
  refine cnd_ne HE25 rfl (fun hc23 => ?_) (fun hc23 => ?_)
  · refine wp_seq ?_
    refine wp_seq ?_
    refine rg ?_
    refine pl_x HE25 HH13 (wt0 rfl) (x_fieldAddr fa_108_0 rfl) rfl rfl fun a_26 HE27 => ?_
    refine pl_x HE27 HH13 (wt0 rfl) (x_load1 tv_2 rfl (c_blk 1 rfl rfl)) rfl rfl fun a_28 HE29 => ?_
    refine pl_x HE29 HH13 (wt0 rfl) (x_fieldAddr fa_108_0 rfl) rfl rfl fun a_30 HE31 => ?_
    refine pl_x HE31 HH13 (wt0 rfl) (x_load1 tv_2 rfl (c_blk 0 rfl rfl)) rfl rfl fun a_32 HE33 => ?_
    refine pl_x HE33 HH13 (wt0 rfl) (x_lss rfl rfl) rfl rfl fun a_34 HE35 => ?_
    refine wpList_nil ?_
    clear a_24 HE25 a_26 HE27 a_28 HE29 a_30 HE31 a_32 HE33
    refine nrm ?_
    refine cnd_d HE35 rfl (fun hc24 => ?_) (fun hc24 => ?_)
    · refine wp_seq ?_
      refine rg ?_
      refine pl_x HE35 HH13 (wt0 rfl) (x_assign rfl) rfl rfl fun a_36 HE37 => ?_
      refine wpList_nil ?_
      clear a_34 HE35
      refine nrm ?_
      refine wp_ret ?_
      refine (thn_ret (thn_ret ?_))
      refine ret1 HE37 rfl (rv_tmp rfl) ?_
      have hF : (cmpMR a0 a1) = -1 := by
        first | (unfold cmpMR; grind)
      exact ⟨by first | (rw [hF] <;> rfl) | rfl | (rw [hF]; simp only [Ending.returned.injEq, Value.slice.injEq, true_and, and_true]; first | omega | (simp; done)) | (rw [hF]; simp; omega), HG⟩
    · refine wp_skip ?_
      refine nrm ?_
      refine wp_seq ?_
      refine rg ?_
      refine pl_x HE35 HH13 (wt0 rfl) (x_assign rfl) rfl rfl fun a_38 HE39 => ?_
      refine wpList_nil ?_
      clear a_34 HE35
      refine nrm ?_
      refine wp_ret ?_
      refine (thn_ret ?_)
      refine ret1 HE39 rfl (rv_tmp rfl) ?_
      have hF : (cmpMR a0 a1) = 1 := by
        first | (unfold cmpMR; grind)
      exact ⟨by first | (rw [hF] <;> rfl) | rfl | (rw [hF]; simp only [Ending.returned.injEq, Value.slice.injEq, true_and, and_true]; first | omega | (simp; done)) | (rw [hF]; simp; omega), HG⟩
  · refine wp_skip ?_
    refine nrm ?_
    refine wp_seq ?_
    refine rg ?_
    refine pl_x HE25 HH13 (wt0 rfl) (x_fieldAddr fa_108_1 rfl) rfl rfl fun a_40 HE41 => ?_
    refine pl_x HE41 HH13 (wt0 rfl) (x_load1 tv_37 rfl (c_blk 1 rfl rfl)) rfl rfl fun a_42 HE43 => ?_
    refine pl_x HE43 HH13 (wt0 rfl) (x_fieldAddr fa_108_1 rfl) rfl rfl fun a_44 HE45 => ?_
    refine pl_x HE45 HH13 (wt0 rfl) (x_load1 tv_37 rfl (c_blk 0 rfl rfl)) rfl rfl fun a_46 HE47 => ?_
    refine pl fun K_48 hK49 => ?_
    refine st_call HE47 (wt0 rfl) rfl rfl rfl en_132 rfl rfl (slices_CompareS _ _ a0.2.1 _ _ a1.2.1 _ (HH13.old gz0_1) (HH13.old gz1_1)) fun e w' hr => ?_
    obtain ⟨rfl, rfl⟩ := hr
    refine ⟨_, rfl, fun a_50 HE51 => hK49 _ _ ?_⟩
    refine pl_x HE51 HH13 (wt0 rfl) (x_assign rfl) rfl rfl fun a_52 HE53 => ?_
    refine wpList_nil ?_
    clear a_24 HE25 a_40 HE41 a_42 HE43 a_44 HE45 a_46 HE47 a_50 HE51 hK49 K_48
    refine nrm ?_
    refine wp_ret ?_
    refine ret1 HE53 rfl (rv_tmp rfl) ?_
    have hF : (cmpMR a0 a1) = (cmpL a0.2.1 a1.2.1) := by
      first | (unfold cmpMR; grind)
    exact ⟨by first | (rw [hF] <;> rfl) | rfl | (rw [hF]; simp only [Ending.returned.injEq, Value.slice.injEq, true_and, and_true]; first | omega | (simp; done)) | (rw [hF]; simp; omega), HG⟩

theorem heap_rowK {ι : Type} [Inhabited ι] {enc : ι → List Value} {w : World} {g n k off : Nat} {os : Array Obj} {cur : Array Value} {e : TypeId} {fr : Nat × Nat} (d : Array ι) (hb : w.heap[g]? = some (.cells cur e fr)) :
    (sortWorldK enc k w g off n d os).heap[g]? = some (.cells (Go.Sort.putCells id off (Go.Sort.flatK enc k d) cur) e fr) := by
  have hg : g < w.heap.size := (Array.getElem?_eq_some_iff.1 hb).1
  unfold sortWorldK Go.Sort.putRowK
  rw [Go.Sort.heap_grow_old _ _ (by simpa using hg)]
  simp [Go.Sort.putRow, Go.Sort.mapBlock, Go.Sort.ahead, Array.getElem?_modify, hb, Go.Sort.onCells]

theorem heap_rowKo {ι : Type} [Inhabited ι] {enc : ι → List Value} {w : World} {g n k off j : Nat} {os : Array Obj} (d : Array ι) (hj : j < w.heap.size) (hne : j ≠ g) :
    (sortWorldK enc k w g off n d os).heap[j]? = w.heap[j]? := by
  unfold sortWorldK Go.Sort.putRowK
  rw [Go.Sort.heap_grow_old _ _ (by simpa using hj)]
  simp [Go.Sort.putRow, Go.Sort.mapBlock, Go.Sort.ahead, Array.getElem?_modify, Ne.symm hne]

theorem chg_rowK {ι : Type} [Inhabited ι] {enc : ι → List Value} {w : World} {g n k off : Nat} {os : Array Obj} {S : Nat → Prop} (d : Array ι) (hS : S g) : Chg S w (sortWorldK enc k w g off n d os) :=
  ⟨rfl, rfl, rfl, by simp [sortWorldK, Go.Sort.putRowK], fun j hj hne => heap_rowKo d hj fun e => hne (by rw [e]; exact hS)⟩

theorem so_rowK {α : Type} {E : Enc α} {w : World} {S : Nat → Prop} {A : Option Addr} {c : Nat} {xs : List α} [Inhabited (Fin xs.length)] (h : So E w S A c xs) (hx : xs ≠ []) (hS : ∀ b, S b → b < w.heap.size) (h1 : ∀ w S es x, E.R w S es x → ∀ v ∈ es, v.oneCell' = true) :
    ∃ (b off : Nat) (css : Fin xs.length → List Value), A = some ⟨b, off, none⟩ ∧ b < w.heap.size ∧ (∀ i, (css i).length = E.size) ∧ (∀ i, ∀ v ∈ css i, v.oneCell' = true) ∧ Go.Sort.HoldsK css E.size w b off (Array.ofFn fun i : Fin xs.length => i) ∧
      (∀ (d : Array (Fin xs.length)) (n : Nat) (os : Array Obj) (i : Fin xs.length), E.R (sortWorldK css E.size w b off n d os) (Old (sortWorldK css E.size w b off n d os)) (css i) xs[i]) ∧
      ∀ (d : Array (Fin xs.length)) (n : Nat) (os : Array Obj), d.toList.Perm (List.ofFn fun i : Fin xs.length => i) → So E (sortWorldK css E.size w b off n d os) S A c (d.toList.map fun i => xs[i]) ∧ Chg S w (sortWorldK css E.size w b off n d os) := by
  obtain ⟨k1, k2, k3⟩ := h
  obtain ⟨b, off, t, cur, T, rfl, hb, hB, hT1, hT2, hE⟩ := k3 hx
  have hE' : ∀ i : Fin xs.length, ∃ es, E.O w (T i.val) es xs[i] ∧ ∀ j v, es[j]? = some v → cur[off + i.val * E.size + j]? = some v := fun i => hE i.val xs[i] (List.getElem?_eq_getElem i.isLt)
  obtain ⟨css, hcss⟩ : ∃ css : Fin xs.length → List Value, ∀ i, E.O w (T i.val) (css i) xs[i] ∧ ∀ j v, (css i)[j]? = some v → cur[off + i.val * E.size + j]? = some v := ⟨fun i => (hE' i).choose, fun i => (hE' i).choose_spec⟩
  have hlen : ∀ i, (css i).length = E.size := fun i => E.len (E.read (hcss i).1)
  have hkeep : ∀ (d : Array (Fin xs.length)) (n : Nat) (os : Array Obj) (i : Fin xs.length), E.O (sortWorldK css E.size w b off n d os) (T i.val) (css i) xs[i] := fun d n os i =>
    E.okeep (hcss i).1 fun j hj => heap_rowKo d (hS j (hT1 _ _ hj).1) (hT1 _ _ hj).2
  have hsz : ∀ (d : Array (Fin xs.length)) (n : Nat) (os : Array Obj), w.heap.size ≤ (sortWorldK css E.size w b off n d os).heap.size := fun d n os => by simp [sortWorldK, Go.Sort.putRowK]
  refine ⟨b, off, css, rfl, Blk.lt hB, hlen, fun i => h1 _ _ _ _ (E.read (hcss i).1), ?_, fun d n os i => E.more (E.read (hkeep d n os i)) fun j hj => Nat.lt_of_lt_of_le (hS j (hT1 _ _ hj).1) (hsz d n os), ?_⟩
  · intro j hj
    rw [Go.Sort.size_flatK, Array.size_ofFn] at hj
    have hj1 : j / E.size < xs.length := (Nat.div_lt_iff_lt_mul E.pos).2 hj
    have hj2 : j % E.size < E.size := Nat.mod_lt _ E.pos
    refine ⟨?_, by
      have hB' : w.heap[b]? = some (.cells cur t (0, 0)) := hB
      simp [World.frozen?, hB']⟩
    rw [Go.Sort.get_flatK _ _ _ _ (by rw [Array.size_ofFn]; exact hj), getElem!_pos _ (j / E.size) (by simpa using hj1), Array.getElem_ofFn]
    have h2 := (hcss ⟨j / E.size, hj1⟩).2 (j % E.size) _ (List.getElem?_eq_getElem (by rw [hlen]; exact hj2))
    rw [hB.cell, show off + j = off + j / E.size * E.size + j % E.size by have := Nat.div_add_mod j E.size; rw [Nat.mul_comm] at this; omega, h2]
    rw [getElem!_pos _ _ (by rw [hlen]; exact hj2)]; rfl
  · intro d n os hp
    have hds : d.size = xs.length := by have := hp.length_eq; simpa using this
    have hnd : d.toList.Nodup := hp.nodup_iff.2 (by rw [List.nodup_iff_pairwise_ne, List.pairwise_iff_getElem]; intro i j _ _ hij; simp; omega)
    refine ⟨⟨by rw [List.length_map, Array.length_toList]; omega, k2, fun _ => ⟨b, off, t, _, fun i q => ∃ hi : i < d.size, T (d[i]'hi).val q, rfl, hb, heap_rowK d hB, fun i q ⟨_, hq⟩ => hT1 _ _ hq, fun i j q ⟨hi, hq⟩ ⟨hj, hq'⟩ => ?_, fun i x hi => ?_⟩⟩, chg_rowK d hb⟩
    · have e := Fin.ext (hT2 _ _ _ hq hq')
      rw [List.nodup_iff_pairwise_ne, List.pairwise_iff_getElem] at hnd
      rcases Nat.lt_trichotomy i j with h | h | h
      · exact (hnd i j (by simpa using hi) (by simpa using hj) h e).elim
      · exact h
      · exact (hnd j i (by simpa using hj) (by simpa using hi) h e.symm).elim
    · rw [List.getElem?_map] at hi
      have hid : i < d.size := by
        rcases Nat.lt_or_ge i d.size with h | h
        · exact h
        · rw [List.getElem?_eq_none (by simpa using h)] at hi; simp at hi
      rw [List.getElem?_eq_getElem (by simpa using hid)] at hi
      simp at hi
      subst hi
      refine ⟨css d[i], ?_, fun j v hv => ?_⟩
      · exact E.omore (hkeep d n os d[i]) fun q hq => ⟨hid, hq⟩
      · have hj : j < E.size := by have := (List.getElem?_eq_some_iff.1 hv).1; rw [hlen] at this; exact this
        have hlt : i * E.size + j < d.size * E.size := by
          have : (i + 1) * E.size ≤ d.size * E.size := Nat.mul_le_mul_right _ hid
          rw [Nat.succ_mul] at this; omega
        have e1 : (i * E.size + j) / E.size = i := (Go.Sort.blk_iff E.size i _ E.pos).1 ⟨by omega, by omega⟩
        have e2 : (i * E.size + j) % E.size = j := by rw [Nat.mod_eq_sub_div_mul, e1]; omega
        have hcur : off + i * E.size + j < cur.size := by
          have h3 := (hcss ⟨i, by omega⟩).2 j _ (List.getElem?_eq_getElem (by rw [hlen]; exact hj))
          exact (Array.getElem?_eq_some_iff.1 h3).1
        unfold Go.Sort.putCells
        rw [Array.getElem?_mapIdx, Array.getElem?_eq_getElem hcur]
        simp only [Option.map_some, Option.some.injEq]
        rw [if_pos ⟨by omega, by rw [Go.Sort.size_flatK]; omega⟩, show off + i * E.size + j - off = i * E.size + j by omega, Go.Sort.get_flatK _ _ _ _ hlt, e1, e2, getElem!_pos d i hid]
        have hv' := List.getElem?_eq_some_iff.1 hv
        rw [getElem!_pos _ j hv'.1]
        exact hv'.2

def shelf_sortf_ren : Go.Shelf.Ren := ⟨fun | 6 => 119 | 15 => 134 | 14 => 133 | 28 => 146 | 29 => 147 | 20 => 138 | 21 => 139 | 22 => 140 | 23 => 141 | 24 => 142 | 25 => 143 | 26 => 144 | 27 => 145 | 46 => 149 | 47 => 150 | 48 => 151 | 49 => 152 | 50 => 153 | 57 => 162 | n => n, fun | 22 => 53 | 24 => 108 | 25 => 139 | 3 => 3 | 39 => 130 | 0 => 0 | 53 => 168 | 55 => 170 | 4 => 4 | 46 => 162 | 45 => 161 | 50 => 92 | 5 => 5 | 9 => 9 | 66 => 172 | 70 => 176 | 76 => 183 | 77 => 184 | n => n, fun | n => n⟩

theorem shelf_sortf : Go.Proofs.SlLaysF0.n6 Try.prog shelf_sortf_ren := {
  mixed := by kernel_rfl
  f6 := ⟨Try.f119.name, by decide, Try.func119.trans (congrArg some (by kernel_rfl))⟩
  f14 := ⟨Try.f133.name, by decide, Try.func133.trans (congrArg some (by kernel_rfl))⟩
  f15 := Try.func134.trans (congrArg some (by kernel_rfl))
  f20 := ⟨Try.f138.name, by decide, Try.func138.trans (congrArg some (by kernel_rfl))⟩
  f21 := ⟨Try.f139.name, by decide, Try.func139.trans (congrArg some (by kernel_rfl))⟩
  f22 := ⟨Try.f140.name, by decide, Try.func140.trans (congrArg some (by kernel_rfl))⟩
  f23 := ⟨Try.f141.name, by decide, Try.func141.trans (congrArg some (by kernel_rfl))⟩
  f24 := ⟨Try.f142.name, by decide, Try.func142.trans (congrArg some (by kernel_rfl))⟩
  f25 := ⟨Try.f143.name, by decide, Try.func143.trans (congrArg some (by kernel_rfl))⟩
  f26 := ⟨Try.f144.name, by decide, Try.func144.trans (congrArg some (by kernel_rfl))⟩
  f27 := ⟨Try.f145.name, by decide, Try.func145.trans (congrArg some (by kernel_rfl))⟩
  f28 := Try.func146.trans (congrArg some (by kernel_rfl))
  f29 := Try.func147.trans (congrArg some (by kernel_rfl))
  f46 := ⟨Try.f149.name, by decide, Try.func149.trans (congrArg some (by kernel_rfl))⟩
  f47 := Try.func150.trans (congrArg some (by kernel_rfl))
  f48 := Try.func151.trans (congrArg some (by kernel_rfl))
  f49 := ⟨Try.f152.name, by decide, Try.func152.trans (congrArg some (by kernel_rfl))⟩
  f50 := ⟨Try.f153.name, by decide, Try.func153.trans (congrArg some (by kernel_rfl))⟩
  f57 := ⟨Try.f162.name, by decide, Try.func162.trans (congrArg some (by kernel_rfl))⟩
  t0 := Try.underlying0
  a0 := Try.isAgg0
  z0 := Try.sizeOf0
  v0 := Try.zeroValue0
  t3 := Try.underlying3
  a3 := Try.isAgg3
  z3 := Try.sizeOf3
  v3 := Try.zeroValue3
  t4 := Try.underlying4
  a4 := Try.isAgg4
  z4 := Try.sizeOf4
  v4 := Try.zeroValue4
  t5 := Try.underlying5
  a5 := Try.isAgg5
  z5 := Try.sizeOf5
  v5 := Try.zeroValue5
  t9 := Try.underlying9
  a9 := Try.isAgg9
  z9 := Try.sizeOf9
  v9 := Try.zeroValue9
  t22 := Try.underlying53
  a22 := Try.isAgg53
  z22 := Try.sizeOf53
  v22 := Try.zeroValue53
  t25 := Try.underlying139
  a25 := Try.isAgg139
  z25 := Try.sizeOf139
  v25 := Try.zeroValue139
  t39 := Try.underlying130
  a39 := Try.isAgg130
  z39 := Try.sizeOf130
  v39 := Try.zeroValue130
  t45 := Try.underlying161
  a45 := Try.isAgg161
  z45 := Try.sizeOf161
  v45 := Try.zeroValue161
  t46 := Try.underlying162
  a46 := Try.isAgg162
  z46 := Try.sizeOf162
  v46 := Try.zeroValue162
  t50 := Try.underlying92
  a50 := Try.isAgg92
  z50 := Try.sizeOf92
  v50 := Try.zeroValue92
  t53 := Try.underlying168
  a53 := Try.isAgg168
  z53 := Try.sizeOf168
  v53 := Try.zeroValue168
  t55 := Try.underlying170
  a55 := Try.isAgg170
  z55 := Try.sizeOf170
  v55 := Try.zeroValue170
  t66 := Try.underlying172
  a66 := Try.isAgg172
  z66 := Try.sizeOf172
  v66 := Try.zeroValue172
  t70 := Try.underlying176
  a70 := Try.isAgg176
  z70 := Try.sizeOf176
  v70 := Try.zeroValue176
  t76 := Try.underlying183
  a76 := Try.isAgg183
  z76 := Try.sizeOf183
  v76 := Try.zeroValue183
  t77 := Try.underlying184
  a77 := Try.isAgg184
  z77 := Try.sizeOf184
  v77 := Try.zeroValue184 }

theorem SortFunc_MR (M : Nat → Prop) (A : Option Addr) (c : Nat) (a : List tMultiRule) (S : Nat → Prop) (w : World) (HM : Held M w [rSo eMultiRule S A c a] w) (s0 : a.length ≤ 1000000) (s1 : apartMR a) :
    Calls Try.prog 119 #[.slice A a.length c, .func (.func 115) #[] #[]] w fun e w' => ∃ (S' : Nat → Prop), e = .returned (.tuple #[]) ∧ Held M w [rSo eMultiRule S' A c (sortMR a)] w' := by
  by_cases hx : a = []
  · subst hx
    refine (show Calls Try.prog 119 #[.slice A 0 c, .func (.func 115) #[] #[]] w _ from AnyF.slices_SortFunc_none shelf_sortf A c (.func (.func 115) #[] #[]) w).mono ?_
    rintro e w' ⟨rfl, rfl⟩
    exact ⟨S, rfl, HM⟩
  · haveI : Inhabited (Fin a.length) := ⟨⟨0, List.length_pos_iff.2 hx⟩⟩
    obtain ⟨b, off, css, rfl, hlt, hlen, hone, hH, hR, hput⟩ := so_rowK (so_of_o (HM.get (i := 0) rfl)) hx (fun q hq => (HM.rng _ List.mem_cons_self q hq).2) one_MultiRule
    have hc := AnyQ.slices_SortFunc (P := Try.prog) shelf_sortf 5 Try.isAgg108 Try.sizeOf108 css hlen hone (fun x y => cmpMR a[x] a[y]) (swo_MR fun i => a[i]) 115 #[] b off c (Array.ofFn fun i : Fin a.length => i) w en_115
      (fun m os dk _ x y => (impl_compareMultiRulesG (css x) a[x] (css y) a[y] _ (hR dk m os x) (hR dk m os y)).mono fun e w' ⟨h1, h2⟩ => ⟨h1, h2⟩) hH hlt (by rw [Array.size_ofFn]; omega)
    rw [Array.size_ofFn] at hc
    refine (show Calls Try.prog 119 #[.slice (some ⟨b, off, none⟩) a.length c, .func (.func 115) #[] #[]] w _ from hc).mono ?_
    rintro e w' ⟨rfl, d', n, os, hp, hs, rfl⟩
    obtain ⟨p1, p2, p3⟩ := hp
    have hd : d'.size = a.length := by rw [p1, Array.size_ofFn]
    have hp' : d'.toList.Perm (List.ofFn fun i : Fin a.length => i) := by
      have e1 : d'.extract 0 a.length = d' := by have := Array.extract_size (xs := d'); rwa [hd] at this
      have e2 : (Array.ofFn fun i : Fin a.length => i).extract 0 a.length = Array.ofFn fun i : Fin a.length => i := by
        have := Array.extract_size (xs := Array.ofFn fun i : Fin a.length => i); rwa [Array.size_ofFn] at this
      rw [e1, e2, Array.toList_ofFn] at p3; exact p3
    obtain ⟨h1, h2⟩ := hput d' n os hp'
    have hperm : (d'.toList.map fun i => a[i]).Perm a := by
      have := hp'.map fun i : Fin a.length => a[i]
      rw [List.map_ofFn] at this
      exact this.trans (by rw [show ((fun i : Fin a.length => a[i]) ∘ fun i => i) = fun i : Fin a.length => a[i.val] from rfl, List.ofFn_getElem])
    have hap : apartMR (d'.toList.map fun i => a[i]) := List.Perm.pairwise hperm.symm s1 (fun {x y} hxy => by have := cmpMR_anti x y; omega)
    have hup : upMR (d'.toList.map fun i => a[i]) := by
      refine List.pairwise_iff_getElem.2 fun i j hi hj hij => ?_
      have q1 := List.pairwise_iff_getElem.1 hap i j hi hj hij
      rw [List.length_map, Array.length_toList] at hi hj
      have q2 := hs i j (Nat.zero_le _) hij (by omega)
      rw [getElem!_pos d' i hi, getElem!_pos d' j hj] at q2
      simp only [ltOf, decide_eq_false_iff_not] at q2
      simp only [List.getElem_map, Array.getElem_toList] at q1 ⊢
      have q3 := cmpMR_anti a[d'[i]] a[d'[j]]
      omega
    have hfin : (d'.toList.map fun i => a[i]) = sortMR a := upMR_one hup (sortMR_up s1) (hperm.trans (sortMR_perm a).symm)
    rw [hfin] at h1
    exact ⟨S, rfl, HM.mut (i := 0) rfl h2 (rSo eMultiRule S (some ⟨b, off, none⟩) c (sortMR a)) (oSl h1) fun _ hb => .inl hb⟩

def palS : Nat → List tMultiRule
  | 0 => putMR (putMR (putMR [] (two7 0 0 0 0 (-1) 0 1)) (two7 1 0 0 0 1 (-1) 2)) (two7 2 0 0 0 0 0 3)
  | k + 1 => putMR (putMR (putMR (palS k) (two7 0 ((k : Int) + 1) 0 ((k : Int) + 1) 1 1 0)) (two7 1 ((k : Int) + 1) 0 0 (-1) 0 1)) (two7 2 ((k : Int) + 1) ((k : Int) + 1) ((k : Int) + 1) 1 (-1) 2)

theorem palS_len : ∀ k, (palS k).length = 3 * k + 3
  | 0 => by simp only [palS, putMR_len, List.length_nil]
  | k + 1 => by simp only [palS, putMR_len, palS_len k]; omega

def palI (s : Int) : Nat → List tMultiRule
  | 0 => copyRls s ++ [two6 0 0 0 (-1) 0 1, two6 1 0 0 1 (-1) 2, two6 2 0 0 0 0 3]
  | k + 1 => palI s k ++ [two6 1 ((k : Int) + 1) 0 (-1) 0 1, two6 2 ((k : Int) + 1) ((k : Int) + 1) 1 (-1) 2]

theorem palI_len (s : Int) : ∀ k, (palI s k).length = (s - 1).toNat + 3 + 2 * k
  | 0 => by rw [palI, List.length_append]; unfold copyRls; rw [copyTo_len]; rfl
  | k + 1 => by rw [palI, List.length_append, palI_len s k]; simp only [List.length_cons, List.length_nil]; omega

theorem palI_apart {s : Int} {k : Nat} (h : (s = 2 ∧ k = 1) ∨ (s = 3 ∧ k = 2)) : apartMR (palI s k) := by
  rcases h with ⟨rfl, rfl⟩ | ⟨rfl, rfl⟩ <;> (unfold apartMR; decide +kernel)

def sortMulti (m : tMulti) : tMulti := (m.1, m.2.1, m.2.2.1, sortMR m.2.2.2)

set_option maxRecDepth 100000 in
set_option maxHeartbeats 4000000 in
theorem impl_sortRules (M : Nat → Prop) (p0 : Nat) (es0 : List Value) (a0 : tMulti) (S0 : Nat → Prop) (w : World) (HM : Held M w [rBlk p0 55 es0, rO eMulti S0 es0 a0] w) (s0 : a0.2.2.2.length ≤ 1000000) (s1 : apartMR a0.2.2.2) :
    Calls Try.prog 80 #[.pointer (some ⟨p0, 0, none⟩)] w fun e w' => ∃ (es0' : List Value) (S0' : Nat → Prop), e = .returned (.tuple #[]) ∧ Held M w [rBlk p0 55 es0', rO eMulti S0' es0' (sortMulti a0)] w' := by
  have HH1 := HM
  have R0 := HH1.rd (i := 1) rfl
  obtain ⟨Az0_3, cz0_3, rfl, gz0_0, gz0_1, gz0_2, gz0_3⟩ := shape_Multi R0
  have jz0_0 := gz0_0; unfold I64 at jz0_0
  have jz0_1 := gz0_1; unfold I64 at jz0_1
  have jz0_2 := gz0_2; unfold I64 at jz0_2
  have lz0_3 := gz0_3.len
  clear R0
  have HH2 := HH1.sel [1, 0] (by decide) rfl
  have HH3 := HH2.unF rfl
  have HH4 := HH3.unF rfl
  have HH5 := HH4.unF rfl
  refine enter (n := 7) Try.func80 rfl rfl rfl fun a_6 HE7 => ?_
  refine rg ?_
  refine pl_x HE7 HH5 (wt0 rfl) (x_move rfl) rfl rfl fun a_8 HE9 => ?_
  refine pl_x HE9 HH5 (wt0 rfl) (x_nilCheck rfl) rfl rfl fun a_10 HE11 => ?_
  refine pl_x HE11 HH5 (wt0 rfl) (x_fieldAddr fa_55_3 rfl) rfl rfl fun a_12 HE13 => ?_
  refine pl_x HE13 HH5 (wt0 rfl) (x_load1 tv_53 rfl (c_blk 1 rfl rfl)) rfl rfl fun a_14 HE15 => ?_
  refine pl fun K_16 hK17 => ?_
  have HH18 : Held M w ([rSo eMultiRule S0 Az0_3 cz0_3 a0.2.2.2] ++ [rBlk p0 55 [.int .i64 (a0.1), .int .i64 (a0.2.1), .int .i64 (a0.2.2.1), .slice Az0_3 (a0.2.2.2.length) cz0_3]]) _ := HH5
  refine st_call HE15 (wt0 rfl) rfl rfl rfl en_119 rfl rfl (SortFunc_MR (Foot [rSo eMultiRule S0 Az0_3 cz0_3 a0.2.2.2]) _ _ a0.2.2.2 _ _ HH18.focus (by omega) (by first | assumption | exact pal_apart ‹_›)) fun e w' hr => ?_
  obtain ⟨Sr21_0, rfl, hbr21⟩ := hr
  have HH19 := HH18.back hbr21
  clear hbr21
  have HH20 : Held M w ([rSo eMultiRule Sr21_0 Az0_3 cz0_3 (sortMR a0.2.2.2)] ++ [rBlk p0 55 [.int .i64 (a0.1), .int .i64 (a0.2.1), .int .i64 (a0.2.2.1), .slice Az0_3 (a0.2.2.2.length) cz0_3]]) _ := HH19
  refine ⟨_, rfl, fun a_21 HE22 => hK17 _ _ ?_⟩
  refine wpList_nil ?_
  clear HH1 HH2 HH3 HH4 a_6 HE7 a_8 HE9 a_10 HE11 a_12 HE13 HH5 HH18 HH19 a_14 HE15 hK17 K_16
  refine fin0 HE22 rfl ?_
  have HH23 := HH20.relen (n := a0.2.2.2.length) (by first | exact sortMR_len _ | exact mkL_len _ _ _ _ | (simp; done) | (simp; omega))
  have HH24 := HH23.pairF (E := eInt) (c1 := [.int .i64 (a0.2.2.1)]) (x := a0.2.2.1) (oI (by exact ⟨by omega, by omega⟩))
  have HH25 := HH24.pairF (E := eInt) (c1 := [.int .i64 (a0.2.1)]) (x := a0.2.1) (oI (by exact ⟨by omega, by omega⟩))
  have HH26 := HH25.pairF (E := eInt) (c1 := [.int .i64 (a0.1)]) (x := a0.1) (oI (by exact ⟨by omega, by omega⟩))
  obtain ⟨S22, HH27⟩ : ∃ S, Held M w (rO eMulti S [.int .i64 (a0.1), .int .i64 (a0.2.1), .int .i64 (a0.2.2.1), .slice Az0_3 (a0.2.2.2.length) cz0_3] (a0.1, a0.2.1, a0.2.2.1, (sortMR a0.2.2.2)) :: _) _ := ⟨_, HH26⟩
  have hF : (sortMulti a0) = (a0.1, a0.2.1, a0.2.2.1, (sortMR a0.2.2.2)) := by
    rfl
  exact ⟨_, _, rfl, by rw [hF]; exact HH27.sel [1, 0] (by decide) rfl⟩

theorem fill_perm {α : Type} : ∀ {l l' : List α}, l.Nodup → (∀ x ∈ l, x ∈ l') → l'.length ≤ l.length → l.Perm l'
  | [], l', _, _, h => by
    have : l' = [] := List.eq_nil_of_length_eq_zero (by simpa using h)
    subst this; exact .refl _
  | x :: l, l', hn, hs, h => by
    obtain ⟨s, t, rfl⟩ := List.append_of_mem (hs x List.mem_cons_self)
    obtain ⟨h1, h2⟩ := List.nodup_cons.1 hn
    have ih : l.Perm (s ++ t) := fill_perm h2 (fun y hy => by
      have h3 := hs y (List.mem_cons_of_mem _ hy)
      rcases List.mem_append.1 h3 with h4 | h4
      · exact List.mem_append_left _ h4
      · rcases List.mem_cons.1 h4 with rfl | h4
        · exact absurd hy h1
        · exact List.mem_append_right _ h4) (by simp at h ⊢; omega)
    exact (ih.cons x).trans List.perm_middle.symm

def upTo (n : Nat) : List Int := (List.range n).map fun (i : Nat) => (i : Int)

theorem upTo_nodup (n : Nat) : (upTo n).Nodup := by
  unfold upTo
  refine List.pairwise_map.2 ((List.nodup_range (n := n)).imp fun {a b} h => ?_)
  omega

theorem mem_upTo {n : Nat} {x : Int} : x ∈ upTo n ↔ 0 ≤ x ∧ x < n := by
  unfold upTo
  simp only [List.mem_map, List.mem_range]
  constructor
  · rintro ⟨i, hi, rfl⟩; omega
  · rintro ⟨h1, h2⟩; exact ⟨x.toNat, by omega, by omega⟩

theorem upTo_len (n : Nat) : (upTo n).length = n := by simp [upTo]

theorem order_perm {o : List Int} {n : Int} (h : orderB o n = true) : o.Perm (upTo o.length) := by
  obtain ⟨h1, h2, h3⟩ := (order_iff o n).1 h
  exact fill_perm h3 (fun x hx => mem_upTo.2 (by have := h2 x hx; omega)) (by rw [upTo_len]; omega)

theorem order_has {o : List Int} {n : Int} (h : orderB o n = true) {x : Int} (h0 : 0 ≤ x) (h1 : x < n) : x ∈ o := by
  have := ((order_iff o n).1 h).1
  exact (order_perm h).mem_iff.2 (mem_upTo.2 (by omega))

theorem order_full {o : List Int} {n : Int} (hl : (o.length : Int) = n) (h : ∀ i, i < o.length → (i : Int) ∈ o) : orderB o n = true := by
  have hp : (upTo o.length).Perm o := fill_perm (upTo_nodup _) (fun x hx => by
    have h1 := mem_upTo.1 hx
    have := h x.toNat (by omega)
    rwa [show ((x.toNat : Nat) : Int) = x by omega] at this) (by rw [upTo_len]; omega)
  exact order_all hl (fun x hx => by have := mem_upTo.1 (hp.mem_iff.2 hx); omega) (hp.nodup_iff.1 (upTo_nodup _))

def hasI (xs : List Int) (x : Int) : Bool := decide (x ∈ xs)

theorem order_lack {o : List Int} {n : Int} {k : Nat} (hk : (k : Int) < n) (h : hasI o k = false) : orderB o n = false := by
  refine Bool.eq_false_iff.2 fun h2 => ?_
  have := order_has h2 (x := (k : Int)) (by omega) hk
  simp [hasI, this] at h

theorem has_hit {xs : List Int} {x : Int} {k : Nat} (hk : k < xs.length) (h : xs[k] = x) : hasI xs x = true := by
  unfold hasI; rw [decide_eq_true_eq, ← h]; exact List.getElem_mem _

theorem has_miss {xs : List Int} {x : Int} {k : Nat} (hk : xs.length ≤ k) (h : ¬ x ∈ xs.take k) : hasI xs x = false := by
  rw [List.take_of_length_le hk] at h; simp [hasI, h]

theorem not_snoc {xs : List Int} {x : Int} {k : Nat} (hk : k < xs.length) (h : ¬ x ∈ xs.take k) (h2 : ¬ xs[k] = x) : ¬ x ∈ xs.take (k + 1) := by
  rw [List.take_succ_eq_append_getElem hk, List.mem_append, List.mem_singleton]
  rintro (h3 | h3)
  · exact h h3
  · exact h2 h3.symm

def pkI (xs : List Int) (i : Int) : Int := xs[i.toNat]?.getD 0

def permL (xs o : List Int) : List Int := o.map (pkI xs)

theorem permL_len (xs o : List Int) : (permL xs o).length = o.length := by simp [permL]

def permMR (o : List Int) (r : tMultiRule) : tMultiRule := (r.1, permL r.2.1 o, permL r.2.2.1 o, permL r.2.2.2.1 o, r.2.2.2.2)

def permTapes (m : tMulti) (o : List Int) : tMulti × Int :=
  if validMulti m = true then (if orderB o m.1 = true then ((m.1, m.2.1, m.2.2.1, sortMR (m.2.2.2.map (permMR o))), 0) else ((0, 0, 0, []), 2)) else ((0, 0, 0, []), 1)

theorem sortMR_snoc (l : List tMultiRule) (r : tMultiRule) : sortMR (l ++ [r]) = putMR (sortMR l) r := by
  unfold sortMR; rw [List.foldl_append]; rfl

theorem validMulti_rule {m : tMulti} (h : validMulti m = true) {i : Nat} (hi : i < m.2.2.2.length) : (((m.2.2.2[i]).2.1.length : Int) = m.1 ∧ ((m.2.2.2[i]).2.2.1.length : Int) = m.1 ∧ ((m.2.2.2[i]).2.2.2.1.length : Int) = m.1) ∧ (0 < i → cmpMR (m.2.2.2[i - 1]?.getD default) m.2.2.2[i] < 0) := by
  unfold validMulti at h
  simp only [Bool.and_eq_true, Bool.not_eq_true', List.any_eq_false] at h
  have hb := h.2 i (List.mem_range.2 hi)
  unfold badMR at hb
  rw [List.getElem?_eq_getElem hi, Option.getD_some] at hb
  simp only [Bool.or_eq_true, Bool.and_eq_true, Bool.not_eq_true', decide_eq_true_eq, not_or, not_and, Bool.not_eq_false] at hb
  obtain ⟨h1, h2⟩ := hb
  unfold validMR at h1
  simp only [Bool.and_eq_true, beq_iff_eq] at h1
  refine ⟨⟨h1.1.1.1.1.1.2, h1.1.1.1.1.2, h1.1.1.1.2⟩, fun h3 => ?_⟩
  have h4 := h2 h3
  unfold beforeMR at h4
  simpa using h4

theorem validMulti_up {m : tMulti} (h : validMulti m = true) : upMR m.2.2.2 := by
  refine List.pairwise_iff_getElem.2 fun i j hi hj hij => ?_
  obtain ⟨d, rfl⟩ : ∃ d, j = i + d + 1 := ⟨j - i - 1, by omega⟩
  induction d with
  | zero =>
    have := (validMulti_rule h hj).2 (by omega)
    rw [show i + 0 + 1 - 1 = i by omega, List.getElem?_eq_getElem hi, Option.getD_some] at this
    exact this
  | succ d ih =>
    have h1 := ih (by omega) (by omega)
    have h2 := (validMulti_rule h hj).2 (by omega)
    rw [show i + (d + 1) + 1 - 1 = i + d + 1 by omega, List.getElem?_eq_getElem (by omega), Option.getD_some] at h2
    exact cmpMR_trans h1 h2

theorem permL_inj {o a b : List Int} {n : Int} (h : orderB o n = true) (ha : (a.length : Int) = n) (hb : (b.length : Int) = n) (he : permL a o = permL b o) : a = b := by
  refine List.ext_getElem (by omega) fun i hi hj => ?_
  have hm := order_has h (x := (i : Int)) (by omega) (by omega)
  have := List.map_inj_left.1 he (i : Int) hm
  unfold pkI at this
  rw [Int.toNat_natCast, List.getElem?_eq_getElem hi, List.getElem?_eq_getElem hj] at this
  simpa using this

theorem perm_apart {m : tMulti} {o : List Int} (h : validMulti m = true) (ho : orderB o m.1 = true) : apartMR (m.2.2.2.map (permMR o)) := by
  refine List.pairwise_map.2 (List.pairwise_iff_getElem.2 fun i j hi hj hij h0 => ?_)
  have h1 := List.pairwise_iff_getElem.1 (validMulti_up h) i j hi hj hij
  have hi' := (validMulti_rule h hi).1
  have hj' := (validMulti_rule h hj).1
  obtain ⟨e1, e2⟩ := cmpMR_zero.1 h0
  have e3 := permL_inj ho hi'.1 hj'.1 e2
  have := (cmpMR_zero (a := m.2.2.2[i]) (b := m.2.2.2[j])).2 ⟨e1, e3⟩
  omega

theorem permTapes_ct (m : tMulti) (o : List Int) : (cv_Multi (permTapes m o).1 : Int) ≤ 1000000000 := by
  unfold permTapes
  split
  · rename_i h
    split
    · rename_i ho
      obtain ⟨⟨_, hm⟩, _, _, hl⟩ := validMulti_facts h
      have hol := ((order_iff _ _).1 ho).1
      show (ct_SMultiRule (sortMR (m.2.2.2.map (permMR o))) : Int) ≤ _
      have h1 : ct_SMultiRule (sortMR (m.2.2.2.map (permMR o))) ≤ 1000 * (sortMR (m.2.2.2.map (permMR o))).length := cntL_bound fun x hx => by
        obtain ⟨r, _, rfl⟩ := List.mem_map.1 ((sortMR_perm _).mem_iff.1 hx)
        have a1 := ct_L_len (permL r.2.1 o)
        have a2 := ct_L_len (permL r.2.2.1 o)
        have a3 := ct_L_len (permL r.2.2.2.1 o)
        rw [permL_len] at a1 a2 a3
        show 1 + ct_L (permL r.2.1 o) + ct_L (permL r.2.2.1 o) + ct_L (permL r.2.2.2.1 o) + 1 ≤ 1000
        omega
      have h2 : (sortMR (m.2.2.2.map (permMR o))).length = m.2.2.2.length := by rw [sortMR_len, List.length_map]
      omega
    · exact (by decide : (cv_Multi (0, 0, 0, []) : Int) ≤ 1000000000)
  · exact (by decide : (cv_Multi (0, 0, 0, []) : Int) ≤ 1000000000)

set_option maxRecDepth 100000 in
set_option maxHeartbeats 4000000 in
theorem spec_l00Has (A0 : Option Addr) (c0 : Nat) (a0 : (List Int)) (a1 : Int) (w : World) (h0 : Sl eInt w (Old w) A0 c0 a0) :
    Calls Try.prog 100 #[.slice A0 a0.length c0, .int .i64 a1] w fun e w' => e = .returned (.bool (hasI a0 a1)) ∧ Below w.heap.size w w' := by
  have l0 := h0.len
  have HH1 := Held.start Nob w
  refine enter (n := 18) Try.func100 rfl rfl rfl fun a_2 HE3 => ?_
  refine wp_seq ?_
  refine rg ?_
  refine pl_x HE3 HH1 (wt0 rfl) (x_assign rfl) rfl rfl fun a_4 HE5 => ?_
  refine wpList_nil ?_
  clear a_2 HE3
  refine nrm ?_
  refine wp_seq ?_
  refine wp_seq ?_
  refine rg ?_
  refine pl_x HE5 HH1 (wt0 rfl) (x_assign rfl) rfl rfl fun a_6 HE7 => ?_
  refine wpList_nil ?_
  clear a_4 HE5
  refine nrm ?_
  refine wp_block ?_
  refine lp (fun m a w' => ∃ (k : Nat), m = a0.length - k ∧ Env 18 [(5, .int .i64 (k : Int)), (0, .slice A0 (a0.length) c0), (1, .int .i64 (a1))] a ∧ Held Nob w [] w' ∧ (k ≤ a0.length) ∧ (¬ a1 ∈ a0.take k)) (a0.length - (0)) ?_ ?_
  · exact ⟨0, rfl, HE7.sub ⟨(lkI rfl (by first | rfl | omega | (simp []; done))), rfl, rfl, trivial⟩, (HH1.sel [] (by decide) rfl), (by first | omega | assumption | (simp; done) | simp_all), (by simp)⟩
  · rintro m a_8 w' ⟨k, rfl, HE9, HH10, p21_0, p21_1⟩
    refine wp_seq ?_
    refine wp_seq ?_
    refine rg ?_
    refine pl_x HE9 HH10 (wt0 rfl) (x_move rfl) rfl rfl fun a_11 HE12 => ?_
    refine pl_x HE12 HH10 (wt0 rfl) (x_move rfl) rfl rfl fun a_13 HE14 => ?_
    refine pl_x HE14 HH10 (wt0 rfl) (x_len Try.underlying37 rfl) rfl rfl fun a_15 HE16 => ?_
    refine pl_x HE16 HH10 (wt0 rfl) (x_lss rfl rfl) rfl rfl fun a_17 HE18 => ?_
    refine wpList_nil ?_
    clear a_6 HE7 HH1 a_8 HE9 a_11 HE12 a_13 HE14 a_15 HE16
    refine nrm ?_
    refine cnd_d HE18 rfl (fun hc22 => ?_) (fun hc22 => ?_)
    · refine wp_skip ?_
      refine nrm ?_
      refine wp_seq ?_
      refine wp_block ?_
      refine wp_seq ?_
      refine rg ?_
      refine pl_x HE18 HH10 (wt0 rfl) (x_move rfl) rfl rfl fun a_19 HE20 => ?_
      refine pl_x HE20 HH10 (wt0 rfl) (x_move rfl) rfl rfl fun a_21 HE22 => ?_
      have ke23 : k < a0.length := by omega
      obtain ⟨be23, fe23, ese23, Ae23, Re23, De23⟩ := el_old h0 ke23
      obtain ⟨e23, xe23⟩ : ∃ x_, x_ = a0[k] := ⟨_, rfl⟩
      rw [← xe23] at Re23
      have Qe23 := Re23
      obtain ⟨rfl, ie23⟩ := Re23
      have je23 := ie23; unfold I64 at je23
      refine pl_x HE22 HH10 (wt0 rfl) (x_indexAddr ts_37 rfl rfl Ae23 rfl ke23) rfl rfl fun a_23 HE24 => ?_
      refine pl_x HE24 HH10 (wt0 rfl) (x_load1 tv_2 rfl (c_old (De23 0 _ rfl))) rfl rfl fun a_25 HE26 => ?_
      refine pl_x HE26 HH10 (wt0 rfl) (x_move rfl) rfl rfl fun a_27 HE28 => ?_
      refine pl_x HE28 HH10 (wt0 rfl) (x_eql rfl rfl) rfl rfl fun a_29 HE30 => ?_
      refine wpList_nil ?_
      clear a_17 HE18 a_19 HE20 a_21 HE22 a_23 HE24 a_25 HE26 a_27 HE28
      refine nrm ?_
      refine cnd_e HE30 rfl (fun hc24 => ?_) (fun hc24 => ?_)
      · refine wp_seq ?_
        refine rg ?_
        refine pl_x HE30 HH10 (wt0 rfl) (x_assign rfl) rfl rfl fun a_31 HE32 => ?_
        refine wpList_nil ?_
        clear a_29 HE30
        refine nrm ?_
        refine wp_ret ?_
        refine (blk_ret (thn_ret (thn_ret (blk_ret (thn_ret ?_)))))
        refine ret1 HE32 rfl (rv_tmp rfl) ?_
        have hF : (hasI a0 a1) = true := by
          first | exact has_hit (by omega) (by rw [← xe23]; omega) | exact has_miss (by omega) p21_1
        exact ⟨by first | (rw [hF] <;> rfl) | rfl | (rw [hF]; simp only [Ending.returned.injEq, Value.slice.injEq, true_and, and_true]; first | omega | (simp; done)) | (rw [hF]; simp; omega), HH10.below⟩
      · refine wp_skip ?_
        refine blk_n ?_
        refine nrm ?_
        refine rg ?_
        refine pl_x HE30 HH10 (wt0 rfl) (x_move rfl) rfl rfl fun a_33 HE34 => ?_
        refine pl_x HE34 HH10 (wt0 rfl) (x_add rfl rfl (by exact ⟨by omega, by omega⟩)) rfl rfl fun a_35 HE36 => ?_
        refine pl_x HE36 HH10 (wt0 rfl) (x_assign rfl) rfl rfl fun a_37 HE38 => ?_
        refine wpList_nil ?_
        clear a_29 HE30 a_33 HE34 a_35 HE36
        exact nrm ⟨a0.length - (k + 1), (by omega), k + 1, rfl, HE38.sub ⟨(lkI rfl (by first | rfl | omega | (simp [p21_0, p21_1, hc22, xe23, hc24]; done))), rfl, rfl, trivial⟩, (HH10.sel [] (by decide) rfl), (by first | omega | assumption | (simp; done) | simp_all), (by exact not_snoc (by omega) p21_1 (by rw [← xe23]; omega))⟩
    · refine wp_exit ?_
      refine (thn_exit (thn_exit (blk_hit ?_)))
      refine nrm ?_
      refine wp_seq ?_
      refine rg ?_
      refine pl_x HE18 HH10 (wt0 rfl) (x_assign rfl) rfl rfl fun a_39 HE40 => ?_
      refine wpList_nil ?_
      clear a_17 HE18
      refine nrm ?_
      refine wp_ret ?_
      refine ret1 HE40 rfl (rv_tmp rfl) ?_
      have hF : (hasI a0 a1) = false := by
        first | exact has_hit (by omega) (by rw [← xe0]; omega) | exact has_miss (by omega) p21_1
      exact ⟨by first | (rw [hF] <;> rfl) | rfl | (rw [hF]; simp only [Ending.returned.injEq, Value.slice.injEq, true_and, and_true]; first | omega | (simp; done)) | (rw [hF]; simp; omega), HH10.below⟩

set_option maxRecDepth 100000 in
set_option maxHeartbeats 4000000 in
theorem spec_l06Order (A0 : Option Addr) (c0 : Nat) (a0 : (List Int)) (a1 : Int) (w : World) (h0 : Sl eInt w (Old w) A0 c0 a0) (s0 : -1000 ≤ a1 ∧ a1 ≤ 1000) :
    Calls Try.prog 85 #[.slice A0 a0.length c0, .int .i64 a1] w fun e w' => e = .returned (.bool (orderB a0 a1)) ∧ Below w.heap.size w w' := by
  have l0 := h0.len
  have HH1 := Held.start Nob w
  refine enter (n := 19) Try.func85 rfl rfl rfl fun a_2 HE3 => ?_
  refine wp_seq ?_
  refine rg ?_
  refine pl_x HE3 HH1 (wt0 rfl) (x_assign rfl) rfl rfl fun a_4 HE5 => ?_
  refine wpList_nil ?_
  clear a_2 HE3
  refine nrm ?_
  refine wp_seq ?_
  refine wp_seq ?_
  refine rg ?_
  refine pl_x HE5 HH1 (wt0 rfl) (x_move rfl) rfl rfl fun a_6 HE7 => ?_
  refine pl_x HE7 HH1 (wt0 rfl) (x_len Try.underlying37 rfl) rfl rfl fun a_8 HE9 => ?_
  refine pl_x HE9 HH1 (wt0 rfl) (x_move rfl) rfl rfl fun a_10 HE11 => ?_
  refine pl_x HE11 HH1 (wt0 rfl) (x_neq rfl rfl) rfl rfl fun a_12 HE13 => ?_
  refine wpList_nil ?_
  clear a_4 HE5 a_6 HE7 a_8 HE9 a_10 HE11
  refine nrm ?_
  refine cnd_ne HE13 rfl (fun hc21 => ?_) (fun hc21 => ?_)
  · refine wp_seq ?_
    refine rg ?_
    refine pl_x HE13 HH1 (wt0 rfl) (x_assign rfl) rfl rfl fun a_14 HE15 => ?_
    refine wpList_nil ?_
    clear a_12 HE13
    refine nrm ?_
    refine wp_ret ?_
    refine (thn_ret ?_)
    refine ret1 HE15 rfl (rv_tmp rfl) ?_
    have hF : (orderB a0 a1) = false := by
      first | exact order_len (by omega) | exact order_lack (k := k) (by omega) (by first | assumption | simp [hc21]) | exact order_full (by omega) (fun i hi => p0_1 i (by omega))
    exact ⟨by first | (rw [hF] <;> rfl) | rfl | (rw [hF]; simp only [Ending.returned.injEq, Value.slice.injEq, true_and, and_true]; first | omega | (simp; done)) | (rw [hF]; simp; omega), HH1.below⟩
  · refine wp_skip ?_
    refine nrm ?_
    refine wp_seq ?_
    refine wp_seq ?_
    refine rg ?_
    refine pl_x HE13 HH1 (wt0 rfl) (x_assign rfl) rfl rfl fun a_16 HE17 => ?_
    refine wpList_nil ?_
    clear a_12 HE13
    refine nrm ?_
    refine wp_block ?_
    refine lp (fun m a w' => ∃ (k : Nat), m = a0.length - k ∧ Env 19 [(5, .int .i64 (k : Int)), (0, .slice A0 (a0.length) c0), (1, .int .i64 (a1))] a ∧ Held Nob w [] w' ∧ (k ≤ a0.length) ∧ (∀ i, i < k → (i : Int) ∈ a0)) (a0.length - (0)) ?_ ?_
    · exact ⟨0, rfl, HE17.sub ⟨(lkI rfl (by first | rfl | omega | (simp [hc21]; done))), rfl, rfl, trivial⟩, (HH1.sel [] (by decide) rfl), (by first | omega | assumption | (simp; done) | simp_all), (by intro i hi; omega)⟩
    · rintro m a_18 w' ⟨k, rfl, HE19, HH20, p22_0, p22_1⟩
      refine wp_seq ?_
      refine wp_seq ?_
      refine rg ?_
      refine pl_x HE19 HH20 (wt0 rfl) (x_move rfl) rfl rfl fun a_21 HE22 => ?_
      refine pl_x HE22 HH20 (wt0 rfl) (x_move rfl) rfl rfl fun a_23 HE24 => ?_
      refine pl_x HE24 HH20 (wt0 rfl) (x_lss rfl rfl) rfl rfl fun a_25 HE26 => ?_
      refine wpList_nil ?_
      clear a_16 HE17 HH1 a_18 HE19 a_21 HE22 a_23 HE24
      refine nrm ?_
      refine cnd_d HE26 rfl (fun hc23 => ?_) (fun hc23 => ?_)
      · refine wp_skip ?_
        refine nrm ?_
        refine wp_seq ?_
        refine wp_block ?_
        refine wp_seq ?_
        refine rg ?_
        refine pl_x HE26 HH20 (wt0 rfl) (x_move rfl) rfl rfl fun a_27 HE28 => ?_
        refine pl_x HE28 HH20 (wt0 rfl) (x_move rfl) rfl rfl fun a_29 HE30 => ?_
        refine pl fun K_31 hK32 => ?_
        refine st_call HE30 (wt0 rfl) rfl rfl rfl en_100 rfl rfl (spec_l00Has _ _ a0 (k : Int) _ (HH20.old h0)) fun e w' hr => ?_
        obtain ⟨rfl, hbr24⟩ := hr
        have HH33 := HH20.on hbr24
        refine ⟨_, rfl, fun a_34 HE35 => hK32 _ _ ?_⟩
        refine pl_x HE35 HH33 (wt0 rfl) (x_not rfl) rfl rfl fun a_36 HE37 => ?_
        refine wpList_nil ?_
        clear a_25 HE26 a_27 HE28 HH20 a_29 HE30 a_34 HE35 hK32 K_31
        refine nrm ?_
        refine cnd_nb HE37 rfl (fun hc25 => ?_) (fun hc25 => ?_)
        · refine wp_seq ?_
          refine rg ?_
          refine pl_x HE37 HH33 (wt0 rfl) (x_assign rfl) rfl rfl fun a_38 HE39 => ?_
          refine wpList_nil ?_
          clear a_36 HE37
          refine nrm ?_
          refine wp_ret ?_
          refine (blk_ret (thn_ret (thn_ret (blk_ret (thn_ret ?_)))))
          refine ret1 HE39 rfl (rv_tmp rfl) ?_
          have hF : (orderB a0 a1) = false := by
            first | exact order_len (by omega) | exact order_lack (k := k) (by omega) (by first | assumption | simp [hc21, p22_0, p22_1, hc23, hc25]) | exact order_full (by omega) (fun i hi => p22_1 i (by omega))
          exact ⟨by first | (rw [hF] <;> rfl) | rfl | (rw [hF]; simp only [Ending.returned.injEq, Value.slice.injEq, true_and, and_true]; first | omega | (simp; done)) | (rw [hF]; simp; omega), HH33.below⟩
        · refine wp_skip ?_
          refine blk_n ?_
          refine nrm ?_
          refine rg ?_
          refine pl_x HE37 HH33 (wt0 rfl) (x_move rfl) rfl rfl fun a_40 HE41 => ?_
          refine pl_x HE41 HH33 (wt0 rfl) (x_add rfl rfl (by exact ⟨by omega, by omega⟩)) rfl rfl fun a_42 HE43 => ?_
          refine pl_x HE43 HH33 (wt0 rfl) (x_assign rfl) rfl rfl fun a_44 HE45 => ?_
          refine wpList_nil ?_
          clear a_36 HE37 a_40 HE41 a_42 HE43
          exact nrm ⟨a0.length - (k + 1), (by omega), k + 1, rfl, HE45.sub ⟨(lkI rfl (by first | rfl | omega | (simp [hc21, p22_0, p22_1, hc23, hc25]; done))), rfl, rfl, trivial⟩, (HH33.sel [] (by decide) rfl), (by first | omega | assumption | (simp; done) | simp_all), (by exact all_succ p22_1 (by have hq := hc25; simpa [hasI] using hq))⟩
      · refine wp_exit ?_
        refine (thn_exit (thn_exit (blk_hit ?_)))
        refine nrm ?_
        refine wp_seq ?_
        refine rg ?_
        refine pl_x HE26 HH20 (wt0 rfl) (x_assign rfl) rfl rfl fun a_46 HE47 => ?_
        refine wpList_nil ?_
        clear a_25 HE26
        refine nrm ?_
        refine wp_ret ?_
        refine ret1 HE47 rfl (rv_tmp rfl) ?_
        have hF : (orderB a0 a1) = true := by
          first | exact order_len (by omega) | exact order_lack (k := k) (by omega) (by first | assumption | simp [hc21, p22_0, p22_1, hc23]) | exact order_full (by omega) (fun i hi => p22_1 i (by omega))
        exact ⟨by first | (rw [hF] <;> rfl) | rfl | (rw [hF]; simp only [Ending.returned.injEq, Value.slice.injEq, true_and, and_true]; first | omega | (simp; done)) | (rw [hF]; simp; omega), HH20.below⟩

set_option maxRecDepth 100000 in
set_option maxHeartbeats 4000000 in
theorem spec_l06Picked (A0 : Option Addr) (c0 : Nat) (a0 : (List Int)) (A1 : Option Addr) (c1 : Nat) (a1 : (List Int)) (w : World) (h0 : Sl eInt w (Old w) A0 c0 a0) (h1 : Sl eInt w (Old w) A1 c1 a1) (s0 : ∀ x ∈ a1, 0 ≤ x ∧ x < (a0.length : Int)) (s1 : a1.length ≤ 1000) :
    Calls Try.prog 86 #[.slice A0 a0.length c0, .slice A1 a1.length c1] w fun e w' => ∃ (A0' : Option Addr) (c0' : Nat), e = .returned (.slice A0' (permL a0 a1).length c0') ∧ So eInt w' (Fr w w') A0' c0' (permL a0 a1) ∧ Below w.heap.size w w' := by
  have l0 := h0.len
  have l1 := h1.len
  have HH1 := Held.start Nob w
  refine enter (n := 25) Try.func86 rfl rfl rfl fun a_2 HE3 => ?_
  refine wp_seq ?_
  refine rg ?_
  refine pl_x HE3 HH1 (wt0 rfl) (x_assign rfl) rfl rfl fun a_4 HE5 => ?_
  refine wpList_nil ?_
  clear a_2 HE3
  refine nrm ?_
  refine wp_seq ?_
  refine rg ?_
  refine pl fun K_6 hK7 => ?_
  refine st_lit (m := 0) (cs := []) (e := 2) HE5 HH1 (run_lit ts_37 HE5 (vs := []) rfl rfl (by simp [Value.cells]) rfl (by decide)) (wt0 rfl) rfl rfl fun q21 a_8 w' HE9 HH10 => hK7 _ _ ?_
  refine pl_x HE9 HH10 (wt0 rfl) (x_assign rfl) rfl rfl fun a_11 HE12 => ?_
  refine wpList_nil ?_
  clear a_4 HE5 HH1 a_8 HE9 hK7 K_6
  refine nrm ?_
  refine wp_seq ?_
  refine wp_seq ?_
  refine rg ?_
  refine pl_x HE12 HH10 (wt0 rfl) (x_assign rfl) rfl rfl fun a_13 HE14 => ?_
  refine wpList_nil ?_
  clear a_11 HE12
  refine nrm ?_
  refine wp_block ?_
  have HH15 := Held.vecFlat (E := eInt) (xs := []) (css := []) HH10 rfl (Nat.zero_le _) (fun i x hx => by simp at hx)
  refine lp (fun m a w' => ∃ (k : Nat) (A_5 : Option Addr) (c_5 : Nat) (S_5 : Nat → Prop), m = a1.length - k ∧ Env 25 [(5, .slice A_5 (List.length ((a1.take k).map (pkI a0))) c_5), (6, .int .i64 (k : Int)), (0, .slice A0 (a0.length) c0), (1, .slice A1 (a1.length) c1)] a ∧ Held Nob w [rVec eInt 2 S_5 A_5 c_5 ((a1.take k).map (pkI a0))] w' ∧ (k ≤ a1.length)) (a1.length - (0)) ?_ ?_
  · have E22 : (a1.take 0).map (pkI a0) = ([] : List Int) := by
      rfl
    exact ⟨0, (some ⟨q21, 0, none⟩), (List.length (α := Int) []), (fun b => b = q21), rfl, HE14.sub ⟨(by rw [E22]; rfl), (lkI rfl (by first | rfl | omega | (simp []; done))), rfl, rfl, trivial⟩, ((HH15.sel [0] (by decide) rfl).to (by first | rfl | (rw [E22]; done) | (rw [E22]; rfl) | (simp only [E22]; done) | (simp only [E22]; rfl) | (rw [E22]; simp only [List.length_set]; done))), (by first | omega | assumption | (simp; done) | simp_all)⟩
  · rintro m a_16 w' ⟨k, A_5, c_5, S_5, rfl, HE17, HH18, p23_0⟩
    have ol : ((a1.take k).map (pkI a0)).length ≤ 1000 := by rw [List.length_map, List.length_take]; omega
    refine wp_seq ?_
    refine wp_seq ?_
    refine rg ?_
    refine pl_x HE17 HH18 (wt0 rfl) (x_move rfl) rfl rfl fun a_19 HE20 => ?_
    refine pl_x HE20 HH18 (wt0 rfl) (x_move rfl) rfl rfl fun a_21 HE22 => ?_
    refine pl_x HE22 HH18 (wt0 rfl) (x_len Try.underlying37 rfl) rfl rfl fun a_23 HE24 => ?_
    refine pl_x HE24 HH18 (wt0 rfl) (x_lss rfl rfl) rfl rfl fun a_25 HE26 => ?_
    refine wpList_nil ?_
    clear HH10 a_13 HE14 HH15 a_16 HE17 a_19 HE20 a_21 HE22 a_23 HE24
    refine nrm ?_
    refine cnd_d HE26 rfl (fun hc24 => ?_) (fun hc24 => ?_)
    · refine wp_skip ?_
      refine nrm ?_
      refine wp_seq ?_
      refine wp_block ?_
      refine rg ?_
      refine pl_x HE26 HH18 (wt0 rfl) (x_move rfl) rfl rfl fun a_27 HE28 => ?_
      refine pl_x HE28 HH18 (wt0 rfl) (x_move rfl) rfl rfl fun a_29 HE30 => ?_
      refine pl_x HE30 HH18 (wt0 rfl) (x_move rfl) rfl rfl fun a_31 HE32 => ?_
      refine pl_x HE32 HH18 (wt0 rfl) (x_move rfl) rfl rfl fun a_33 HE34 => ?_
      have ke25 : k < a1.length := by omega
      obtain ⟨be25, fe25, ese25, Ae25, Re25, De25⟩ := el_old h1 ke25
      obtain ⟨e25, xe25⟩ : ∃ x_, x_ = a1[k] := ⟨_, rfl⟩
      rw [← xe25] at Re25
      have Qe25 := Re25
      obtain ⟨rfl, ie25⟩ := Re25
      have je25 := ie25; unfold I64 at je25
      have bbe25 := s0 e25 (by rw [xe25]; exact List.getElem_mem _)
      refine pl_x HE34 HH18 (wt0 rfl) (x_indexAddr ts_37 rfl rfl Ae25 rfl ke25) rfl rfl fun a_35 HE36 => ?_
      refine pl_x HE36 HH18 (wt0 rfl) (x_load1 tv_2 rfl (c_old (De25 0 _ rfl))) rfl rfl fun a_37 HE38 => ?_
      have ke26 : (e25).toNat < a0.length := by omega
      obtain ⟨be26, fe26, ese26, Ae26, Re26, De26⟩ := el_old h0 ke26
      obtain ⟨e26, xe26⟩ : ∃ x_, x_ = a0[(e25).toNat] := ⟨_, rfl⟩
      rw [← xe26] at Re26
      have Qe26 := Re26
      obtain ⟨rfl, ie26⟩ := Re26
      have je26 := ie26; unfold I64 at je26
      refine pl_x HE38 HH18 (wt0 rfl) (x_indexAddr ts_37 rfl rfl Ae26 (by omega) ke26) rfl rfl fun a_39 HE40 => ?_
      refine pl_x HE40 HH18 (wt0 rfl) (x_load1 tv_2 rfl (c_old (De26 0 _ rfl))) rfl rfl fun a_41 HE42 => ?_
      refine pl fun K_43 hK44 => ?_
      refine st_lit (m := 1) (cs := [.int .i64 (e26)]) (e := 2) HE42 HH18 (run_lit ts_37 HE42 (vs := [.int .i64 (e26)]) rfl rfl (by simp [Value.cells]) rfl (by decide)) (wt0 rfl) rfl rfl fun q27 a_45 w' HE46 HH47 => hK44 _ _ ?_
      refine pl fun K_48 hK49 => ?_
      refine st_app1F e26 HE46 HH47 ts_37 [1, 0] (by decide) rfl (fun _ => (oI (by exact ⟨by omega, by omega⟩))) rfl rfl (by simp [Value.oneCell']) (by unfold maxLen; first | omega | (simp; done) | (simp; omega)) (by first | omega | (simp; done) | (simp; omega)) (wt0 rfl) rfl fun A28 c29 S30 a_50 w' HE51 HH52 => hK49 _ _ ?_
      refine pl_x HE51 HH52 (wt0 rfl) (x_assign rfl) rfl rfl fun a_53 HE54 => ?_
      refine wpList_nil ?_
      clear a_25 HE26 a_27 HE28 a_29 HE30 a_31 HE32 a_33 HE34 a_35 HE36 a_37 HE38 a_39 HE40 a_41 HE42 HH18 K_43 hK44 a_45 HE46 HH47 a_50 HE51 hK49 K_48
      refine blk_n ?_
      refine nrm ?_
      refine rg ?_
      refine pl_x HE54 HH52 (wt0 rfl) (x_move rfl) rfl rfl fun a_55 HE56 => ?_
      refine pl_x HE56 HH52 (wt0 rfl) (x_add rfl rfl (by exact ⟨by omega, by omega⟩)) rfl rfl fun a_57 HE58 => ?_
      refine pl_x HE58 HH52 (wt0 rfl) (x_assign rfl) rfl rfl fun a_59 HE60 => ?_
      refine wpList_nil ?_
      clear a_53 HE54 a_55 HE56 a_57 HE58
      have E31 : (a1.take (k + 1)).map (pkI a0) = ((a1.take k).map (pkI a0) ++ [e26]) := by
        rw [List.take_succ_eq_append_getElem (by omega), List.map_append]; unfold pkI; simp only [List.map_cons, List.map_nil]; grind
      exact nrm ⟨a1.length - (k + 1), (by omega), k + 1, A28, c29, S30, rfl, HE60.sub ⟨(by rw [E31]; rfl), (lkI rfl (by first | rfl | omega | (simp [p23_0, hc24, xe25, xe26]; done))), rfl, rfl, trivial⟩, ((HH52.sel [0] (by decide) rfl).to (by first | rfl | (rw [E31]; done) | (rw [E31]; rfl) | (simp only [E31]; done) | (simp only [E31]; rfl) | (rw [E31]; simp only [List.length_set]; done))), (by first | omega | assumption | (simp; done) | simp_all)⟩
    · refine wp_exit ?_
      refine (thn_exit (thn_exit (blk_hit ?_)))
      refine nrm ?_
      refine wp_seq ?_
      refine rg ?_
      refine pl_x HE26 HH18 (wt0 rfl) (x_move rfl) rfl rfl fun a_61 HE62 => ?_
      refine pl_x HE62 HH18 (wt0 rfl) (x_assign rfl) rfl rfl fun a_63 HE64 => ?_
      refine wpList_nil ?_
      clear a_25 HE26 a_61 HE62
      refine nrm ?_
      refine wp_ret ?_
      refine ret1 HE64 rfl (rv_tmp rfl) ?_
      have HH65 := HH18.vecSo
      have hF : (permL a0 a1) = (a1.take k).map (pkI a0) := by
        unfold permL; rw [List.take_of_length_le (by omega)]
      exact ⟨A_5, c_5, by first | (rw [hF] <;> rfl) | rfl | (rw [hF]; simp only [Ending.returned.injEq, Value.slice.injEq, true_and, and_true]; first | omega | (simp; done)) | (rw [hF]; simp; omega), by rw [hF]; exact (HH65.so (i := 0) rfl), HH65.below⟩

set_option maxRecDepth 100000 in
set_option maxHeartbeats 4000000 in
theorem impl_permuted (A0 : Option Addr) (c0 : Nat) (a0 : (List Int)) (A1 : Option Addr) (c1 : Nat) (a1 : (List Int)) (w : World) (h0 : Sl eInt w (Old w) A0 c0 a0) (h1 : Sl eInt w (Old w) A1 c1 a1) (s0 : ∀ x ∈ a1, 0 ≤ x ∧ x < (a0.length : Int)) (s1 : a1.length ≤ 1000) :
    Calls Try.prog 88 #[.slice A0 a0.length c0, .slice A1 a1.length c1] w fun e w' => ∃ (A0' : Option Addr) (c0' : Nat), e = .returned (.slice A0' (permL a0 a1).length c0') ∧ So eInt w' (Fr w w') A0' c0' (permL a0 a1) ∧ Below w.heap.size w w' := by
  have l0 := h0.len
  have l1 := h1.len
  have HH1 := Held.start Nob w
  refine enter (n := 24) Try.func88 rfl rfl rfl fun a_2 HE3 => ?_
  refine wp_seq ?_
  refine rg ?_
  refine pl_x HE3 HH1 (wt0 rfl) (x_assign rfl) rfl rfl fun a_4 HE5 => ?_
  refine wpList_nil ?_
  clear a_2 HE3
  refine nrm ?_
  refine wp_seq ?_
  refine rg ?_
  refine pl fun K_6 hK7 => ?_
  refine st_lit (m := 0) (cs := []) (e := 2) HE5 HH1 (run_lit ts_37 HE5 (vs := []) rfl rfl (by simp [Value.cells]) rfl (by decide)) (wt0 rfl) rfl rfl fun q21 a_8 w' HE9 HH10 => hK7 _ _ ?_
  refine pl_x HE9 HH10 (wt0 rfl) (x_assign rfl) rfl rfl fun a_11 HE12 => ?_
  refine wpList_nil ?_
  clear a_4 HE5 HH1 a_8 HE9 hK7 K_6
  refine nrm ?_
  refine wp_seq ?_
  refine wp_seq ?_
  refine rg ?_
  refine pl_x HE12 HH10 (wt0 rfl) (x_move rfl) rfl rfl fun a_13 HE14 => ?_
  refine pl_x HE14 HH10 (wt0 rfl) (x_len Try.underlying37 rfl) rfl rfl fun a_15 HE16 => ?_
  refine pl_x HE16 HH10 (wt0 rfl) (x_move rfl) rfl rfl fun a_17 HE18 => ?_
  refine wpList_nil ?_
  clear a_11 HE12 a_13 HE14 a_15 HE16
  refine nrm ?_
  refine wp_block ?_
  have HH19 := Held.vecFlat (E := eInt) (xs := []) (css := []) HH10 rfl (Nat.zero_le _) (fun i x hx => by simp at hx)
  refine lp (fun m a w' => ∃ (k : Nat) (A_5 : Option Addr) (c_5 : Nat) (S_5 : Nat → Prop), m = a1.length - k ∧ Env 24 [(5, .slice A_5 (List.length ((a1.take k).map (pkI a0))) c_5), (11, .int .i64 (k : Int)), (0, .slice A0 (a0.length) c0), (9, .slice A1 (a1.length) c1), (10, .int .i64 ((a1.length : Int)))] a ∧ Held Nob w [rVec eInt 2 S_5 A_5 c_5 ((a1.take k).map (pkI a0))] w' ∧ (k ≤ a1.length)) (a1.length - (0)) ?_ ?_
  · have E22 : (a1.take 0).map (pkI a0) = ([] : List Int) := by
      rfl
    exact ⟨0, (some ⟨q21, 0, none⟩), (List.length (α := Int) []), (fun b => b = q21), rfl, HE18.sub ⟨(by rw [E22]; rfl), (lkI rfl (by first | rfl | omega | (simp []; done))), rfl, rfl, rfl, trivial⟩, ((HH19.sel [0] (by decide) rfl).to (by first | rfl | (rw [E22]; done) | (rw [E22]; rfl) | (simp only [E22]; done) | (simp only [E22]; rfl) | (rw [E22]; simp only [List.length_set]; done))), (by first | omega | assumption | (simp; done) | simp_all)⟩
  · rintro m a_20 w' ⟨k, A_5, c_5, S_5, rfl, HE21, HH22, p23_0⟩
    have ol : ((a1.take k).map (pkI a0)).length ≤ 1000 := by rw [List.length_map, List.length_take]; omega
    refine wp_seq ?_
    refine rg ?_
    refine pl_x HE21 HH22 (wt0 rfl) (x_lss rfl rfl) rfl rfl fun a_23 HE24 => ?_
    refine wpList_nil ?_
    clear HH10 a_17 HE18 HH19 a_20 HE21
    refine nrm ?_
    refine wp_seq ?_
    refine cnd_d HE24 rfl (fun hc24 => ?_) (fun hc24 => ?_)
    · refine wp_skip ?_
      refine nrm ?_
      refine wp_seq ?_
      refine wp_block ?_
      refine wp_seq ?_
      refine rg ?_
      have ke25 : k < a1.length := by omega
      obtain ⟨be25, fe25, ese25, Ae25, Re25, De25⟩ := el_old h1 ke25
      obtain ⟨e25, xe25⟩ : ∃ x_, x_ = a1[k] := ⟨_, rfl⟩
      rw [← xe25] at Re25
      have Qe25 := Re25
      obtain ⟨rfl, ie25⟩ := Re25
      have je25 := ie25; unfold I64 at je25
      have bbe25 := s0 e25 (by rw [xe25]; exact List.getElem_mem _)
      refine pl_x HE24 HH22 (wt0 rfl) (x_indexAddr ts_37 rfl rfl Ae25 rfl ke25) rfl rfl fun a_25 HE26 => ?_
      refine pl_x HE26 HH22 (wt0 rfl) (x_load1 tv_2 rfl (c_old (De25 0 _ rfl))) rfl rfl fun a_27 HE28 => ?_
      refine pl_x HE28 HH22 (wt0 rfl) (x_assign rfl) rfl rfl fun a_29 HE30 => ?_
      refine wpList_nil ?_
      clear a_23 HE24 a_25 HE26 a_27 HE28
      refine nrm ?_
      refine rg ?_
      refine pl_x HE30 HH22 (wt0 rfl) (x_move rfl) rfl rfl fun a_31 HE32 => ?_
      refine pl_x HE32 HH22 (wt0 rfl) (x_move rfl) rfl rfl fun a_33 HE34 => ?_
      refine pl_x HE34 HH22 (wt0 rfl) (x_move rfl) rfl rfl fun a_35 HE36 => ?_
      have ke26 : (e25).toNat < a0.length := by omega
      obtain ⟨be26, fe26, ese26, Ae26, Re26, De26⟩ := el_old h0 ke26
      obtain ⟨e26, xe26⟩ : ∃ x_, x_ = a0[(e25).toNat] := ⟨_, rfl⟩
      rw [← xe26] at Re26
      have Qe26 := Re26
      obtain ⟨rfl, ie26⟩ := Re26
      have je26 := ie26; unfold I64 at je26
      refine pl_x HE36 HH22 (wt0 rfl) (x_indexAddr ts_37 rfl rfl Ae26 (by omega) ke26) rfl rfl fun a_37 HE38 => ?_
      refine pl_x HE38 HH22 (wt0 rfl) (x_load1 tv_2 rfl (c_old (De26 0 _ rfl))) rfl rfl fun a_39 HE40 => ?_
      refine pl fun K_41 hK42 => ?_
      refine st_lit (m := 1) (cs := [.int .i64 (e26)]) (e := 2) HE40 HH22 (run_lit ts_37 HE40 (vs := [.int .i64 (e26)]) rfl rfl (by simp [Value.cells]) rfl (by decide)) (wt0 rfl) rfl rfl fun q27 a_43 w' HE44 HH45 => hK42 _ _ ?_
      refine pl fun K_46 hK47 => ?_
      refine st_app1F e26 HE44 HH45 ts_37 [1, 0] (by decide) rfl (fun _ => (oI (by exact ⟨by omega, by omega⟩))) rfl rfl (by simp [Value.oneCell']) (by unfold maxLen; first | omega | (simp; done) | (simp; omega)) (by first | omega | (simp; done) | (simp; omega)) (wt0 rfl) rfl fun A28 c29 S30 a_48 w' HE49 HH50 => hK47 _ _ ?_
      refine pl_x HE49 HH50 (wt0 rfl) (x_assign rfl) rfl rfl fun a_51 HE52 => ?_
      refine wpList_nil ?_
      clear a_29 HE30 a_31 HE32 a_33 HE34 a_35 HE36 a_37 HE38 a_39 HE40 HH22 K_41 hK42 a_43 HE44 HH45 a_48 HE49 hK47 K_46
      refine blk_n ?_
      refine nrm ?_
      refine rg ?_
      refine pl_x HE52 HH50 (wt0 rfl) (x_add rfl rfl (by exact ⟨by omega, by omega⟩)) rfl rfl fun a_53 HE54 => ?_
      refine pl_x HE54 HH50 (wt0 rfl) (x_move rfl) rfl rfl fun a_55 HE56 => ?_
      refine wpList_nil ?_
      clear a_51 HE52 a_53 HE54
      have E31 : (a1.take (k + 1)).map (pkI a0) = ((a1.take k).map (pkI a0) ++ [e26]) := by
        rw [List.take_succ_eq_append_getElem (by omega), List.map_append]; unfold pkI; simp only [List.map_cons, List.map_nil]; grind
      exact nrm ⟨a1.length - (k + 1), (by omega), k + 1, A28, c29, S30, rfl, HE56.sub ⟨(by rw [E31]; rfl), (lkI rfl (by first | rfl | omega | (simp [p23_0, hc24, xe25, xe26]; done))), rfl, rfl, rfl, trivial⟩, ((HH50.sel [0] (by decide) rfl).to (by first | rfl | (rw [E31]; done) | (rw [E31]; rfl) | (simp only [E31]; done) | (simp only [E31]; rfl) | (rw [E31]; simp only [List.length_set]; done))), (by first | omega | assumption | (simp; done) | simp_all)⟩
    · refine wp_exit ?_
      refine (thn_exit (thn_exit (blk_hit ?_)))
      refine nrm ?_
      refine wp_seq ?_
      refine rg ?_
      refine pl_x HE24 HH22 (wt0 rfl) (x_move rfl) rfl rfl fun a_57 HE58 => ?_
      refine pl_x HE58 HH22 (wt0 rfl) (x_assign rfl) rfl rfl fun a_59 HE60 => ?_
      refine wpList_nil ?_
      clear a_23 HE24 a_57 HE58
      refine nrm ?_
      refine wp_ret ?_
      refine ret1 HE60 rfl (rv_tmp rfl) ?_
      have HH61 := HH22.vecSo
      have hF : (permL a0 a1) = (a1.take k).map (pkI a0) := by
        unfold permL; rw [List.take_of_length_le (by omega)]
      exact ⟨A_5, c_5, by first | (rw [hF] <;> rfl) | rfl | (rw [hF]; simp only [Ending.returned.injEq, Value.slice.injEq, true_and, and_true]; first | omega | (simp; done)) | (rw [hF]; simp; omega), by rw [hF]; exact (HH61.so (i := 0) rfl), HH61.below⟩

end Go.Proofs.Ytcfdkckchbdafaa
