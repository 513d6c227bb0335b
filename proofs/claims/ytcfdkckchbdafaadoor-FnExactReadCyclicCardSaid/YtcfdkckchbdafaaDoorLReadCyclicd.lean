/- What the proof of FnExactReadCyclic needs: contracts of the functions that it reaches, each once. -/
import Derived.Test.YtcfdkckchbdafaaDoorProg
import Derived.Test.YtcfdkckchbdafaaDoorQMem
import Derived.Test.YtcfdkckchbdafaaDoorQOpen
import Derived.Test.YtcfdkckchbdafaaDoorLReadCyclica
import Derived.Test.YtcfdkckchbdafaaDoorLReadCyclicb
import Derived.Test.YtcfdkckchbdafaaDoorLReadCyclicc
import Derived.WalkKit
import Derived.WalkSpells
import Derived.Below
import Derived.LoopTactic
import Derived.Outline
import Derived.Deep.QuietTactic
import Derived.BigQuiet
import Derived.Deep.LoopGhost
import Derived.Handy
import Derived.Lib.Hide
import Derived.Shelf.Abstract
import Derived.StillTailTactics
import Derived.OwnWalk
import Derived.Maps.AppendAt
import Derived.RegionTactic
import Derived.Deep.RegionHeld3
import Derived.IntWalk
import Derived.Deep.Upon
import Derived.Laws.OwnMore
import Derived.Maps.AppendAt
import Derived.Laws.BytesString
import Derived.Laws.Strings
import Derived.Lib.Bytes
import Derived.Lib.Strings
import Derived.Lib.FrozenHead
import Derived.Lib.RuneBytes
import Derived.Lib.LaidTab
import Derived.Laws.StructEq
import Derived.Lib.ItoaLen
import Derived.Lib.Join
import Derived.Shelf.Strconv.Itoa4
import Derived.Shelf.Strings.OnBuilder
import Derived.Shelf.Strings.BuilderK
import Derived.Shelf.Strings.BuilderRune
import Derived.Shelf.LaysM
import Derived.Ground.NamesProg
import Derived.Lib.ParseIntBTie
import Derived.Lib.SplitLaws
import Derived.Lib.Replace
import Derived.Shelf.LaysC
import Derived.Shelf.Strconv.ErrVarParseInt
import Derived.Shelf.Strconv.ParseIntPublic10
import Derived.Shelf.Strings.Prefix
import Derived.Shelf.Strings.Cut
import Derived.Shelf.Strings.Split
import Derived.Shelf.Strings.Replace
import Derived.Shelf.Small.Wraps
import Derived.Stop.IfaceNil
namespace Go.Proofs.YtcfdkckchbdafaaDoor
open Go.RowKit

open Go.Lib in
set_option maxRecDepth 100000 in
set_option maxHeartbeats 4000000 in
theorem impl_readDecimals (a0 : List UInt8) (w : World) (hG : Glob2 w) (s0 : a0.length ≤ 2000000) :
    Calls Tryd.prog 32 #[.string (bs a0)] w fun e w' => ∃ (A0' : Option Addr) (c0' : Nat), e = .returned (.tuple #[.slice A0' (decsR a0).1.length c0', .bool (decsR a0).2]) ∧ So eInt w' (Fr w w') A0' c0' (decsR a0).1 ∧ Below w.heap.size w w' := by
  have HH1 := Held.start Nob w
  refine enter (n := 30) Tryd.func32 rfl rfl rfl fun a_2 HE3 => ?_
  refine wp_seq ?_
  refine rg ?_
  refine pl_x HE3 HH1 (wt0 rfl) (x_assign rfl) rfl rfl fun a_4 HE5 => ?_
  refine pl_x HE5 HH1 (wt0 rfl) (x_assign rfl) rfl rfl fun a_6 HE7 => ?_
  refine wpList_nil ?_
  clear a_2 HE3 a_4 HE5
  refine nrm ?_
  refine wp_seq ?_
  refine rg ?_
  refine pl fun K_8 hK9 => ?_
  refine st_lit (m := 0) (cs := []) (e := 2) HE7 HH1 (run_lit ts_41 HE7 (vs := []) rfl rfl (by simp [Value.cells]) rfl (by decide)) (wt0 rfl) rfl rfl fun q21 a_10 w' HE11 HH12 => hK9 _ _ ?_
  refine pl_x HE11 HH12 (wt0 rfl) (x_assign rfl) rfl rfl fun a_13 HE14 => ?_
  refine wpList_nil ?_
  clear a_6 HE7 HH1 a_10 HE11 hK9 K_8
  refine nrm ?_
  refine wp_seq ?_
  refine wp_seq ?_
  refine rg ?_
  refine pl_x HE14 HH12 (wt0 rfl) (x_move rfl) rfl rfl fun a_15 HE16 => ?_
  refine pl fun K_17 hK18 => ?_
  refine st_call HE16 (wt0 rfl) rfl rfl rfl en_20 rfl rfl (Split_1 a0 ([44]) 44 _ (HH12.glob2 hG) (by omega) (by rfl)) fun e w' hr => ?_
  have hAr22_0 := splitR_len 44 a0
  have hAr22_1 := splitR_piece 44 a0
  obtain ⟨Ar22_0, cr22_0, rfl, hor22_0, hbr22⟩ := hr
  obtain ⟨Sr22, HH19⟩ := HH12.newS hbr22 hor22_0
  refine ⟨_, rfl, fun a_20 HE21 => hK18 _ _ ?_⟩
  refine pl_x HE21 HH19 (wt0 rfl) (x_len Tryd.underlying39 rfl) rfl rfl fun a_22 HE23 => ?_
  refine pl_x HE23 HH19 (wt0 rfl) (x_move rfl) rfl rfl fun a_24 HE25 => ?_
  refine wpList_nil ?_
  clear a_13 HE14 HH12 a_15 HE16 a_20 HE21 a_22 HE23 hK18 K_17
  refine nrm ?_
  refine wp_block ?_
  have HH26 := HH19.sel [1, 0] (by decide) rfl
  have HH27 := Held.vecFlat (E := eInt) (xs := []) (css := []) HH26 rfl (Nat.zero_le _) (fun i x hx => by simp at hx)
  refine lp (fun m a w' => ∃ (k : Nat) (A_4 : Option Addr) (c_4 : Nat) (S_4 : Nat → Prop), m = (splitR 44 a0).length - k ∧ Env 30 [(4, .slice A_4 (List.length (((splitR 44 a0).take k).map (fun p => (numR p).1))) c_4), (13, .int .i64 (k : Int)), (11, .slice Ar22_0 ((splitR 44 a0).length) cr22_0), (12, .int .i64 (((splitR 44 a0).length : Int)))] a ∧ Held Nob w [rVec eInt 2 S_4 A_4 c_4 (((splitR 44 a0).take k).map (fun p => (numR p).1)), rSo eTxt Sr22 Ar22_0 cr22_0 (splitR 44 a0)] w' ∧ (k ≤ (splitR 44 a0).length) ∧ (((splitR 44 a0).take k).all (fun p => (numR p).2) = true)) ((splitR 44 a0).length - (0)) ?_ ?_
  · have E23 : ((splitR 44 a0).take 0).map (fun p => (numR p).1) = ([] : List Int) := by
      simp
    exact ⟨0, (some ⟨q21, 0, none⟩), (List.length (α := Int) []), (fun b => b = q21), rfl, HE25.sub ⟨(by rw [E23]; rfl), (lkI rfl (by first | rfl | omega | (simp []; done))), rfl, rfl, trivial⟩, ((HH27.sel [0, 1] (by decide) rfl).to (by first | rfl | (rw [E23]; done) | (rw [E23]; rfl) | (simp only [E23]; done) | (simp only [E23]; rfl) | (rw [E23]; simp only [List.length_set]; done))), (by first | omega | assumption | (simp; done) | simp_all), (by simp)⟩
  · rintro m a_28 w' ⟨k, A_4, c_4, S_4, rfl, HE29, HH30, p24_0, p24_1⟩
    have hn0 : (((splitR 44 a0).take k).map (fun p => (numR p).1)).length ≤ a0.length + 1 := by have := splitR_len 44 a0; rw [List.length_map, List.length_take]; omega
    refine wp_seq ?_
    refine rg ?_
    refine pl_x HE29 HH30 (wt0 rfl) (x_lss rfl rfl) rfl rfl fun a_31 HE32 => ?_
    refine wpList_nil ?_
    clear HH19 HH26 a_24 HE25 HH27 a_28 HE29
    refine nrm ?_
    refine wp_seq ?_
    refine cnd_d HE32 rfl (fun hc25 => ?_) (fun hc25 => ?_)
    · refine wp_skip ?_
      refine nrm ?_
      refine wp_seq ?_
      refine wp_block ?_
      refine wp_seq ?_
      refine rg ?_
      have ke26 : k < (splitR 44 a0).length := by omega
      obtain ⟨be26, fe26, rfl⟩ := el_own HH30 (i := 1) rfl ke26
      refine pl_x HE32 HH30 (wt0 rfl) (x_indexAddr ts_39 rfl rfl rfl rfl ke26) rfl rfl fun a_33 HE34 => ?_
      obtain ⟨y27, xy27⟩ : ∃ y_, y_ = (splitR 44 a0)[k]'(by first | exact ke26 | (simp only [List.length_set]; exact ke26) | omega | (simp only [List.length_set]; omega) | (simp; omega)) := ⟨_, rfl⟩
      have jy27 : List.length y27 ≤ 9223372036854775807 := by rw [xy27]; exact i_ownS HH30 1 rfl _
      have hx0 := xy27
      have hl0 := splitR_piece 44 a0 y27 (by rw [xy27]; exact List.getElem_mem _)
      refine pl_x HE34 HH30 (wt0 rfl) (x_load1 tv_9 rfl (c_ownS 1 rfl (by first | exact ke26 | (simp only [List.length_set]; exact ke26) | omega | (simp only [List.length_set]; omega) | (simp; omega)) xy27.symm)) rfl rfl fun a_35 HE36 => ?_
      refine pl_x HE36 HH30 (wt0 rfl) (x_assign rfl) rfl rfl fun a_37 HE38 => ?_
      refine wpList_nil ?_
      clear a_31 HE32 a_33 HE34 a_35 HE36
      refine nrm ?_
      refine wp_seq ?_
      refine rg ?_
      refine pl_x HE38 HH30 (wt0 rfl) (x_move rfl) rfl rfl fun a_39 HE40 => ?_
      refine pl fun K_41 hK42 => ?_
      refine st_call HE40 (wt0 rfl) rfl rfl rfl en_44 rfl rfl (impl_ReadDecimal y27 _ (HH30.glob2 hG) (by omega)) fun e w' hr => ?_
      have hAr28_0 := numR_bd y27
      obtain ⟨rfl, hbr28⟩ := hr
      have HH43 := HH30.on hbr28
      refine ⟨_, rfl, fun a_44 HE45 => hK42 _ _ ?_⟩
      refine pl_x HE45 HH43 (wt0 rfl) (x_move rfl) rfl rfl fun a_46 HE47 => ?_
      refine pl_x HE47 HH43 (wt0 rfl) (x_extract rfl rfl) rfl rfl fun a_48 HE49 => ?_
      refine pl_x HE49 HH43 (wt0 rfl) (x_extract rfl rfl) rfl rfl fun a_50 HE51 => ?_
      refine pl_x HE51 HH43 (wt0 rfl) (x_assign rfl) rfl rfl fun a_52 HE53 => ?_
      refine pl_x HE53 HH43 (wt0 rfl) (x_assign rfl) rfl rfl fun a_54 HE55 => ?_
      refine wpList_nil ?_
      clear a_37 HE38 HH30 a_39 HE40 a_44 HE45 a_46 HE47 a_48 HE49 a_50 HE51 a_52 HE53 hK42 K_41
      refine nrm ?_
      refine wp_seq ?_
      refine wp_seq ?_
      refine rg ?_
      refine pl_x HE55 HH43 (wt0 rfl) (x_move rfl) rfl rfl fun a_56 HE57 => ?_
      refine pl_x HE57 HH43 (wt0 rfl) (x_not rfl) rfl rfl fun a_58 HE59 => ?_
      refine wpList_nil ?_
      clear a_54 HE55 a_56 HE57
      refine nrm ?_
      refine cnd_nb HE59 rfl (fun hc29 => ?_) (fun hc29 => ?_)
      · refine wp_seq ?_
        refine rg ?_
        refine pl_x HE59 HH43 (wt0 rfl) (x_assign rfl) rfl rfl fun a_60 HE61 => ?_
        refine pl_x HE61 HH43 (wt0 rfl) (x_assign rfl) rfl rfl fun a_62 HE63 => ?_
        refine wpList_nil ?_
        clear a_58 HE59 a_60 HE61
        refine nrm ?_
        refine wp_ret ?_
        refine (thn_ret (blk_ret (thn_ret (thn_ret (blk_ret (thn_ret ?_))))))
        refine ret2 HE63 rfl (rv_tmp rfl) (rv_tmp rfl) ?_
        have hF : (decsR a0) = ([], false) := by
          first | exact numL_yes (by omega) p24_1 | exact numL_no (by omega) hx0 hc29
        exact ⟨none, 0, by first | (rw [hF] <;> rfl) | rfl | (rw [hF]; simp only [Ending.returned.injEq, Value.slice.injEq, true_and, and_true]; first | omega | (simp; done)) | (rw [hF]; simp; omega), by rw [hF]; exact (So.nil (Nat.zero_le _)), HH43.below⟩
      · refine wp_skip ?_
        refine nrm ?_
        refine rg ?_
        refine pl_x HE59 HH43 (wt0 rfl) (x_move rfl) rfl rfl fun a_64 HE65 => ?_
        refine pl_x HE65 HH43 (wt0 rfl) (x_move rfl) rfl rfl fun a_66 HE67 => ?_
        refine pl fun K_68 hK69 => ?_
        refine st_lit (m := 1) (cs := [.int .i64 ((numR y27).1)]) (e := 2) HE67 HH43 (run_lit ts_41 HE67 (vs := [.int .i64 ((numR y27).1)]) rfl rfl (by simp [Value.cells]) rfl (by decide)) (wt0 rfl) rfl rfl fun q30 a_70 w' HE71 HH72 => hK69 _ _ ?_
        refine pl fun K_73 hK74 => ?_
        refine st_app1F ((numR y27).1) HE71 HH72 ts_41 [1, 0, 2] (by decide) rfl (fun _ => (oI (by exact ⟨by omega, by omega⟩))) rfl rfl (by simp [Value.oneCell']) (by unfold maxLen; first | omega | (simp; done) | (simp; omega)) (by first | omega | (simp; done) | (simp; omega)) (wt0 rfl) rfl fun A31 c32 S33 a_75 w' HE76 HH77 => hK74 _ _ ?_
        refine pl_x HE76 HH77 (wt0 rfl) (x_assign rfl) rfl rfl fun a_78 HE79 => ?_
        refine wpList_nil ?_
        clear a_58 HE59 a_64 HE65 a_66 HE67 HH43 K_68 hK69 a_70 HE71 HH72 a_75 HE76 hK74 K_73
        refine blk_n ?_
        refine nrm ?_
        refine rg ?_
        refine pl_x HE79 HH77 (wt0 rfl) (x_add rfl rfl (by exact ⟨by omega, by omega⟩)) rfl rfl fun a_80 HE81 => ?_
        refine pl_x HE81 HH77 (wt0 rfl) (x_move rfl) rfl rfl fun a_82 HE83 => ?_
        refine wpList_nil ?_
        clear a_78 HE79 a_80 HE81
        have E34 : ((splitR 44 a0).take (k + 1)).map (fun p => (numR p).1) = (((splitR 44 a0).take k).map (fun p => (numR p).1) ++ [(numR y27).1]) := by
          exact map_snoc _ (by omega) hx0
        exact nrm ⟨(splitR 44 a0).length - (k + 1), (by omega), k + 1, A31, c32, S33, rfl, HE83.sub ⟨(by rw [E34]; rfl), (lkI rfl (by first | rfl | omega | (simp [p24_0, p24_1, hc25, xy27, hc29]; done))), rfl, rfl, trivial⟩, ((HH77.sel [0, 1] (by decide) rfl).to (by first | rfl | (rw [E34]; done) | (rw [E34]; rfl) | (simp only [E34]; done) | (simp only [E34]; rfl) | (rw [E34]; simp only [List.length_set]; done))), (by first | omega | assumption | (simp; done) | simp_all), (by exact all_snoc (by omega) p24_1 hx0 hc29)⟩
    · refine wp_exit ?_
      refine (thn_exit (thn_exit (blk_hit ?_)))
      refine nrm ?_
      refine wp_seq ?_
      refine rg ?_
      refine pl_x HE32 HH30 (wt0 rfl) (x_move rfl) rfl rfl fun a_84 HE85 => ?_
      refine pl_x HE85 HH30 (wt0 rfl) (x_assign rfl) rfl rfl fun a_86 HE87 => ?_
      refine pl_x HE87 HH30 (wt0 rfl) (x_assign rfl) rfl rfl fun a_88 HE89 => ?_
      refine wpList_nil ?_
      clear a_31 HE32 a_84 HE85 a_86 HE87
      refine nrm ?_
      refine wp_ret ?_
      refine ret2 HE89 rfl (rv_tmp rfl) (rv_tmp rfl) ?_
      have HH90 := HH30.vecSo
      have hF : (decsR a0) = (((splitR 44 a0).take k).map (fun p => (numR p).1), true) := by
        first | exact numL_yes (by omega) p24_1 | exact numL_no (by omega) hx0 hc25
      exact ⟨A_4, c_4, by first | (rw [hF] <;> rfl) | rfl | (rw [hF]; simp only [Ending.returned.injEq, Value.slice.injEq, true_and, and_true]; first | omega | (simp; done)) | (rw [hF]; simp; omega), by rw [hF]; exact (HH90.so (i := 0) rfl), HH90.below⟩

open Go.Lib in
def mk2 : List Int → List tFraction
  | a :: b :: r => (a, b) :: mk2 r
  | _ => []

open Go.Lib in
def knownL (k : Int) : List tFraction := if k = 0 then mk2 [3, 2] else if k = 1 then mk2 [455, 33, 11, 13, 1, 11, 3, 7, 11, 2, 1, 3] else mk2 [17, 91, 78, 85, 19, 51, 23, 38, 29, 33, 77, 29, 95, 23, 77, 19, 1, 17, 11, 13, 13, 11, 15, 14, 15, 2, 55, 1]

open Go.Lib in
def known (k : Int) : List tFraction × Int := if withinB k 0 2 = true then (knownL k, 0) else ([], 2)

open Go.Lib in
def dotI (w : List UInt8) : List Int := if w = [45] then [] else if (decsR (subB 46 44 w)).2 = true then (decsR (subB 46 44 w)).1 else [-1]

open Go.Lib in
def wordsI (s : List UInt8) : List (List Int) := (splitR 44 s).map dotI

open Go.Lib in
def numK (w : List UInt8) : Bool := (numC w).2

open Go.Lib in
def numW (w : List UInt8) : Int := (numC w).1

open Go.Lib in
def letS (w : List UInt8) : List Int × Bool := if w = [45] then ([], true) else if (splitR 46 w).length ≤ 1000 ∧ (splitR 46 w).all numK = true then ((splitR 46 w).map numW, true) else ([], false)

open Go.Lib in
def letV (w : List UInt8) : List Int := (letS w).1

open Go.Lib in
def letK (w : List UInt8) : Bool := (letS w).2

open Go.Lib in
def wordsS (s : List UInt8) (most : Int) : List (List Int) × Bool := if ((splitR 44 s).length : Int) ≤ most ∧ (splitR 44 s).all letK = true then ((splitR 44 s).map letV, true) else ([], false)

open Go.Lib in
theorem numC_bk {s : List UInt8} (h : (numC s).2 = true) : Go.Lib.itoa (numC s).1 = s := by
  unfold numC at h ⊢
  split at h
  · rename_i hq; rw [if_pos hq]; exact (itoa_num hq).1
  · exact Bool.noConfusion h

open Go.Lib in
theorem decs_ne45 {c : UInt8} (h45 : ¬ c = 45) (hd : isDg c = false) {l : List Int} (hl : l ≠ []) (hb : ∀ v ∈ l, -1000000000000000000 < v ∧ v < 1000000000000000000) : decs l [c] ≠ [45] := by
  intro e
  have h1 := split_decs h45 hd hl
  rw [e] at h1
  have h3 : splitR c [45] = [[45]] := by rw [splitR_ne (fun e => h45 e.symm) (splitR_nil c)]
  rw [h3] at h1
  cases l with
  | nil => exact hl rfl
  | cons v l =>
    simp only [List.map_cons, List.cons.injEq] at h1
    have h4 := numC_itoa (hb v (by simp))
    rw [← h1.1] at h4
    have h5 : numC [45] = (0, false) := rfl
    rw [h5] at h4
    exact Bool.noConfusion (congrArg Prod.snd h4)

open Go.Lib in
theorem lets_bd {l : List Int} (h : lets l) : ∀ v ∈ l, -1000000000000000000 < v ∧ v < 1000000000000000000 := fun v hv => by have := h.2 v hv; omega

open Go.Lib in
theorem dotI_T {l : List Int} (h : lets l) : dotI (dotT l) = l := by
  unfold dotT dotI
  by_cases hl : l = []
  · rw [if_pos hl, if_pos rfl, hl]
  · rw [if_neg hl, if_neg (decs_ne45 (by decide) (by decide) hl (lets_bd h)), sub_decs (by decide) (by decide) hl, decsR_decs hl (lets_bd h)]
    rfl

open Go.Lib in
theorem letS_T {l : List Int} (h : lets l) : letS (dotT l) = (l, true) := by
  unfold dotT letS
  by_cases hl : l = []
  · rw [if_pos hl, if_pos rfl, hl]
  · rw [if_neg hl, if_neg (decs_ne45 (by decide) (by decide) hl (lets_bd h)), split_decs (by decide) (by decide) hl, if_pos]
    · rw [List.map_map]
      exact congrArg (·, true) ((List.map_congr_left fun v hv => by show (numC (Go.Lib.itoa v)).1 = id v; rw [numC_itoa (lets_bd h v hv)]; rfl).trans (List.map_id l))
    · refine ⟨by rw [List.length_map]; exact h.1, ?_⟩
      rw [List.all_eq_true]
      intro w hw
      obtain ⟨v, hv, rfl⟩ := List.mem_map.1 hw
      unfold numK
      rw [numC_itoa (lets_bd h v hv)]

open Go.Lib in
theorem letS_back {w : List UInt8} (h : letK w = true) : dotT (letV w) = w := by
  unfold letK at h
  unfold letV
  unfold letS at h ⊢
  split at h
  · rename_i h45; rw [if_pos h45, h45]; rfl
  · rename_i h45
    rw [if_neg h45]
    split at h
    · rename_i hc
      rw [if_pos hc]
      have hl := splitR_len 46 w
      unfold dotT
      rw [if_neg (fun e => by have := congrArg List.length e; rw [List.length_map, List.length_nil] at this; omega)]
      unfold decs
      rw [List.map_map]
      have e : (splitR 46 w).map (Go.Lib.itoa ∘ numW) = splitR 46 w := (List.map_congr_left fun v hv => numC_bk (List.all_eq_true.1 hc.2 v hv)).trans (List.map_id _)
      rw [e]
      exact (join_splitR 46 w).1
    · exact Bool.noConfusion h

open Go.Lib in
theorem dotT_no {c : UInt8} (h46 : ¬ c = 46) (h45 : ¬ c = 45) (hd : isDg c = false) (l : List Int) : c ∉ dotT l := by
  unfold dotT
  split
  · intro hm; exact h45 (List.mem_singleton.1 hm)
  · unfold decs
    cases l with
    | nil => simp [Go.Lib.join_nil]
    | cons x r =>
      rw [List.map_cons, join_cons]
      intro hm
      rcases List.mem_append.1 hm with hm | hm
      · exact itoa_no h45 hd _ hm
      · unfold joinTail at hm
        obtain ⟨y, hy, hz⟩ := List.mem_flatten.1 hm
        obtain ⟨u, hu, rfl⟩ := List.mem_map.1 hy
        obtain ⟨v, _, rfl⟩ := List.mem_map.1 hu
        rcases List.mem_append.1 hz with hz | hz
        · exact h46 (List.mem_singleton.1 hz)
        · exact itoa_no h45 hd _ hz

open Go.Lib in
theorem split_words {c : List (List Int)} (h : c ≠ []) : splitR 44 (wordsT c) = c.map dotT := by
  unfold wordsT
  cases c with
  | nil => exact absurd rfl h
  | cons w c =>
    rw [List.map_cons]
    refine splitR_join fun p hp => ?_
    rw [← List.map_cons] at hp
    obtain ⟨u, _, rfl⟩ := List.mem_map.1 hp
    exact dotT_no (by decide) (by decide) (by decide) u

open Go.Lib in
theorem wordsI_T {c : List (List Int)} (h : c ≠ []) (hw : ∀ w ∈ c, lets w) : wordsI (wordsT c) = c := by
  unfold wordsI
  rw [split_words h, List.map_map]
  exact (List.map_congr_left fun w h2 => dotI_T (hw w h2)).trans (List.map_id c)

open Go.Lib in
theorem wordsS_T {c : List (List Int)} (h : c ≠ []) (hw : ∀ w ∈ c, lets w) {most : Int} (hm : (c.length : Int) ≤ most) : wordsS (wordsT c) most = (c, true) := by
  unfold wordsS
  rw [split_words h, if_pos]
  · rw [List.map_map]
    exact congrArg (·, true) ((List.map_congr_left fun w h2 => by show (letS (dotT w)).1 = id w; rw [letS_T (hw w h2)]; rfl).trans (List.map_id c))
  · refine ⟨by rw [List.length_map]; exact hm, ?_⟩
    rw [List.all_eq_true]
    intro p hp
    obtain ⟨w, h2, rfl⟩ := List.mem_map.1 hp
    unfold letK
    rw [letS_T (hw w h2)]

open Go.Lib in
theorem wordsS_back {s : List UInt8} {most : Int} (h : (wordsS s most).2 = true) : wordsT (wordsS s most).1 = s := by
  unfold wordsS at h ⊢
  split at h
  · rename_i hc
    rw [if_pos hc]
    unfold wordsT
    rw [List.map_map]
    have e : (splitR 44 s).map (dotT ∘ letV) = splitR 44 s := (List.map_congr_left fun w hw => letS_back (List.all_eq_true.1 hc.2 w hw)).trans (List.map_id _)
    rw [e]
    exact (join_splitR 44 s).1
  · exact Bool.noConfusion h

open Go.Lib in
def rdCyI (s : List UInt8) : tCyclic × Bool := if validCyc (wordsI s) = true ∧ cyclicText (wordsI s) = s then (wordsI s, true) else ([], false)

open Go.Lib in
def rdCyS (s : List UInt8) : tCyclic × Bool := if (wordsS s 400).2 = true ∧ validCyc (wordsS s 400).1 = true then ((wordsS s 400).1, true) else ([], false)

open Go.Lib in
theorem rdCy_eq (s : List UInt8) : rdCyS s = rdCyI s := by
  by_cases h : ∃ c : tCyclic, validCyc c = true ∧ wordsT c = s
  · obtain ⟨c, hv, rfl⟩ := h
    obtain ⟨h1, h2⟩ := validCyc_ok hv
    have hn : c ≠ [] := by rintro rfl; exact absurd hv (by decide)
    unfold rdCyS rdCyI
    rw [wordsI_T hn h2, wordsS_T hn h2 (by omega), if_pos ⟨rfl, hv⟩, if_pos ⟨hv, by unfold cyclicText; rw [if_pos hv]⟩]
  · have hI : rdCyI s = ([], false) := by
      unfold rdCyI
      rw [if_neg]
      rintro ⟨h1, h2⟩
      unfold cyclicText at h2
      rw [if_pos h1] at h2
      exact h ⟨_, h1, h2⟩
    have hS : rdCyS s = ([], false) := by
      unfold rdCyS
      rw [if_neg]
      rintro ⟨h1, h2⟩
      exact h ⟨_, h2, wordsS_back h1⟩
    rw [hI, hS]

open Go.Lib in
theorem letS_no {s : List UInt8} (h45 : ¬ s = [45]) {k : Nat} (hk : k < (splitR 46 s).length) {e : List UInt8} (he : e = (splitR 46 s)[k]) (h2 : numK e = false) : letS s = ([], false) := by
  unfold letS
  rw [if_neg h45, if_neg]
  intro hh
  exact ff (List.all_eq_true.1 hh.2 e (by rw [he]; exact List.getElem_mem _)) h2

open Go.Lib in
theorem wordsS_no {s : List UInt8} {most : Int} {k : Nat} (hk : k < (splitR 44 s).length) {e : List UInt8} (he : e = (splitR 44 s)[k]) (h2 : letK e = false) : wordsS s most = ([], false) := by
  unfold wordsS
  rw [if_neg]
  intro hh
  exact ff (List.all_eq_true.1 hh.2 e (by rw [he]; exact List.getElem_mem _)) h2

open Go.Lib in
theorem rdCy_ct (s : List UInt8) : (cv_Cyclic (rdCyI s).1 : Int) ≤ 1000000000 := by
  unfold rdCyI
  split
  · rename_i h
    obtain ⟨h1, h2⟩ := validCyc_ok h.1
    have h3 : ct_LL (wordsI s) ≤ 1000 * (wordsI s).length := cntL_bound fun x hx => by
      have := (h2 x hx).1
      have := ct_L_len x
      omega
    show ((ct_LL (wordsI s) : Nat) : Int) ≤ _
    omega
  · exact (by decide : (cv_Cyclic [] : Int) ≤ 1000000000)

open Go.Lib in
set_option maxRecDepth 100000 in
set_option maxHeartbeats 4000000 in
theorem impl_readDotted (a0 : List UInt8) (w : World) (hG : Glob2 w) (s0 : a0.length ≤ 2000000) :
    Calls Tryd.prog 21 #[.string (bs a0)] w fun e w' => ∃ (A0' : Option Addr) (c0' : Nat), e = .returned (.slice A0' (dotI a0).length c0') ∧ So eInt w' (Fr w w') A0' c0' (dotI a0) ∧ Below w.heap.size w w' := by
  have HH1 := Held.start Nob w
  refine enter (n := 17) Tryd.func21 rfl rfl rfl fun a_2 HE3 => ?_
  refine wp_seq ?_
  refine rg ?_
  refine pl_x HE3 HH1 (wt0 rfl) (x_assign rfl) rfl rfl fun a_4 HE5 => ?_
  refine wpList_nil ?_
  clear a_2 HE3
  refine nrm ?_
  refine wp_seq ?_
  refine wp_seq ?_
  refine rg ?_
  refine pl_x HE5 HH1 (wt0 rfl) (x_move rfl) rfl rfl fun a_6 HE7 => ?_
  refine pl_x HE7 HH1 (wt0 rfl) (x_seqlB rfl rfl) rfl rfl fun a_8 HE9 => ?_
  refine wpList_nil ?_
  clear a_4 HE5 a_6 HE7
  refine nrm ?_
  refine cnd_d HE9 rfl (fun hc21 => ?_) (fun hc21 => ?_)
  · refine wp_seq ?_
    refine rg ?_
    refine pl_x HE9 HH1 (wt0 rfl) (x_assign rfl) rfl rfl fun a_10 HE11 => ?_
    refine wpList_nil ?_
    clear a_8 HE9
    refine nrm ?_
    refine wp_ret ?_
    refine (thn_ret ?_)
    refine ret1 HE11 rfl (rv_tmp rfl) ?_
    have hF : (dotI a0) = [] := by
      unfold dotI; first | (rw [if_pos (by assumption)]; done) | (rw [if_neg (by assumption), if_pos (by assumption)]; done) | (rw [if_neg (by assumption), if_neg (fun hh => ff hh (by assumption))]; done)
    exact ⟨none, 0, by first | (rw [hF] <;> rfl) | rfl | (rw [hF]; simp only [Ending.returned.injEq, Value.slice.injEq, true_and, and_true]; first | omega | (simp; done)) | (rw [hF]; simp; omega), by rw [hF]; exact (So.nil (Nat.zero_le _)), HH1.below⟩
  · refine wp_skip ?_
    refine nrm ?_
    refine wp_seq ?_
    refine rg ?_
    refine pl_x HE9 HH1 (wt0 rfl) (x_move rfl) rfl rfl fun a_12 HE13 => ?_
    refine pl fun K_14 hK15 => ?_
    refine st_call HE13 (wt0 rfl) rfl rfl rfl en_33 rfl rfl (ReplaceAll_1 a0 ([46]) ([44]) 46 44 _ (HH1.glob2 hG) (by omega) (by rfl) (by rfl) (by decide)) fun e w' hr => ?_
    have hAr22_0 := subB_len 46 44 a0
    obtain ⟨rfl, hbr22⟩ := hr
    have HH16 := HH1.on hbr22
    refine ⟨_, rfl, fun a_17 HE18 => hK15 _ _ ?_⟩
    refine pl fun K_19 hK20 => ?_
    refine st_call HE18 (wt0 rfl) rfl rfl rfl en_32 rfl rfl (impl_readDecimals (subB 46 44 a0) _ (HH16.glob2 hG) (by omega)) fun e w' hr => ?_
    obtain ⟨Ar23_0, cr23_0, rfl, hor23_0, hbr23⟩ := hr
    obtain ⟨Sr23, HH21⟩ := HH16.newS hbr23 hor23_0
    refine ⟨_, rfl, fun a_22 HE23 => hK20 _ _ ?_⟩
    refine pl_x HE23 HH21 (wt0 rfl) (x_move rfl) rfl rfl fun a_24 HE25 => ?_
    refine pl_x HE25 HH21 (wt0 rfl) (x_extract rfl rfl) rfl rfl fun a_26 HE27 => ?_
    refine pl_x HE27 HH21 (wt0 rfl) (x_extract rfl rfl) rfl rfl fun a_28 HE29 => ?_
    refine pl_x HE29 HH21 (wt0 rfl) (x_assign rfl) rfl rfl fun a_30 HE31 => ?_
    refine pl_x HE31 HH21 (wt0 rfl) (x_assign rfl) rfl rfl fun a_32 HE33 => ?_
    refine wpList_nil ?_
    clear a_8 HE9 HH1 a_12 HE13 K_14 hK15 HH16 a_17 HE18 a_22 HE23 a_24 HE25 a_26 HE27 a_28 HE29 a_30 HE31 hK20 K_19
    refine nrm ?_
    refine wp_seq ?_
    refine wp_seq ?_
    refine rg ?_
    refine pl_x HE33 HH21 (wt0 rfl) (x_move rfl) rfl rfl fun a_34 HE35 => ?_
    refine pl_x HE35 HH21 (wt0 rfl) (x_not rfl) rfl rfl fun a_36 HE37 => ?_
    refine wpList_nil ?_
    clear a_32 HE33 a_34 HE35
    refine nrm ?_
    refine cnd_nb HE37 rfl (fun hc24 => ?_) (fun hc24 => ?_)
    · refine wp_seq ?_
      refine rg ?_
      refine pl fun K_38 hK39 => ?_
      refine st_lit (m := 1) (cs := [.int .i64 (-1)]) (e := 2) HE37 HH21 (run_lit ts_41 HE37 (vs := [.int .i64 (-1)]) rfl rfl (by simp [Value.cells]) rfl (by decide)) (wt0 rfl) rfl rfl fun q25 a_40 w' HE41 HH42 => hK39 _ _ ?_
      refine pl_x HE41 HH42 (wt0 rfl) (x_assign rfl) rfl rfl fun a_43 HE44 => ?_
      refine wpList_nil ?_
      clear a_36 HE37 HH21 a_40 HE41 hK39 K_38
      refine nrm ?_
      refine wp_ret ?_
      refine (thn_ret ?_)
      refine ret1 HE44 rfl (rv_tmp rfl) ?_
      have HH45 := Held.vecFlat (E := eInt) (xs := [-1]) (css := [[.int .i64 (-1)]]) HH42 rfl (by unfold maxLen; simp) (fun i x hx => by match i with | 0 => exact ⟨_, rfl, fun _ => by simp at hx; subst hx; exact (oI (by exact ⟨by omega, by omega⟩))⟩ | i + 1 => simp at hx)
      have HH46 := HH45.vecSo
      have hF : (dotI a0) = ([-1] : List Int) := by
        unfold dotI; first | (rw [if_pos (by assumption)]; done) | (rw [if_neg (by assumption), if_pos (by assumption)]; done) | (rw [if_neg (by assumption), if_neg (fun hh => ff hh (by assumption))]; done)
      exact ⟨(some ⟨q25, 0, none⟩), 1, by first | (rw [hF] <;> rfl) | rfl | (rw [hF]; simp only [Ending.returned.injEq, Value.slice.injEq, true_and, and_true]; first | omega | (simp; done)) | (rw [hF]; simp; omega), by rw [hF]; exact (HH46.so (i := 0) rfl), HH46.below⟩
    · refine wp_skip ?_
      refine nrm ?_
      refine wp_seq ?_
      refine rg ?_
      refine pl_x HE37 HH21 (wt0 rfl) (x_move rfl) rfl rfl fun a_47 HE48 => ?_
      refine pl_x HE48 HH21 (wt0 rfl) (x_assign rfl) rfl rfl fun a_49 HE50 => ?_
      refine wpList_nil ?_
      clear a_36 HE37 a_47 HE48
      refine nrm ?_
      refine wp_ret ?_
      refine ret1 HE50 rfl (rv_tmp rfl) ?_
      have hF : (dotI a0) = (decsR (subB 46 44 a0)).1 := by
        unfold dotI; first | (rw [if_pos (by assumption)]; done) | (rw [if_neg (by assumption), if_pos (by assumption)]; done) | (rw [if_neg (by assumption), if_neg (fun hh => ff hh (by assumption))]; done)
      exact ⟨Ar23_0, cr23_0, by first | (rw [hF] <;> rfl) | rfl | (rw [hF]; simp only [Ending.returned.injEq, Value.slice.injEq, true_and, and_true]; first | omega | (simp; done)) | (rw [hF]; simp; omega), by rw [hF]; exact (HH21.so (i := 0) rfl), HH21.below⟩

open Go.Lib in
set_option maxRecDepth 100000 in
set_option maxHeartbeats 4000000 in
theorem impl_readWords (a0 : List UInt8) (w : World) (hG : Glob2 w) (s0 : a0.length ≤ 2000000) :
    Calls Tryd.prog 11 #[.string (bs a0)] w fun e w' => ∃ (A0' : Option Addr) (c0' : Nat), e = .returned (.slice A0' (wordsI a0).length c0') ∧ So (eSl eInt) w' (Fr w w') A0' c0' (wordsI a0) ∧ Below w.heap.size w w' := by
  have HH1 := Held.start Nob w
  refine enter (n := 21) Tryd.func11 rfl rfl rfl fun a_2 HE3 => ?_
  refine wp_seq ?_
  refine rg ?_
  refine pl_x HE3 HH1 (wt0 rfl) (x_assign rfl) rfl rfl fun a_4 HE5 => ?_
  refine wpList_nil ?_
  clear a_2 HE3
  refine nrm ?_
  refine wp_seq ?_
  refine rg ?_
  refine pl fun K_6 hK7 => ?_
  refine st_lit (m := 0) (cs := []) (e := 41) HE5 HH1 (run_lit ts_22 HE5 (vs := []) rfl rfl (by simp [Value.cells]) rfl (by decide)) (wt0 rfl) rfl rfl fun q21 a_8 w' HE9 HH10 => hK7 _ _ ?_
  refine pl_x HE9 HH10 (wt0 rfl) (x_assign rfl) rfl rfl fun a_11 HE12 => ?_
  refine wpList_nil ?_
  clear a_4 HE5 HH1 a_8 HE9 hK7 K_6
  refine nrm ?_
  refine wp_seq ?_
  refine wp_seq ?_
  refine rg ?_
  refine pl_x HE12 HH10 (wt0 rfl) (x_move rfl) rfl rfl fun a_13 HE14 => ?_
  refine pl fun K_15 hK16 => ?_
  refine st_call HE14 (wt0 rfl) rfl rfl rfl en_20 rfl rfl (Split_1 a0 ([44]) 44 _ (HH10.glob2 hG) (by omega) (by rfl)) fun e w' hr => ?_
  have hAr22_0 := splitR_len 44 a0
  have hAr22_1 := splitR_piece 44 a0
  obtain ⟨Ar22_0, cr22_0, rfl, hor22_0, hbr22⟩ := hr
  obtain ⟨Sr22, HH17⟩ := HH10.newS hbr22 hor22_0
  refine ⟨_, rfl, fun a_18 HE19 => hK16 _ _ ?_⟩
  refine pl_x HE19 HH17 (wt0 rfl) (x_len Tryd.underlying39 rfl) rfl rfl fun a_20 HE21 => ?_
  refine pl_x HE21 HH17 (wt0 rfl) (x_move rfl) rfl rfl fun a_22 HE23 => ?_
  refine wpList_nil ?_
  clear a_11 HE12 HH10 a_13 HE14 a_18 HE19 a_20 HE21 hK16 K_15
  refine nrm ?_
  refine wp_block ?_
  have HH24 := HH17.sel [1, 0] (by decide) rfl
  have HH25 := Held.vecFlat (E := (eSl eInt)) (xs := []) (css := []) HH24 rfl (Nat.zero_le _) (fun i x hx => by simp at hx)
  refine lp (fun m a w' => ∃ (k : Nat) (A_3 : Option Addr) (c_3 : Nat) (S_3 : Nat → Prop), m = (splitR 44 a0).length - k ∧ Env 21 [(3, .slice A_3 (List.length (((splitR 44 a0).take k).map dotI)) c_3), (10, .int .i64 (k : Int)), (8, .slice Ar22_0 ((splitR 44 a0).length) cr22_0), (9, .int .i64 (((splitR 44 a0).length : Int)))] a ∧ Held Nob w [rVec (eSl eInt) 41 S_3 A_3 c_3 (((splitR 44 a0).take k).map dotI), rSo eTxt Sr22 Ar22_0 cr22_0 (splitR 44 a0)] w' ∧ (k ≤ (splitR 44 a0).length)) ((splitR 44 a0).length - (0)) ?_ ?_
  · have E23 : ((splitR 44 a0).take 0).map dotI = ([] : List (List Int)) := by
      simp
    exact ⟨0, (some ⟨q21, 0, none⟩), (List.length (α := (List Int)) []), (fun b => b = q21), rfl, HE23.sub ⟨(by rw [E23]; rfl), (lkI rfl (by first | rfl | omega | (simp []; done))), rfl, rfl, trivial⟩, ((HH25.sel [0, 1] (by decide) rfl).to (by first | rfl | (rw [E23]; done) | (rw [E23]; rfl) | (simp only [E23]; done) | (simp only [E23]; rfl) | (rw [E23]; simp only [List.length_set]; done))), (by first | omega | assumption | (simp; done) | simp_all)⟩
  · rintro m a_26 w' ⟨k, A_3, c_3, S_3, rfl, HE27, HH28, p24_0⟩
    have hn0 : (((splitR 44 a0).take k).map dotI).length ≤ a0.length + 1 := by have := splitR_len 44 a0; rw [List.length_map, List.length_take]; omega
    refine wp_seq ?_
    refine rg ?_
    refine pl_x HE27 HH28 (wt0 rfl) (x_lss rfl rfl) rfl rfl fun a_29 HE30 => ?_
    refine wpList_nil ?_
    clear HH17 HH24 a_22 HE23 HH25 a_26 HE27
    refine nrm ?_
    refine wp_seq ?_
    refine cnd_d HE30 rfl (fun hc25 => ?_) (fun hc25 => ?_)
    · refine wp_skip ?_
      refine nrm ?_
      refine wp_seq ?_
      refine wp_block ?_
      refine wp_seq ?_
      refine rg ?_
      have ke26 : k < (splitR 44 a0).length := by omega
      obtain ⟨be26, fe26, rfl⟩ := el_own HH28 (i := 1) rfl ke26
      refine pl_x HE30 HH28 (wt0 rfl) (x_indexAddr ts_39 rfl rfl rfl rfl ke26) rfl rfl fun a_31 HE32 => ?_
      obtain ⟨y27, xy27⟩ : ∃ y_, y_ = (splitR 44 a0)[k]'(by first | exact ke26 | (simp only [List.length_set]; exact ke26) | omega | (simp only [List.length_set]; omega) | (simp; omega)) := ⟨_, rfl⟩
      have jy27 : List.length y27 ≤ 9223372036854775807 := by rw [xy27]; exact i_ownS HH28 1 rfl _
      have hx0 := xy27
      have hl0 := splitR_piece 44 a0 y27 (by rw [xy27]; exact List.getElem_mem _)
      refine pl_x HE32 HH28 (wt0 rfl) (x_load1 tv_9 rfl (c_ownS 1 rfl (by first | exact ke26 | (simp only [List.length_set]; exact ke26) | omega | (simp only [List.length_set]; omega) | (simp; omega)) xy27.symm)) rfl rfl fun a_33 HE34 => ?_
      refine pl_x HE34 HH28 (wt0 rfl) (x_assign rfl) rfl rfl fun a_35 HE36 => ?_
      refine wpList_nil ?_
      clear a_29 HE30 a_31 HE32 a_33 HE34
      refine nrm ?_
      refine rg ?_
      refine pl_x HE36 HH28 (wt0 rfl) (x_move rfl) rfl rfl fun a_37 HE38 => ?_
      refine pl_x HE38 HH28 (wt0 rfl) (x_move rfl) rfl rfl fun a_39 HE40 => ?_
      refine pl fun K_41 hK42 => ?_
      refine st_call HE40 (wt0 rfl) rfl rfl rfl en_21 rfl rfl (impl_readDotted y27 _ (HH28.glob2 hG) (by omega)) fun e w' hr => ?_
      obtain ⟨Ar28_0, cr28_0, rfl, hor28_0, hbr28⟩ := hr
      obtain ⟨Sr28, HH43⟩ := HH28.newS hbr28 hor28_0
      refine ⟨_, rfl, fun a_44 HE45 => hK42 _ _ ?_⟩
      refine pl fun K_46 hK47 => ?_
      refine st_lit (m := 1) (cs := [.slice Ar28_0 ((dotI y27).length) cr28_0]) (e := 41) HE45 HH43 (run_lit ts_22 HE45 (vs := [.slice Ar28_0 ((dotI y27).length) cr28_0]) rfl rfl (by simp [Value.cells]) rfl (by decide)) (wt0 rfl) rfl rfl fun q29 a_48 w' HE49 HH50 => hK47 _ _ ?_
      refine pl fun K_51 hK52 => ?_
      refine st_app1 HE49 HH50 ts_22 [2, 1, 0, 3] (by decide) rfl rfl rfl (by simp [Value.oneCell']) (by unfold maxLen; first | omega | (simp; done) | (simp; omega)) (by first | omega | (simp; done) | (simp; omega)) (wt0 rfl) rfl fun A30 c31 S32 a_53 w' HE54 HH55 => hK52 _ _ ?_
      refine pl_x HE54 HH55 (wt0 rfl) (x_assign rfl) rfl rfl fun a_56 HE57 => ?_
      refine wpList_nil ?_
      clear a_35 HE36 a_37 HE38 HH28 a_39 HE40 K_41 hK42 a_44 HE45 HH43 K_46 hK47 a_48 HE49 HH50 a_53 HE54 hK52 K_51
      refine blk_n ?_
      refine nrm ?_
      refine rg ?_
      refine pl_x HE57 HH55 (wt0 rfl) (x_add rfl rfl (by exact ⟨by omega, by omega⟩)) rfl rfl fun a_58 HE59 => ?_
      refine pl_x HE59 HH55 (wt0 rfl) (x_move rfl) rfl rfl fun a_60 HE61 => ?_
      refine wpList_nil ?_
      clear a_56 HE57 a_58 HE59
      have E33 : ((splitR 44 a0).take (k + 1)).map dotI = (((splitR 44 a0).take k).map dotI ++ [(dotI y27)]) := by
        exact map_snoc _ (by omega) hx0
      exact nrm ⟨(splitR 44 a0).length - (k + 1), (by omega), k + 1, A30, c31, S32, rfl, HE61.sub ⟨(by rw [E33]; rfl), (lkI rfl (by first | rfl | omega | (simp [p24_0, hc25, xy27]; done))), rfl, rfl, trivial⟩, ((HH55.sel [0, 2] (by decide) rfl).to (by first | rfl | (rw [E33]; done) | (rw [E33]; rfl) | (simp only [E33]; done) | (simp only [E33]; rfl) | (rw [E33]; simp only [List.length_set]; done))), (by first | omega | assumption | (simp; done) | simp_all)⟩
    · refine wp_exit ?_
      refine (thn_exit (thn_exit (blk_hit ?_)))
      refine nrm ?_
      refine wp_seq ?_
      refine rg ?_
      refine pl_x HE30 HH28 (wt0 rfl) (x_move rfl) rfl rfl fun a_62 HE63 => ?_
      refine pl_x HE63 HH28 (wt0 rfl) (x_assign rfl) rfl rfl fun a_64 HE65 => ?_
      refine wpList_nil ?_
      clear a_29 HE30 a_62 HE63
      refine nrm ?_
      refine wp_ret ?_
      refine ret1 HE65 rfl (rv_tmp rfl) ?_
      have HH66 := HH28.vecSo
      have hF : (wordsI a0) = ((splitR 44 a0).take k).map dotI := by
        unfold wordsI; rw [List.take_of_length_le (by omega)]
      exact ⟨A_3, c_3, by first | (rw [hF] <;> rfl) | rfl | (rw [hF]; simp only [Ending.returned.injEq, Value.slice.injEq, true_and, and_true]; first | omega | (simp; done)) | (rw [hF]; simp; omega), by rw [hF]; exact (HH66.so (i := 0) rfl), HH66.below⟩

open Go.Lib in
set_option maxRecDepth 100000 in
set_option maxHeartbeats 4000000 in
theorem impl_ReadCyclic (a0 : List UInt8) (w : World) (hG : Glob2 w) (s0 : a0.length ≤ 2000000) :
    Calls Tryd.prog 5 #[.string (bs a0)] w fun e w' => ∃ (es0' : List Value), e = .returned (.tuple #[.agg es0'.toArray, .bool (rdCyI a0).2]) ∧ eCyclic.O w' (Fr w w') es0' (rdCyI a0).1 ∧ Below w.heap.size w w' := by
  have HH1 := Held.start Nob w
  refine enter (n := 19) Tryd.func5 rfl rfl rfl fun a_2 HE3 => ?_
  refine wp_seq ?_
  refine rg ?_
  refine pl fun K_4 hK5 => ?_
  refine st_alloc HE3 HH1 tv_24 (wt0 rfl) rfl fun q21 a_6 w' HE7 HH8 => hK5 _ _ ?_
  refine pl_x HE7 HH8 (wt0 rfl) (x_assign rfl) rfl rfl fun a_9 HE10 => ?_
  refine wpList_nil ?_
  clear a_2 HE3 HH1 a_6 HE7 hK5 K_4
  refine nrm ?_
  refine wp_seq ?_
  refine rg ?_
  refine pl_x HE10 HH8 (wt0 rfl) (x_move rfl) rfl rfl fun a_11 HE12 => ?_
  refine pl fun K_13 hK14 => ?_
  refine st_call HE12 (wt0 rfl) rfl rfl rfl en_11 rfl rfl (impl_readWords a0 _ (HH8.glob2 hG) (by omega)) fun e w' hr => ?_
  obtain ⟨Ar22_0, cr22_0, rfl, hor22_0, hbr22⟩ := hr
  obtain ⟨Sr22, HH15⟩ := HH8.newS hbr22 hor22_0
  refine ⟨_, rfl, fun a_16 HE17 => hK14 _ _ ?_⟩
  refine pl_x HE17 HH15 (wt0 rfl) (show XS _ _ _ _ (.agg #[.slice Ar22_0 ((wordsI a0).length) cr22_0]) from x_build (vs := [(0, .slice Ar22_0 ((wordsI a0).length) cr22_0)]) tb_24 rfl (by simp [Value.oneCell'])) rfl rfl fun a_18 HE19 => ?_
  refine pl fun K_20 hK21 => ?_
  refine st_alloc HE19 HH15 tv_24 (wt0 rfl) rfl fun q23 a_22 w' HE23 HH24 => hK21 _ _ ?_
  refine pl fun K_25 hK26 => ?_
  refine st_store (vs := [.slice Ar22_0 ((wordsI a0).length) cr22_0]) 0 HE23 HH24 tv_24 rfl rfl rfl rfl rfl rfl (by simp [Value.oneCell']) (wt0 rfl) fun w' HH27 => hK26 _ _ ?_
  refine wpList_nil ?_
  clear a_9 HE10 HH8 a_11 HE12 a_16 HE17 K_13 hK14 a_18 HE19 HH15 K_20 hK21 HH24 hK26 K_25
  refine nrm ?_
  refine wp_seq ?_
  refine wp_seq ?_
  refine rg ?_
  refine pl_x HE23 HH27 (wt0 rfl) (x_loadN (cs := [.slice Ar22_0 ((wordsI a0).length) cr22_0]) tv_24 rfl rfl (c_blkN 0 rfl)) rfl rfl fun a_28 HE29 => ?_
  refine pl fun K_30 hK31 => ?_
  refine st_call HE29 (wt0 rfl) rfl rfl rfl en_12 rfl rfl (impl_ValidCyclic [.slice Ar22_0 ((wordsI a0).length) cr22_0] (wordsI a0) _ (rep_Cyclic (x := (wordsI a0)) (HH27.sl (i := 1) rfl))) fun e w' hr => ?_
  obtain ⟨rfl, hbr24⟩ := hr
  have HH32 := HH27.on hbr24
  refine ⟨_, rfl, fun a_33 HE34 => hK31 _ _ ?_⟩
  refine pl_x HE34 HH32 (wt0 rfl) (x_not rfl) rfl rfl fun a_35 HE36 => ?_
  refine pl_x HE36 HH32 (wt0 rfl) (x_move rfl) rfl rfl fun a_37 HE38 => ?_
  rcases Bool.eq_false_or_eq_true ((validCyc (wordsI a0))) with hc25 | hc25
  · refine pl_x HE38 HH32 (wtT HE38 rfl rfl rfl (not_f hc25)) (x_loadN (cs := [.slice Ar22_0 ((wordsI a0).length) cr22_0]) tv_24 rfl rfl (c_blkN 0 rfl)) rfl rfl fun a_39 HE40 => ?_
    refine pl fun K_41 hK42 => ?_
    refine st_call HE40 (wtT HE40 rfl rfl rfl (not_f hc25)) rfl rfl rfl en_13 rfl rfl (impl_CyclicText [.slice Ar22_0 ((wordsI a0).length) cr22_0] (wordsI a0) _ (rep_Cyclic (x := (wordsI a0)) (HH32.sl (i := 1) rfl)) (HH32.glob hG.1)) fun e w' hr => ?_
    obtain ⟨rfl, hbr26⟩ := hr
    have HH43 := HH32.on hbr26
    refine ⟨_, rfl, fun a_44 HE45 => hK42 _ _ ?_⟩
    refine pl_x HE45 HH43 (wtT HE45 rfl rfl rfl (not_f hc25)) (x_move rfl) rfl rfl fun a_46 HE47 => ?_
    refine pl_x HE47 HH43 (wtT HE47 rfl rfl rfl (not_f hc25)) (x_sneqB rfl rfl) rfl rfl fun a_48 HE49 => ?_
    refine pl_x HE49 HH43 (wt0 rfl) (x_pickF rfl (not_f hc25) rfl) rfl rfl fun a_50 HE51 => ?_
    refine wpList_nil ?_
    clear a_22 HE23 HH27 a_28 HE29 a_33 HE34 a_35 HE36 a_37 HE38 K_30 hK31 HH32 a_39 HE40 a_44 HE45 a_46 HE47 a_48 HE49 hK42 K_41
    refine nrm ?_
    refine cnd_nd HE51 rfl (fun hc27 => ?_) (fun hc27 => ?_)
    · refine wp_seq ?_
      refine rg ?_
      refine pl_x HE51 HH43 (wt0 rfl) (show XS _ _ _ _ (.agg #[.slice none (0) 0]) from x_build (vs := []) tb_24 rfl (by simp [Value.oneCell'])) rfl rfl fun a_52 HE53 => ?_
      refine pl fun K_54 hK55 => ?_
      refine st_store (vs := [.slice none (0) 0]) 2 HE53 HH43 tv_24 rfl rfl rfl rfl rfl rfl (by simp [Value.oneCell']) (wt0 rfl) fun w' HH56 => hK55 _ _ ?_
      refine pl_x HE53 HH56 (wt0 rfl) (x_assign rfl) rfl rfl fun a_57 HE58 => ?_
      refine wpList_nil ?_
      clear a_50 HE51 HH43 a_52 HE53 hK55 K_54
      refine nrm ?_
      refine wp_ret ?_
      refine (thn_ret ?_)
      refine ret2 HE58 rfl (rv_cell rfl (tv_24.loadN (cs := [.slice none (0) 0]) rfl (c_blkN 2 rfl _ HH56))) (rv_tmp rfl) ?_
      have HH59 := HH56.flatO (E := eCyclic) (cs := [.slice none (0) 0]) (x := []) (fun _ => (oSl (So.nil (Nat.zero_le _))))
      have hF : (rdCyI a0) = ([], false) := by
        unfold rdCyI; first | (rw [if_pos ⟨by assumption, by assumption⟩]; done) | (exact if_neg (fun hh => ff hh.1 (by assumption))) | (exact if_neg (fun hh => absurd hh.2 (by assumption)))
      exact ⟨_, by first | (rw [hF] <;> rfl) | rfl | (rw [hF]; simp only [Ending.returned.injEq, Value.slice.injEq, true_and, and_true]; first | omega | (simp; done)) | (rw [hF]; simp; omega), by rw [hF]; exact (HH59.o (i := 0) rfl), HH59.below⟩
    · refine wp_skip ?_
      refine nrm ?_
      refine wp_seq ?_
      refine rg ?_
      refine pl_x HE51 HH43 (wt0 rfl) (x_loadN (cs := [.slice Ar22_0 ((wordsI a0).length) cr22_0]) tv_24 rfl rfl (c_blkN 0 rfl)) rfl rfl fun a_60 HE61 => ?_
      refine pl fun K_62 hK63 => ?_
      refine st_store (vs := [.slice Ar22_0 ((wordsI a0).length) cr22_0]) 2 HE61 HH43 tv_24 rfl rfl rfl rfl rfl rfl (by simp [Value.oneCell']) (wt0 rfl) fun w' HH64 => hK63 _ _ ?_
      refine pl_x HE61 HH64 (wt0 rfl) (x_assign rfl) rfl rfl fun a_65 HE66 => ?_
      refine wpList_nil ?_
      clear a_50 HE51 HH43 a_60 HE61 hK63 K_62
      refine nrm ?_
      refine wp_ret ?_
      refine ret2 HE66 rfl (rv_cell rfl (tv_24.loadN (cs := [.slice Ar22_0 ((wordsI a0).length) cr22_0]) rfl (c_blkN 2 rfl _ HH64))) (rv_tmp rfl) ?_
      have HH67 := HH64.sel [1, 0, 2] (by decide) rfl
      obtain ⟨S28, HH68⟩ : ∃ S, Held Nob w (rO eCyclic S [.slice Ar22_0 ((wordsI a0).length) cr22_0] (wordsI a0) :: _) _ := ⟨_, HH67⟩
      have hF : (rdCyI a0) = ((wordsI a0), true) := by
        unfold rdCyI; first | (rw [if_pos ⟨by assumption, by assumption⟩]; done) | (exact if_neg (fun hh => ff hh.1 (by assumption))) | (exact if_neg (fun hh => absurd hh.2 (by assumption)))
      exact ⟨_, by first | (rw [hF] <;> rfl) | rfl | (rw [hF]; simp only [Ending.returned.injEq, Value.slice.injEq, true_and, and_true]; first | omega | (simp; done)) | (rw [hF]; simp; omega), by rw [hF]; exact (HH68.o (i := 0) rfl), HH68.below⟩
  · refine pl_no HE38 (wtF HE38 rfl rfl rfl (not_t hc25)) rfl rfl fun a_69 HE70 => ?_
    refine pl_no HE70 (wtF HE70 rfl rfl rfl (not_t hc25)) rfl rfl fun a_71 HE72 => ?_
    refine pl_no HE72 (wtF HE72 rfl rfl rfl (not_t hc25)) rfl rfl fun a_73 HE74 => ?_
    refine pl_no HE74 (wtF HE74 rfl rfl rfl (not_t hc25)) rfl rfl fun a_75 HE76 => ?_
    refine pl_x HE76 HH32 (wt0 rfl) (x_pickT rfl (not_t hc25) rfl) rfl rfl fun a_77 HE78 => ?_
    refine wpList_nil ?_
    clear a_22 HE23 HH27 a_28 HE29 a_33 HE34 a_35 HE36 a_37 HE38 a_69 HE70 a_71 HE72 a_73 HE74 a_75 HE76 hK31 K_30
    refine nrm ?_
    refine cndT HE78 rfl rfl ?_
    refine wp_seq ?_
    refine rg ?_
    refine pl_x HE78 HH32 (wt0 rfl) (show XS _ _ _ _ (.agg #[.slice none (0) 0]) from x_build (vs := []) tb_24 rfl (by simp [Value.oneCell'])) rfl rfl fun a_79 HE80 => ?_
    refine pl fun K_81 hK82 => ?_
    refine st_store (vs := [.slice none (0) 0]) 2 HE80 HH32 tv_24 rfl rfl rfl rfl rfl rfl (by simp [Value.oneCell']) (wt0 rfl) fun w' HH83 => hK82 _ _ ?_
    refine pl_x HE80 HH83 (wt0 rfl) (x_assign rfl) rfl rfl fun a_84 HE85 => ?_
    refine wpList_nil ?_
    clear a_77 HE78 HH32 a_79 HE80 hK82 K_81
    refine nrm ?_
    refine wp_ret ?_
    refine (thn_ret ?_)
    refine ret2 HE85 rfl (rv_cell rfl (tv_24.loadN (cs := [.slice none (0) 0]) rfl (c_blkN 2 rfl _ HH83))) (rv_tmp rfl) ?_
    have HH86 := HH83.flatO (E := eCyclic) (cs := [.slice none (0) 0]) (x := []) (fun _ => (oSl (So.nil (Nat.zero_le _))))
    have hF : (rdCyI a0) = ([], false) := by
      unfold rdCyI; first | (rw [if_pos ⟨by assumption, by assumption⟩]; done) | (exact if_neg (fun hh => ff hh.1 (by assumption))) | (exact if_neg (fun hh => absurd hh.2 (by assumption)))
    exact ⟨_, by first | (rw [hF] <;> rfl) | rfl | (rw [hF]; simp only [Ending.returned.injEq, Value.slice.injEq, true_and, and_true]; first | omega | (simp; done)) | (rw [hF]; simp; omega), by rw [hF]; exact (HH86.o (i := 0) rfl), HH86.below⟩

open Go.Lib in
set_option maxRecDepth 100000 in
set_option maxHeartbeats 4000000 in
theorem spec_l09ReadLetters (a0 : List UInt8) (w : World) (s0 : a0.length ≤ 2000000) :
    Calls Tryd.prog 18 #[.string (bs a0)] w fun e w' => ∃ (A0' : Option Addr) (c0' : Nat), e = .returned (.tuple #[.slice A0' (letS a0).1.length c0', .bool (letS a0).2]) ∧ So eInt w' (Fr w w') A0' c0' (letS a0).1 ∧ Below w.heap.size w w' := by
  have HH1 := Held.start Nob w
  refine enter (n := 39) Tryd.func18 rfl rfl rfl fun a_2 HE3 => ?_
  refine wp_seq ?_
  refine rg ?_
  refine pl_x HE3 HH1 (wt0 rfl) (x_assign rfl) rfl rfl fun a_4 HE5 => ?_
  refine pl_x HE5 HH1 (wt0 rfl) (x_assign rfl) rfl rfl fun a_6 HE7 => ?_
  refine wpList_nil ?_
  clear a_2 HE3 a_4 HE5
  refine nrm ?_
  refine wp_seq ?_
  refine rg ?_
  refine pl fun K_8 hK9 => ?_
  refine st_lit (m := 0) (cs := []) (e := 2) HE7 HH1 (run_lit ts_41 HE7 (vs := []) rfl rfl (by simp [Value.cells]) rfl (by decide)) (wt0 rfl) rfl rfl fun q21 a_10 w' HE11 HH12 => hK9 _ _ ?_
  refine pl_x HE11 HH12 (wt0 rfl) (x_assign rfl) rfl rfl fun a_13 HE14 => ?_
  refine wpList_nil ?_
  clear a_6 HE7 HH1 a_10 HE11 hK9 K_8
  refine nrm ?_
  refine wp_seq ?_
  refine wp_seq ?_
  refine rg ?_
  refine pl_x HE14 HH12 (wt0 rfl) (x_move rfl) rfl rfl fun a_15 HE16 => ?_
  refine pl_x HE16 HH12 (wt0 rfl) (x_seqlB rfl rfl) rfl rfl fun a_17 HE18 => ?_
  refine wpList_nil ?_
  clear a_13 HE14 a_15 HE16
  refine nrm ?_
  refine cnd_d HE18 rfl (fun hc22 => ?_) (fun hc22 => ?_)
  · refine wp_seq ?_
    refine rg ?_
    refine pl_x HE18 HH12 (wt0 rfl) (x_move rfl) rfl rfl fun a_19 HE20 => ?_
    refine pl_x HE20 HH12 (wt0 rfl) (x_assign rfl) rfl rfl fun a_21 HE22 => ?_
    refine pl_x HE22 HH12 (wt0 rfl) (x_assign rfl) rfl rfl fun a_23 HE24 => ?_
    refine wpList_nil ?_
    clear a_17 HE18 a_19 HE20 a_21 HE22
    refine nrm ?_
    refine wp_ret ?_
    refine (thn_ret ?_)
    refine ret2 HE24 rfl (rv_tmp rfl) (rv_tmp rfl) ?_
    have HH25 := Held.vecFlat (E := eInt) (xs := []) (css := []) HH12 rfl (Nat.zero_le _) (fun i x hx => by simp at hx)
    have HH26 := HH25.vecSo
    have hF : (letS a0) = (([] : List Int), true) := by
      first | (exact letS_no (by assumption) (by omega) hx0 (by assumption)) | (unfold letS; rw [if_pos (by assumption)]; done) | (unfold letS; rw [if_neg (by assumption), if_neg (fun hh => by omega)]; done) | (exact letS_no (by assumption) (by omega) hx0 (by assumption)) | (have hp := p0_1; rw [List.take_of_length_le (by omega)] at hp ⊢; unfold letS; rw [if_neg (by assumption), if_pos ⟨by omega, hp⟩])
    exact ⟨(some ⟨q21, 0, none⟩), 0, by first | (rw [hF] <;> rfl) | rfl | (rw [hF]; simp only [Ending.returned.injEq, Value.slice.injEq, true_and, and_true]; first | omega | (simp; done)) | (rw [hF]; simp; omega), by rw [hF]; exact (HH26.so (i := 0) rfl), HH26.below⟩
  · refine wp_skip ?_
    refine nrm ?_
    refine wp_seq ?_
    refine rg ?_
    refine pl_x HE18 HH12 (wt0 rfl) (x_move rfl) rfl rfl fun a_27 HE28 => ?_
    refine pl fun K_29 hK30 => ?_
    refine st_call HE28 (wt0 rfl) rfl rfl rfl en_17 rfl rfl (spec_l01Split a0 _ 46 _ (by omega) (by rfl)) fun e w' hr => ?_
    have hAr23_0 := splitR_len 46 a0
    have hAr23_1 := splitR_piece 46 a0
    obtain ⟨Ar23_0, cr23_0, rfl, hor23_0, hbr23⟩ := hr
    obtain ⟨Sr23, HH31⟩ := HH12.newS hbr23 hor23_0
    refine ⟨_, rfl, fun a_32 HE33 => hK30 _ _ ?_⟩
    refine pl_x HE33 HH31 (wt0 rfl) (x_assign rfl) rfl rfl fun a_34 HE35 => ?_
    refine wpList_nil ?_
    clear a_17 HE18 HH12 a_27 HE28 a_32 HE33 hK30 K_29
    refine nrm ?_
    refine wp_seq ?_
    refine wp_seq ?_
    refine rg ?_
    refine pl_x HE35 HH31 (wt0 rfl) (x_move rfl) rfl rfl fun a_36 HE37 => ?_
    refine pl_x HE37 HH31 (wt0 rfl) (x_len Tryd.underlying39 rfl) rfl rfl fun a_38 HE39 => ?_
    refine pl_x HE39 HH31 (wt0 rfl) (x_gtr rfl rfl) rfl rfl fun a_40 HE41 => ?_
    refine wpList_nil ?_
    clear a_34 HE35 a_36 HE37 a_38 HE39
    refine nrm ?_
    refine cnd_d HE41 rfl (fun hc24 => ?_) (fun hc24 => ?_)
    · refine wp_seq ?_
      refine rg ?_
      refine pl_x HE41 HH31 (wt0 rfl) (x_assign rfl) rfl rfl fun a_42 HE43 => ?_
      refine pl_x HE43 HH31 (wt0 rfl) (x_assign rfl) rfl rfl fun a_44 HE45 => ?_
      refine wpList_nil ?_
      clear a_40 HE41 a_42 HE43
      refine nrm ?_
      refine wp_ret ?_
      refine (thn_ret ?_)
      refine ret2 HE45 rfl (rv_tmp rfl) (rv_tmp rfl) ?_
      have hF : (letS a0) = ([], false) := by
        first | (exact letS_no (by assumption) (by omega) hx0 (by assumption)) | (unfold letS; rw [if_pos (by assumption)]; done) | (unfold letS; rw [if_neg (by assumption), if_neg (fun hh => by omega)]; done) | (exact letS_no (by assumption) (by omega) hx0 (by assumption)) | (have hp := p0_1; rw [List.take_of_length_le (by omega)] at hp ⊢; unfold letS; rw [if_neg (by assumption), if_pos ⟨by omega, hp⟩])
      exact ⟨none, 0, by first | (rw [hF] <;> rfl) | rfl | (rw [hF]; simp only [Ending.returned.injEq, Value.slice.injEq, true_and, and_true]; first | omega | (simp; done)) | (rw [hF]; simp; omega), by rw [hF]; exact (So.nil (Nat.zero_le _)), HH31.below⟩
    · refine wp_skip ?_
      refine nrm ?_
      refine wp_seq ?_
      refine wp_seq ?_
      refine rg ?_
      refine pl_x HE41 HH31 (wt0 rfl) (x_assign rfl) rfl rfl fun a_46 HE47 => ?_
      refine wpList_nil ?_
      clear a_40 HE41
      refine nrm ?_
      refine wp_block ?_
      have HH48 := HH31.sel [1, 0] (by decide) rfl
      have HH49 := Held.vecFlat (E := eInt) (xs := []) (css := []) HH48 rfl (Nat.zero_le _) (fun i x hx => by simp at hx)
      refine lp (fun m a w' => ∃ (k : Nat) (A_4 : Option Addr) (c_4 : Nat) (S_4 : Nat → Prop), m = (splitR 46 a0).length - k ∧ Env 39 [(4, .slice A_4 (List.length (((splitR 46 a0).take k).map numW)) c_4), (6, .int .i64 (k : Int)), (5, .slice Ar23_0 ((splitR 46 a0).length) cr23_0)] a ∧ Held Nob w [rVec eInt 2 S_4 A_4 c_4 (((splitR 46 a0).take k).map numW), rSo eTxt Sr23 Ar23_0 cr23_0 (splitR 46 a0)] w' ∧ (k ≤ (splitR 46 a0).length) ∧ (((splitR 46 a0).take k).all numK = true)) ((splitR 46 a0).length - (0)) ?_ ?_
      · have E25 : ((splitR 46 a0).take 0).map numW = ([] : List Int) := by
          simp
        exact ⟨0, (some ⟨q21, 0, none⟩), (List.length (α := Int) []), (fun b => b = q21), rfl, HE47.sub ⟨(by rw [E25]; rfl), (lkI rfl (by first | rfl | omega | (simp [hc22, hc24]; done))), rfl, trivial⟩, ((HH49.sel [0, 1] (by decide) rfl).to (by first | rfl | (rw [E25]; done) | (rw [E25]; rfl) | (simp only [E25]; done) | (simp only [E25]; rfl) | (rw [E25]; simp only [List.length_set]; done))), (by first | omega | assumption | (simp; done) | simp_all), (by simp)⟩
      · rintro m a_50 w' ⟨k, A_4, c_4, S_4, rfl, HE51, HH52, p26_0, p26_1⟩
        have hn0 : (((splitR 46 a0).take k).map numW).length ≤ a0.length + 1 := by have := splitR_len 46 a0; rw [List.length_map, List.length_take]; omega
        refine wp_seq ?_
        refine wp_seq ?_
        refine rg ?_
        refine pl_x HE51 HH52 (wt0 rfl) (x_move rfl) rfl rfl fun a_53 HE54 => ?_
        refine pl_x HE54 HH52 (wt0 rfl) (x_move rfl) rfl rfl fun a_55 HE56 => ?_
        refine pl_x HE56 HH52 (wt0 rfl) (x_len Tryd.underlying39 rfl) rfl rfl fun a_57 HE58 => ?_
        refine pl_x HE58 HH52 (wt0 rfl) (x_lss rfl rfl) rfl rfl fun a_59 HE60 => ?_
        refine wpList_nil ?_
        clear HH31 HH48 a_46 HE47 HH49 a_50 HE51 a_53 HE54 a_55 HE56 a_57 HE58
        refine nrm ?_
        refine cnd_d HE60 rfl (fun hc27 => ?_) (fun hc27 => ?_)
        · refine wp_skip ?_
          refine nrm ?_
          refine wp_seq ?_
          refine wp_block ?_
          refine wp_seq ?_
          refine rg ?_
          refine pl_x HE60 HH52 (wt0 rfl) (x_move rfl) rfl rfl fun a_61 HE62 => ?_
          refine pl_x HE62 HH52 (wt0 rfl) (x_move rfl) rfl rfl fun a_63 HE64 => ?_
          have ke28 : k < (splitR 46 a0).length := by omega
          obtain ⟨be28, fe28, rfl⟩ := el_own HH52 (i := 1) rfl ke28
          refine pl_x HE64 HH52 (wt0 rfl) (x_indexAddr ts_39 rfl rfl rfl rfl ke28) rfl rfl fun a_65 HE66 => ?_
          obtain ⟨y29, xy29⟩ : ∃ y_, y_ = (splitR 46 a0)[k]'(by first | exact ke28 | (simp only [List.length_set]; exact ke28) | omega | (simp only [List.length_set]; omega) | (simp; omega)) := ⟨_, rfl⟩
          have jy29 : List.length y29 ≤ 9223372036854775807 := by rw [xy29]; exact i_ownS HH52 1 rfl _
          have hx0 := xy29
          have hl0 := splitR_piece 46 a0 y29 (by rw [xy29]; exact List.getElem_mem _)
          refine pl_x HE66 HH52 (wt0 rfl) (x_load1 tv_9 rfl (c_ownS 1 rfl (by first | exact ke28 | (simp only [List.length_set]; exact ke28) | omega | (simp only [List.length_set]; omega) | (simp; omega)) xy29.symm)) rfl rfl fun a_67 HE68 => ?_
          refine pl fun K_69 hK70 => ?_
          refine st_call HE68 (wt0 rfl) rfl rfl rfl en_29 rfl rfl (spec_l01Number y29 _ (by omega)) fun e w' hr => ?_
          have hAr30_0 := numC_bd y29
          obtain ⟨rfl, hbr30⟩ := hr
          have HH71 := HH52.on hbr30
          refine ⟨_, rfl, fun a_72 HE73 => hK70 _ _ ?_⟩
          refine pl_x HE73 HH71 (wt0 rfl) (x_move rfl) rfl rfl fun a_74 HE75 => ?_
          refine pl_x HE75 HH71 (wt0 rfl) (x_extract rfl rfl) rfl rfl fun a_76 HE77 => ?_
          refine pl_x HE77 HH71 (wt0 rfl) (x_extract rfl rfl) rfl rfl fun a_78 HE79 => ?_
          refine pl_x HE79 HH71 (wt0 rfl) (x_assign rfl) rfl rfl fun a_80 HE81 => ?_
          refine pl_x HE81 HH71 (wt0 rfl) (x_assign rfl) rfl rfl fun a_82 HE83 => ?_
          refine wpList_nil ?_
          clear a_59 HE60 a_61 HE62 a_63 HE64 a_65 HE66 HH52 a_67 HE68 a_72 HE73 a_74 HE75 a_76 HE77 a_78 HE79 a_80 HE81 hK70 K_69
          refine nrm ?_
          refine wp_seq ?_
          refine wp_seq ?_
          refine rg ?_
          refine pl_x HE83 HH71 (wt0 rfl) (x_move rfl) rfl rfl fun a_84 HE85 => ?_
          refine pl_x HE85 HH71 (wt0 rfl) (x_not rfl) rfl rfl fun a_86 HE87 => ?_
          refine wpList_nil ?_
          clear a_82 HE83 a_84 HE85
          refine nrm ?_
          refine cnd_nb HE87 rfl (fun hc31 => ?_) (fun hc31 => ?_)
          · refine wp_seq ?_
            refine rg ?_
            refine pl_x HE87 HH71 (wt0 rfl) (x_assign rfl) rfl rfl fun a_88 HE89 => ?_
            refine pl_x HE89 HH71 (wt0 rfl) (x_assign rfl) rfl rfl fun a_90 HE91 => ?_
            refine wpList_nil ?_
            clear a_86 HE87 a_88 HE89
            refine nrm ?_
            refine wp_ret ?_
            refine (thn_ret (blk_ret (thn_ret (thn_ret (blk_ret (thn_ret ?_))))))
            refine ret2 HE91 rfl (rv_tmp rfl) (rv_tmp rfl) ?_
            have hF : (letS a0) = ([], false) := by
              first | (exact letS_no (by assumption) (by omega) hx0 (by assumption)) | (unfold letS; rw [if_pos (by assumption)]; done) | (unfold letS; rw [if_neg (by assumption), if_neg (fun hh => by omega)]; done) | (exact letS_no (by assumption) (by omega) hx0 (by assumption)) | (have hp := p26_1; rw [List.take_of_length_le (by omega)] at hp ⊢; unfold letS; rw [if_neg (by assumption), if_pos ⟨by omega, hp⟩])
            exact ⟨none, 0, by first | (rw [hF] <;> rfl) | rfl | (rw [hF]; simp only [Ending.returned.injEq, Value.slice.injEq, true_and, and_true]; first | omega | (simp; done)) | (rw [hF]; simp; omega), by rw [hF]; exact (So.nil (Nat.zero_le _)), HH71.below⟩
          · refine wp_skip ?_
            refine nrm ?_
            refine rg ?_
            refine pl_x HE87 HH71 (wt0 rfl) (x_move rfl) rfl rfl fun a_92 HE93 => ?_
            refine pl_x HE93 HH71 (wt0 rfl) (x_move rfl) rfl rfl fun a_94 HE95 => ?_
            refine pl fun K_96 hK97 => ?_
            refine st_lit (m := 1) (cs := [.int .i64 ((numC y29).1)]) (e := 2) HE95 HH71 (run_lit ts_41 HE95 (vs := [.int .i64 ((numC y29).1)]) rfl rfl (by simp [Value.cells]) rfl (by decide)) (wt0 rfl) rfl rfl fun q32 a_98 w' HE99 HH100 => hK97 _ _ ?_
            refine pl fun K_101 hK102 => ?_
            refine st_app1F ((numC y29).1) HE99 HH100 ts_41 [1, 0, 2] (by decide) rfl (fun _ => (oI (by exact ⟨by omega, by omega⟩))) rfl rfl (by simp [Value.oneCell']) (by unfold maxLen; first | omega | (simp; done) | (simp; omega)) (by first | omega | (simp; done) | (simp; omega)) (wt0 rfl) rfl fun A33 c34 S35 a_103 w' HE104 HH105 => hK102 _ _ ?_
            refine pl_x HE104 HH105 (wt0 rfl) (x_assign rfl) rfl rfl fun a_106 HE107 => ?_
            refine wpList_nil ?_
            clear a_86 HE87 a_92 HE93 a_94 HE95 HH71 K_96 hK97 a_98 HE99 HH100 a_103 HE104 hK102 K_101
            refine blk_n ?_
            refine nrm ?_
            refine rg ?_
            refine pl_x HE107 HH105 (wt0 rfl) (x_move rfl) rfl rfl fun a_108 HE109 => ?_
            refine pl_x HE109 HH105 (wt0 rfl) (x_add rfl rfl (by exact ⟨by omega, by omega⟩)) rfl rfl fun a_110 HE111 => ?_
            refine pl_x HE111 HH105 (wt0 rfl) (x_assign rfl) rfl rfl fun a_112 HE113 => ?_
            refine wpList_nil ?_
            clear a_106 HE107 a_108 HE109 a_110 HE111
            have E36 : ((splitR 46 a0).take (k + 1)).map numW = (((splitR 46 a0).take k).map numW ++ [(numC y29).1]) := by
              exact map_snoc _ (by omega) hx0
            exact nrm ⟨(splitR 46 a0).length - (k + 1), (by omega), k + 1, A33, c34, S35, rfl, HE113.sub ⟨(by rw [E36]; rfl), (lkI rfl (by first | rfl | omega | (simp [hc22, hc24, p26_0, p26_1, hc27, xy29, hc31]; done))), rfl, trivial⟩, ((HH105.sel [0, 1] (by decide) rfl).to (by first | rfl | (rw [E36]; done) | (rw [E36]; rfl) | (simp only [E36]; done) | (simp only [E36]; rfl) | (rw [E36]; simp only [List.length_set]; done))), (by first | omega | assumption | (simp; done) | simp_all), (by exact all_snoc (by omega) p26_1 hx0 (by assumption))⟩
        · refine wp_exit ?_
          refine (thn_exit (thn_exit (blk_hit ?_)))
          refine nrm ?_
          refine wp_seq ?_
          refine rg ?_
          refine pl_x HE60 HH52 (wt0 rfl) (x_move rfl) rfl rfl fun a_114 HE115 => ?_
          refine pl_x HE115 HH52 (wt0 rfl) (x_assign rfl) rfl rfl fun a_116 HE117 => ?_
          refine pl_x HE117 HH52 (wt0 rfl) (x_assign rfl) rfl rfl fun a_118 HE119 => ?_
          refine wpList_nil ?_
          clear a_59 HE60 a_114 HE115 a_116 HE117
          refine nrm ?_
          refine wp_ret ?_
          refine ret2 HE119 rfl (rv_tmp rfl) (rv_tmp rfl) ?_
          have HH120 := HH52.vecSo
          have hF : (letS a0) = (((splitR 46 a0).take k).map numW, true) := by
            first | (exact letS_no (by assumption) (by omega) hx0 (by assumption)) | (unfold letS; rw [if_pos (by assumption)]; done) | (unfold letS; rw [if_neg (by assumption), if_neg (fun hh => by omega)]; done) | (exact letS_no (by assumption) (by omega) hx0 (by assumption)) | (have hp := p26_1; rw [List.take_of_length_le (by omega)] at hp ⊢; unfold letS; rw [if_neg (by assumption), if_pos ⟨by omega, hp⟩])
          exact ⟨A_4, c_4, by first | (rw [hF] <;> rfl) | rfl | (rw [hF]; simp only [Ending.returned.injEq, Value.slice.injEq, true_and, and_true]; first | omega | (simp; done)) | (rw [hF]; simp; omega), by rw [hF]; exact (HH120.so (i := 0) rfl), HH120.below⟩

open Go.Lib in
set_option maxRecDepth 100000 in
set_option maxHeartbeats 4000000 in
theorem spec_l09ReadWords (a0 : List UInt8) (a1 : Int) (w : World) (s0 : a0.length ≤ 2000000) (s1 : 0 ≤ a1 ∧ a1 ≤ 1000) :
    Calls Tryd.prog 9 #[.string (bs a0), .int .i64 a1] w fun e w' => ∃ (A0' : Option Addr) (c0' : Nat), e = .returned (.tuple #[.slice A0' (wordsS a0 a1).1.length c0', .bool (wordsS a0 a1).2]) ∧ So (eSl eInt) w' (Fr w w') A0' c0' (wordsS a0 a1).1 ∧ Below w.heap.size w w' := by
  have HH1 := Held.start Nob w
  refine enter (n := 39) Tryd.func9 rfl rfl rfl fun a_2 HE3 => ?_
  refine wp_seq ?_
  refine rg ?_
  refine pl_x HE3 HH1 (wt0 rfl) (x_assign rfl) rfl rfl fun a_4 HE5 => ?_
  refine pl_x HE5 HH1 (wt0 rfl) (x_assign rfl) rfl rfl fun a_6 HE7 => ?_
  refine wpList_nil ?_
  clear a_2 HE3 a_4 HE5
  refine nrm ?_
  refine wp_seq ?_
  refine rg ?_
  refine pl_x HE7 HH1 (wt0 rfl) (x_move rfl) rfl rfl fun a_8 HE9 => ?_
  refine pl fun K_10 hK11 => ?_
  refine st_call HE9 (wt0 rfl) rfl rfl rfl en_17 rfl rfl (spec_l01Split a0 _ 44 _ (by omega) (by rfl)) fun e w' hr => ?_
  have hAr21_0 := splitR_len 44 a0
  have hAr21_1 := splitR_piece 44 a0
  obtain ⟨Ar21_0, cr21_0, rfl, hor21_0, hbr21⟩ := hr
  obtain ⟨Sr21, HH12⟩ := HH1.newS hbr21 hor21_0
  refine ⟨_, rfl, fun a_13 HE14 => hK11 _ _ ?_⟩
  refine pl_x HE14 HH12 (wt0 rfl) (x_assign rfl) rfl rfl fun a_15 HE16 => ?_
  refine wpList_nil ?_
  clear a_6 HE7 HH1 a_8 HE9 a_13 HE14 hK11 K_10
  refine nrm ?_
  refine wp_seq ?_
  refine wp_seq ?_
  refine rg ?_
  refine pl_x HE16 HH12 (wt0 rfl) (x_move rfl) rfl rfl fun a_17 HE18 => ?_
  refine pl_x HE18 HH12 (wt0 rfl) (x_len Tryd.underlying39 rfl) rfl rfl fun a_19 HE20 => ?_
  refine pl_x HE20 HH12 (wt0 rfl) (x_move rfl) rfl rfl fun a_21 HE22 => ?_
  refine pl_x HE22 HH12 (wt0 rfl) (x_gtr rfl rfl) rfl rfl fun a_23 HE24 => ?_
  refine wpList_nil ?_
  clear a_15 HE16 a_17 HE18 a_19 HE20 a_21 HE22
  refine nrm ?_
  refine cnd_d HE24 rfl (fun hc22 => ?_) (fun hc22 => ?_)
  · refine wp_seq ?_
    refine rg ?_
    refine pl_x HE24 HH12 (wt0 rfl) (x_assign rfl) rfl rfl fun a_25 HE26 => ?_
    refine pl_x HE26 HH12 (wt0 rfl) (x_assign rfl) rfl rfl fun a_27 HE28 => ?_
    refine wpList_nil ?_
    clear a_23 HE24 a_25 HE26
    refine nrm ?_
    refine wp_ret ?_
    refine (thn_ret ?_)
    refine ret2 HE28 rfl (rv_tmp rfl) (rv_tmp rfl) ?_
    have hF : (wordsS a0 a1) = ([], false) := by
      first | (exact wordsS_no (by omega) hx0 (by assumption)) | (unfold wordsS; rw [if_neg (fun hh => by omega)]; done) | (exact wordsS_no (by omega) hx0 (by assumption)) | (have hp := p0_1; rw [List.take_of_length_le (by omega)] at hp ⊢; unfold wordsS; rw [if_pos ⟨by omega, hp⟩])
    exact ⟨none, 0, by first | (rw [hF] <;> rfl) | rfl | (rw [hF]; simp only [Ending.returned.injEq, Value.slice.injEq, true_and, and_true]; first | omega | (simp; done)) | (rw [hF]; simp; omega), by rw [hF]; exact (So.nil (Nat.zero_le _)), HH12.below⟩
  · refine wp_skip ?_
    refine nrm ?_
    refine wp_seq ?_
    refine rg ?_
    refine pl fun K_29 hK30 => ?_
    refine st_lit (m := 0) (cs := []) (e := 41) HE24 HH12 (run_lit ts_22 HE24 (vs := []) rfl rfl (by simp [Value.cells]) rfl (by decide)) (wt0 rfl) rfl rfl fun q23 a_31 w' HE32 HH33 => hK30 _ _ ?_
    refine pl_x HE32 HH33 (wt0 rfl) (x_assign rfl) rfl rfl fun a_34 HE35 => ?_
    refine wpList_nil ?_
    clear a_23 HE24 HH12 a_31 HE32 hK30 K_29
    refine nrm ?_
    refine wp_seq ?_
    refine wp_seq ?_
    refine rg ?_
    refine pl_x HE35 HH33 (wt0 rfl) (x_assign rfl) rfl rfl fun a_36 HE37 => ?_
    refine wpList_nil ?_
    clear a_34 HE35
    refine nrm ?_
    refine wp_block ?_
    have HH38 := Held.vecFlat (E := (eSl eInt)) (xs := []) (css := []) HH33 rfl (Nat.zero_le _) (fun i x hx => by simp at hx)
    refine lp (fun m a w' => ∃ (k : Nat) (A_7 : Option Addr) (c_7 : Nat) (S_7 : Nat → Prop), m = (splitR 44 a0).length - k ∧ Env 39 [(7, .slice A_7 (List.length (((splitR 44 a0).take k).map letV)) c_7), (8, .int .i64 (k : Int)), (6, .slice Ar21_0 ((splitR 44 a0).length) cr21_0)] a ∧ Held Nob w [rVec (eSl eInt) 41 S_7 A_7 c_7 (((splitR 44 a0).take k).map letV), rSo eTxt Sr21 Ar21_0 cr21_0 (splitR 44 a0)] w' ∧ (k ≤ (splitR 44 a0).length) ∧ (((splitR 44 a0).take k).all letK = true)) ((splitR 44 a0).length - (0)) ?_ ?_
    · have E24 : ((splitR 44 a0).take 0).map letV = ([] : List (List Int)) := by
        simp
      exact ⟨0, (some ⟨q23, 0, none⟩), (List.length (α := (List Int)) []), (fun b => b = q23), rfl, HE37.sub ⟨(by rw [E24]; rfl), (lkI rfl (by first | rfl | omega | (simp [hc22]; done))), rfl, trivial⟩, ((HH38.sel [0, 1] (by decide) rfl).to (by first | rfl | (rw [E24]; done) | (rw [E24]; rfl) | (simp only [E24]; done) | (simp only [E24]; rfl) | (rw [E24]; simp only [List.length_set]; done))), (by first | omega | assumption | (simp; done) | simp_all), (by simp)⟩
    · rintro m a_39 w' ⟨k, A_7, c_7, S_7, rfl, HE40, HH41, p25_0, p25_1⟩
      have hn0 : (((splitR 44 a0).take k).map letV).length ≤ a0.length + 1 := by have := splitR_len 44 a0; rw [List.length_map, List.length_take]; omega
      refine wp_seq ?_
      refine wp_seq ?_
      refine rg ?_
      refine pl_x HE40 HH41 (wt0 rfl) (x_move rfl) rfl rfl fun a_42 HE43 => ?_
      refine pl_x HE43 HH41 (wt0 rfl) (x_move rfl) rfl rfl fun a_44 HE45 => ?_
      refine pl_x HE45 HH41 (wt0 rfl) (x_len Tryd.underlying39 rfl) rfl rfl fun a_46 HE47 => ?_
      refine pl_x HE47 HH41 (wt0 rfl) (x_lss rfl rfl) rfl rfl fun a_48 HE49 => ?_
      refine wpList_nil ?_
      clear HH33 a_36 HE37 HH38 a_39 HE40 a_42 HE43 a_44 HE45 a_46 HE47
      refine nrm ?_
      refine cnd_d HE49 rfl (fun hc26 => ?_) (fun hc26 => ?_)
      · refine wp_skip ?_
        refine nrm ?_
        refine wp_seq ?_
        refine wp_block ?_
        refine wp_seq ?_
        refine rg ?_
        refine pl_x HE49 HH41 (wt0 rfl) (x_move rfl) rfl rfl fun a_50 HE51 => ?_
        refine pl_x HE51 HH41 (wt0 rfl) (x_move rfl) rfl rfl fun a_52 HE53 => ?_
        have ke27 : k < (splitR 44 a0).length := by omega
        obtain ⟨be27, fe27, rfl⟩ := el_own HH41 (i := 1) rfl ke27
        refine pl_x HE53 HH41 (wt0 rfl) (x_indexAddr ts_39 rfl rfl rfl rfl ke27) rfl rfl fun a_54 HE55 => ?_
        obtain ⟨y28, xy28⟩ : ∃ y_, y_ = (splitR 44 a0)[k]'(by first | exact ke27 | (simp only [List.length_set]; exact ke27) | omega | (simp only [List.length_set]; omega) | (simp; omega)) := ⟨_, rfl⟩
        have jy28 : List.length y28 ≤ 9223372036854775807 := by rw [xy28]; exact i_ownS HH41 1 rfl _
        have hx0 := xy28
        have hl0 := splitR_piece 44 a0 y28 (by rw [xy28]; exact List.getElem_mem _)
        refine pl_x HE55 HH41 (wt0 rfl) (x_load1 tv_9 rfl (c_ownS 1 rfl (by first | exact ke27 | (simp only [List.length_set]; exact ke27) | omega | (simp only [List.length_set]; omega) | (simp; omega)) xy28.symm)) rfl rfl fun a_56 HE57 => ?_
        refine pl fun K_58 hK59 => ?_
        refine st_call HE57 (wt0 rfl) rfl rfl rfl en_18 rfl rfl (spec_l09ReadLetters y28 _ (by omega)) fun e w' hr => ?_
        obtain ⟨Ar29_0, cr29_0, rfl, hor29_0, hbr29⟩ := hr
        obtain ⟨Sr29, HH60⟩ := HH41.newS hbr29 hor29_0
        refine ⟨_, rfl, fun a_61 HE62 => hK59 _ _ ?_⟩
        refine pl_x HE62 HH60 (wt0 rfl) (x_move rfl) rfl rfl fun a_63 HE64 => ?_
        refine pl_x HE64 HH60 (wt0 rfl) (x_extract rfl rfl) rfl rfl fun a_65 HE66 => ?_
        refine pl_x HE66 HH60 (wt0 rfl) (x_extract rfl rfl) rfl rfl fun a_67 HE68 => ?_
        refine pl_x HE68 HH60 (wt0 rfl) (x_assign rfl) rfl rfl fun a_69 HE70 => ?_
        refine pl_x HE70 HH60 (wt0 rfl) (x_assign rfl) rfl rfl fun a_71 HE72 => ?_
        refine wpList_nil ?_
        clear a_48 HE49 a_50 HE51 a_52 HE53 a_54 HE55 HH41 a_56 HE57 a_61 HE62 a_63 HE64 a_65 HE66 a_67 HE68 a_69 HE70 hK59 K_58
        refine nrm ?_
        refine wp_seq ?_
        refine wp_seq ?_
        refine rg ?_
        refine pl_x HE72 HH60 (wt0 rfl) (x_move rfl) rfl rfl fun a_73 HE74 => ?_
        refine pl_x HE74 HH60 (wt0 rfl) (x_not rfl) rfl rfl fun a_75 HE76 => ?_
        refine wpList_nil ?_
        clear a_71 HE72 a_73 HE74
        refine nrm ?_
        refine cnd_nb HE76 rfl (fun hc30 => ?_) (fun hc30 => ?_)
        · refine wp_seq ?_
          refine rg ?_
          refine pl_x HE76 HH60 (wt0 rfl) (x_assign rfl) rfl rfl fun a_77 HE78 => ?_
          refine pl_x HE78 HH60 (wt0 rfl) (x_assign rfl) rfl rfl fun a_79 HE80 => ?_
          refine wpList_nil ?_
          clear a_75 HE76 a_77 HE78
          refine nrm ?_
          refine wp_ret ?_
          refine (thn_ret (blk_ret (thn_ret (thn_ret (blk_ret (thn_ret ?_))))))
          refine ret2 HE80 rfl (rv_tmp rfl) (rv_tmp rfl) ?_
          have hF : (wordsS a0 a1) = ([], false) := by
            first | (exact wordsS_no (by omega) hx0 (by assumption)) | (unfold wordsS; rw [if_neg (fun hh => by omega)]; done) | (exact wordsS_no (by omega) hx0 (by assumption)) | (have hp := p25_1; rw [List.take_of_length_le (by omega)] at hp ⊢; unfold wordsS; rw [if_pos ⟨by omega, hp⟩])
          exact ⟨none, 0, by first | (rw [hF] <;> rfl) | rfl | (rw [hF]; simp only [Ending.returned.injEq, Value.slice.injEq, true_and, and_true]; first | omega | (simp; done)) | (rw [hF]; simp; omega), by rw [hF]; exact (So.nil (Nat.zero_le _)), HH60.below⟩
        · refine wp_skip ?_
          refine nrm ?_
          refine rg ?_
          refine pl_x HE76 HH60 (wt0 rfl) (x_move rfl) rfl rfl fun a_81 HE82 => ?_
          refine pl_x HE82 HH60 (wt0 rfl) (x_move rfl) rfl rfl fun a_83 HE84 => ?_
          refine pl fun K_85 hK86 => ?_
          refine st_lit (m := 1) (cs := [.slice Ar29_0 ((letS y28).1.length) cr29_0]) (e := 41) HE84 HH60 (run_lit ts_22 HE84 (vs := [.slice Ar29_0 ((letS y28).1.length) cr29_0]) rfl rfl (by simp [Value.cells]) rfl (by decide)) (wt0 rfl) rfl rfl fun q31 a_87 w' HE88 HH89 => hK86 _ _ ?_
          refine pl fun K_90 hK91 => ?_
          refine st_app1 HE88 HH89 ts_22 [2, 1, 0, 3] (by decide) rfl rfl rfl (by simp [Value.oneCell']) (by unfold maxLen; first | omega | (simp; done) | (simp; omega)) (by first | omega | (simp; done) | (simp; omega)) (wt0 rfl) rfl fun A32 c33 S34 a_92 w' HE93 HH94 => hK91 _ _ ?_
          refine pl_x HE93 HH94 (wt0 rfl) (x_assign rfl) rfl rfl fun a_95 HE96 => ?_
          refine wpList_nil ?_
          clear a_75 HE76 a_81 HE82 a_83 HE84 HH60 K_85 hK86 a_87 HE88 HH89 a_92 HE93 hK91 K_90
          refine blk_n ?_
          refine nrm ?_
          refine rg ?_
          refine pl_x HE96 HH94 (wt0 rfl) (x_move rfl) rfl rfl fun a_97 HE98 => ?_
          refine pl_x HE98 HH94 (wt0 rfl) (x_add rfl rfl (by exact ⟨by omega, by omega⟩)) rfl rfl fun a_99 HE100 => ?_
          refine pl_x HE100 HH94 (wt0 rfl) (x_assign rfl) rfl rfl fun a_101 HE102 => ?_
          refine wpList_nil ?_
          clear a_95 HE96 a_97 HE98 a_99 HE100
          have E35 : ((splitR 44 a0).take (k + 1)).map letV = (((splitR 44 a0).take k).map letV ++ [(letS y28).1]) := by
            exact map_snoc _ (by omega) hx0
          exact nrm ⟨(splitR 44 a0).length - (k + 1), (by omega), k + 1, A32, c33, S34, rfl, HE102.sub ⟨(by rw [E35]; rfl), (lkI rfl (by first | rfl | omega | (simp [hc22, p25_0, p25_1, hc26, xy28, hc30]; done))), rfl, trivial⟩, ((HH94.sel [0, 2] (by decide) rfl).to (by first | rfl | (rw [E35]; done) | (rw [E35]; rfl) | (simp only [E35]; done) | (simp only [E35]; rfl) | (rw [E35]; simp only [List.length_set]; done))), (by first | omega | assumption | (simp; done) | simp_all), (by exact all_snoc (by omega) p25_1 hx0 (by assumption))⟩
      · refine wp_exit ?_
        refine (thn_exit (thn_exit (blk_hit ?_)))
        refine nrm ?_
        refine wp_seq ?_
        refine rg ?_
        refine pl_x HE49 HH41 (wt0 rfl) (x_move rfl) rfl rfl fun a_103 HE104 => ?_
        refine pl_x HE104 HH41 (wt0 rfl) (x_assign rfl) rfl rfl fun a_105 HE106 => ?_
        refine pl_x HE106 HH41 (wt0 rfl) (x_assign rfl) rfl rfl fun a_107 HE108 => ?_
        refine wpList_nil ?_
        clear a_48 HE49 a_103 HE104 a_105 HE106
        refine nrm ?_
        refine wp_ret ?_
        refine ret2 HE108 rfl (rv_tmp rfl) (rv_tmp rfl) ?_
        have HH109 := HH41.vecSo
        have hF : (wordsS a0 a1) = (((splitR 44 a0).take k).map letV, true) := by
          first | (exact wordsS_no (by omega) hx0 (by assumption)) | (unfold wordsS; rw [if_neg (fun hh => by omega)]; done) | (exact wordsS_no (by omega) hx0 (by assumption)) | (have hp := p25_1; rw [List.take_of_length_le (by omega)] at hp ⊢; unfold wordsS; rw [if_pos ⟨by omega, hp⟩])
        exact ⟨A_7, c_7, by first | (rw [hF] <;> rfl) | rfl | (rw [hF]; simp only [Ending.returned.injEq, Value.slice.injEq, true_and, and_true]; first | omega | (simp; done)) | (rw [hF]; simp; omega), by rw [hF]; exact (HH109.so (i := 0) rfl), HH109.below⟩

open Go.Lib in
set_option maxRecDepth 100000 in
set_option maxHeartbeats 4000000 in
theorem spec_ReadCyclic (a0 : List UInt8) (w : World) (s0 : a0.length ≤ 2000000) :
    Calls Tryd.prog 4 #[.string (bs a0)] w fun e w' => ∃ (es0' : List Value), e = .returned (.tuple #[.agg es0'.toArray, .bool (rdCyI a0).2]) ∧ eCyclic.O w' (Fr w w') es0' (rdCyI a0).1 ∧ Below w.heap.size w w' := by
  have HH1 := Held.start Nob w
  refine enter (n := 22) Tryd.func4 rfl rfl rfl fun a_2 HE3 => ?_
  refine wp_seq ?_
  refine rg ?_
  refine pl fun K_4 hK5 => ?_
  refine st_alloc HE3 HH1 tv_24 (wt0 rfl) rfl fun q21 a_6 w' HE7 HH8 => hK5 _ _ ?_
  refine pl_x HE7 HH8 (wt0 rfl) (x_assign rfl) rfl rfl fun a_9 HE10 => ?_
  refine wpList_nil ?_
  clear a_2 HE3 HH1 a_6 HE7 hK5 K_4
  refine nrm ?_
  refine wp_seq ?_
  refine rg ?_
  refine pl_x HE10 HH8 (wt0 rfl) (x_move rfl) rfl rfl fun a_11 HE12 => ?_
  refine pl fun K_13 hK14 => ?_
  refine st_call HE12 (wt0 rfl) rfl rfl rfl en_9 rfl rfl (spec_l09ReadWords a0 400 _ (by omega) (by omega)) fun e w' hr => ?_
  obtain ⟨Ar22_0, cr22_0, rfl, hor22_0, hbr22⟩ := hr
  obtain ⟨Sr22, HH15⟩ := HH8.newS hbr22 hor22_0
  refine ⟨_, rfl, fun a_16 HE17 => hK14 _ _ ?_⟩
  refine pl_x HE17 HH15 (wt0 rfl) (x_move rfl) rfl rfl fun a_18 HE19 => ?_
  refine pl_x HE19 HH15 (wt0 rfl) (x_extract rfl rfl) rfl rfl fun a_20 HE21 => ?_
  refine pl_x HE21 HH15 (wt0 rfl) (x_extract rfl rfl) rfl rfl fun a_22 HE23 => ?_
  refine pl_x HE23 HH15 (wt0 rfl) (x_assign rfl) rfl rfl fun a_24 HE25 => ?_
  refine pl_x HE25 HH15 (wt0 rfl) (x_assign rfl) rfl rfl fun a_26 HE27 => ?_
  refine wpList_nil ?_
  clear a_9 HE10 HH8 a_11 HE12 a_16 HE17 a_18 HE19 a_20 HE21 a_22 HE23 a_24 HE25 hK14 K_13
  refine nrm ?_
  refine wp_seq ?_
  refine rg ?_
  refine pl_x HE27 HH15 (wt0 rfl) (x_move rfl) rfl rfl fun a_28 HE29 => ?_
  refine pl_x HE29 HH15 (wt0 rfl) (show XS _ _ _ _ (.agg #[.slice Ar22_0 ((wordsS a0 400).1.length) cr22_0]) from x_build (vs := [(0, .slice Ar22_0 ((wordsS a0 400).1.length) cr22_0)]) tb_24 rfl (by simp [Value.oneCell'])) rfl rfl fun a_30 HE31 => ?_
  refine pl fun K_32 hK33 => ?_
  refine st_alloc HE31 HH15 tv_24 (wt0 rfl) rfl fun q23 a_34 w' HE35 HH36 => hK33 _ _ ?_
  refine pl fun K_37 hK38 => ?_
  refine st_store (vs := [.slice Ar22_0 ((wordsS a0 400).1.length) cr22_0]) 0 HE35 HH36 tv_24 rfl rfl rfl rfl rfl rfl (by simp [Value.oneCell']) (wt0 rfl) fun w' HH39 => hK38 _ _ ?_
  refine wpList_nil ?_
  clear a_26 HE27 a_28 HE29 a_30 HE31 HH15 K_32 hK33 HH36 hK38 K_37
  refine nrm ?_
  refine wp_seq ?_
  refine wp_seq ?_
  refine rg ?_
  refine pl_x HE35 HH39 (wt0 rfl) (x_move rfl) rfl rfl fun a_40 HE41 => ?_
  refine pl_x HE41 HH39 (wt0 rfl) (x_not rfl) rfl rfl fun a_42 HE43 => ?_
  refine pl_x HE43 HH39 (wt0 rfl) (x_move rfl) rfl rfl fun a_44 HE45 => ?_
  rcases Bool.eq_false_or_eq_true ((wordsS a0 400).2) with hc24 | hc24
  · refine pl fun K_46 hK47 => ?_
    refine st_call HE45 (wtT HE45 rfl rfl rfl (not_f hc24)) rfl rfl rfl en_10 rfl rfl (spec_l09IsCyclic q23 Ar22_0 cr22_0 ((wordsS a0 400).1) _ (c_blkN 0 rfl _ HH39 0 _ rfl) (HH39.sl (i := 1) rfl)) fun e w' hr => ?_
    obtain ⟨rfl, rfl⟩ := hr
    refine ⟨_, rfl, fun a_48 HE49 => hK47 _ _ ?_⟩
    refine pl_x HE49 HH39 (wtT HE49 rfl rfl rfl (not_f hc24)) (x_not rfl) rfl rfl fun a_50 HE51 => ?_
    refine pl_x HE51 HH39 (wt0 rfl) (x_pickF rfl (not_f hc24) rfl) rfl rfl fun a_52 HE53 => ?_
    refine wpList_nil ?_
    clear a_34 HE35 a_40 HE41 a_42 HE43 a_44 HE45 a_48 HE49 a_50 HE51 hK47 K_46
    refine nrm ?_
    refine cnd_nb HE53 rfl (fun hc26 => ?_) (fun hc26 => ?_)
    · refine wp_seq ?_
      refine rg ?_
      refine pl_x HE53 HH39 (wt0 rfl) (show XS _ _ _ _ (.agg #[.slice none (0) 0]) from x_build (vs := []) tb_24 rfl (by simp [Value.oneCell'])) rfl rfl fun a_54 HE55 => ?_
      refine pl fun K_56 hK57 => ?_
      refine st_store (vs := [.slice none (0) 0]) 2 HE55 HH39 tv_24 rfl rfl rfl rfl rfl rfl (by simp [Value.oneCell']) (wt0 rfl) fun w' HH58 => hK57 _ _ ?_
      refine pl_x HE55 HH58 (wt0 rfl) (x_assign rfl) rfl rfl fun a_59 HE60 => ?_
      refine wpList_nil ?_
      clear a_52 HE53 HH39 a_54 HE55 hK57 K_56
      refine nrm ?_
      refine wp_ret ?_
      refine (thn_ret ?_)
      refine ret2 HE60 rfl (rv_cell rfl (tv_24.loadN (cs := [.slice none (0) 0]) rfl (c_blkN 2 rfl _ HH58))) (rv_tmp rfl) ?_
      have HH61 := HH58.flatO (E := eCyclic) (cs := [.slice none (0) 0]) (x := []) (fun _ => (oSl (So.nil (Nat.zero_le _))))
      have hF : (rdCyI a0) = ([], false) := by
        rw [← rdCy_eq]; unfold rdCyS; first | (rw [if_pos ⟨by assumption, by assumption⟩]; done) | (exact if_neg (fun hh => ff hh.1 (by assumption))) | (exact if_neg (fun hh => ff hh.2 (by assumption)))
      exact ⟨_, by first | (rw [hF] <;> rfl) | rfl | (rw [hF]; simp only [Ending.returned.injEq, Value.slice.injEq, true_and, and_true]; first | omega | (simp; done)) | (rw [hF]; simp; omega), by rw [hF]; exact (HH61.o (i := 0) rfl), HH61.below⟩
    · refine wp_skip ?_
      refine nrm ?_
      refine wp_seq ?_
      refine rg ?_
      refine pl_x HE53 HH39 (wt0 rfl) (x_loadN (cs := [.slice Ar22_0 ((wordsS a0 400).1.length) cr22_0]) tv_24 rfl rfl (c_blkN 0 rfl)) rfl rfl fun a_62 HE63 => ?_
      refine pl fun K_64 hK65 => ?_
      refine st_store (vs := [.slice Ar22_0 ((wordsS a0 400).1.length) cr22_0]) 2 HE63 HH39 tv_24 rfl rfl rfl rfl rfl rfl (by simp [Value.oneCell']) (wt0 rfl) fun w' HH66 => hK65 _ _ ?_
      refine pl_x HE63 HH66 (wt0 rfl) (x_assign rfl) rfl rfl fun a_67 HE68 => ?_
      refine wpList_nil ?_
      clear a_52 HE53 HH39 a_62 HE63 hK65 K_64
      refine nrm ?_
      refine wp_ret ?_
      refine ret2 HE68 rfl (rv_cell rfl (tv_24.loadN (cs := [.slice Ar22_0 ((wordsS a0 400).1.length) cr22_0]) rfl (c_blkN 2 rfl _ HH66))) (rv_tmp rfl) ?_
      have HH69 := HH66.sel [1, 0, 2] (by decide) rfl
      obtain ⟨S27, HH70⟩ : ∃ S, Held Nob w (rO eCyclic S [.slice Ar22_0 ((wordsS a0 400).1.length) cr22_0] ((wordsS a0 400).1) :: _) _ := ⟨_, HH69⟩
      have hF : (rdCyI a0) = ((wordsS a0 400).1, true) := by
        rw [← rdCy_eq]; unfold rdCyS; first | (rw [if_pos ⟨by assumption, by assumption⟩]; done) | (exact if_neg (fun hh => ff hh.1 (by assumption))) | (exact if_neg (fun hh => ff hh.2 (by assumption)))
      exact ⟨_, by first | (rw [hF] <;> rfl) | rfl | (rw [hF]; simp only [Ending.returned.injEq, Value.slice.injEq, true_and, and_true]; first | omega | (simp; done)) | (rw [hF]; simp; omega), by rw [hF]; exact (HH70.o (i := 0) rfl), HH70.below⟩
  · refine pl_no HE45 (wtF HE45 rfl rfl rfl (not_t hc24)) rfl rfl fun a_71 HE72 => ?_
    refine pl_no HE72 (wtF HE72 rfl rfl rfl (not_t hc24)) rfl rfl fun a_73 HE74 => ?_
    refine pl_x HE74 HH39 (wt0 rfl) (x_pickT rfl (not_t hc24) rfl) rfl rfl fun a_75 HE76 => ?_
    refine wpList_nil ?_
    clear a_34 HE35 a_40 HE41 a_42 HE43 a_44 HE45 a_71 HE72 a_73 HE74
    refine nrm ?_
    refine cndT HE76 rfl rfl ?_
    refine wp_seq ?_
    refine rg ?_
    refine pl_x HE76 HH39 (wt0 rfl) (show XS _ _ _ _ (.agg #[.slice none (0) 0]) from x_build (vs := []) tb_24 rfl (by simp [Value.oneCell'])) rfl rfl fun a_77 HE78 => ?_
    refine pl fun K_79 hK80 => ?_
    refine st_store (vs := [.slice none (0) 0]) 2 HE78 HH39 tv_24 rfl rfl rfl rfl rfl rfl (by simp [Value.oneCell']) (wt0 rfl) fun w' HH81 => hK80 _ _ ?_
    refine pl_x HE78 HH81 (wt0 rfl) (x_assign rfl) rfl rfl fun a_82 HE83 => ?_
    refine wpList_nil ?_
    clear a_75 HE76 HH39 a_77 HE78 hK80 K_79
    refine nrm ?_
    refine wp_ret ?_
    refine (thn_ret ?_)
    refine ret2 HE83 rfl (rv_cell rfl (tv_24.loadN (cs := [.slice none (0) 0]) rfl (c_blkN 2 rfl _ HH81))) (rv_tmp rfl) ?_
    have HH84 := HH81.flatO (E := eCyclic) (cs := [.slice none (0) 0]) (x := []) (fun _ => (oSl (So.nil (Nat.zero_le _))))
    have hF : (rdCyI a0) = ([], false) := by
      rw [← rdCy_eq]; unfold rdCyS; first | (rw [if_pos ⟨by assumption, by assumption⟩]; done) | (exact if_neg (fun hh => ff hh.1 (by assumption))) | (exact if_neg (fun hh => ff hh.2 (by assumption)))
    exact ⟨_, by first | (rw [hF] <;> rfl) | rfl | (rw [hF]; simp only [Ending.returned.injEq, Value.slice.injEq, true_and, and_true]; first | omega | (simp; done)) | (rw [hF]; simp; omega), by rw [hF]; exact (HH84.o (i := 0) rfl), HH84.below⟩

open Go.Lib in
set_option maxRecDepth 100000 in
set_option maxHeartbeats 4000000 in
theorem law_ReadCyclic (a0 : List UInt8) (w : World) (h0 : a0.length ≤ 9223372036854775807) (hG : Glob2 w) :
    Calls Tryd.prog 3 #[.string (bs a0)] w fun e w' => e = .returned (.bool true) ∧ Below w.heap.size w w' := by
  have n0 : (cv_Cyclic (rdCyI a0).1 : Int) ≤ 1000000000 := rdCy_ct a0
  have HH1 := Held.start Nob w
  refine enter (n := 66) Tryd.func3 rfl rfl rfl fun a_2 HE3 => ?_
  refine wp_seq ?_
  refine rg ?_
  refine pl_x HE3 HH1 (wt0 rfl) (x_assign rfl) rfl rfl fun a_4 HE5 => ?_
  refine wpList_nil ?_
  clear a_2 HE3
  refine nrm ?_
  refine wp_seq ?_
  refine wp_seq ?_
  refine rg ?_
  refine pl_x HE5 HH1 (wt0 rfl) (x_move rfl) rfl rfl fun a_6 HE7 => ?_
  refine pl_x HE7 HH1 (wt0 rfl) (x_lenB Tryd.underlying9 rfl) rfl rfl fun a_8 HE9 => ?_
  refine pl_x HE9 HH1 (wt0 rfl) (x_gtr rfl rfl) rfl rfl fun a_10 HE11 => ?_
  refine wpList_nil ?_
  clear a_4 HE5 a_6 HE7 a_8 HE9
  refine nrm ?_
  refine cnd_d HE11 rfl (fun hc21 => ?_) (fun hc21 => ?_)
  · refine wp_seq ?_
    refine rg ?_
    refine pl_x HE11 HH1 (wt0 rfl) (x_assign rfl) rfl rfl fun a_12 HE13 => ?_
    refine wpList_nil ?_
    clear a_10 HE11
    refine nrm ?_
    refine wp_ret ?_
    refine (thn_ret ?_)
    refine ret1 HE13 rfl (rv_tmp rfl) ?_
    have hF : true = true := by
      first | rfl | (exfalso; omega)
    exact ⟨by first | (rw [hF] <;> rfl) | rfl | (rw [hF]; simp only [Ending.returned.injEq, Value.slice.injEq, true_and, and_true]; first | omega | (simp; done)) | (rw [hF]; simp; omega), HH1.below⟩
  · refine wp_skip ?_
    refine nrm ?_
    refine wp_seq ?_
    refine rg ?_
    refine pl_x HE11 HH1 (wt0 rfl) (x_move rfl) rfl rfl fun a_14 HE15 => ?_
    refine pl fun K_16 hK17 => ?_
    refine st_call HE15 (wt0 rfl) rfl rfl rfl en_4 rfl rfl (spec_ReadCyclic a0 _ (by omega)) fun e w' hr => ?_
    obtain ⟨esr22_0, rfl, hor22_0, hbr22⟩ := hr
    have hr := eCyclic.read hor22_0
    obtain ⟨Sr22, HH18⟩ := HH1.newO hbr22 hor22_0
    obtain ⟨Ar22_0_0, cr22_0_0, rfl, gr22_0_0⟩ := shape_Cyclic hr
    refine ⟨_, rfl, fun a_19 HE20 => hK17 _ _ ?_⟩
    refine pl_x HE20 HH18 (wt0 rfl) (x_move rfl) rfl rfl fun a_21 HE22 => ?_
    refine pl_x HE22 HH18 (wt0 rfl) (x_extract rfl rfl) rfl rfl fun a_23 HE24 => ?_
    refine pl_x HE24 HH18 (wt0 rfl) (x_extract rfl rfl) rfl rfl fun a_25 HE26 => ?_
    refine pl fun K_27 hK28 => ?_
    refine st_alloc HE26 HH18 tv_24 (wt0 rfl) rfl fun q23 a_29 w' HE30 HH31 => hK28 _ _ ?_
    refine pl fun K_32 hK33 => ?_
    refine st_store (vs := [.slice Ar22_0_0 ((rdCyI a0).1.length) cr22_0_0]) 0 HE30 HH31 tv_24 rfl rfl rfl rfl rfl rfl (by simp [Value.oneCell']) (wt0 rfl) fun w' HH34 => hK33 _ _ ?_
    refine pl_x HE30 HH34 (wt0 rfl) (x_assign rfl) rfl rfl fun a_35 HE36 => ?_
    refine wpList_nil ?_
    clear a_10 HE11 HH1 a_14 HE15 a_19 HE20 a_21 HE22 a_23 HE24 K_16 hK17 a_25 HE26 HH18 K_27 hK28 HH31 a_29 HE30 hK33 K_32
    refine nrm ?_
    refine wp_seq ?_
    refine rg ?_
    refine pl_x HE36 HH34 (wt0 rfl) (x_move rfl) rfl rfl fun a_37 HE38 => ?_
    refine pl fun K_39 hK40 => ?_
    refine st_call HE38 (wt0 rfl) rfl rfl rfl en_5 rfl rfl (impl_ReadCyclic a0 _ (HH34.glob2 hG) (by omega)) fun e w' hr => ?_
    obtain ⟨esr24_0, rfl, hor24_0, hbr24⟩ := hr
    have hr := eCyclic.read hor24_0
    obtain ⟨Sr24, HH41⟩ := HH34.newO hbr24 hor24_0
    obtain ⟨Ar24_0_0, cr24_0_0, rfl, gr24_0_0⟩ := shape_Cyclic hr
    refine ⟨_, rfl, fun a_42 HE43 => hK40 _ _ ?_⟩
    refine pl_x HE43 HH41 (wt0 rfl) (x_move rfl) rfl rfl fun a_44 HE45 => ?_
    refine pl_x HE45 HH41 (wt0 rfl) (x_extract rfl rfl) rfl rfl fun a_46 HE47 => ?_
    refine pl_x HE47 HH41 (wt0 rfl) (x_extract rfl rfl) rfl rfl fun a_48 HE49 => ?_
    refine pl fun K_50 hK51 => ?_
    refine st_alloc HE49 HH41 tv_24 (wt0 rfl) rfl fun q25 a_52 w' HE53 HH54 => hK51 _ _ ?_
    refine pl fun K_55 hK56 => ?_
    refine st_store (vs := [.slice Ar24_0_0 ((rdCyI a0).1.length) cr24_0_0]) 0 HE53 HH54 tv_24 rfl rfl rfl rfl rfl rfl (by simp [Value.oneCell']) (wt0 rfl) fun w' HH57 => hK56 _ _ ?_
    refine pl_x HE53 HH57 (wt0 rfl) (x_assign rfl) rfl rfl fun a_58 HE59 => ?_
    refine wpList_nil ?_
    clear a_35 HE36 HH34 a_37 HE38 a_42 HE43 a_44 HE45 a_46 HE47 K_39 hK40 a_48 HE49 HH41 K_50 hK51 HH54 a_52 HE53 hK56 K_55
    refine nrm ?_
    refine wp_seq ?_
    refine wp_seq ?_
    refine rg ?_
    refine pl_x HE59 HH57 (wt0 rfl) (x_loadN (cs := [.slice Ar24_0_0 ((rdCyI a0).1.length) cr24_0_0]) tv_24 rfl rfl (c_blkN 0 rfl)) rfl rfl fun a_60 HE61 => ?_
    refine pl_x HE61 HH57 (wt0 rfl) (x_loadN (cs := [.slice Ar22_0_0 ((rdCyI a0).1.length) cr22_0_0]) tv_24 rfl rfl (c_blkN 2 rfl)) rfl rfl fun a_62 HE63 => ?_
    refine pl fun K_64 hK65 => ?_
    refine st_call HE63 (wt0 rfl) rfl rfl rfl en_6 rfl rfl (eq_Cyclic_c [.slice Ar24_0_0 ((rdCyI a0).1.length) cr24_0_0] [.slice Ar22_0_0 ((rdCyI a0).1.length) cr22_0_0] ((rdCyI a0).1) ((rdCyI a0).1) _ (HH57.rd (i := 1) rfl) (HH57.rd (i := 3) rfl)) fun e w' hr => ?_
    obtain ⟨rfl, hbr26⟩ := hr
    have HH66 := HH57.on hbr26
    clear hbr26
    refine ⟨_, rfl, fun a_67 HE68 => hK65 _ _ ?_⟩
    refine pl_x HE68 HH66 (wt0 rfl) (x_not rfl) rfl rfl fun a_69 HE70 => ?_
    refine pl_x HE70 HH66 (wt0 rfl) (x_move rfl) rfl rfl fun a_71 HE72 => ?_
    refine pl_x HE72 HH66 (wtT HE72 rfl rfl rfl (not_f (eq_Cyclic_refl _))) (x_move rfl) rfl rfl fun a_73 HE74 => ?_
    refine pl_x HE74 HH66 (wtT HE74 rfl rfl rfl (not_f (eq_Cyclic_refl _))) (x_move rfl) rfl rfl fun a_75 HE76 => ?_
    refine pl_x HE76 HH66 (wtT HE76 rfl rfl rfl (not_f (eq_Cyclic_refl _))) (x_bneq Tryd.underlying4 rfl rfl) rfl rfl fun a_77 HE78 => ?_
    refine pl_x HE78 HH66 (wt0 rfl) (x_pickF rfl (not_f (eq_Cyclic_refl _)) rfl) rfl rfl fun a_79 HE80 => ?_
    refine wpList_nil ?_
    clear a_58 HE59 a_60 HE61 HH57 a_62 HE63 a_67 HE68 a_69 HE70 a_71 HE72 a_73 HE74 a_75 HE76 a_77 HE78 hK65 K_64
    refine nrm ?_
    refine cndF HE80 rfl (not_f (beq_self_eq_true _)) ?_
    refine wp_skip ?_
    refine nrm ?_
    refine wp_seq ?_
    refine rg ?_
    refine pl_x HE80 HH66 (wt0 rfl) (x_assign rfl) rfl rfl fun a_81 HE82 => ?_
    refine wpList_nil ?_
    clear a_79 HE80
    refine nrm ?_
    refine wp_seq ?_
    refine rg ?_
    refine pl_x HE82 HH66 (wt0 rfl) (x_loadN (cs := [.slice Ar24_0_0 ((rdCyI a0).1.length) cr24_0_0]) tv_24 rfl rfl (c_blkN 0 rfl)) rfl rfl fun a_83 HE84 => ?_
    refine pl_x HE84 HH66 (wt0 rfl) (x_move rfl) rfl rfl fun a_85 HE86 => ?_
    refine pl fun K_87 hK88 => ?_
    refine st_call HE86 (wt0 rfl) rfl rfl rfl en_7 rfl rfl (mark_Cyclic_c [.slice Ar24_0_0 ((rdCyI a0).1.length) cr24_0_0] ((rdCyI a0).1) 1 _ _ (HH66.get (i := 1) rfl) (HH66.lt (i := 1) rfl) (by omega) (by omega)) fun e w' hr => ?_
    obtain ⟨rfl, hsr27, hcr27⟩ := hr
    have HH89 := HH66.mut (i := 1) rfl hcr27 (rO eCyclic Sr24 [.slice Ar24_0_0 ((rdCyI a0).1.length) cr24_0_0] (mv_Cyclic ((rdCyI a0).1) 1)) hsr27 (fun b hb => .inl hb)
    clear hsr27 hcr27
    refine ⟨_, rfl, fun a_90 HE91 => hK88 _ _ ?_⟩
    refine pl_x HE91 HH89 (wt0 rfl) (x_assign rfl) rfl rfl fun a_92 HE93 => ?_
    refine wpList_nil ?_
    clear a_81 HE82 a_83 HE84 HH66 a_85 HE86 a_90 HE91 hK88 K_87
    refine nrm ?_
    refine wp_seq ?_
    refine rg ?_
    refine pl_x HE93 HH89 (wt0 rfl) (x_assign rfl) rfl rfl fun a_94 HE95 => ?_
    refine wpList_nil ?_
    clear a_92 HE93
    refine nrm ?_
    refine wp_seq ?_
    refine rg ?_
    refine pl_x HE95 HH89 (wt0 rfl) (x_loadN (cs := [.slice Ar24_0_0 ((rdCyI a0).1.length) cr24_0_0]) tv_24 rfl rfl (c_blkN 0 rfl)) rfl rfl fun a_96 HE97 => ?_
    refine pl_x HE97 HH89 (wt0 rfl) (x_move rfl) rfl rfl fun a_98 HE99 => ?_
    refine pl fun K_100 hK101 => ?_
    refine st_call HE99 (wt0 rfl) rfl rfl rfl en_8 rfl rfl (held_Cyclic_c [.slice Ar24_0_0 ((rdCyI a0).1.length) cr24_0_0] ((rdCyI a0).1) 1 _ (HH89.rd (i := 1) rfl) (by omega) (by omega)) fun e w' hr => ?_
    obtain ⟨rfl, hbr28⟩ := hr
    have HH102 := HH89.on hbr28
    clear hbr28
    refine ⟨_, rfl, fun a_103 HE104 => hK101 _ _ ?_⟩
    refine pl_x HE104 HH102 (wt0 rfl) (x_assign rfl) rfl rfl fun a_105 HE106 => ?_
    refine wpList_nil ?_
    clear a_94 HE95 a_96 HE97 HH89 a_98 HE99 a_103 HE104 hK101 K_100
    refine nrm ?_
    refine wp_seq ?_
    refine wp_seq ?_
    refine rg ?_
    refine pl_x HE106 HH102 (wt0 rfl) (x_move rfl) rfl rfl fun a_107 HE108 => ?_
    refine pl_x HE108 HH102 (wt0 rfl) (x_lss rfl rfl) rfl rfl fun a_109 HE110 => ?_
    refine wpList_nil ?_
    clear a_105 HE106 a_107 HE108
    refine nrm ?_
    refine cnd_d HE110 rfl (fun hc29 => ?_) (fun hc29 => ?_)
    · refine wp_seq ?_
      refine rg ?_
      refine pl_x HE110 HH102 (wt0 rfl) (x_assign rfl) rfl rfl fun a_111 HE112 => ?_
      refine wpList_nil ?_
      clear a_109 HE110
      refine nrm ?_
      refine wp_ret ?_
      refine (thn_ret ?_)
      refine ret1 HE112 rfl (rv_tmp rfl) ?_
      have hF : true = false := by
        first | rfl | (exfalso; omega)
      exact ⟨by first | (rw [hF] <;> rfl) | rfl | (rw [hF]; simp only [Ending.returned.injEq, Value.slice.injEq, true_and, and_true]; first | omega | (simp; done)) | (rw [hF]; simp; omega), HH102.below⟩
    · refine wp_skip ?_
      refine nrm ?_
      refine wp_seq ?_
      refine wp_seq ?_
      refine rg ?_
      refine pl_x HE110 HH102 (wt0 rfl) (x_move rfl) rfl rfl fun a_113 HE114 => ?_
      refine pl_x HE114 HH102 (wt0 rfl) (x_move rfl) rfl rfl fun a_115 HE116 => ?_
      refine pl_x HE116 HH102 (wt0 rfl) (x_neq rfl rfl) rfl rfl fun a_117 HE118 => ?_
      refine wpList_nil ?_
      clear a_109 HE110 a_113 HE114 a_115 HE116
      refine nrm ?_
      refine cndF HE118 rfl (bne_f rfl) ?_
      refine wp_skip ?_
      refine nrm ?_
      refine wp_seq ?_
      refine rg ?_
      refine pl_x HE118 HH102 (wt0 rfl) (x_move rfl) rfl rfl fun a_119 HE120 => ?_
      refine pl fun K_121 hK122 => ?_
      refine st_call HE120 (wt0 rfl) rfl rfl rfl en_5 rfl rfl (impl_ReadCyclic a0 _ (HH102.glob2 hG) (by omega)) fun e w' hr => ?_
      obtain ⟨esr30_0, rfl, hor30_0, hbr30⟩ := hr
      have hr := eCyclic.read hor30_0
      obtain ⟨Sr30, HH123⟩ := HH102.newO hbr30 hor30_0
      obtain ⟨Ar30_0_0, cr30_0_0, rfl, gr30_0_0⟩ := shape_Cyclic hr
      refine ⟨_, rfl, fun a_124 HE125 => hK122 _ _ ?_⟩
      refine pl_x HE125 HH123 (wt0 rfl) (x_move rfl) rfl rfl fun a_126 HE127 => ?_
      refine pl_x HE127 HH123 (wt0 rfl) (x_extract rfl rfl) rfl rfl fun a_128 HE129 => ?_
      refine pl_x HE129 HH123 (wt0 rfl) (x_extract rfl rfl) rfl rfl fun a_130 HE131 => ?_
      refine pl fun K_132 hK133 => ?_
      refine st_alloc HE131 HH123 tv_24 (wt0 rfl) rfl fun q31 a_134 w' HE135 HH136 => hK133 _ _ ?_
      refine pl fun K_137 hK138 => ?_
      refine st_store (vs := [.slice Ar30_0_0 ((rdCyI a0).1.length) cr30_0_0]) 0 HE135 HH136 tv_24 rfl rfl rfl rfl rfl rfl (by simp [Value.oneCell']) (wt0 rfl) fun w' HH139 => hK138 _ _ ?_
      refine pl_x HE135 HH139 (wt0 rfl) (x_assign rfl) rfl rfl fun a_140 HE141 => ?_
      refine wpList_nil ?_
      clear a_117 HE118 HH102 a_119 HE120 a_124 HE125 a_126 HE127 a_128 HE129 K_121 hK122 a_130 HE131 HH123 K_132 hK133 HH136 a_134 HE135 hK138 K_137
      refine nrm ?_
      refine wp_seq ?_
      refine wp_seq ?_
      refine rg ?_
      refine pl_x HE141 HH139 (wt0 rfl) (x_loadN (cs := [.slice Ar30_0_0 ((rdCyI a0).1.length) cr30_0_0]) tv_24 rfl rfl (c_blkN 0 rfl)) rfl rfl fun a_142 HE143 => ?_
      refine pl_x HE143 HH139 (wt0 rfl) (x_loadN (cs := [.slice Ar22_0_0 ((rdCyI a0).1.length) cr22_0_0]) tv_24 rfl rfl (c_blkN 4 rfl)) rfl rfl fun a_144 HE145 => ?_
      refine pl fun K_146 hK147 => ?_
      refine st_call HE145 (wt0 rfl) rfl rfl rfl en_6 rfl rfl (eq_Cyclic_c [.slice Ar30_0_0 ((rdCyI a0).1.length) cr30_0_0] [.slice Ar22_0_0 ((rdCyI a0).1.length) cr22_0_0] ((rdCyI a0).1) ((rdCyI a0).1) _ (HH139.rd (i := 1) rfl) (HH139.rd (i := 5) rfl)) fun e w' hr => ?_
      obtain ⟨rfl, hbr32⟩ := hr
      have HH148 := HH139.on hbr32
      clear hbr32
      refine ⟨_, rfl, fun a_149 HE150 => hK147 _ _ ?_⟩
      refine pl_x HE150 HH148 (wt0 rfl) (x_not rfl) rfl rfl fun a_151 HE152 => ?_
      refine pl_x HE152 HH148 (wt0 rfl) (x_move rfl) rfl rfl fun a_153 HE154 => ?_
      refine pl_x HE154 HH148 (wtT HE154 rfl rfl rfl (not_f (eq_Cyclic_refl _))) (x_move rfl) rfl rfl fun a_155 HE156 => ?_
      refine pl_x HE156 HH148 (wtT HE156 rfl rfl rfl (not_f (eq_Cyclic_refl _))) (x_move rfl) rfl rfl fun a_157 HE158 => ?_
      refine pl_x HE158 HH148 (wtT HE158 rfl rfl rfl (not_f (eq_Cyclic_refl _))) (x_bneq Tryd.underlying4 rfl rfl) rfl rfl fun a_159 HE160 => ?_
      refine pl_x HE160 HH148 (wt0 rfl) (x_pickF rfl (not_f (eq_Cyclic_refl _)) rfl) rfl rfl fun a_161 HE162 => ?_
      refine wpList_nil ?_
      clear a_140 HE141 a_142 HE143 HH139 a_144 HE145 a_149 HE150 a_151 HE152 a_153 HE154 a_155 HE156 a_157 HE158 a_159 HE160 hK147 K_146
      refine nrm ?_
      refine cndF HE162 rfl (not_f (beq_self_eq_true _)) ?_
      refine wp_skip ?_
      refine nrm ?_
      refine wp_seq ?_
      refine rg ?_
      refine pl_x HE162 HH148 (wt0 rfl) (x_assign rfl) rfl rfl fun a_163 HE164 => ?_
      refine wpList_nil ?_
      clear a_161 HE162
      refine nrm ?_
      refine wp_seq ?_
      refine rg ?_
      refine pl_x HE164 HH148 (wt0 rfl) (x_loadN (cs := [.slice Ar24_0_0 ((rdCyI a0).1.length) cr24_0_0]) tv_24 rfl rfl (c_blkN 2 rfl)) rfl rfl fun a_165 HE166 => ?_
      refine pl_x HE166 HH148 (wt0 rfl) (x_move rfl) rfl rfl fun a_167 HE168 => ?_
      refine pl fun K_169 hK170 => ?_
      refine st_call HE168 (wt0 rfl) rfl rfl rfl en_8 rfl rfl (held_Cyclic_c [.slice Ar24_0_0 ((rdCyI a0).1.length) cr24_0_0] ((rdCyI a0).1) 1 _ (HH148.rd (i := 3) rfl) (by omega) (by omega)) fun e w' hr => ?_
      obtain ⟨rfl, hbr33⟩ := hr
      have HH171 := HH148.on hbr33
      clear hbr33
      refine ⟨_, rfl, fun a_172 HE173 => hK170 _ _ ?_⟩
      refine pl_x HE173 HH171 (wt0 rfl) (x_assign rfl) rfl rfl fun a_174 HE175 => ?_
      refine wpList_nil ?_
      clear a_163 HE164 a_165 HE166 HH148 a_167 HE168 a_172 HE173 hK170 K_169
      refine nrm ?_
      refine wp_seq ?_
      refine wp_seq ?_
      refine rg ?_
      refine pl_x HE175 HH171 (wt0 rfl) (x_move rfl) rfl rfl fun a_176 HE177 => ?_
      refine pl_x HE177 HH171 (wt0 rfl) (x_lss rfl rfl) rfl rfl fun a_178 HE179 => ?_
      refine wpList_nil ?_
      clear a_174 HE175 a_176 HE177
      refine nrm ?_
      refine cndF HE179 rfl (decide_eq_false hc29) ?_
      refine wp_skip ?_
      refine nrm ?_
      refine wp_seq ?_
      refine wp_seq ?_
      refine rg ?_
      refine pl_x HE179 HH171 (wt0 rfl) (x_move rfl) rfl rfl fun a_180 HE181 => ?_
      refine pl_x HE181 HH171 (wt0 rfl) (x_move rfl) rfl rfl fun a_182 HE183 => ?_
      refine pl_x HE183 HH171 (wt0 rfl) (x_neq rfl rfl) rfl rfl fun a_184 HE185 => ?_
      refine wpList_nil ?_
      clear a_178 HE179 a_180 HE181 a_182 HE183
      refine nrm ?_
      refine cndF HE185 rfl (bne_f rfl) ?_
      refine wp_skip ?_
      refine nrm ?_
      refine wp_seq ?_
      refine rg ?_
      refine pl_x HE185 HH171 (wt0 rfl) (x_assign rfl) rfl rfl fun a_186 HE187 => ?_
      refine wpList_nil ?_
      clear a_184 HE185
      refine nrm ?_
      refine wp_ret ?_
      refine ret1 HE187 rfl (rv_tmp rfl) ?_
      have hF : true = true := by
        first | rfl | (exfalso; omega)
      exact ⟨by first | (rw [hF] <;> rfl) | rfl | (rw [hF]; simp only [Ending.returned.injEq, Value.slice.injEq, true_and, and_true]; first | omega | (simp; done)) | (rw [hF]; simp; omega), HH171.below⟩

end Go.Proofs.YtcfdkckchbdafaaDoor
