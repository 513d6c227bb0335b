/- What the proof of FnExactPruneProgram needs: contracts of the functions that it reaches, each once. -/
import Derived.Test.YthfihlfjphiihaaProg
import Derived.Test.YthfihlfjphiihaaQMem
import Derived.Test.YthfihlfjphiihaaQOpen
import Derived.Test.YthfihlfjphiihaaLPrunePrograma
import Derived.Test.YthfihlfjphiihaaLPruneProgramb
import Derived.WalkKit
import Derived.WalkSpells
import Derived.Below
import Derived.LoopTactic
import Derived.Outline
import Derived.Deep.QuietTactic
import Derived.BigQuiet
import Derived.Deep.LoopGhost
import Derived.Handy
import Derived.Lib.Hide
import Derived.Shelf.Abstract
import Derived.StillTailTactics
import Derived.OwnWalk
import Derived.Maps.AppendAt
import Derived.RegionTactic
import Derived.Deep.RegionHeld3
import Derived.IntWalk
import Derived.Deep.Upon
import Derived.Laws.OwnMore
import Derived.Maps.AppendAt
import Derived.Laws.Small
import Derived.Lib.FrozenHead
import Derived.Lib.RuneBytes
import Derived.Lib.LaidTab
import Derived.Laws.StructEq
import Derived.Lib.SliceRun
import Derived.Lib.AppendZeros
import Derived.Shelf.SortG.Plain
import Derived.Shelf.SortG.SortNone
import Derived.Shelf.SlicesG.CompactI
import Derived.Shelf.SlicesG.SearchI
import Derived.Sort.OwnSortedInts
import Derived.Lib.RowBridge
import Derived.Lib.ItoaLen
import Derived.Lib.Join
import Derived.Shelf.Strconv.Itoa4
import Derived.Shelf.Strings.OnBuilder
import Derived.Shelf.Strings.BuilderK
import Derived.Shelf.Strings.BuilderRune
import Derived.Shelf.LaysM
import Derived.Ground.NamesProg
namespace Go.Proofs.Ythfihlfjphiihaa
open Go.RowKit

set_option maxRecDepth 100000 in
set_option maxHeartbeats 4000000 in
theorem impl_prune1 (a0 : Int) (p1 : Nat) (es1 : List Value) (a1 : (List tInstr)) (w : World) (h1 : (eSl eInstr).R w (Old w) es1 a1) (hq1 : ∀ j v, es1[j]? = some v → w.cell? ⟨p1, 0 + j, none⟩ = some v) (s0 : 0 ≤ a0 ∧ a0 < (a1.length : Int)) :
    Calls Try.prog 54 #[.int .i64 a0, .pointer (some ⟨p1, 0, none⟩)] w fun e w' => ∃ (A0' : Option Addr) (c0' : Nat), e = .returned (.slice A0' (nxP a1 a0).length c0') ∧ So eInt w' (Fr w w') A0' c0' (nxP a1 a0) ∧ Below w.heap.size w w' := by
  have H1 := h1
  obtain ⟨Az1_0, cz1_0, rfl, gz1_0⟩ := h1
  have lz1_0 := gz1_0.len
  have HH1 := Held.start Nob w
  refine enter (n := 27) Try.func54 rfl rfl rfl fun a_2 HE3 => ?_
  refine wp_seq ?_
  refine rg ?_
  refine pl_x HE3 HH1 (wt0 rfl) (x_assign rfl) rfl rfl fun a_4 HE5 => ?_
  refine wpList_nil ?_
  clear a_2 HE3
  refine nrm ?_
  refine wp_seq ?_
  refine wp_seq ?_
  refine rg ?_
  refine pl_x HE5 HH1 (wt0 rfl) (x_load1 tv_36 rfl (c_old (hq1 0 _ rfl))) rfl rfl fun a_6 HE7 => ?_
  refine pl_x HE7 HH1 (wt0 rfl) (x_move rfl) rfl rfl fun a_8 HE9 => ?_
  have ke21 : (a0).toNat < a1.length := by omega
  obtain ⟨be21, fe21, ese21, Ae21, Re21, De21⟩ := el_old gz1_0 ke21
  obtain ⟨e21, xe21⟩ : ∃ x_, x_ = a1[(a0).toNat] := ⟨_, rfl⟩
  rw [← xe21] at Re21
  have Qe21 := Re21
  obtain ⟨rfl, ge21_0, ge21_1, ge21_2, ge21_3⟩ := shape_Instr Re21
  have je21_0 := ge21_0; unfold I64 at je21_0
  have je21_1 := ge21_1; unfold I64 at je21_1
  have je21_2 := ge21_2; unfold I64 at je21_2
  have je21_3 := ge21_3; unfold I64 at je21_3
  have hge21 : a1[(a0).toNat]?.getD default = e21 := by rw [List.getElem?_eq_getElem ke21, xe21]; rfl
  refine pl_x HE9 HH1 (wt0 rfl) (x_indexAddr ts_36 rfl rfl Ae21 (by omega) ke21) rfl rfl fun a_10 HE11 => ?_
  refine pl_x HE11 HH1 (wt0 rfl) (x_fieldAddr fa_81_0 rfl) rfl rfl fun a_12 HE13 => ?_
  refine pl_x HE13 HH1 (wt0 rfl) (x_load1 tv_2 rfl (c_old (De21 0 _ rfl))) rfl rfl fun a_14 HE15 => ?_
  refine pl_x HE15 HH1 (wt0 rfl) (x_eql rfl rfl) rfl rfl fun a_16 HE17 => ?_
  refine wpList_nil ?_
  clear a_4 HE5 a_6 HE7 a_8 HE9 a_10 HE11 a_12 HE13 a_14 HE15
  refine nrm ?_
  refine cnd_e HE17 rfl (fun hc22 => ?_) (fun hc22 => ?_)
  · refine wp_seq ?_
    refine rg ?_
    refine pl_x HE17 HH1 (wt0 rfl) (x_load1 tv_36 rfl (c_old (hq1 0 _ rfl))) rfl rfl fun a_18 HE19 => ?_
    refine pl_x HE19 HH1 (wt0 rfl) (x_move rfl) rfl rfl fun a_20 HE21 => ?_
    refine pl_x HE21 HH1 (wt0 rfl) (x_indexAddr ts_36 rfl rfl Ae21 (by omega) ke21) rfl rfl fun a_22 HE23 => ?_
    refine pl_x HE23 HH1 (wt0 rfl) (x_fieldAddr fa_81_2 rfl) rfl rfl fun a_24 HE25 => ?_
    refine pl_x HE25 HH1 (wt0 rfl) (x_load1 tv_2 rfl (c_old (De21 2 _ rfl))) rfl rfl fun a_26 HE27 => ?_
    refine pl fun K_28 hK29 => ?_
    refine st_lit (m := 1) (cs := [.int .i64 (e21.2.2.1)]) (e := 2) HE27 HH1 (run_lit ts_37 HE27 (vs := [.int .i64 (e21.2.2.1)]) rfl rfl (by simp [Value.cells]) rfl (by decide)) (wt0 rfl) rfl rfl fun q23 a_30 w' HE31 HH32 => hK29 _ _ ?_
    refine pl_x HE31 HH32 (wt0 rfl) (x_assign rfl) rfl rfl fun a_33 HE34 => ?_
    refine wpList_nil ?_
    clear a_16 HE17 a_18 HE19 a_20 HE21 a_22 HE23 a_24 HE25 a_26 HE27 HH1 a_30 HE31 hK29 K_28
    refine nrm ?_
    refine wp_ret ?_
    refine (thn_ret ?_)
    refine ret1 HE34 rfl (rv_tmp rfl) ?_
    have HH35 := Held.vecFlat (E := eInt) (xs := [e21.2.2.1]) (css := [[.int .i64 (e21.2.2.1)]]) HH32 rfl (by unfold maxLen; simp) (fun i x hx => by match i with | 0 => exact ⟨_, rfl, fun _ => by simp at hx; subst hx; exact (oI (by exact ⟨by omega, by omega⟩))⟩ | i + 1 => simp at hx)
    have HH36 := HH35.vecSo
    have hF : (nxP a1 a0) = ([e21.2.2.1] : List Int) := by
      unfold nxP; rw [hge21]; first | (rw [if_pos (by assumption)]) | (rw [if_neg (by assumption)])
    exact ⟨(some ⟨q23, 0, none⟩), 1, by first | (rw [hF] <;> rfl) | rfl | (rw [hF]; simp only [Ending.returned.injEq, Value.slice.injEq, true_and, and_true]; first | omega | (simp; done)) | (rw [hF]; simp; omega), by rw [hF]; exact (HH36.so (i := 0) rfl), HH36.below⟩
  · refine wp_skip ?_
    refine nrm ?_
    refine wp_seq ?_
    refine dr_start (Held Nob w []) 12 #[false, false, false, false, false, false, false, false, false, false, false, false] hmix rfl rfl HH1 (fun _ h => h.sel [] (by decide) rfl) fun w' HH37 => ?_
    have HS38 := HH37
    refine dr_take (i := 0) (ls' := #[true, false, false, false, false, false, false, false, false, false, false, false]) HE17 HS38 rfl (by kernel_rfl) (by kernel_rfl) (by kernel_rfl) (fun _ _ _ h => h) rfl (wt0 rfl) (x_load1 tv_36 rfl (c_old (hq1 0 _ rfl))) rfl rfl fun a_39 HE40 => ?_
    refine dr_take (i := 1) (ls' := #[true, true, false, false, false, false, false, false, false, false, false, false]) HE40 HS38 rfl (by kernel_rfl) (by kernel_rfl) (by kernel_rfl) (fun _ _ _ h => h) rfl (wt0 rfl) (x_move rfl) rfl rfl fun a_41 HE42 => ?_
    refine dr_take (i := 2) (ls' := #[true, true, true, false, false, false, false, false, false, false, false, false]) HE42 HS38 rfl (by kernel_rfl) (by kernel_rfl) (by kernel_rfl) (fun _ _ _ h => h) rfl (wt0 rfl) (x_indexAddr ts_36 rfl rfl Ae21 (by omega) ke21) rfl rfl fun a_43 HE44 => ?_
    refine dr_take (i := 3) (ls' := #[true, true, true, true, false, false, false, false, false, false, false, false]) HE44 HS38 rfl (by kernel_rfl) (by kernel_rfl) (by kernel_rfl) (fun _ _ _ h => h) rfl (wt0 rfl) (x_fieldAddr fa_81_2 rfl) rfl rfl fun a_45 HE46 => ?_
    refine dr_take (i := 4) (ls' := #[true, true, true, true, true, false, false, false, false, false, false, false]) HE46 HS38 rfl (by kernel_rfl) (by kernel_rfl) (by kernel_rfl) (fun _ _ _ h => h) rfl (wt0 rfl) (x_load1 tv_2 rfl (c_old (De21 2 _ rfl))) rfl rfl fun a_47 HE48 => ?_
    refine dr_take (i := 5) (ls' := #[true, true, true, true, true, true, false, false, false, false, false, false]) HE48 HS38 rfl (by kernel_rfl) (by kernel_rfl) (by kernel_rfl) (fun _ _ _ h => h) rfl (wt0 rfl) (x_load1 tv_36 rfl (c_old (hq1 0 _ rfl))) rfl rfl fun a_49 HE50 => ?_
    refine dr_take (i := 6) (ls' := #[true, true, true, true, true, true, true, false, false, false, false, false]) HE50 HS38 rfl (by kernel_rfl) (by kernel_rfl) (by kernel_rfl) (fun _ _ _ h => h) rfl (wt0 rfl) (x_move rfl) rfl rfl fun a_51 HE52 => ?_
    refine dr_take (i := 7) (ls' := #[true, true, true, true, true, true, true, true, false, false, false, false]) HE52 HS38 rfl (by kernel_rfl) (by kernel_rfl) (by kernel_rfl) (fun _ _ _ h => h) rfl (wt0 rfl) (x_indexAddr ts_36 rfl rfl Ae21 (by omega) ke21) rfl rfl fun a_53 HE54 => ?_
    refine dr_take (i := 8) (ls' := #[true, true, true, true, true, true, true, true, true, false, false, false]) HE54 HS38 rfl (by kernel_rfl) (by kernel_rfl) (by kernel_rfl) (fun _ _ _ h => h) rfl (wt0 rfl) (x_fieldAddr fa_81_3 rfl) rfl rfl fun a_55 HE56 => ?_
    refine dr_take (i := 9) (ls' := #[true, true, true, true, true, true, true, true, true, true, false, false]) HE56 HS38 rfl (by kernel_rfl) (by kernel_rfl) (by kernel_rfl) (fun _ _ _ h => h) rfl (wt0 rfl) (x_load1 tv_2 rfl (c_old (De21 3 _ rfl))) rfl rfl fun a_57 HE58 => ?_
    refine dr_one (i := 10) (ls' := #[true, true, true, true, true, true, true, true, true, true, true, false]) rfl (by kernel_rfl) rfl fun K_59 hK60 => ?_
    refine st_lit (m := 2) (cs := [.int .i64 (e21.2.2.1), .int .i64 (e21.2.2.2)]) (e := 2) HE58 HH37 (run_lit ts_37 HE58 (vs := [.int .i64 (e21.2.2.1), .int .i64 (e21.2.2.2)]) rfl rfl (by simp [Value.cells]) rfl (by decide)) (wt0 rfl) rfl rfl fun q24 a_61 w' HE62 HH63 => hK60 _ _ (by exact HH63.sel [] (by decide) rfl) ?_
    have HS64 := HH63.sel [] (by decide) rfl
    refine dr_take (i := 11) (ls' := #[true, true, true, true, true, true, true, true, true, true, true, true]) HE62 HS64 rfl (by kernel_rfl) (by kernel_rfl) (by kernel_rfl) (fun _ _ _ h => h) rfl (wt0 rfl) (x_assign rfl) rfl rfl fun a_65 HE66 => ?_
    refine dr_done (by kernel_rfl) ?_
    clear HH1 a_16 HE17 a_39 HE40 a_41 HE42 a_43 HE44 a_45 HE46 a_47 HE48 a_49 HE50 a_51 HE52 a_53 HE54 a_55 HE56 a_57 HE58 HH37 HS38 a_61 HE62 hK60 K_59
    refine nrm ?_
    refine wp_ret ?_
    refine ret1 HE66 rfl (rv_tmp rfl) ?_
    have HH67 := Held.vecFlat (E := eInt) (xs := [e21.2.2.1, e21.2.2.2]) (css := [[.int .i64 (e21.2.2.1)], [.int .i64 (e21.2.2.2)]]) HH63 rfl (by unfold maxLen; simp) (fun i x hx => by match i with | 0 => exact ⟨_, rfl, fun _ => by simp at hx; subst hx; exact (oI (by exact ⟨by omega, by omega⟩))⟩ | 1 => exact ⟨_, rfl, fun _ => by simp at hx; subst hx; exact (oI (by exact ⟨by omega, by omega⟩))⟩ | i + 2 => simp at hx)
    have HH68 := HH67.vecSo
    have hF : (nxP a1 a0) = ([e21.2.2.1, e21.2.2.2] : List Int) := by
      unfold nxP; rw [hge21]; first | (rw [if_pos (by assumption)]) | (rw [if_neg (by assumption)])
    exact ⟨(some ⟨q24, 0, none⟩), 2, by first | (rw [hF] <;> rfl) | rfl | (rw [hF]; simp only [Ending.returned.injEq, Value.slice.injEq, true_and, and_true]; first | omega | (simp; done)) | (rw [hF]; simp; omega), by rw [hF]; exact (HH68.so (i := 0) rfl), HH68.below⟩

set_option maxRecDepth 100000 in
set_option maxHeartbeats 4000000 in
theorem impl_reachable1 (M : Nat → Prop) (a0 : Int) (p1 : Nat) (es1 : List Value) (a1 : Int) (p2 : Nat) (A2 : Option Addr) (c2 n2 : Nat) (a2 : (List Bool)) (S2 : Nat → Prop) (p3 : Nat) (p4 : Nat) (p5 : Nat) (es5 : List Value) (a5 : (List tInstr)) (f : Nat) (ih : ∀ (M : Nat → Prop) (a0 : Int) (p1 : Nat) (es1 : List Value) (a1 : Int) (p2 : Nat) (A2 : Option Addr) (c2 n2 : Nat) (a2 : (List Bool)) (S2 : Nat → Prop) (p3 : Nat) (p4 : Nat) (p5 : Nat) (es5 : List Value) (a5 : (List tInstr)) (w : World) (HM : Held M w [rBlk p2 120 [.slice A2 n2 c2], rSo eBool S2 A2 c2 a2] w) (h1 : eInt.R w (Out M w) es1 a1) (hq1 : ∀ j v, es1[j]? = some v → w.cell? ⟨p1, 0 + j, none⟩ = some v) (Nhq1 : ¬ M p1) (hn2 : a2.length = n2) (hq3 : ∀ j v, ([.func (.func 54) #[] #[.pointer (some ⟨p5, 0, none⟩)]] : List Value)[j]? = some v → w.cell? ⟨p3, 0 + j, none⟩ = some v) (Nhq3 : ¬ M p3) (hq4 : ∀ j v, ([.func (.func 92) #[] #[.pointer (some ⟨p1, 0, none⟩), .pointer (some ⟨p2, 0, none⟩), .pointer (some ⟨p3, 0, none⟩), .pointer (some ⟨p4, 0, none⟩)]] : List Value)[j]? = some v → w.cell? ⟨p4, 0 + j, none⟩ = some v) (Nhq4 : ¬ M p4) (h5 : (eSl eInstr).R w (Out M w) es5 a5) (hq5 : ∀ j v, es5[j]? = some v → w.cell? ⟨p5, 0 + j, none⟩ = some v) (Nhq5 : ¬ M p5) (s1 : a1 = (a5.length : Int)) (s2 : a2.length = a5.length) (s3 : 0 ≤ a0) (s4 : ∀ x t, t ∈ nxP a5 x → 0 ≤ t) (s5 : a2.count false < f), Calls Try.prog 92 #[.int .i64 a0, .pointer (some ⟨p1, 0, none⟩), .pointer (some ⟨p2, 0, none⟩), .pointer (some ⟨p3, 0, none⟩), .pointer (some ⟨p4, 0, none⟩)] w fun e w' => ∃ (S2' : Nat → Prop), e = .returned (.tuple #[]) ∧ Held M w [rBlk p2 120 [.slice A2 n2 c2], rSo eBool S2' A2 c2 (visF a5 (f) a2 a0)] w') (w : World) (HM : Held M w [rBlk p2 120 [.slice A2 n2 c2], rSo eBool S2 A2 c2 a2] w) (h1 : eInt.R w (Out M w) es1 a1) (hq1 : ∀ j v, es1[j]? = some v → w.cell? ⟨p1, 0 + j, none⟩ = some v) (Nhq1 : ¬ M p1) (hn2 : a2.length = n2) (hq3 : ∀ j v, ([.func (.func 54) #[] #[.pointer (some ⟨p5, 0, none⟩)]] : List Value)[j]? = some v → w.cell? ⟨p3, 0 + j, none⟩ = some v) (Nhq3 : ¬ M p3) (hq4 : ∀ j v, ([.func (.func 92) #[] #[.pointer (some ⟨p1, 0, none⟩), .pointer (some ⟨p2, 0, none⟩), .pointer (some ⟨p3, 0, none⟩), .pointer (some ⟨p4, 0, none⟩)]] : List Value)[j]? = some v → w.cell? ⟨p4, 0 + j, none⟩ = some v) (Nhq4 : ¬ M p4) (h5 : (eSl eInstr).R w (Out M w) es5 a5) (hq5 : ∀ j v, es5[j]? = some v → w.cell? ⟨p5, 0 + j, none⟩ = some v) (Nhq5 : ¬ M p5) (s1 : a1 = (a5.length : Int)) (s2 : a2.length = a5.length) (s3 : 0 ≤ a0) (s4 : ∀ x t, t ∈ nxP a5 x → 0 ≤ t) (s5 : a2.count false < f + 1) :
    Calls Try.prog 92 #[.int .i64 a0, .pointer (some ⟨p1, 0, none⟩), .pointer (some ⟨p2, 0, none⟩), .pointer (some ⟨p3, 0, none⟩), .pointer (some ⟨p4, 0, none⟩)] w fun e w' => ∃ (S2' : Nat → Prop), e = .returned (.tuple #[]) ∧ Held M w [rBlk p2 120 [.slice A2 n2 c2], rSo eBool S2' A2 c2 (visF a5 (f + 1) a2 a0)] w' := by
  have H1 := h1
  obtain ⟨rfl, iz1⟩ := h1
  have jz1 := iz1; unfold I64 at jz1
  have H5 := h5
  obtain ⟨Az5_0, cz5_0, rfl, gz5_0⟩ := h5
  have lz5_0 := gz5_0.len
  have HH1 := HM
  have lv2 := (HH1.sl (i := 1) rfl).len
  refine enter (n := 32) Try.func92 rfl rfl rfl fun a_2 HE3 => ?_
  refine wp_seq ?_
  refine wp_seq ?_
  refine rg ?_
  refine pl_x HE3 HH1 (wt0 rfl) (x_move rfl) rfl rfl fun a_4 HE5 => ?_
  refine pl_x HE5 HH1 (wt0 rfl) (x_load1 tv_2 rfl (c_oldM Nhq1 (hq1 0 _ rfl))) rfl rfl fun a_6 HE7 => ?_
  refine pl_x HE7 HH1 (wt0 rfl) (x_geq rfl rfl) rfl rfl fun a_8 HE9 => ?_
  refine pl_x HE9 HH1 (wt0 rfl) (x_move rfl) rfl rfl fun a_10 HE11 => ?_
  by_cases hc21 : a1 ≤ a0
  · refine pl_no HE11 (wtF HE11 rfl rfl rfl (decide_eq_true hc21)) rfl rfl fun a_12 HE13 => ?_
    refine pl_no HE13 (wtF HE13 rfl rfl rfl (decide_eq_true hc21)) rfl rfl fun a_14 HE15 => ?_
    refine pl_no HE15 (wtF HE15 rfl rfl rfl (decide_eq_true hc21)) rfl rfl fun a_16 HE17 => ?_
    refine pl_no HE17 (wtF HE17 rfl rfl rfl (decide_eq_true hc21)) rfl rfl fun a_18 HE19 => ?_
    refine pl_x HE19 HH1 (wt0 rfl) (x_pickT rfl (decide_eq_true hc21) rfl) rfl rfl fun a_20 HE21 => ?_
    refine wpList_nil ?_
    clear a_2 HE3 a_4 HE5 a_6 HE7 a_8 HE9 a_10 HE11 a_12 HE13 a_14 HE15 a_16 HE17 a_18 HE19
    refine nrm ?_
    refine cndT HE21 rfl rfl ?_
    refine wp_ret ?_
    refine (thn_ret ?_)
    refine ret0 HE21 rfl ?_
    have hF : (visF a5 (f + 1) a2 a0) = a2 := by
      rw [visF]; first | (rw [if_pos (by simp [hc21]; done)]) | (rw [if_pos (by grind)]) | (rw [if_neg (by grind), List.take_of_length_le (by omega)])
    exact ⟨_, rfl, by rw [hF]; exact HH1.sel [0, 1] (by decide) rfl⟩
  · refine pl_x HE11 HH1 (wtT HE11 rfl rfl rfl (decide_eq_false hc21)) (x_load1 tv_120 rfl (c_blk 0 rfl rfl)) rfl rfl fun a_22 HE23 => ?_
    refine pl_x HE23 HH1 (wtT HE23 rfl rfl rfl (decide_eq_false hc21)) (x_move rfl) rfl rfl fun a_24 HE25 => ?_
    have ke22 : (a0).toNat < n2 := by omega
    obtain ⟨be22, fe22, rfl⟩ := el_own HH1 (i := 1) rfl (k := ((a0).toNat)) (by omega)
    refine pl_x HE25 HH1 (wtT HE25 rfl rfl rfl (decide_eq_false hc21)) (x_indexAddr ts_120 rfl rfl rfl (by omega) ke22) rfl rfl fun a_26 HE27 => ?_
    obtain ⟨y23, xy23⟩ : ∃ y_, y_ = a2[(a0).toNat]'(by first | exact ke22 | (simp only [List.length_set]; exact ke22) | omega | (simp only [List.length_set]; omega) | (simp; omega)) := ⟨_, rfl⟩
    refine pl_x HE27 HH1 (wtT HE27 rfl rfl rfl (decide_eq_false hc21)) (x_load1 tv_4 rfl (c_ownBV 1 rfl (by first | exact ke22 | (simp only [List.length_set]; exact ke22) | omega | (simp only [List.length_set]; omega) | (simp; omega)) xy23.symm)) rfl rfl fun a_28 HE29 => ?_
    refine pl_x HE29 HH1 (wt0 rfl) (x_pickF rfl (decide_eq_false hc21) rfl) rfl rfl fun a_30 HE31 => ?_
    refine wpList_nil ?_
    clear a_2 HE3 a_4 HE5 a_6 HE7 a_8 HE9 a_10 HE11 a_22 HE23 a_24 HE25 a_26 HE27 a_28 HE29
    refine nrm ?_
    refine cnd_b HE31 rfl (fun hc24 => ?_) (fun hc24 => ?_)
    · refine wp_ret ?_
      refine (thn_ret ?_)
      refine ret0 HE31 rfl ?_
      have hF : (visF a5 (f + 1) a2 a0) = a2 := by
        rw [visF]; first | (rw [if_pos (by simp [hc21, xy23, hc24]; done)]) | (rw [if_pos (by grind)]) | (rw [if_neg (by grind), List.take_of_length_le (by omega)])
      exact ⟨_, rfl, by rw [hF]; exact HH1.sel [0, 1] (by decide) rfl⟩
    · refine wp_skip ?_
      refine nrm ?_
      refine wp_seq ?_
      refine rg ?_
      refine pl_x HE31 HH1 (wt0 rfl) (x_load1 tv_120 rfl (c_blk 0 rfl rfl)) rfl rfl fun a_32 HE33 => ?_
      refine pl_x HE33 HH1 (wt0 rfl) (x_move rfl) rfl rfl fun a_34 HE35 => ?_
      have ke25 : (a0).toNat < n2 := by omega
      refine pl_x HE35 HH1 (wt0 rfl) (x_indexAddr ts_120 rfl rfl rfl (by omega) ke25) rfl rfl fun a_36 HE37 => ?_
      refine pl fun K_38 hK39 => ?_
      refine st_storeB 1 HE37 HH1 tv_4 rfl rfl rfl (by first | exact ke25 | (simp only [List.length_set]; exact ke25) | omega | (simp only [List.length_set]; omega) | (simp; omega)) (wt0 rfl) fun w' HH40 => hK39 _ _ ?_
      refine wpList_nil ?_
      clear a_30 HE31 a_32 HE33 a_34 HE35 HH1 hK39 K_38
      refine nrm ?_
      refine wp_seq ?_
      refine rg ?_
      refine pl_x HE37 HH40 (wt0 rfl) (x_load1 tv_86 rfl (c_oldM Nhq3 (hq3 0 _ rfl))) rfl rfl fun a_41 HE42 => ?_
      refine pl_x HE42 HH40 (wt0 rfl) (x_move rfl) rfl rfl fun a_43 HE44 => ?_
      refine pl fun K_45 hK46 => ?_
      refine st_callD HE44 (wt0 rfl) rfl rfl rfl en_54 rfl rfl (impl_prune1 a0 _ [.slice Az5_0 (a5.length) cz5_0] a5 _ (HH40.oldRM H5) (c_oldNM Nhq5 hq5 _ HH40) (by omega)) fun e w' hr => ?_
      obtain ⟨Ar26_0, cr26_0, rfl, hor26_0, hbr26⟩ := hr
      obtain ⟨Sr26, HH47⟩ := HH40.newS hbr26 hor26_0
      refine ⟨_, rfl, fun a_48 HE49 => hK46 _ _ ?_⟩
      refine pl_x HE49 HH47 (wt0 rfl) (x_len Try.underlying37 rfl) rfl rfl fun a_50 HE51 => ?_
      refine pl_x HE51 HH47 (wt0 rfl) (x_move rfl) rfl rfl fun a_52 HE53 => ?_
      refine wpList_nil ?_
      clear a_36 HE37 a_41 HE42 HH40 a_43 HE44 a_48 HE49 a_50 HE51 hK46 K_45
      refine nrm ?_
      refine wp_block ?_
      have hsf : a2[a0.toNat]? = some false := by rw [List.getElem?_eq_getElem (by omega), ← xy23, hc24]
      have hcf := cF_set hsf
      have hnl := nxP_len a5 a0
      refine lp (fun m a w' => ∃ (i : Nat) (S_2_0 : Nat → Prop), m = (nxP a5 a0).length - i ∧ Env 32 [(24, .int .i64 (i : Int)), (4, .pointer (some ⟨p4, 0, none⟩)), (22, .slice Ar26_0 ((nxP a5 a0).length) cr26_0), (23, .int .i64 (((nxP a5 a0).length : Int))), (2, .pointer (some ⟨p2, 0, none⟩))] a ∧ Held M w [rSo eBool S_2_0 (some ⟨be22, fe22, none⟩) c2 (((nxP a5 a0).take i).foldl (visF a5 f) (a2.set a0.toNat true)), rSo eInt Sr26 Ar26_0 cr26_0 (nxP a5 a0), rBlk p2 120 [.slice (some ⟨be22, fe22, none⟩) (n2) c2]] w' ∧ (i ≤ (nxP a5 a0).length)) ((nxP a5 a0).length - (0)) ?_ ?_
      · have E27 : ((nxP a5 a0).take 0).foldl (visF a5 f) (a2.set a0.toNat true) = (a2.set ((a0).toNat) true) := by
          rfl
        exact ⟨0, S2, rfl, HE53.sub ⟨(lkI rfl (by first | rfl | omega | (simp [hc21, xy23, hc24]; done))), rfl, rfl, rfl, rfl, trivial⟩, ((HH47.sel [2, 0, 1] (by decide) rfl).to (by first | rfl | (rw [E27]; done) | (rw [E27]; rfl) | (simp only [E27]; done) | (simp only [E27]; rfl) | (rw [E27]; simp only [List.length_set]; done))), (by first | omega | assumption | (simp; done) | simp_all)⟩
      · rintro m a_54 w' ⟨i, S_2_0, rfl, HE55, HH56, p28_0⟩
        refine wp_seq ?_
        refine rg ?_
        refine pl_x HE55 HH56 (wt0 rfl) (x_lss rfl rfl) rfl rfl fun a_57 HE58 => ?_
        refine wpList_nil ?_
        clear a_52 HE53 HH47 a_54 HE55
        refine nrm ?_
        refine wp_seq ?_
        refine cnd_d HE58 rfl (fun hc29 => ?_) (fun hc29 => ?_)
        · refine wp_skip ?_
          refine nrm ?_
          refine wp_seq ?_
          refine wp_block ?_
          refine wp_seq ?_
          refine rg ?_
          have ke30 : i < (nxP a5 a0).length := by omega
          obtain ⟨be30, fe30, rfl⟩ := el_own HH56 (i := 1) rfl ke30
          refine pl_x HE58 HH56 (wt0 rfl) (x_indexAddr ts_37 rfl rfl rfl rfl ke30) rfl rfl fun a_59 HE60 => ?_
          obtain ⟨y31, xy31⟩ : ∃ y_, y_ = (nxP a5 a0)[i]'(by first | exact ke30 | (simp only [List.length_set]; exact ke30) | omega | (simp only [List.length_set]; omega) | (simp; omega)) := ⟨_, rfl⟩
          have iy31 : I64 y31 := by rw [xy31]; exact i_ownI HH56 1 rfl _
          have jy31 := iy31; unfold I64 at jy31
          have hmy31 : y31 ∈ nxP a5 a0 := by rw [xy31]; exact List.getElem_mem _
          have h0y31 := s4 _ _ hmy31
          have hvc := visFold_cnt (f := f) s4 ((nxP a5 a0).take i) (a2.set a0.toNat true) (fun t ht => s4 _ _ (List.mem_of_mem_take ht)) (by rw [List.length_set]; omega)
          refine pl_x HE60 HH56 (wt0 rfl) (x_load1 tv_2 rfl (c_ownV 1 rfl (by first | exact ke30 | (simp only [List.length_set]; exact ke30) | omega | (simp only [List.length_set]; omega) | (simp; omega)) xy31.symm)) rfl rfl fun a_61 HE62 => ?_
          refine pl_x HE62 HH56 (wt0 rfl) (x_assign rfl) rfl rfl fun a_63 HE64 => ?_
          refine wpList_nil ?_
          clear a_57 HE58 a_59 HE60 a_61 HE62
          refine nrm ?_
          refine rg ?_
          refine pl_x HE64 HH56 (wt0 rfl) (x_load1 tv_121 rfl (c_oldM Nhq4 (hq4 0 _ rfl))) rfl rfl fun a_65 HE66 => ?_
          refine pl_x HE66 HH56 (wt0 rfl) (x_move rfl) rfl rfl fun a_67 HE68 => ?_
          refine pl fun K_69 hK70 => ?_
          have HH71 := HH56.sel [2, 0, 1] (by decide) rfl
          have HH72 : Held M w ([rBlk p2 120 [.slice (some ⟨be22, fe22, none⟩) (n2) c2], rSo eBool S_2_0 (some ⟨be22, fe22, none⟩) c2 (((nxP a5 a0).take i).foldl (visF a5 f) (a2.set a0.toNat true))] ++ [rSo eInt Sr26 (some ⟨be30, fe30, none⟩) cr26_0 (nxP a5 a0)]) _ := HH71
          refine st_callD HE68 (wt0 rfl) rfl rfl rfl en_92 rfl rfl (ih (Foot [rBlk p2 120 [.slice (some ⟨be22, fe22, none⟩) (n2) c2], rSo eBool S_2_0 (some ⟨be22, fe22, none⟩) c2 (((nxP a5 a0).take i).foldl (visF a5 f) (a2.set a0.toNat true))]) y31 _ [.int .i64 (a1)] a1 _ _ _ _ (((nxP a5 a0).take i).foldl (visF a5 f) (a2.set a0.toNat true)) _ _ _ _ [.slice Az5_0 (a5.length) cz5_0] a5 _ HH72.focus (HH72.lendOM H1) (c_oldNM Nhq1 hq1 _ HH72) (HH72.nfOM Nhq1 (hq1 0 _ rfl)) (by first | rfl | omega) (c_oldNM Nhq3 hq3 _ HH72) (HH72.nfOM Nhq3 (hq3 0 _ rfl)) (c_oldNM Nhq4 hq4 _ HH72) (HH72.nfOM Nhq4 (hq4 0 _ rfl)) (HH72.lendOM H5) (c_oldNM Nhq5 hq5 _ HH72) (HH72.nfOM Nhq5 (hq5 0 _ rfl)) (by first | exact s1 | omega) (by first | exact hvc.1 | omega) (by omega) (by first | exact s4 | exact s1) (by first | omega | (simp; omega))) fun e w' hr => ?_
          obtain ⟨Sr32_0, rfl, hbr32⟩ := hr
          have HH73 := HH72.back hbr32
          clear hbr32
          have HH74 : Held M w ([rBlk p2 120 [.slice (some ⟨be22, fe22, none⟩) (n2) c2], rSo eBool Sr32_0 (some ⟨be22, fe22, none⟩) c2 (visF a5 f (((nxP a5 a0).take i).foldl (visF a5 f) (a2.set a0.toNat true)) y31)] ++ [rSo eInt Sr26 (some ⟨be30, fe30, none⟩) cr26_0 (nxP a5 a0)]) _ := HH73
          refine ⟨_, rfl, fun a_75 HE76 => hK70 _ _ ?_⟩
          refine wpList_nil ?_
          clear a_63 HE64 a_65 HE66 HH56 HH71 HH72 HH73 a_67 HE68 hK70 K_69
          refine blk_n ?_
          refine nrm ?_
          refine rg ?_
          refine pl_x HE76 HH74 (wt0 rfl) (x_add rfl rfl (by exact ⟨by omega, by omega⟩)) rfl rfl fun a_77 HE78 => ?_
          refine pl_x HE78 HH74 (wt0 rfl) (x_move rfl) rfl rfl fun a_79 HE80 => ?_
          refine wpList_nil ?_
          clear a_75 HE76 a_77 HE78
          have E33 : ((nxP a5 a0).take (i + 1)).foldl (visF a5 f) (a2.set a0.toNat true) = (visF a5 f (((nxP a5 a0).take i).foldl (visF a5 f) (a2.set a0.toNat true)) y31) := by
            rw [List.take_succ_eq_append_getElem (by omega), List.foldl_append, ← xy31]; rfl
          exact nrm ⟨(nxP a5 a0).length - (i + 1), (by omega), i + 1, Sr32_0, rfl, HE80.sub ⟨(lkI rfl (by first | rfl | omega | (simp [hc21, xy23, hc24, p28_0, hc29, xy31]; done))), rfl, rfl, rfl, rfl, trivial⟩, ((HH74.sel [1, 2, 0] (by decide) rfl).to (by first | rfl | (rw [E33]; done) | (rw [E33]; rfl) | (simp only [E33]; done) | (simp only [E33]; rfl) | (rw [E33]; simp only [List.length_set]; done))), (by first | omega | assumption | (simp; done) | simp_all)⟩
        · refine wp_exit ?_
          refine (thn_exit (thn_exit (blk_hit ?_)))
          refine fin0 HE58 rfl ?_
          have hF : (visF a5 (f + 1) a2 a0) = ((nxP a5 a0).take i).foldl (visF a5 f) (a2.set a0.toNat true) := by
            rw [visF]; first | (rw [if_pos (by simp [hc21, xy23, hc24, p28_0, hc29]; done)]) | (rw [if_pos (by grind)]) | (rw [if_neg (by grind), List.take_of_length_le (by omega)])
          exact ⟨_, rfl, by rw [hF]; exact HH56.sel [2, 0] (by decide) rfl⟩

theorem impl_reachable1_all : ∀ f : Nat, ∀ (M : Nat → Prop) (a0 : Int) (p1 : Nat) (es1 : List Value) (a1 : Int) (p2 : Nat) (A2 : Option Addr) (c2 n2 : Nat) (a2 : (List Bool)) (S2 : Nat → Prop) (p3 : Nat) (p4 : Nat) (p5 : Nat) (es5 : List Value) (a5 : (List tInstr)) (w : World) (HM : Held M w [rBlk p2 120 [.slice A2 n2 c2], rSo eBool S2 A2 c2 a2] w) (h1 : eInt.R w (Out M w) es1 a1) (hq1 : ∀ j v, es1[j]? = some v → w.cell? ⟨p1, 0 + j, none⟩ = some v) (Nhq1 : ¬ M p1) (hn2 : a2.length = n2) (hq3 : ∀ j v, ([.func (.func 54) #[] #[.pointer (some ⟨p5, 0, none⟩)]] : List Value)[j]? = some v → w.cell? ⟨p3, 0 + j, none⟩ = some v) (Nhq3 : ¬ M p3) (hq4 : ∀ j v, ([.func (.func 92) #[] #[.pointer (some ⟨p1, 0, none⟩), .pointer (some ⟨p2, 0, none⟩), .pointer (some ⟨p3, 0, none⟩), .pointer (some ⟨p4, 0, none⟩)]] : List Value)[j]? = some v → w.cell? ⟨p4, 0 + j, none⟩ = some v) (Nhq4 : ¬ M p4) (h5 : (eSl eInstr).R w (Out M w) es5 a5) (hq5 : ∀ j v, es5[j]? = some v → w.cell? ⟨p5, 0 + j, none⟩ = some v) (Nhq5 : ¬ M p5) (s1 : a1 = (a5.length : Int)) (s2 : a2.length = a5.length) (s3 : 0 ≤ a0) (s4 : ∀ x t, t ∈ nxP a5 x → 0 ≤ t) (s5 : a2.count false < f),
    Calls Try.prog 92 #[.int .i64 a0, .pointer (some ⟨p1, 0, none⟩), .pointer (some ⟨p2, 0, none⟩), .pointer (some ⟨p3, 0, none⟩), .pointer (some ⟨p4, 0, none⟩)] w fun e w' => ∃ (S2' : Nat → Prop), e = .returned (.tuple #[]) ∧ Held M w [rBlk p2 120 [.slice A2 n2 c2], rSo eBool S2' A2 c2 (visF a5 (f) a2 a0)] w' := by
  intro f
  induction f with
  | zero => intros; omega
  | succ n ih => intro M a0 p1 es1 a1 p2 A2 c2 n2 a2 S2 p3 p4 p5 es5 a5 w HM h1 hq1 Nhq1 hn2 hq3 Nhq3 hq4 Nhq4 h5 hq5 Nhq5 s1 s2 s3 s4 s5; exact impl_reachable1 M a0 p1 es1 a1 p2 A2 c2 n2 a2 S2 p3 p4 p5 es5 a5 n ih w HM h1 hq1 Nhq1 hn2 hq3 Nhq3 hq4 Nhq4 h5 hq5 Nhq5 s1 s2 s3 s4 s5

theorem impl_visitT (M : Nat → Prop) (a0 : Int) (p1 : Nat) (es1 : List Value) (a1 : Int) (p2 : Nat) (A2 : Option Addr) (c2 n2 : Nat) (a2 : (List Bool)) (S2 : Nat → Prop) (p3 : Nat) (p4 : Nat) (p5 : Nat) (es5 : List Value) (a5 : (List tInstr)) (w : World) (HM : Held M w [rBlk p2 120 [.slice A2 n2 c2], rSo eBool S2 A2 c2 a2] w) (h1 : eInt.R w (Out M w) es1 a1) (hq1 : ∀ j v, es1[j]? = some v → w.cell? ⟨p1, 0 + j, none⟩ = some v) (Nhq1 : ¬ M p1) (hn2 : a2.length = n2) (hq3 : ∀ j v, ([.func (.func 54) #[] #[.pointer (some ⟨p5, 0, none⟩)]] : List Value)[j]? = some v → w.cell? ⟨p3, 0 + j, none⟩ = some v) (Nhq3 : ¬ M p3) (hq4 : ∀ j v, ([.func (.func 92) #[] #[.pointer (some ⟨p1, 0, none⟩), .pointer (some ⟨p2, 0, none⟩), .pointer (some ⟨p3, 0, none⟩), .pointer (some ⟨p4, 0, none⟩)]] : List Value)[j]? = some v → w.cell? ⟨p4, 0 + j, none⟩ = some v) (Nhq4 : ¬ M p4) (h5 : (eSl eInstr).R w (Out M w) es5 a5) (hq5 : ∀ j v, es5[j]? = some v → w.cell? ⟨p5, 0 + j, none⟩ = some v) (Nhq5 : ¬ M p5) (s1 : a1 = (a5.length : Int)) (s2 : a2.length = a5.length) (s3 : 0 ≤ a0) (s4 : ∀ x t, t ∈ nxP a5 x → 0 ≤ t) (s5 : a2.count false < (a5.length + 1)) :
    Calls Try.prog 92 #[.int .i64 a0, .pointer (some ⟨p1, 0, none⟩), .pointer (some ⟨p2, 0, none⟩), .pointer (some ⟨p3, 0, none⟩), .pointer (some ⟨p4, 0, none⟩)] w fun e w' => ∃ (S2' : Nat → Prop), e = .returned (.tuple #[]) ∧ Held M w [rBlk p2 120 [.slice A2 n2 c2], rSo eBool S2' A2 c2 (visF a5 ((a5.length + 1)) a2 a0)] w' := impl_reachable1_all (a5.length + 1) M a0 p1 es1 a1 p2 A2 c2 n2 a2 S2 p3 p4 p5 es5 a5 w HM h1 hq1 Nhq1 hn2 hq3 Nhq3 hq4 Nhq4 h5 hq5 Nhq5 s1 s2 s3 s4 s5

set_option maxRecDepth 100000 in
set_option maxHeartbeats 4000000 in
theorem impl_reachable (a0 : Nat) (p2 : Nat) (es2 : List Value) (a2 : (List tInstr)) (w : World) (h2 : (eSl eInstr).R w (Old w) es2 a2) (hq2 : ∀ j v, es2[j]? = some v → w.cell? ⟨p2, 0 + j, none⟩ = some v) (s0 : a0 = a2.length) (s1 : ∀ x t, t ∈ nxP a2 x → 0 ≤ t) (s2 : a0 ≤ 1000) :
    Calls Try.prog 52 #[.int .i64 (a0 : Int), .func (.func 54) #[] #[.pointer (some ⟨p2, 0, none⟩)]] w fun e w' => ∃ (A0' : Option Addr) (c0' : Nat), e = .returned (.slice A0' (keptP a2).length c0') ∧ So eInt w' (Fr w w') A0' c0' (keptP a2) ∧ Below w.heap.size w w' := by
  have H2 := h2
  obtain ⟨Az2_0, cz2_0, rfl, gz2_0⟩ := h2
  have lz2_0 := gz2_0.len
  have HH1 := Held.start Nob w
  refine enter (n := 30) Try.func52 rfl rfl rfl fun a_2 HE3 => ?_
  refine wp_seq ?_
  refine rg ?_
  refine pl fun K_4 hK5 => ?_
  refine st_box (cs := [.int .i64 ((a0 : Int))]) HE3 HH1 rfl rfl (wt0 rfl) rfl fun q21 a_6 w' HE7 HH8 => hK5 _ _ ?_
  refine pl fun K_9 hK10 => ?_
  refine st_box (cs := [.func (.func 54) #[] #[.pointer (some ⟨p2, 0, none⟩)]]) HE7 HH8 rfl rfl (wt0 rfl) rfl fun q22 a_11 w' HE12 HH13 => hK10 _ _ ?_
  refine pl_x HE12 HH13 (wt0 rfl) (x_assign rfl) rfl rfl fun a_14 HE15 => ?_
  refine wpList_nil ?_
  clear a_2 HE3 HH1 K_4 hK5 a_6 HE7 HH8 a_11 HE12 hK10 K_9
  refine nrm ?_
  refine wp_seq ?_
  refine rg ?_
  refine pl_x HE15 HH13 (wt0 rfl) (x_load1 tv_2 rfl (c_blk 1 rfl rfl)) rfl rfl fun a_16 HE17 => ?_
  refine pl fun K_18 hK19 => ?_
  refine st_make (E := eBool) (x := false) (k := a0) HE17 HH13 ts_120 tv_4 rfl (fun _ => oB) rfl rfl rfl rfl (by omega) (by omega) (wt0 rfl) rfl fun q23 a_20 w' HE21 HH22 => hK19 _ _ ?_
  have hlq23 : (List.replicate a0 false).length = a0 := List.length_replicate
  refine pl fun K_23 hK24 => ?_
  refine st_alloc HE21 HH22 tv_120 (wt0 rfl) rfl fun q24 a_25 w' HE26 HH27 => hK24 _ _ ?_
  refine pl fun K_28 hK29 => ?_
  refine st_store (vs := [.slice (some ⟨q23, 0, none⟩) ((List.replicate a0 false).length) a0]) 0 HE26 HH27 tv_120 rfl rfl rfl rfl rfl rfl (by simp [Value.oneCell']) (wt0 rfl) fun w' HH30 => hK29 _ _ ?_
  refine wpList_nil ?_
  clear a_14 HE15 a_16 HE17 HH13 K_18 hK19 a_20 HE21 HH22 K_23 hK24 HH27 hK29 K_28
  refine nrm ?_
  refine wp_seq ?_
  refine rg ?_
  refine pl fun K_31 hK32 => ?_
  refine st_alloc HE26 HH30 tv_121 (wt0 rfl) rfl fun q25 a_33 w' HE34 HH35 => hK32 _ _ ?_
  refine wpList_nil ?_
  clear a_25 HE26 HH30 hK32 K_31
  refine nrm ?_
  refine wp_seq ?_
  refine rg ?_
  refine pl_x HE34 HH35 (wt0 rfl) (x_makeFunc rfl rfl) rfl rfl fun a_36 HE37 => ?_
  refine pl fun K_38 hK39 => ?_
  refine st_store (vs := [.func (.func 92) #[] #[.pointer (some ⟨q21, 0, none⟩), .pointer (some ⟨q24, 0, none⟩), .pointer (some ⟨q22, 0, none⟩), .pointer (some ⟨q25, 0, none⟩)]]) 0 HE37 HH35 tv_121 rfl rfl rfl rfl rfl rfl (by simp [Value.oneCell']) (wt0 rfl) fun w' HH40 => hK39 _ _ ?_
  refine wpList_nil ?_
  clear a_33 HE34 HH35 hK39 K_38
  refine nrm ?_
  refine wp_seq ?_
  refine rg ?_
  refine pl_x HE37 HH40 (wt0 rfl) (x_load1 tv_121 rfl (c_blk 0 rfl rfl)) rfl rfl fun a_41 HE42 => ?_
  refine pl fun K_43 hK44 => ?_
  have HH45 := HH40.sel [1, 2, 0, 3, 4] (by decide) rfl
  have HH46 : Held Nob w ([rBlk q24 120 [.slice (some ⟨q23, 0, none⟩) ((List.replicate a0 false).length) a0], rSo eBool (fun b => b = q23) (some ⟨q23, 0, none⟩) a0 (List.replicate a0 false)] ++ [rBlk q25 121 [.func (.func 92) #[] #[.pointer (some ⟨q21, 0, none⟩), .pointer (some ⟨q24, 0, none⟩), .pointer (some ⟨q22, 0, none⟩), .pointer (some ⟨q25, 0, none⟩)]], rBlk q22 86 [.func (.func 54) #[] #[.pointer (some ⟨p2, 0, none⟩)]], rBlk q21 2 [.int .i64 ((a0 : Int))]]) _ := HH45
  refine st_callD HE42 (wt0 rfl) rfl rfl rfl en_92 rfl rfl (impl_visitT (Foot [rBlk q24 120 [.slice (some ⟨q23, 0, none⟩) ((List.replicate a0 false).length) a0], rSo eBool (fun b => b = q23) (some ⟨q23, 0, none⟩) a0 (List.replicate a0 false)]) 0 _ [.int .i64 ((a0 : Int))] (a0 : Int) _ _ _ _ (List.replicate a0 false) _ _ _ _ [.slice Az2_0 (a2.length) cz2_0] a2 _ HH46.focus ⟨rfl, by exact ⟨by omega, by omega⟩⟩ (c_blkN 4 rfl _ HH46) (HH46.nfB (i := 2) rfl) (by first | rfl | omega | (simp; done)) (c_blkN 3 rfl _ HH46) (HH46.nfB (i := 1) rfl) (c_blkN 2 rfl _ HH46) (HH46.nfB (i := 0) rfl) (HH46.lendO H2) (c_oldN hq2 _ HH46) (HH46.nfO (hq2 0 _ rfl)) (by first | exact s1 | omega) (by first | exact hvc.1 | omega) (by omega) (by first | exact s4 | exact s1) (by first | omega | (simp; omega))) fun e w' hr => ?_
  obtain ⟨Sr26_0, rfl, hbr26⟩ := hr
  have HH47 := HH46.back hbr26
  clear hbr26
  have HH48 : Held Nob w ([rBlk q24 120 [.slice (some ⟨q23, 0, none⟩) ((List.replicate a0 false).length) a0], rSo eBool Sr26_0 (some ⟨q23, 0, none⟩) a0 (visF a2 (a2.length + 1) (List.replicate a0 false) 0)] ++ [rBlk q25 121 [.func (.func 92) #[] #[.pointer (some ⟨q21, 0, none⟩), .pointer (some ⟨q24, 0, none⟩), .pointer (some ⟨q22, 0, none⟩), .pointer (some ⟨q25, 0, none⟩)]], rBlk q22 86 [.func (.func 54) #[] #[.pointer (some ⟨p2, 0, none⟩)]], rBlk q21 2 [.int .i64 ((a0 : Int))]]) _ := HH47
  refine ⟨_, rfl, fun a_49 HE50 => hK44 _ _ ?_⟩
  refine wpList_nil ?_
  clear a_36 HE37 HH40 HH45 HH46 HH47 a_41 HE42 hK44 K_43
  refine nrm ?_
  refine wp_seq ?_
  refine rg ?_
  refine pl fun K_51 hK52 => ?_
  refine st_lit (m := 0) (cs := []) (e := 2) HE50 HH48 (run_lit ts_37 HE50 (vs := []) rfl rfl (by simp [Value.cells]) rfl (by decide)) (wt0 rfl) rfl rfl fun q27 a_53 w' HE54 HH55 => hK52 _ _ ?_
  refine pl_x HE54 HH55 (wt0 rfl) (x_assign rfl) rfl rfl fun a_56 HE57 => ?_
  refine wpList_nil ?_
  clear a_49 HE50 HH48 a_53 HE54 hK52 K_51
  refine nrm ?_
  refine wp_seq ?_
  refine wp_seq ?_
  refine rg ?_
  refine pl_x HE57 HH55 (wt0 rfl) (x_load1 tv_120 rfl (c_blk 1 rfl rfl)) rfl rfl fun a_58 HE59 => ?_
  refine pl_x HE59 HH55 (wt0 rfl) (x_len Try.underlying120 rfl) rfl rfl fun a_60 HE61 => ?_
  refine pl_x HE61 HH55 (wt0 rfl) (x_move rfl) rfl rfl fun a_62 HE63 => ?_
  refine wpList_nil ?_
  clear a_56 HE57 a_58 HE59 a_60 HE61
  refine nrm ?_
  refine wp_block ?_
  have HH64 := Held.vecFlat (E := eInt) (xs := []) (css := []) HH55 rfl (Nat.zero_le _) (fun i x hx => by simp at hx)
  refine lp (fun m a w' => ∃ (i : Nat) (A_7 : Option Addr) (c_7 : Nat) (S_7 : Nat → Prop), m = a0 - i ∧ Env 30 [(7, .slice A_7 (List.length (trueI (visF a2 (a2.length + 1) (List.replicate a0 false) 0) i)) c_7), (18, .int .i64 (i : Int)), (16, .slice (some ⟨q23, 0, none⟩) ((List.replicate a0 false).length) a0), (17, .int .i64 (((List.replicate a0 false).length : Int)))] a ∧ Held Nob w [rVec eInt 2 S_7 A_7 c_7 (trueI (visF a2 (a2.length + 1) (List.replicate a0 false) 0) i), rBlk q24 120 [.slice (some ⟨q23, 0, none⟩) ((List.replicate a0 false).length) a0], rSo eBool Sr26_0 (some ⟨q23, 0, none⟩) a0 (visF a2 (a2.length + 1) (List.replicate a0 false) 0), rBlk q25 121 [.func (.func 92) #[] #[.pointer (some ⟨q21, 0, none⟩), .pointer (some ⟨q24, 0, none⟩), .pointer (some ⟨q22, 0, none⟩), .pointer (some ⟨q25, 0, none⟩)]], rBlk q22 86 [.func (.func 54) #[] #[.pointer (some ⟨p2, 0, none⟩)]], rBlk q21 2 [.int .i64 ((a0 : Int))]] w' ∧ (i ≤ a0)) (a0 - (0)) ?_ ?_
  · have E28 : trueI (visF a2 (a2.length + 1) (List.replicate a0 false) 0) 0 = ([] : List Int) := by
      rfl
    exact ⟨0, (some ⟨q27, 0, none⟩), (List.length (α := Int) []), (fun b => b = q27), rfl, HE63.sub ⟨(by rw [E28]; rfl), (lkI rfl (by first | rfl | omega | (simp []; done))), rfl, rfl, trivial⟩, ((HH64.sel [0, 1, 2, 3, 4, 5] (by decide) rfl).to (by first | rfl | (rw [E28]; done) | (rw [E28]; rfl) | (simp only [E28]; done) | (simp only [E28]; rfl) | (rw [E28]; simp only [List.length_set]; done))), (by first | omega | assumption | (simp; done) | simp_all)⟩
  · rintro m a_65 w' ⟨i, A_7, c_7, S_7, rfl, HE66, HH67, p29_0⟩
    have hvl : (visF a2 (a2.length + 1) (List.replicate a0 false) 0).length = a0 := by rw [visF_len]; simp
    have htl := trueI_len (visF a2 (a2.length + 1) (List.replicate a0 false) 0) i
    refine wp_seq ?_
    refine rg ?_
    refine pl_x HE66 HH67 (wt0 rfl) (x_lss rfl rfl) rfl rfl fun a_68 HE69 => ?_
    refine wpList_nil ?_
    clear HH55 a_62 HE63 HH64 a_65 HE66
    refine nrm ?_
    refine wp_seq ?_
    refine cnd_d HE69 rfl (fun hc30 => ?_) (fun hc30 => ?_)
    · refine wp_skip ?_
      refine nrm ?_
      refine wp_seq ?_
      refine wp_block ?_
      refine wp_seq ?_
      refine rg ?_
      refine pl_x HE69 HH67 (wt0 rfl) (x_move rfl) rfl rfl fun a_70 HE71 => ?_
      have ke31 : i < (List.replicate a0 false).length := by omega
      refine pl_x HE71 HH67 (wt0 rfl) (x_indexAddr ts_120 rfl rfl rfl rfl ke31) rfl rfl fun a_72 HE73 => ?_
      obtain ⟨y32, xy32⟩ : ∃ y_, y_ = (visF a2 (a2.length + 1) (List.replicate a0 false) 0)[i]'(by first | exact ke31 | (simp only [List.length_set]; exact ke31) | omega | (simp only [List.length_set]; omega) | (simp; omega)) := ⟨_, rfl⟩
      refine pl_x HE73 HH67 (wt0 rfl) (x_load1 tv_4 rfl (c_ownBV 2 rfl (by first | exact ke31 | (simp only [List.length_set]; exact ke31) | omega | (simp only [List.length_set]; omega) | (simp; omega)) xy32.symm)) rfl rfl fun a_74 HE75 => ?_
      refine pl_x HE75 HH67 (wt0 rfl) (x_assign rfl) rfl rfl fun a_76 HE77 => ?_
      refine pl_x HE77 HH67 (wt0 rfl) (x_assign rfl) rfl rfl fun a_78 HE79 => ?_
      refine wpList_nil ?_
      clear a_68 HE69 a_70 HE71 a_72 HE73 a_74 HE75 a_76 HE77
      refine nrm ?_
      refine wp_seq ?_
      refine rg ?_
      refine pl_x HE79 HH67 (wt0 rfl) (x_move rfl) rfl rfl fun a_80 HE81 => ?_
      refine wpList_nil ?_
      clear a_78 HE79
      refine nrm ?_
      refine cnd_b HE81 rfl (fun hc33 => ?_) (fun hc33 => ?_)
      · refine rg ?_
        refine pl_x HE81 HH67 (wt0 rfl) (x_move rfl) rfl rfl fun a_82 HE83 => ?_
        refine pl_x HE83 HH67 (wt0 rfl) (x_move rfl) rfl rfl fun a_84 HE85 => ?_
        refine pl fun K_86 hK87 => ?_
        refine st_lit (m := 1) (cs := [.int .i64 ((i : Int))]) (e := 2) HE85 HH67 (run_lit ts_37 HE85 (vs := [.int .i64 ((i : Int))]) rfl rfl (by simp [Value.cells]) rfl (by decide)) (wt0 rfl) rfl rfl fun q34 a_88 w' HE89 HH90 => hK87 _ _ ?_
        refine pl fun K_91 hK92 => ?_
        refine st_app1F (i : Int) HE89 HH90 ts_37 [1, 0, 2, 3, 4, 5, 6] (by decide) rfl (fun _ => (oI (by exact ⟨by omega, by omega⟩))) rfl rfl (by simp [Value.oneCell']) (by unfold maxLen; first | omega | (simp; done) | (simp; omega)) (by first | omega | (simp; done) | (simp; omega)) (wt0 rfl) rfl fun A35 c36 S37 a_93 w' HE94 HH95 => hK92 _ _ ?_
        refine pl_x HE94 HH95 (wt0 rfl) (x_assign rfl) rfl rfl fun a_96 HE97 => ?_
        refine wpList_nil ?_
        clear a_80 HE81 a_82 HE83 a_84 HE85 HH67 K_86 hK87 a_88 HE89 HH90 a_93 HE94 hK92 K_91
        refine blk_n ?_
        refine nrm ?_
        refine rg ?_
        refine pl_x HE97 HH95 (wt0 rfl) (x_add rfl rfl (by exact ⟨by omega, by omega⟩)) rfl rfl fun a_98 HE99 => ?_
        refine pl_x HE99 HH95 (wt0 rfl) (x_move rfl) rfl rfl fun a_100 HE101 => ?_
        refine wpList_nil ?_
        clear a_96 HE97 a_98 HE99
        have E38 : trueI (visF a2 (a2.length + 1) (List.replicate a0 false) 0) (i + 1) = (trueI (visF a2 (a2.length + 1) (List.replicate a0 false) 0) i ++ [(i : Int)]) := by
          rw [trueI_succ, List.getElem?_eq_getElem (by omega), ← xy32]; simp [hc33]
        exact nrm ⟨a0 - (i + 1), (by omega), i + 1, A35, c36, S37, rfl, HE101.sub ⟨(by rw [E38]; rfl), (lkI rfl (by first | rfl | omega | (simp [p29_0, hc30, xy32, hc33]; done))), rfl, rfl, trivial⟩, ((HH95.sel [0, 1, 2, 3, 4, 5] (by decide) rfl).to (by first | rfl | (rw [E38]; done) | (rw [E38]; rfl) | (simp only [E38]; done) | (simp only [E38]; rfl) | (rw [E38]; simp only [List.length_set]; done))), (by first | omega | assumption | (simp; done) | simp_all)⟩
      · refine wp_skip ?_
        refine blk_n ?_
        refine nrm ?_
        refine rg ?_
        refine pl_x HE81 HH67 (wt0 rfl) (x_add rfl rfl (by exact ⟨by omega, by omega⟩)) rfl rfl fun a_102 HE103 => ?_
        refine pl_x HE103 HH67 (wt0 rfl) (x_move rfl) rfl rfl fun a_104 HE105 => ?_
        refine wpList_nil ?_
        clear a_80 HE81 a_102 HE103
        have E39 : trueI (visF a2 (a2.length + 1) (List.replicate a0 false) 0) (i + 1) = trueI (visF a2 (a2.length + 1) (List.replicate a0 false) 0) i := by
          rw [trueI_succ, List.getElem?_eq_getElem (by omega), ← xy32]; simp [hc33]
        exact nrm ⟨a0 - (i + 1), (by omega), i + 1, A_7, c_7, S_7, rfl, HE105.sub ⟨(by rw [E39]; rfl), (lkI rfl (by first | rfl | omega | (simp [p29_0, hc30, xy32, hc33]; done))), rfl, rfl, trivial⟩, ((HH67.sel [0, 1, 2, 3, 4, 5] (by decide) rfl).to (by first | rfl | (rw [E39]; done) | (rw [E39]; rfl) | (simp only [E39]; done) | (simp only [E39]; rfl) | (rw [E39]; simp only [List.length_set]; done))), (by first | omega | assumption | (simp; done) | simp_all)⟩
    · refine wp_exit ?_
      refine (thn_exit (thn_exit (blk_hit ?_)))
      refine nrm ?_
      refine wp_seq ?_
      refine rg ?_
      refine pl_x HE69 HH67 (wt0 rfl) (x_move rfl) rfl rfl fun a_106 HE107 => ?_
      refine pl_x HE107 HH67 (wt0 rfl) (x_assign rfl) rfl rfl fun a_108 HE109 => ?_
      refine wpList_nil ?_
      clear a_68 HE69 a_106 HE107
      refine nrm ?_
      refine wp_ret ?_
      refine ret1 HE109 rfl (rv_tmp rfl) ?_
      have HH110 := HH67.vecSo
      have hF : (keptP a2) = trueI (visF a2 (a2.length + 1) (List.replicate a0 false) 0) i := by
        unfold keptP seenP; rw [show i = a2.length from by omega, s0]
      exact ⟨A_7, c_7, by first | (rw [hF] <;> rfl) | rfl | (rw [hF]; simp only [Ending.returned.injEq, Value.slice.injEq, true_and, and_true]; first | omega | (simp; done)) | (rw [hF]; simp; omega), by rw [hF]; exact (HH110.so (i := 0) rfl), HH110.below⟩

set_option maxRecDepth 100000 in
set_option maxHeartbeats 4000000 in
theorem impl_prune2 (a0 : Int) (p1 : Nat) (es1 : List Value) (a1 : (List Int)) (w : World) (h1 : (eSl eInt).R w (Old w) es1 a1) (hq1 : ∀ j v, es1[j]? = some v → w.cell? ⟨p1, 0 + j, none⟩ = some v) (s0 : a1.length ≤ 1000) (s1 : a1.Pairwise (· < ·)) (s2 : a1 ≠ []) :
    Calls Try.prog 56 #[.int .i64 a0, .pointer (some ⟨p1, 0, none⟩)] w fun e w' => e = .returned (.int .i64 (belowI a1 a0)) ∧ Below w.heap.size w w' := by
  have H1 := h1
  obtain ⟨Az1_0, cz1_0, rfl, gz1_0⟩ := h1
  have lz1_0 := gz1_0.len
  have HH1 := Held.start Nob w
  refine enter (n := 13) Try.func56 rfl rfl rfl fun a_2 HE3 => ?_
  refine wp_seq ?_
  refine rg ?_
  refine pl_x HE3 HH1 (wt0 rfl) (x_assign rfl) rfl rfl fun a_4 HE5 => ?_
  refine wpList_nil ?_
  clear a_2 HE3
  refine nrm ?_
  refine wp_seq ?_
  refine rg ?_
  refine pl_x HE5 HH1 (wt0 rfl) (x_load1 tv_37 rfl (c_old (hq1 0 _ rfl))) rfl rfl fun a_6 HE7 => ?_
  refine pl_x HE7 HH1 (wt0 rfl) (x_move rfl) rfl rfl fun a_8 HE9 => ?_
  refine pl fun K_10 hK11 => ?_
  refine st_call HE9 (wt0 rfl) rfl rfl rfl en_57 rfl rfl (BinSearch_Int64 _ _ a1 a0 _ (HH1.old gz1_0) (by omega) (by assumption) (by assumption)) fun e w' hr => ?_
  obtain ⟨rfl, hbr21⟩ := hr
  have HH12 := HH1.on hbr21
  refine ⟨_, rfl, fun a_13 HE14 => hK11 _ _ ?_⟩
  refine pl_x HE14 HH12 (wt0 rfl) (x_move rfl) rfl rfl fun a_15 HE16 => ?_
  refine pl_x HE16 HH12 (wt0 rfl) (x_extract rfl rfl) rfl rfl fun a_17 HE18 => ?_
  refine pl_x HE18 HH12 (wt0 rfl) (x_extract rfl rfl) rfl rfl fun a_19 HE20 => ?_
  refine pl_x HE20 HH12 (wt0 rfl) (x_assign rfl) rfl rfl fun a_21 HE22 => ?_
  refine pl_x HE22 HH12 (wt0 rfl) (x_assign rfl) rfl rfl fun a_23 HE24 => ?_
  refine wpList_nil ?_
  clear a_4 HE5 a_6 HE7 HH1 a_8 HE9 a_13 HE14 a_15 HE16 a_17 HE18 a_19 HE20 a_21 HE22 hK11 K_10
  refine nrm ?_
  refine wp_seq ?_
  refine rg ?_
  refine pl_x HE24 HH12 (wt0 rfl) (x_move rfl) rfl rfl fun a_25 HE26 => ?_
  refine pl_x HE26 HH12 (wt0 rfl) (x_assign rfl) rfl rfl fun a_27 HE28 => ?_
  refine wpList_nil ?_
  clear a_23 HE24 a_25 HE26
  refine nrm ?_
  refine wp_ret ?_
  refine ret1 HE28 rfl (rv_tmp rfl) ?_
  have hF : (belowI a1 a0) = (binI a1 a0).1 := by
    rfl
  exact ⟨by first | (rw [hF] <;> rfl) | rfl | (rw [hF]; simp only [Ending.returned.injEq, Value.slice.injEq, true_and, and_true]; first | omega | (simp; done)) | (rw [hF]; simp; omega), HH12.below⟩

set_option maxRecDepth 100000 in
set_option maxHeartbeats 4000000 in
theorem impl_redirectedP (A0 : Option Addr) (c0 : Nat) (a0 : (List tInstr)) (p2 : Nat) (es2 : List Value) (a2 : (List Int)) (w : World) (h0 : Sl eInstr w (Old w) A0 c0 a0) (h2 : (eSl eInt).R w (Old w) es2 a2) (hq2 : ∀ j v, es2[j]? = some v → w.cell? ⟨p2, 0 + j, none⟩ = some v) (s0 : a2.Pairwise (· < ·)) (s1 : a0.length = a2.length) (s2 : a2.length ≤ 1000) :
    Calls Try.prog 55 #[.slice A0 a0.length c0, .func (.func 56) #[] #[.pointer (some ⟨p2, 0, none⟩)]] w fun e w' => ∃ (A0' : Option Addr) (c0' : Nat), e = .returned (.slice A0' (redirB a0 a2).length c0') ∧ So eInstr w' (Fr w w') A0' c0' (redirB a0 a2) ∧ Below w.heap.size w w' := by
  have l0 := h0.len
  have H2 := h2
  obtain ⟨Az2_0, cz2_0, rfl, gz2_0⟩ := h2
  have lz2_0 := gz2_0.len
  have HH1 := Held.start Nob w
  refine enter (n := 38) Try.func55 rfl rfl rfl fun a_2 HE3 => ?_
  refine wp_seq ?_
  refine rg ?_
  refine pl_x HE3 HH1 (wt0 rfl) (x_assign rfl) rfl rfl fun a_4 HE5 => ?_
  refine wpList_nil ?_
  clear a_2 HE3
  refine nrm ?_
  refine wp_seq ?_
  refine rg ?_
  refine pl_x HE5 HH1 (wt0 rfl) (x_move rfl) rfl rfl fun a_6 HE7 => ?_
  refine pl fun K_8 hK9 => ?_
  refine st_call HE7 (wt0 rfl) rfl rfl rfl en_93 rfl rfl (Clone_Instr _ _ a0 _ (HH1.old h0) (by omega)) fun e w' hr => ?_
  obtain ⟨Ar21_0, cr21_0, rfl, hor21_0, hbr21⟩ := hr
  obtain ⟨Sr21, HH10⟩ := HH1.newS hbr21 hor21_0
  refine ⟨_, rfl, fun a_11 HE12 => hK9 _ _ ?_⟩
  refine pl_x HE12 HH10 (wt0 rfl) (x_assign rfl) rfl rfl fun a_13 HE14 => ?_
  refine wpList_nil ?_
  clear a_4 HE5 HH1 a_6 HE7 a_11 HE12 hK9 K_8
  refine nrm ?_
  refine wp_seq ?_
  refine wp_seq ?_
  refine rg ?_
  refine pl_x HE14 HH10 (wt0 rfl) (x_move rfl) rfl rfl fun a_15 HE16 => ?_
  refine pl_x HE16 HH10 (wt0 rfl) (x_len Try.underlying36 rfl) rfl rfl fun a_17 HE18 => ?_
  refine pl_x HE18 HH10 (wt0 rfl) (x_move rfl) rfl rfl fun a_19 HE20 => ?_
  refine wpList_nil ?_
  clear a_13 HE14 a_15 HE16 a_17 HE18
  refine nrm ?_
  refine wp_block ?_
  refine lp (fun m a w' => ∃ (k : Nat) (S_5 : Nat → Prop), m = a0.length - k ∧ Env 38 [(12, .int .i64 (k : Int)), (1, .func (.func 56) #[] #[.pointer (some ⟨p2, 0, none⟩)]), (5, .slice Ar21_0 (a0.length) cr21_0), (10, .slice Ar21_0 (a0.length) cr21_0), (11, .int .i64 ((a0.length : Int)))] a ∧ Held Nob w [rSo eInstr S_5 Ar21_0 cr21_0 (redTo (belowI a2) a0 k)] w' ∧ (k ≤ a0.length)) (a0.length - (0)) ?_ ?_
  · have E22 : redTo (belowI a2) a0 0 = a0 := by
      exact redTo_zero _ _
    exact ⟨0, Sr21, rfl, HE20.sub ⟨(lkI rfl (by first | rfl | omega | (simp []; done))), rfl, rfl, rfl, rfl, trivial⟩, ((HH10.sel [0] (by decide) rfl).to (by first | rfl | (rw [E22]; done) | (rw [E22]; rfl) | (simp only [E22]; done) | (simp only [E22]; rfl) | (rw [E22]; simp only [List.length_set]; done))), (by first | omega | assumption | (simp; done) | simp_all)⟩
  · rintro m a_21 w' ⟨k, S_5, rfl, HE22, HH23, p23_0⟩
    have hl0 := redTo_len (belowI a2) a0 k
    refine wp_seq ?_
    refine rg ?_
    refine pl_x HE22 HH23 (wt0 rfl) (x_lss rfl rfl) rfl rfl fun a_24 HE25 => ?_
    refine wpList_nil ?_
    clear a_19 HE20 HH10 a_21 HE22
    refine nrm ?_
    refine wp_seq ?_
    refine cnd_d HE25 rfl (fun hc24 => ?_) (fun hc24 => ?_)
    · refine wp_skip ?_
      refine nrm ?_
      refine wp_seq ?_
      refine wp_block ?_
      refine wp_seq ?_
      refine rg ?_
      refine pl_x HE25 HH23 (wt0 rfl) (x_move rfl) rfl rfl fun a_26 HE27 => ?_
      have ke25 : k < List.length (redTo (belowI a2) a0 k) := by rw [redTo_len]; omega
      have ne25 : k < a0.length := by omega
      obtain ⟨be25, fe25, ese25, Te25, rfl, Re25, Ze25, HH28⟩ := HH23.open ke25
      obtain ⟨e25, xe25⟩ : ∃ x_, x_ = (redTo (belowI a2) a0 k)[k] := ⟨_, rfl⟩
      rw [← xe25] at Re25
      rw [← xe25] at HH28
      obtain ⟨rfl, ge25_0, ge25_1, ge25_2, ge25_3⟩ := shape_Instr Re25
      clear Re25
      have je25_0 := ge25_0; unfold I64 at je25_0
      have je25_1 := ge25_1; unfold I64 at je25_1
      have je25_2 := ge25_2; unfold I64 at je25_2
      have je25_3 := ge25_3; unfold I64 at je25_3
      have hxe25 : e25 = a0[k] := by rw [xe25]; exact redTo_at _ _ (by omega) _
      have hne : a2 ≠ [] := fun e => by have q := congrArg List.length e; simp only [List.length_nil] at q; omega
      have bce25 := belowI_bd a2 e25.2.2.1
      have bde25 := belowI_bd a2 e25.2.2.2
      refine pl_x HE27 HH28 (wt0 rfl) (x_indexAddr ts_36 rfl rfl rfl rfl ne25) rfl rfl fun a_29 HE30 => ?_
      refine pl_x HE30 HH28 (wt0 rfl) (x_loadN (cs := [.int .i64 (e25.1), .int .i64 (e25.2.1), .int .i64 (e25.2.2.1), .int .i64 (e25.2.2.2)]) tv_81 rfl rfl (c_focN (E := eInstr) (off := fe25) (k := k) 0 rfl)) rfl rfl fun a_31 HE32 => ?_
      refine pl fun K_33 hK34 => ?_
      refine st_alloc HE32 HH28 tv_81 (wt0 rfl) rfl fun q26 a_35 w' HE36 HH37 => hK34 _ _ ?_
      refine pl_x HE36 HH37 (wt0 rfl) (x_assign rfl) rfl rfl fun a_38 HE39 => ?_
      refine pl fun K_40 hK41 => ?_
      refine st_store (vs := [.int .i64 (e25.1), .int .i64 (e25.2.1), .int .i64 (e25.2.2.1), .int .i64 (e25.2.2.2)]) 0 HE39 HH37 tv_81 rfl rfl rfl rfl rfl rfl (by simp [Value.oneCell']) (wt0 rfl) fun w' HH42 => hK41 _ _ ?_
      refine wpList_nil ?_
      clear a_24 HE25 HH23 a_26 HE27 a_29 HE30 a_31 HE32 HH28 a_35 HE36 K_33 hK34 HH37 hK41 K_40
      refine nrm ?_
      refine wp_seq ?_
      refine rg ?_
      refine pl_x HE39 HH42 (wt0 rfl) (x_move rfl) rfl rfl fun a_43 HE44 => ?_
      refine pl_x HE44 HH42 (wt0 rfl) (x_move rfl) rfl rfl fun a_45 HE46 => ?_
      refine pl_x HE46 HH42 (wt0 rfl) (x_move rfl) rfl rfl fun a_47 HE48 => ?_
      refine pl_x HE48 HH42 (wt0 rfl) (x_fieldAddr fa_81_2 rfl) rfl rfl fun a_49 HE50 => ?_
      refine pl_x HE50 HH42 (wt0 rfl) (x_load1 tv_2 rfl (c_blk 0 rfl rfl)) rfl rfl fun a_51 HE52 => ?_
      refine pl fun K_53 hK54 => ?_
      refine st_callD HE52 (wt0 rfl) rfl rfl rfl en_56 rfl rfl (impl_prune2 e25.2.2.1 _ [.slice Az2_0 (a2.length) cz2_0] a2 _ (HH42.oldR H2) (c_oldN hq2 _ HH42) (by omega) (by assumption) (by assumption)) fun e w' hr => ?_
      obtain ⟨rfl, hbr27⟩ := hr
      have HH55 := HH42.on hbr27
      refine ⟨_, rfl, fun a_56 HE57 => hK54 _ _ ?_⟩
      refine pl_x HE57 HH55 (wt0 rfl) (x_indexAddr ts_36 rfl rfl rfl rfl ne25) rfl rfl fun a_58 HE59 => ?_
      refine pl_x HE59 HH55 (wt0 rfl) (x_fieldAddr fa_81_2 rfl) rfl rfl fun a_60 HE61 => ?_
      refine pl fun K_62 hK63 => ?_
      refine st_storeF (j := 2) 1 HE61 HH55 tv_2 rfl rfl rfl rfl rfl rfl (wt0 rfl) fun w' HH64 => hK63 _ _ ?_
      refine wpList_nil ?_
      clear a_38 HE39 a_43 HE44 a_45 HE46 a_47 HE48 a_49 HE50 HH42 a_51 HE52 a_56 HE57 a_58 HE59 K_53 hK54 HH55 hK63 K_62
      refine nrm ?_
      refine wp_seq ?_
      refine rg ?_
      refine pl_x HE61 HH64 (wt0 rfl) (x_fieldAddr fa_81_0 rfl) rfl rfl fun a_65 HE66 => ?_
      refine pl_x HE66 HH64 (wt0 rfl) (x_load1 tv_2 rfl (c_blk 0 rfl rfl)) rfl rfl fun a_67 HE68 => ?_
      refine pl_x HE68 HH64 (wt0 rfl) (x_eql rfl rfl) rfl rfl fun a_69 HE70 => ?_
      refine wpList_nil ?_
      clear a_60 HE61 a_65 HE66 a_67 HE68
      refine nrm ?_
      refine cnd_e HE70 rfl (fun hc28 => ?_) (fun hc28 => ?_)
      · refine rg ?_
        refine pl_x HE70 HH64 (wt0 rfl) (x_move rfl) rfl rfl fun a_71 HE72 => ?_
        refine pl_x HE72 HH64 (wt0 rfl) (x_move rfl) rfl rfl fun a_73 HE74 => ?_
        refine pl_x HE74 HH64 (wt0 rfl) (x_move rfl) rfl rfl fun a_75 HE76 => ?_
        refine pl_x HE76 HH64 (wt0 rfl) (x_fieldAddr fa_81_3 rfl) rfl rfl fun a_77 HE78 => ?_
        refine pl_x HE78 HH64 (wt0 rfl) (x_load1 tv_2 rfl (c_blk 0 rfl rfl)) rfl rfl fun a_79 HE80 => ?_
        refine pl fun K_81 hK82 => ?_
        refine st_callD HE80 (wt0 rfl) rfl rfl rfl en_56 rfl rfl (impl_prune2 e25.2.2.2 _ [.slice Az2_0 (a2.length) cz2_0] a2 _ (HH64.oldR H2) (c_oldN hq2 _ HH64) (by omega) (by assumption) (by assumption)) fun e w' hr => ?_
        obtain ⟨rfl, hbr29⟩ := hr
        have HH83 := HH64.on hbr29
        refine ⟨_, rfl, fun a_84 HE85 => hK82 _ _ ?_⟩
        refine pl_x HE85 HH83 (wt0 rfl) (x_indexAddr ts_36 rfl rfl rfl rfl ne25) rfl rfl fun a_86 HE87 => ?_
        refine pl_x HE87 HH83 (wt0 rfl) (x_fieldAddr fa_81_3 rfl) rfl rfl fun a_88 HE89 => ?_
        refine pl fun K_90 hK91 => ?_
        refine st_storeF (j := 3) 1 HE89 HH83 tv_2 rfl rfl rfl rfl rfl rfl (wt0 rfl) fun w' HH92 => hK91 _ _ ?_
        refine wpList_nil ?_
        clear a_69 HE70 a_71 HE72 a_73 HE74 a_75 HE76 a_77 HE78 HH64 a_79 HE80 a_84 HE85 a_86 HE87 K_81 hK82 HH83 hK91 K_90
        refine blk_n ?_
        refine nrm ?_
        refine rg ?_
        refine pl_x HE89 HH92 (wt0 rfl) (x_add rfl rfl (by exact ⟨by omega, by omega⟩)) rfl rfl fun a_93 HE94 => ?_
        refine pl_x HE94 HH92 (wt0 rfl) (x_move rfl) rfl rfl fun a_95 HE96 => ?_
        refine wpList_nil ?_
        clear a_88 HE89 a_93 HE94
        have HH97 := HH92.flatO (E := eInstr) (cs := [.int .i64 (e25.1), .int .i64 (e25.2.1), .int .i64 ((belowI a2 e25.2.2.1)), .int .i64 ((belowI a2 e25.2.2.2))]) (x := (e25.1, e25.2.1, (belowI a2 e25.2.2.1), (belowI a2 e25.2.2.2))) (fun _ => (oPrN (oI (by exact ⟨by omega, by omega⟩)) (oPrN (oI (by exact ⟨by omega, by omega⟩)) (oPrN (oI (by exact ⟨by omega, by omega⟩)) (oI (by exact ⟨by omega, by omega⟩))))))
        have HH98 := HH97.sel [2, 0, 1, 3] (by decide) rfl
        have HH99 := HH98.shut
        obtain ⟨S30, HH100⟩ : ∃ S, Held Nob w (rSo eInstr S (some ⟨be25, fe25, none⟩) cr21_0 ((redTo (belowI a2) a0 k).set k (e25.1, e25.2.1, (belowI a2 e25.2.2.1), (belowI a2 e25.2.2.2))) :: _) _ := ⟨_, HH99⟩
        have E31 : redTo (belowI a2) a0 (k + 1) = ((redTo (belowI a2) a0 k).set k (e25.1, e25.2.1, (belowI a2 e25.2.2.1), (belowI a2 e25.2.2.2))) := by
          rw [redTo_succ _ _ (by omega), ← hxe25]; unfold red; first | (rw [if_pos (by omega)]; done) | (rw [if_neg (by omega)]; done)
        exact nrm ⟨a0.length - (k + 1), (by omega), k + 1, S30, rfl, HE96.sub ⟨(lkI rfl (by first | rfl | omega | (simp [p23_0, hc24, xe25, hc28]; done))), rfl, rfl, rfl, rfl, trivial⟩, ((HH100.sel [0] (by decide) rfl).to (by first | rfl | (rw [E31]; done) | (rw [E31]; rfl) | (simp only [E31]; done) | (simp only [E31]; rfl) | (rw [E31]; simp only [List.length_set]; done))), (by first | omega | assumption | (simp; done) | simp_all)⟩
      · refine wp_skip ?_
        refine blk_n ?_
        refine nrm ?_
        refine rg ?_
        refine pl_x HE70 HH64 (wt0 rfl) (x_add rfl rfl (by exact ⟨by omega, by omega⟩)) rfl rfl fun a_101 HE102 => ?_
        refine pl_x HE102 HH64 (wt0 rfl) (x_move rfl) rfl rfl fun a_103 HE104 => ?_
        refine wpList_nil ?_
        clear a_69 HE70 a_101 HE102
        have HH105 := HH64.flatO (E := eInstr) (cs := [.int .i64 (e25.1), .int .i64 (e25.2.1), .int .i64 ((belowI a2 e25.2.2.1)), .int .i64 (e25.2.2.2)]) (x := (e25.1, e25.2.1, (belowI a2 e25.2.2.1), e25.2.2.2)) (fun _ => (oPrN (oI (by exact ⟨by omega, by omega⟩)) (oPrN (oI (by exact ⟨by omega, by omega⟩)) (oPrN (oI (by exact ⟨by omega, by omega⟩)) (oI (by exact ⟨by omega, by omega⟩))))))
        have HH106 := HH105.sel [2, 0, 1, 3] (by decide) rfl
        have HH107 := HH106.shut
        obtain ⟨S32, HH108⟩ : ∃ S, Held Nob w (rSo eInstr S (some ⟨be25, fe25, none⟩) cr21_0 ((redTo (belowI a2) a0 k).set k (e25.1, e25.2.1, (belowI a2 e25.2.2.1), e25.2.2.2)) :: _) _ := ⟨_, HH107⟩
        have E33 : redTo (belowI a2) a0 (k + 1) = ((redTo (belowI a2) a0 k).set k (e25.1, e25.2.1, (belowI a2 e25.2.2.1), e25.2.2.2)) := by
          rw [redTo_succ _ _ (by omega), ← hxe25]; unfold red; first | (rw [if_pos (by omega)]; done) | (rw [if_neg (by omega)]; done)
        exact nrm ⟨a0.length - (k + 1), (by omega), k + 1, S32, rfl, HE104.sub ⟨(lkI rfl (by first | rfl | omega | (simp [p23_0, hc24, xe25, hc28]; done))), rfl, rfl, rfl, rfl, trivial⟩, ((HH108.sel [0] (by decide) rfl).to (by first | rfl | (rw [E33]; done) | (rw [E33]; rfl) | (simp only [E33]; done) | (simp only [E33]; rfl) | (rw [E33]; simp only [List.length_set]; done))), (by first | omega | assumption | (simp; done) | simp_all)⟩
    · refine wp_exit ?_
      refine (thn_exit (thn_exit (blk_hit ?_)))
      refine nrm ?_
      refine wp_seq ?_
      refine rg ?_
      refine pl_x HE25 HH23 (wt0 rfl) (x_move rfl) rfl rfl fun a_109 HE110 => ?_
      refine pl_x HE110 HH23 (wt0 rfl) (x_assign rfl) rfl rfl fun a_111 HE112 => ?_
      refine wpList_nil ?_
      clear a_24 HE25 a_109 HE110
      refine nrm ?_
      refine wp_ret ?_
      refine ret1 HE112 rfl (rv_tmp rfl) ?_
      have hF : (redirB a0 a2) = redTo (belowI a2) a0 k := by
        unfold redirB; rw [← redTo_end _ _ (by omega : a0.length ≤ k)]
      exact ⟨Ar21_0, cr21_0, by first | (rw [hF] <;> rfl) | rfl | (rw [hF]; simp only [Ending.returned.injEq, Value.slice.injEq, true_and, and_true]; first | omega | (simp; done)) | (rw [hF]; simp; omega), by rw [hF]; exact (HH23.so (i := 0) rfl), HH23.below⟩

set_option maxRecDepth 100000 in
set_option maxHeartbeats 4000000 in
theorem impl_PruneProgram (A0 : Option Addr) (c0 : Nat) (a0 : (List tInstr)) (w : World) (h0 : Sl eInstr w (Old w) A0 c0 a0) :
    Calls Try.prog 19 #[.slice A0 a0.length c0] w fun e w' => ∃ (A0' : Option Addr) (c0' : Nat) (S0' : Nat → Prop) (A1' : Option Addr) (c1' : Nat) (S1' : Nat → Prop), e = .returned (.tuple #[.slice A0' (pruneP a0).1.length c0', .slice A1' (pruneP a0).2.1.length c1', .int .i64 (pruneP a0).2.2]) ∧ Held Nob w [rSo eInstr S0' A0' c0' (pruneP a0).1, rSo eInt S1' A1' c1' (pruneP a0).2.1] w' := by
  have l0 := h0.len
  have HH1 := Held.start Nob w
  refine enter (n := 35) Try.func19 rfl rfl rfl fun a_2 HE3 => ?_
  refine wp_seq ?_
  refine rg ?_
  refine pl fun K_4 hK5 => ?_
  refine st_box (cs := [.slice A0 (a0.length) c0]) HE3 HH1 rfl rfl (wt0 rfl) rfl fun q21 a_6 w' HE7 HH8 => hK5 _ _ ?_
  refine pl_x HE7 HH8 (wt0 rfl) (x_assign rfl) rfl rfl fun a_9 HE10 => ?_
  refine pl_x HE10 HH8 (wt0 rfl) (x_assign rfl) rfl rfl fun a_11 HE12 => ?_
  refine pl_x HE12 HH8 (wt0 rfl) (x_assign rfl) rfl rfl fun a_13 HE14 => ?_
  refine wpList_nil ?_
  clear a_2 HE3 HH1 a_6 HE7 a_9 HE10 a_11 HE12 hK5 K_4
  refine nrm ?_
  refine wp_seq ?_
  refine wp_seq ?_
  refine rg ?_
  refine pl_x HE14 HH8 (wt0 rfl) (x_load1 tv_36 rfl (c_blk 0 rfl rfl)) rfl rfl fun a_15 HE16 => ?_
  refine pl fun K_17 hK18 => ?_
  refine st_call HE16 (wt0 rfl) rfl rfl rfl en_51 rfl rfl (impl_ValidProgram _ _ a0 _ (HH8.old h0)) fun e w' hr => ?_
  obtain ⟨rfl, hbr22⟩ := hr
  have HH19 := HH8.on hbr22
  refine ⟨_, rfl, fun a_20 HE21 => hK18 _ _ ?_⟩
  refine pl_x HE21 HH19 (wt0 rfl) (x_not rfl) rfl rfl fun a_22 HE23 => ?_
  refine wpList_nil ?_
  clear a_13 HE14 HH8 a_15 HE16 a_20 HE21 hK18 K_17
  refine nrm ?_
  refine cnd_nb HE23 rfl (fun hc23 => ?_) (fun hc23 => ?_)
  · refine wp_seq ?_
    refine rg ?_
    refine pl_x HE23 HH19 (wt0 rfl) (x_assign rfl) rfl rfl fun a_24 HE25 => ?_
    refine pl_x HE25 HH19 (wt0 rfl) (x_assign rfl) rfl rfl fun a_26 HE27 => ?_
    refine pl_x HE27 HH19 (wt0 rfl) (x_assign rfl) rfl rfl fun a_28 HE29 => ?_
    refine wpList_nil ?_
    clear a_22 HE23 a_24 HE25 a_26 HE27
    refine nrm ?_
    refine wp_ret ?_
    refine (thn_ret ?_)
    refine ret3 HE29 rfl (rv_tmp rfl) (rv_tmp rfl) (rv_tmp rfl) ?_
    have HH30 := HH19.vecNil eInstr 81
    have HH31 := HH30.vecSo
    have HH32 := HH31.vecNil eInt 2
    have HH33 := HH32.vecSo
    have hF : (pruneP a0) = ([], [], 1) := by
      first | (simp [pruneP, hc23]; done) | (unfold pruneP redirB; rw [if_pos hvp, List.take_of_length_le (by omega)])
    exact ⟨_, _, _, _, _, _, by first | (rw [hF] <;> rfl) | rfl | (rw [hF]; simp only [Ending.returned.injEq, Value.slice.injEq, true_and, and_true]; first | omega | (simp; done)) | (rw [hF]; simp; omega), by rw [hF]; exact HH33.sel [1, 0] (by decide) rfl⟩
  · have hvp := hc23
    have hok := validProg_okP hc23
    have hlen := hok.1
    have hkb := keptP_bd hc23
    have hkl := keptP_len a0
    have hkr := keptP_rise a0
    have hnn := nxP_nn hc23
    refine wp_skip ?_
    refine nrm ?_
    refine wp_seq ?_
    refine rg ?_
    refine pl_x HE23 HH19 (wt0 rfl) (x_load1 tv_36 rfl (c_blk 0 rfl rfl)) rfl rfl fun a_34 HE35 => ?_
    refine pl fun K_36 hK37 => ?_
    refine st_call HE35 (wt0 rfl) rfl rfl rfl en_53 rfl rfl (impl_size_Instr _ _ _ _) fun e w' hr => ?_
    obtain ⟨rfl, rfl⟩ := hr
    refine ⟨_, rfl, fun a_38 HE39 => hK37 _ _ ?_⟩
    refine pl_x HE39 HH19 (wt0 rfl) (x_makeFunc rfl rfl) rfl rfl fun a_40 HE41 => ?_
    refine pl fun K_42 hK43 => ?_
    refine st_call HE41 (wt0 rfl) rfl rfl rfl en_52 rfl rfl (impl_reachable a0.length _ [.slice A0 (a0.length) c0] a0 _ ⟨_, _, rfl, (HH19.old h0)⟩ (c_blkN 0 rfl _ HH19) (by rfl) (by assumption) (by omega)) fun e w' hr => ?_
    obtain ⟨Ar25_0, cr25_0, rfl, hor25_0, hbr25⟩ := hr
    obtain ⟨Sr25, HH44⟩ := HH19.newS hbr25 hor25_0
    refine ⟨_, rfl, fun a_45 HE46 => hK43 _ _ ?_⟩
    refine pl fun K_47 hK48 => ?_
    refine st_alloc HE46 HH44 tv_37 (wt0 rfl) rfl fun q26 a_49 w' HE50 HH51 => hK48 _ _ ?_
    refine pl fun K_52 hK53 => ?_
    refine st_store (vs := [.slice Ar25_0 ((keptP a0).length) cr25_0]) 0 HE50 HH51 tv_37 rfl rfl rfl rfl rfl rfl (by simp [Value.oneCell']) (wt0 rfl) fun w' HH54 => hK53 _ _ ?_
    refine wpList_nil ?_
    clear a_22 HE23 a_34 HE35 a_38 HE39 K_36 hK37 HH19 a_40 HE41 K_42 hK43 a_45 HE46 HH44 K_47 hK48 HH51 hK53 K_52
    refine nrm ?_
    refine wp_seq ?_
    refine rg ?_
    refine pl fun K_55 hK56 => ?_
    refine st_lit (m := 0) (cs := []) (e := 81) HE50 HH54 (run_lit ts_36 HE50 (vs := []) rfl rfl (by simp [Value.cells]) rfl (by decide)) (wt0 rfl) rfl rfl fun q27 a_57 w' HE58 HH59 => hK56 _ _ ?_
    refine pl_x HE58 HH59 (wt0 rfl) (x_assign rfl) rfl rfl fun a_60 HE61 => ?_
    refine wpList_nil ?_
    clear a_49 HE50 HH54 a_57 HE58 hK56 K_55
    refine nrm ?_
    refine wp_seq ?_
    refine wp_seq ?_
    refine rg ?_
    refine pl_x HE61 HH59 (wt0 rfl) (x_load1 tv_37 rfl (c_blk 1 rfl rfl)) rfl rfl fun a_62 HE63 => ?_
    refine pl_x HE63 HH59 (wt0 rfl) (x_len Try.underlying37 rfl) rfl rfl fun a_64 HE65 => ?_
    refine pl_x HE65 HH59 (wt0 rfl) (x_move rfl) rfl rfl fun a_66 HE67 => ?_
    refine wpList_nil ?_
    clear a_60 HE61 a_62 HE63 a_64 HE65
    refine nrm ?_
    refine wp_block ?_
    have HH68 := Held.vecFlat (E := eInstr) (xs := []) (css := []) HH59 rfl (Nat.zero_le _) (fun i x hx => by simp at hx)
    refine lp (fun m a w' => ∃ (k : Nat) (A_6 : Option Addr) (c_6 : Nat) (S_6 : Nat → Prop), m = (keptP a0).length - k ∧ Env 35 [(6, .slice A_6 (List.length (((keptP a0).take k).map (atP a0))) c_6), (19, .int .i64 (k : Int)), (1, .pointer (some ⟨q21, 0, none⟩)), (5, .pointer (some ⟨q26, 0, none⟩)), (17, .slice Ar25_0 ((keptP a0).length) cr25_0), (18, .int .i64 (((keptP a0).length : Int)))] a ∧ Held Nob w [rVec eInstr 81 S_6 A_6 c_6 (((keptP a0).take k).map (atP a0)), rBlk q26 37 [.slice Ar25_0 ((keptP a0).length) cr25_0], rSo eInt Sr25 Ar25_0 cr25_0 (keptP a0), rBlk q21 36 [.slice A0 (a0.length) c0]] w' ∧ (k ≤ (keptP a0).length)) ((keptP a0).length - (0)) ?_ ?_
    · have E28 : ((keptP a0).take 0).map (atP a0) = ([] : List tInstr) := by
        rfl
      exact ⟨0, (some ⟨q27, 0, none⟩), (List.length (α := tInstr) []), (fun b => b = q27), rfl, HE67.sub ⟨(by rw [E28]; rfl), (lkI rfl (by first | rfl | omega | (simp [hc23]; done))), rfl, rfl, rfl, rfl, trivial⟩, ((HH68.sel [0, 1, 2, 3] (by decide) rfl).to (by first | rfl | (rw [E28]; done) | (rw [E28]; rfl) | (simp only [E28]; done) | (simp only [E28]; rfl) | (rw [E28]; simp only [List.length_set]; done))), (by first | omega | assumption | (simp; done) | simp_all)⟩
    · rintro m a_69 w' ⟨k, A_6, c_6, S_6, rfl, HE70, HH71, p29_0⟩
      have ol : (((keptP a0).take k).map (atP a0)).length = k := by rw [List.length_map, List.length_take]; omega
      refine wp_seq ?_
      refine rg ?_
      refine pl_x HE70 HH71 (wt0 rfl) (x_lss rfl rfl) rfl rfl fun a_72 HE73 => ?_
      refine wpList_nil ?_
      clear HH59 a_66 HE67 HH68 a_69 HE70
      refine nrm ?_
      refine wp_seq ?_
      refine cnd_d HE73 rfl (fun hc30 => ?_) (fun hc30 => ?_)
      · refine wp_skip ?_
        refine nrm ?_
        refine wp_seq ?_
        refine wp_block ?_
        refine wp_seq ?_
        refine rg ?_
        have ke31 : k < (keptP a0).length := by omega
        obtain ⟨be31, fe31, rfl⟩ := el_own HH71 (i := 2) rfl ke31
        refine pl_x HE73 HH71 (wt0 rfl) (x_indexAddr ts_37 rfl rfl rfl rfl ke31) rfl rfl fun a_74 HE75 => ?_
        obtain ⟨y32, xy32⟩ : ∃ y_, y_ = (keptP a0)[k]'(by first | exact ke31 | (simp only [List.length_set]; exact ke31) | omega | (simp only [List.length_set]; omega) | (simp; omega)) := ⟨_, rfl⟩
        have iy32 : I64 y32 := by rw [xy32]; exact i_ownI HH71 2 rfl _
        have jy32 := iy32; unfold I64 at jy32
        have hby32 := hkb y32 (by rw [xy32]; exact List.getElem_mem _)
        refine pl_x HE75 HH71 (wt0 rfl) (x_load1 tv_2 rfl (c_ownV 2 rfl (by first | exact ke31 | (simp only [List.length_set]; exact ke31) | omega | (simp only [List.length_set]; omega) | (simp; omega)) xy32.symm)) rfl rfl fun a_76 HE77 => ?_
        refine pl_x HE77 HH71 (wt0 rfl) (x_assign rfl) rfl rfl fun a_78 HE79 => ?_
        refine wpList_nil ?_
        clear a_72 HE73 a_74 HE75 a_76 HE77
        refine nrm ?_
        refine rg ?_
        refine pl_x HE79 HH71 (wt0 rfl) (x_move rfl) rfl rfl fun a_80 HE81 => ?_
        refine pl_x HE81 HH71 (wt0 rfl) (x_load1 tv_36 rfl (c_blk 3 rfl rfl)) rfl rfl fun a_82 HE83 => ?_
        refine pl_x HE83 HH71 (wt0 rfl) (x_move rfl) rfl rfl fun a_84 HE85 => ?_
        have ke33 : (y32).toNat < a0.length := by omega
        obtain ⟨be33, fe33, ese33, Ae33, Re33, De33⟩ := el_old h0 ke33
        obtain ⟨e33, xe33⟩ : ∃ x_, x_ = a0[(y32).toNat] := ⟨_, rfl⟩
        rw [← xe33] at Re33
        have Qe33 := Re33
        obtain ⟨rfl, ge33_0, ge33_1, ge33_2, ge33_3⟩ := shape_Instr Re33
        have je33_0 := ge33_0; unfold I64 at je33_0
        have je33_1 := ge33_1; unfold I64 at je33_1
        have je33_2 := ge33_2; unfold I64 at je33_2
        have je33_3 := ge33_3; unfold I64 at je33_3
        have hge33 : a0[(y32).toNat]?.getD default = e33 := by rw [List.getElem?_eq_getElem ke33, xe33]; rfl
        refine pl_x HE85 HH71 (wt0 rfl) (x_indexAddr ts_36 rfl rfl Ae33 (by omega) ke33) rfl rfl fun a_86 HE87 => ?_
        refine pl_x HE87 HH71 (wt0 rfl) (x_loadN (cs := [.int .i64 (e33.1), .int .i64 (e33.2.1), .int .i64 (e33.2.2.1), .int .i64 (e33.2.2.2)]) tv_81 rfl rfl (c_oldN De33)) rfl rfl fun a_88 HE89 => ?_
        refine pl fun K_90 hK91 => ?_
        refine st_lit (m := 1) (cs := [.int .i64 (e33.1), .int .i64 (e33.2.1), .int .i64 (e33.2.2.1), .int .i64 (e33.2.2.2)]) (e := 81) HE89 HH71 (run_lit ts_36 HE89 (vs := [.agg #[.int .i64 (e33.1), .int .i64 (e33.2.1), .int .i64 (e33.2.2.1), .int .i64 (e33.2.2.2)]]) rfl rfl (by simp [Value.cells]) rfl (by decide)) (wt0 rfl) rfl rfl fun q34 a_92 w' HE93 HH94 => hK91 _ _ ?_
        refine pl fun K_95 hK96 => ?_
        refine st_app1F (e33.1, e33.2.1, e33.2.2.1, e33.2.2.2) HE93 HH94 ts_36 [1, 0, 2, 3, 4] (by decide) rfl (fun _ => (oPrN (oI (by exact ⟨by omega, by omega⟩)) (oPrN (oI (by exact ⟨by omega, by omega⟩)) (oPrN (oI (by exact ⟨by omega, by omega⟩)) (oI (by exact ⟨by omega, by omega⟩)))))) rfl rfl (by simp [Value.oneCell']) (by unfold maxLen; first | omega | (simp; done) | (simp; omega)) (by first | omega | (simp; done) | (simp; omega)) (wt0 rfl) rfl fun A35 c36 S37 a_97 w' HE98 HH99 => hK96 _ _ ?_
        refine pl_x HE98 HH99 (wt0 rfl) (x_assign rfl) rfl rfl fun a_100 HE101 => ?_
        refine wpList_nil ?_
        clear a_78 HE79 a_80 HE81 a_82 HE83 a_84 HE85 a_86 HE87 a_88 HE89 HH71 K_90 hK91 a_92 HE93 HH94 a_97 HE98 hK96 K_95
        refine blk_n ?_
        refine nrm ?_
        refine rg ?_
        refine pl_x HE101 HH99 (wt0 rfl) (x_add rfl rfl (by exact ⟨by omega, by omega⟩)) rfl rfl fun a_102 HE103 => ?_
        refine pl_x HE103 HH99 (wt0 rfl) (x_move rfl) rfl rfl fun a_104 HE105 => ?_
        refine wpList_nil ?_
        clear a_100 HE101 a_102 HE103
        have E38 : ((keptP a0).take (k + 1)).map (atP a0) = (((keptP a0).take k).map (atP a0) ++ [(e33.1, e33.2.1, e33.2.2.1, e33.2.2.2)]) := by
          rw [List.take_succ_eq_append_getElem (by omega), List.map_append, ← xy32]; show _ ++ [atP a0 _] = _; unfold atP; rw [hge33]
        exact nrm ⟨(keptP a0).length - (k + 1), (by omega), k + 1, A35, c36, S37, rfl, HE105.sub ⟨(by rw [E38]; rfl), (lkI rfl (by first | rfl | omega | (simp [hc23, p29_0, hc30, xy32, xe33]; done))), rfl, rfl, rfl, rfl, trivial⟩, ((HH99.sel [0, 1, 2, 3] (by decide) rfl).to (by first | rfl | (rw [E38]; done) | (rw [E38]; rfl) | (simp only [E38]; done) | (simp only [E38]; rfl) | (rw [E38]; simp only [List.length_set]; done))), (by first | omega | assumption | (simp; done) | simp_all)⟩
      · refine wp_exit ?_
        refine (thn_exit (thn_exit (blk_hit ?_)))
        refine nrm ?_
        refine wp_seq ?_
        refine dr_start (Held Nob w [rVec eInstr 81 S_6 A_6 c_6 (((keptP a0).take k).map (atP a0)), rBlk q26 37 [.slice Ar25_0 ((keptP a0).length) cr25_0], rSo eInt Sr25 Ar25_0 cr25_0 (keptP a0), rBlk q21 36 [.slice A0 (a0.length) c0]]) 7 #[false, false, false, false, false, false, false] hmix rfl rfl HH71 (fun _ h => h.sel [0, 1, 2, 3] (by decide) rfl) fun w' HH106 => ?_
        have HS107 := HH106
        refine dr_take (i := 0) (ls' := #[true, false, false, false, false, false, false]) HE73 HS107 rfl (by kernel_rfl) (by kernel_rfl) (by kernel_rfl) (fun _ _ _ h => h) rfl (wt0 rfl) (x_move rfl) rfl rfl fun a_108 HE109 => ?_
        refine dr_take (i := 1) (ls' := #[true, true, false, false, false, false, false]) HE109 HS107 rfl (by kernel_rfl) (by kernel_rfl) (by kernel_rfl) (fun _ _ _ h => h) rfl (wt0 rfl) (x_makeFunc rfl rfl) rfl rfl fun a_110 HE111 => ?_
        refine dr_take (i := 3) (ls' := #[true, true, false, true, false, false, false]) HE111 HS107 rfl (by kernel_rfl) (by kernel_rfl) (by kernel_rfl) (fun _ _ _ h => h) rfl (wt0 rfl) (x_load1 tv_37 rfl (c_blk 1 rfl rfl)) rfl rfl fun a_112 HE113 => ?_
        refine dr_one (i := 2) (ls' := #[true, true, true, true, false, false, false]) rfl (by kernel_rfl) rfl fun K_114 hK115 => ?_
        refine st_call HE113 (wt0 rfl) rfl rfl rfl en_55 rfl rfl (impl_redirectedP _ _ (((keptP a0).take k).map (atP a0)) _ [.slice Ar25_0 ((keptP a0).length) cr25_0] (keptP a0) _ (HH106.vecSl (i := 0) rfl) ⟨_, _, rfl, (HH106.sl (i := 2) rfl)⟩ (c_blkN 1 rfl _ HH106) (by assumption) (by omega) (by omega)) fun e w' hr => ?_
        obtain ⟨Ar39_0, cr39_0, rfl, hor39_0, hbr39⟩ := hr
        obtain ⟨Sr39, HH116⟩ := HH106.newS hbr39 hor39_0
        refine ⟨_, rfl, fun a_117 HE118 => hK115 _ _ (by exact HH116.sel [1, 2, 3, 4] (by decide) rfl) ?_⟩
        have HS119 := HH116.sel [1, 2, 3, 4] (by decide) rfl
        refine dr_take (i := 4) (ls' := #[true, true, true, true, true, false, false]) HE118 HS119 rfl (by kernel_rfl) (by kernel_rfl) (by kernel_rfl) (fun _ _ _ h => h) rfl (wt0 rfl) (x_assign rfl) rfl rfl fun a_120 HE121 => ?_
        refine dr_take (i := 5) (ls' := #[true, true, true, true, true, true, false]) HE121 HS119 rfl (by kernel_rfl) (by kernel_rfl) (by kernel_rfl) (fun _ _ _ h => h) rfl (wt0 rfl) (x_assign rfl) rfl rfl fun a_122 HE123 => ?_
        refine dr_take (i := 6) (ls' := #[true, true, true, true, true, true, true]) HE123 HS119 rfl (by kernel_rfl) (by kernel_rfl) (by kernel_rfl) (fun _ _ _ h => h) rfl (wt0 rfl) (x_assign rfl) rfl rfl fun a_124 HE125 => ?_
        refine dr_done (by kernel_rfl) ?_
        clear HH71 a_72 HE73 a_108 HE109 a_110 HE111 HH106 a_112 HE113 HS107 a_117 HE118 a_120 HE121 a_122 HE123 hK115 K_114
        refine nrm ?_
        refine wp_ret ?_
        refine ret3 HE125 rfl (rv_tmp rfl) (rv_tmp rfl) (rv_tmp rfl) ?_
        have hF : (pruneP a0) = ((redirB (((keptP a0).take k).map (atP a0)) (keptP a0)), (keptP a0), 0) := by
          first | (simp [pruneP, hc23, p29_0, hc30]; done) | (unfold pruneP redirB; rw [if_pos hvp, List.take_of_length_le (by omega)])
        exact ⟨_, _, _, _, _, _, by first | (rw [hF] <;> rfl) | rfl | (rw [hF]; simp only [Ending.returned.injEq, Value.slice.injEq, true_and, and_true]; first | omega | (simp; done)) | (rw [hF]; simp; omega), by rw [hF]; exact HH116.sel [0, 3] (by decide) rfl⟩

set_option maxRecDepth 100000 in
set_option maxHeartbeats 4000000 in
theorem spec_l01Sorted (A0 : Option Addr) (c0 : Nat) (a0 : (List Int)) (w : World) (h0 : Sl eInt w (Old w) A0 c0 a0) (s0 : a0.length ≤ 1000000) :
    Calls Try.prog 88 #[.slice A0 a0.length c0] w fun e w' => ∃ (A0' : Option Addr) (c0' : Nat), e = .returned (.slice A0' (sortI a0).length c0') ∧ So eInt w' (Fr w w') A0' c0' (sortI a0) ∧ Below w.heap.size w w' := by
  have l0 := h0.len
  have HH1 := Held.start Nob w
  refine enter (n := 59) Try.func88 rfl rfl rfl fun a_2 HE3 => ?_
  refine wp_seq ?_
  refine rg ?_
  refine pl_x HE3 HH1 (wt0 rfl) (x_assign rfl) rfl rfl fun a_4 HE5 => ?_
  refine wpList_nil ?_
  clear a_2 HE3
  refine nrm ?_
  refine wp_seq ?_
  refine rg ?_
  refine pl fun K_6 hK7 => ?_
  refine st_lit (m := 0) (cs := []) (e := 2) HE5 HH1 (run_lit ts_37 HE5 (vs := []) rfl rfl (by simp [Value.cells]) rfl (by decide)) (wt0 rfl) rfl rfl fun q21 a_8 w' HE9 HH10 => hK7 _ _ ?_
  refine pl_x HE9 HH10 (wt0 rfl) (x_assign rfl) rfl rfl fun a_11 HE12 => ?_
  refine wpList_nil ?_
  clear a_4 HE5 HH1 a_8 HE9 hK7 K_6
  refine nrm ?_
  refine wp_seq ?_
  refine wp_seq ?_
  refine rg ?_
  refine pl_x HE12 HH10 (wt0 rfl) (x_assign rfl) rfl rfl fun a_13 HE14 => ?_
  refine wpList_nil ?_
  clear a_11 HE12
  refine nrm ?_
  refine wp_block ?_
  have HH15 := Held.vecFlat (E := eInt) (xs := []) (css := []) HH10 rfl (Nat.zero_le _) (fun i x hx => by simp at hx)
  refine lp (fun m a w' => ∃ (k : Nat) (o : List Int) (A_3 : Option Addr) (c_3 : Nat) (S_3 : Nat → Prop), m = a0.length - k ∧ Env 59 [(3, .slice A_3 (List.length o) c_3), (4, .int .i64 (k : Int)), (0, .slice A0 (a0.length) c0)] a ∧ Held Nob w [rVec eInt 2 S_3 A_3 c_3 o] w' ∧ (k ≤ a0.length) ∧ (o.Pairwise (· ≤ ·)) ∧ (o.Perm (a0.take k))) (a0.length - (0)) ?_ ?_
  · have E22 : ([]) = ([] : List Int) := by
      first | rfl | simp
    exact ⟨0, [], (some ⟨q21, 0, none⟩), (List.length (α := Int) []), (fun b => b = q21), rfl, HE14.sub ⟨(by rw [E22]; rfl), (lkI rfl (by first | rfl | omega | (simp []; done))), rfl, trivial⟩, ((HH15.sel [0] (by decide) rfl).to (by first | rfl | (rw [E22]; done) | (rw [E22]; rfl) | (simp only [E22]; done) | (simp only [E22]; rfl) | (rw [E22]; simp only [List.length_set]; done))), (by first | omega | assumption | (simp; done) | simp_all), (by exact List.Pairwise.nil), (by exact List.Perm.refl _)⟩
  · rintro m a_16 w' ⟨k, o, A_3, c_3, S_3, rfl, HE17, HH18, p23_0, p23_1, p23_2⟩
    have ol : o.length = k := by have := p23_2.length_eq; rw [List.length_take] at this; omega
    refine wp_seq ?_
    refine wp_seq ?_
    refine rg ?_
    refine pl_x HE17 HH18 (wt0 rfl) (x_move rfl) rfl rfl fun a_19 HE20 => ?_
    refine pl_x HE20 HH18 (wt0 rfl) (x_move rfl) rfl rfl fun a_21 HE22 => ?_
    refine pl_x HE22 HH18 (wt0 rfl) (x_len Try.underlying37 rfl) rfl rfl fun a_23 HE24 => ?_
    refine pl_x HE24 HH18 (wt0 rfl) (x_lss rfl rfl) rfl rfl fun a_25 HE26 => ?_
    refine wpList_nil ?_
    clear HH10 a_13 HE14 HH15 a_16 HE17 a_19 HE20 a_21 HE22 a_23 HE24
    refine nrm ?_
    refine cnd_d HE26 rfl (fun hc24 => ?_) (fun hc24 => ?_)
    · refine wp_skip ?_
      refine nrm ?_
      refine wp_seq ?_
      refine wp_block ?_
      refine wp_seq ?_
      refine rg ?_
      refine pl_x HE26 HH18 (wt0 rfl) (x_move rfl) rfl rfl fun a_27 HE28 => ?_
      refine pl_x HE28 HH18 (wt0 rfl) (x_len Try.underlying37 rfl) rfl rfl fun a_29 HE30 => ?_
      refine pl_x HE30 HH18 (wt0 rfl) (x_assign rfl) rfl rfl fun a_31 HE32 => ?_
      refine wpList_nil ?_
      clear a_25 HE26 a_27 HE28 a_29 HE30
      refine nrm ?_
      refine wp_seq ?_
      refine wp_block ?_
      refine lp (fun m a w' => ∃ (j : Nat), m = 0 + j ∧ Env 59 [(5, .int .i64 (j : Int)), (0, .slice A0 (a0.length) c0), (3, .slice A_3 ((List.length o)) c_3), (4, .int .i64 ((k : Int)))] a ∧ Held Nob w [rVec eInt 2 S_3 A_3 c_3 o] w' ∧ (j ≤ o.length) ∧ (∀ i, j ≤ i → i < o.length → a0[k]?.getD 0 < o[i]?.getD 0)) (0 + (o.length)) ?_ ?_
      · exact ⟨o.length, rfl, HE32.sub ⟨(lkI rfl (by first | rfl | omega | (simp [p23_0, p23_1, p23_2, hc24]; done))), rfl, rfl, rfl, trivial⟩, (HH18.sel [0] (by decide) rfl), (by first | omega | assumption | (simp; done) | simp_all), (by intro i h1 h2; omega)⟩
      · rintro m a_33 w' ⟨j, rfl, HE34, HH35, p25_0, p25_1⟩
        refine wp_seq ?_
        refine wp_seq ?_
        refine dr_start (Held Nob w [rVec eInt 2 S_3 A_3 c_3 o]) 14 #[false, false, false, false, false, false, false, false, false, false, false, false, false, false] hmix rfl rfl HH35 (fun _ h => h.sel [0] (by decide) rfl) fun w' HH36 => ?_
        have HS37 := HH36
        refine dr_take (i := 0) (ls' := #[true, false, false, false, false, false, false, false, false, false, false, false, false, false]) HE34 HS37 rfl (by kernel_rfl) (by kernel_rfl) (by kernel_rfl) (fun _ _ _ h => h) rfl (wt0 rfl) (x_move rfl) rfl rfl fun a_38 HE39 => ?_
        refine dr_take (i := 1) (ls' := #[true, true, false, false, false, false, false, false, false, false, false, false, false, false]) HE39 HS37 rfl (by kernel_rfl) (by kernel_rfl) (by kernel_rfl) (fun _ _ _ h => h) rfl (wt0 rfl) (x_gtr rfl rfl) rfl rfl fun a_40 HE41 => ?_
        refine dr_take (i := 2) (ls' := #[true, true, true, false, false, false, false, false, false, false, false, false, false, false]) HE41 HS37 rfl (by kernel_rfl) (by kernel_rfl) (by kernel_rfl) (fun _ _ _ h => h) rfl (wt0 rfl) (x_move rfl) rfl rfl fun a_42 HE43 => ?_
        by_cases hc26 : 0 < (j : Int)
        · refine dr_take (i := 3) (ls' := #[true, true, true, true, false, false, false, false, false, false, false, false, false, false]) HE43 HS37 rfl (by kernel_rfl) (by kernel_rfl) (by kernel_rfl) (fun _ _ _ h => h) rfl (wtT HE43 rfl rfl rfl (decide_eq_true hc26)) (x_move rfl) rfl rfl fun a_44 HE45 => ?_
          refine dr_take (i := 4) (ls' := #[true, true, true, true, true, false, false, false, false, false, false, false, false, false]) HE45 HS37 rfl (by kernel_rfl) (by kernel_rfl) (by kernel_rfl) (fun _ _ _ h => h) rfl (wtT HE45 rfl rfl rfl (decide_eq_true hc26)) (x_move rfl) rfl rfl fun a_46 HE47 => ?_
          refine dr_take (i := 5) (ls' := #[true, true, true, true, true, true, false, false, false, false, false, false, false, false]) HE47 HS37 rfl (by kernel_rfl) (by kernel_rfl) (by kernel_rfl) (fun _ _ _ h => h) rfl (wtT HE47 rfl rfl rfl (decide_eq_true hc26)) (x_sub rfl rfl (by exact ⟨by omega, by omega⟩)) rfl rfl fun a_48 HE49 => ?_
          have ke27 : (j - 1) < (List.length o) := by omega
          obtain ⟨be27, rfl⟩ := el_vec HH36 (i := 0) rfl ke27
          refine dr_take (i := 6) (ls' := #[true, true, true, true, true, true, true, false, false, false, false, false, false, false]) HE49 HS37 rfl (by kernel_rfl) (by kernel_rfl) (by kernel_rfl) (fun _ _ _ h => h) rfl (wtT HE49 rfl rfl rfl (decide_eq_true hc26)) (x_indexAddr ts_37 rfl rfl rfl (by omega) ke27) rfl rfl fun a_50 HE51 => ?_
          obtain ⟨y28, xy28⟩ : ∃ y_, y_ = o[(j - 1)]'(by first | exact ke27 | (simp only [List.length_set]; exact ke27) | omega | (simp only [List.length_set]; omega) | (simp; omega)) := ⟨_, rfl⟩
          have iy28 : I64 y28 := by rw [xy28]; exact i_vecI HH36 0 rfl _
          have jy28 := iy28; unfold I64 at jy28
          refine dr_take (i := 7) (ls' := #[true, true, true, true, true, true, true, true, false, false, false, false, false, false]) HE51 HS37 rfl (by kernel_rfl) (by kernel_rfl) (by kernel_rfl) (fun _ _ _ h => h) rfl (wtT HE51 rfl rfl rfl (decide_eq_true hc26)) (x_load1 tv_2 rfl (c_vecV 0 rfl (by first | exact ke27 | (simp only [List.length_set]; exact ke27) | omega | (simp only [List.length_set]; omega) | (simp; omega)) xy28.symm)) rfl rfl fun a_52 HE53 => ?_
          refine dr_take (i := 8) (ls' := #[true, true, true, true, true, true, true, true, true, false, false, false, false, false]) HE53 HS37 rfl (by kernel_rfl) (by kernel_rfl) (by kernel_rfl) (fun _ _ _ h => h) rfl (wtT HE53 rfl rfl rfl (decide_eq_true hc26)) (x_move rfl) rfl rfl fun a_54 HE55 => ?_
          refine dr_take (i := 9) (ls' := #[true, true, true, true, true, true, true, true, true, true, false, false, false, false]) HE55 HS37 rfl (by kernel_rfl) (by kernel_rfl) (by kernel_rfl) (fun _ _ _ h => h) rfl (wtT HE55 rfl rfl rfl (decide_eq_true hc26)) (x_move rfl) rfl rfl fun a_56 HE57 => ?_
          have ke29 : k < a0.length := by omega
          obtain ⟨be29, fe29, ese29, Ae29, Re29, De29⟩ := el_old h0 ke29
          obtain ⟨e29, xe29⟩ : ∃ x_, x_ = a0[k] := ⟨_, rfl⟩
          rw [← xe29] at Re29
          have Qe29 := Re29
          obtain ⟨rfl, ie29⟩ := Re29
          have je29 := ie29; unfold I64 at je29
          have heke29 : a0[k]? = some e29 := by rw [xe29, List.getElem?_eq_getElem ke29]
          refine dr_take (i := 10) (ls' := #[true, true, true, true, true, true, true, true, true, true, true, false, false, false]) HE57 HS37 rfl (by kernel_rfl) (by kernel_rfl) (by kernel_rfl) (fun _ _ _ h => h) rfl (wtT HE57 rfl rfl rfl (decide_eq_true hc26)) (x_indexAddr ts_37 rfl rfl Ae29 rfl ke29) rfl rfl fun a_58 HE59 => ?_
          refine dr_take (i := 11) (ls' := #[true, true, true, true, true, true, true, true, true, true, true, true, false, false]) HE59 HS37 rfl (by kernel_rfl) (by kernel_rfl) (by kernel_rfl) (fun _ _ _ h => h) rfl (wtT HE59 rfl rfl rfl (decide_eq_true hc26)) (x_load1 tv_2 rfl (c_old (De29 0 _ rfl))) rfl rfl fun a_60 HE61 => ?_
          refine dr_take (i := 12) (ls' := #[true, true, true, true, true, true, true, true, true, true, true, true, true, false]) HE61 HS37 rfl (by kernel_rfl) (by kernel_rfl) (by kernel_rfl) (fun _ _ _ h => h) rfl (wtT HE61 rfl rfl rfl (decide_eq_true hc26)) (x_gtr rfl rfl) rfl rfl fun a_62 HE63 => ?_
          refine dr_take (i := 13) (ls' := #[true, true, true, true, true, true, true, true, true, true, true, true, true, true]) HE63 HS37 rfl (by kernel_rfl) (by kernel_rfl) (by kernel_rfl) (fun _ _ _ h => h) rfl (wt0 rfl) (x_pickT rfl (decide_eq_true hc26) rfl) rfl rfl fun a_64 HE65 => ?_
          refine dr_done (by kernel_rfl) ?_
          clear a_31 HE32 HH18 HH35 a_33 HE34 a_38 HE39 a_40 HE41 a_42 HE43 a_44 HE45 a_46 HE47 a_48 HE49 a_50 HE51 a_52 HE53 a_54 HE55 a_56 HE57 a_58 HE59 a_60 HE61 a_62 HE63
          refine nrm ?_
          refine cnd_d HE65 rfl (fun hc30 => ?_) (fun hc30 => ?_)
          · refine wp_skip ?_
            refine nrm ?_
            refine wp_block ?_
            refine rg ?_
            refine pl_x HE65 HH36 (wt0 rfl) (x_move rfl) rfl rfl fun a_66 HE67 => ?_
            refine pl_x HE67 HH36 (wt0 rfl) (x_sub rfl rfl (by exact ⟨by omega, by omega⟩)) rfl rfl fun a_68 HE69 => ?_
            refine pl_x HE69 HH36 (wt0 rfl) (x_assign rfl) rfl rfl fun a_70 HE71 => ?_
            refine wpList_nil ?_
            clear a_64 HE65 a_66 HE67 a_68 HE69
            refine blk_n ?_
            exact nrm ⟨0 + ((j - 1)), (by omega), (j - 1), rfl, HE71.sub ⟨(lkI rfl (by first | rfl | omega | (simp [p23_0, p23_1, p23_2, hc24, p25_0, p25_1, hc26, xy28, xe29, hc30]; done))), rfl, rfl, rfl, trivial⟩, (HH36.sel [0] (by decide) rfl), (by first | omega | assumption | (simp; done) | simp_all), (by exact ins_step p25_1 (by grind))⟩
          · refine wp_exit ?_
            refine (thn_exit (thn_exit (blk_hit ?_)))
            refine nrm ?_
            refine wp_seq ?_
            refine rg ?_
            refine pl_x HE65 HH36 (wt0 rfl) (x_move rfl) rfl rfl fun a_72 HE73 => ?_
            refine pl fun K_74 hK75 => ?_
            refine st_lit (m := 1) (cs := [.int .i64 (0)]) (e := 2) HE73 HH36 (run_lit ts_37 HE73 (vs := [.int .i64 (0)]) rfl rfl (by simp [Value.cells]) rfl (by decide)) (wt0 rfl) rfl rfl fun q31 a_76 w' HE77 HH78 => hK75 _ _ ?_
            refine pl fun K_79 hK80 => ?_
            refine st_app1F 0 HE77 HH78 ts_37 [1, 0] (by decide) rfl (fun _ => (oI (by exact ⟨by omega, by omega⟩))) rfl rfl (by simp [Value.oneCell']) (by unfold maxLen; first | omega | (simp; done) | (simp; omega)) (by first | omega | (simp; done) | (simp; omega)) (wt0 rfl) rfl fun A32 c33 S34 a_81 w' HE82 HH83 => hK80 _ _ ?_
            have lA32 : List.length (o ++ [0]) = List.length o + 1 := List.length_append
            refine pl_x HE82 HH83 (wt0 rfl) (x_assign rfl) rfl rfl fun a_84 HE85 => ?_
            refine wpList_nil ?_
            clear a_64 HE65 a_72 HE73 HH36 K_74 hK75 a_76 HE77 HH78 a_81 HE82 hK80 K_79
            refine nrm ?_
            refine wp_seq ?_
            refine wp_seq ?_
            refine rg ?_
            refine pl_x HE85 HH83 (wt0 rfl) (x_move rfl) rfl rfl fun a_86 HE87 => ?_
            refine pl_x HE87 HH83 (wt0 rfl) (x_len Try.underlying37 rfl) rfl rfl fun a_88 HE89 => ?_
            refine pl_x HE89 HH83 (wt0 rfl) (x_sub rfl rfl (by exact ⟨by omega, by omega⟩)) rfl rfl fun a_90 HE91 => ?_
            refine pl_x HE91 HH83 (wt0 rfl) (x_assign rfl) rfl rfl fun a_92 HE93 => ?_
            refine wpList_nil ?_
            clear a_84 HE85 a_86 HE87 a_88 HE89 a_90 HE91
            refine nrm ?_
            refine wp_block ?_
            refine lp (fun m a w' => ∃ (v : Nat) (A_3 : Option Addr) (c_3 : Nat) (S_3 : Nat → Prop), m = 0 + v ∧ Env 59 [(3, .slice A_3 (List.length (shR o 0 v)) c_3), (6, .int .i64 (v : Int)), (0, .slice A0 (a0.length) c0), (4, .int .i64 ((k : Int))), (5, .int .i64 ((j : Int)))] a ∧ Held Nob w [rVec eInt 2 S_3 A_3 c_3 (shR o 0 v)] w' ∧ (j ≤ v) ∧ (v ≤ o.length)) (0 + (o.length)) ?_ ?_
            · have E35 : shR o 0 (o.length) = (o ++ [0]) := by
                exact shR_start _ _
              exact ⟨o.length, A32, c33, S34, rfl, HE93.sub ⟨(by rw [E35]; rfl), (lkI rfl (by omega)), rfl, rfl, rfl, trivial⟩, ((HH83.sel [0] (by decide) rfl).to (by first | rfl | (rw [E35]; done) | (rw [E35]; rfl) | (simp only [E35]; done) | (simp only [E35]; rfl) | (rw [E35]; simp only [List.length_set]; done))), (by first | omega | assumption | (simp; done) | simp_all), (by first | omega | assumption | (simp; done) | simp_all)⟩
            · rintro m a_94 w' ⟨v, A_3, c_3, S_3, rfl, HE95, HH96, p36_0, p36_1⟩
              have hsl := shR_len o 0 v (by omega)
              refine wp_seq ?_
              refine wp_seq ?_
              refine rg ?_
              refine pl_x HE95 HH96 (wt0 rfl) (x_move rfl) rfl rfl fun a_97 HE98 => ?_
              refine pl_x HE98 HH96 (wt0 rfl) (x_move rfl) rfl rfl fun a_99 HE100 => ?_
              refine pl_x HE100 HH96 (wt0 rfl) (x_gtr rfl rfl) rfl rfl fun a_101 HE102 => ?_
              refine wpList_nil ?_
              clear a_92 HE93 HH83 a_94 HE95 a_97 HE98 a_99 HE100
              refine nrm ?_
              refine cnd_d HE102 rfl (fun hc37 => ?_) (fun hc37 => ?_)
              · refine wp_skip ?_
                refine nrm ?_
                refine wp_seq ?_
                refine wp_block ?_
                refine rg ?_
                refine pl_x HE102 HH96 (wt0 rfl) (x_move rfl) rfl rfl fun a_103 HE104 => ?_
                refine pl_x HE104 HH96 (wt0 rfl) (x_move rfl) rfl rfl fun a_105 HE106 => ?_
                refine pl_x HE106 HH96 (wt0 rfl) (x_move rfl) rfl rfl fun a_107 HE108 => ?_
                refine pl_x HE108 HH96 (wt0 rfl) (x_move rfl) rfl rfl fun a_109 HE110 => ?_
                refine pl_x HE110 HH96 (wt0 rfl) (x_sub rfl rfl (by exact ⟨by omega, by omega⟩)) rfl rfl fun a_111 HE112 => ?_
                have ke38 : (v - 1) < (List.length (shR o 0 v)) := by omega
                obtain ⟨be38, rfl⟩ := el_vec HH96 (i := 0) rfl ke38
                refine pl_x HE112 HH96 (wt0 rfl) (x_indexAddr ts_37 rfl rfl rfl (by omega) ke38) rfl rfl fun a_113 HE114 => ?_
                obtain ⟨y39, xy39⟩ : ∃ y_, y_ = (shR o 0 v)[(v - 1)]'(by first | exact ke38 | (simp only [List.length_set]; exact ke38) | omega | (simp only [List.length_set]; omega) | (simp; omega)) := ⟨_, rfl⟩
                have iy39 : I64 y39 := by rw [xy39]; exact i_vecI HH96 0 rfl _
                have jy39 := iy39; unfold I64 at jy39
                refine pl_x HE114 HH96 (wt0 rfl) (x_load1 tv_2 rfl (c_vecV 0 rfl (by first | exact ke38 | (simp only [List.length_set]; exact ke38) | omega | (simp only [List.length_set]; omega) | (simp; omega)) xy39.symm)) rfl rfl fun a_115 HE116 => ?_
                have ke40 : v < (List.length (shR o 0 v)) := by omega
                refine pl_x HE116 HH96 (wt0 rfl) (x_indexAddr ts_37 rfl rfl rfl rfl ke40) rfl rfl fun a_117 HE118 => ?_
                refine pl fun K_119 hK120 => ?_
                refine st_storeV 0 HE118 HH96 tv_2 rfl rfl rfl (by first | exact ke40 | (simp only [List.length_set]; exact ke40) | omega | (simp only [List.length_set]; omega) | (simp; omega)) (by exact ⟨by omega, by omega⟩) (wt0 rfl) fun w' HH121 => hK120 _ _ ?_
                have HE122 := HE118.castS (t := 3) (m' := List.length ((shR o 0 v).set v y39)) rfl (by rw [List.length_set])
                refine wpList_nil ?_
                clear a_101 HE102 a_103 HE104 a_105 HE106 a_107 HE108 a_109 HE110 a_111 HE112 a_113 HE114 a_115 HE116 HH96 HE118 hK120 K_119
                refine blk_n ?_
                refine nrm ?_
                refine rg ?_
                refine pl_x HE122 HH121 (wt0 rfl) (x_move rfl) rfl rfl fun a_123 HE124 => ?_
                refine pl_x HE124 HH121 (wt0 rfl) (x_sub rfl rfl (by exact ⟨by omega, by omega⟩)) rfl rfl fun a_125 HE126 => ?_
                refine pl_x HE126 HH121 (wt0 rfl) (x_assign rfl) rfl rfl fun a_127 HE128 => ?_
                refine wpList_nil ?_
                clear a_117 HE122 a_123 HE124 a_125 HE126
                have E41 : shR o 0 ((v - 1)) = ((shR o 0 v).set v y39) := by
                  exact shR_step (by omega) (by omega) (by rw [xy39]; exact List.getElem?_eq_getElem _)
                exact nrm ⟨0 + ((v - 1)), (by omega), (v - 1), (some ⟨be38, 0, none⟩), c_3, S_3, rfl, HE128.sub ⟨(by rw [E41]; rfl), (lkI rfl (by first | rfl | omega | (simp [p23_0, p23_1, p23_2, hc24, p25_0, p25_1, hc26, xy28, xe29, hc30, p36_0, p36_1, hc37, xy39]; done))), rfl, rfl, rfl, trivial⟩, ((HH121.sel [0] (by decide) rfl).to (by first | rfl | (rw [E41]; done) | (rw [E41]; rfl) | (simp only [E41]; done) | (simp only [E41]; rfl) | (rw [E41]; simp only [List.length_set]; done))), (by first | omega | assumption | (simp; done) | simp_all), (by first | omega | assumption | (simp; done) | simp_all)⟩
              · refine wp_exit ?_
                refine (thn_exit (thn_exit (blk_hit ?_)))
                refine nrm ?_
                refine rg ?_
                refine pl_x HE102 HH96 (wt0 rfl) (x_move rfl) rfl rfl fun a_129 HE130 => ?_
                refine pl_x HE130 HH96 (wt0 rfl) (x_move rfl) rfl rfl fun a_131 HE132 => ?_
                refine pl_x HE132 HH96 (wt0 rfl) (x_move rfl) rfl rfl fun a_133 HE134 => ?_
                refine pl_x HE134 HH96 (wt0 rfl) (x_move rfl) rfl rfl fun a_135 HE136 => ?_
                refine pl_x HE136 HH96 (wt0 rfl) (x_indexAddr ts_37 rfl rfl Ae29 rfl ke29) rfl rfl fun a_137 HE138 => ?_
                refine pl_x HE138 HH96 (wt0 rfl) (x_load1 tv_2 rfl (c_old (De29 0 _ rfl))) rfl rfl fun a_139 HE140 => ?_
                have ke42 : j < (List.length (shR o 0 v)) := by omega
                obtain ⟨be42, rfl⟩ := el_vec HH96 (i := 0) rfl ke42
                refine pl_x HE140 HH96 (wt0 rfl) (x_indexAddr ts_37 rfl rfl rfl rfl ke42) rfl rfl fun a_141 HE142 => ?_
                refine pl fun K_143 hK144 => ?_
                refine st_storeV 0 HE142 HH96 tv_2 rfl rfl rfl (by first | exact ke42 | (simp only [List.length_set]; exact ke42) | omega | (simp only [List.length_set]; omega) | (simp; omega)) (by exact ⟨by omega, by omega⟩) (wt0 rfl) fun w' HH145 => hK144 _ _ ?_
                have HE146 := HE142.castS (t := 3) (m' := List.length ((shR o 0 v).set j e29)) rfl (by rw [List.length_set])
                refine wpList_nil ?_
                clear a_101 HE102 a_129 HE130 a_131 HE132 a_133 HE134 a_135 HE136 a_137 HE138 a_139 HE140 HH96 HE142 hK144 K_143
                refine blk_n ?_
                refine nrm ?_
                refine rg ?_
                refine pl_x HE146 HH145 (wt0 rfl) (x_move rfl) rfl rfl fun a_147 HE148 => ?_
                refine pl_x HE148 HH145 (wt0 rfl) (x_add rfl rfl (by exact ⟨by omega, by omega⟩)) rfl rfl fun a_149 HE150 => ?_
                refine pl_x HE150 HH145 (wt0 rfl) (x_assign rfl) rfl rfl fun a_151 HE152 => ?_
                refine wpList_nil ?_
                clear a_141 HE146 a_147 HE148 a_149 HE150
                have E43 : (((shR o 0 v).set j e29)) = ((shR o 0 v).set j e29) := by
                  first | rfl | simp
                exact nrm ⟨a0.length - (k + 1), (by omega), k + 1, ((shR o 0 v).set j e29), (some ⟨be42, 0, none⟩), c_3, S_3, rfl, HE152.sub ⟨(by rw [E43]; rfl), (lkI rfl (by first | rfl | omega | (simp [p23_0, p23_1, p23_2, hc24, p25_0, p25_1, hc26, xy28, xe29, hc30, p36_0, p36_1, hc37]; done))), rfl, trivial⟩, ((HH145.sel [0] (by decide) rfl).to (by first | rfl | (rw [E43]; done) | (rw [E43]; rfl) | (simp only [E43]; done) | (simp only [E43]; rfl) | (rw [E43]; simp only [List.length_set]; done))), (by first | omega | assumption | (simp; done) | simp_all), (by exact (ins_fin p23_1 p23_2 (by omega) (by omega) heke29 (by first | (left; omega) | (right; grind)) p25_1).1), (by exact (ins_fin p23_1 p23_2 (by omega) (by omega) heke29 (by first | (left; omega) | (right; grind)) p25_1).2)⟩
        · refine dr_takeNo (i := 3) (ls' := #[true, true, true, true, false, false, false, false, false, false, false, false, false, false]) HE43 HS37 rfl (by kernel_rfl) (by kernel_rfl) (by kernel_rfl) (fun _ _ _ h => h) rfl (wtF HE43 rfl rfl rfl (decide_eq_false hc26)) rfl rfl fun a_153 HE154 => ?_
          refine dr_takeNo (i := 4) (ls' := #[true, true, true, true, true, false, false, false, false, false, false, false, false, false]) HE154 HS37 rfl (by kernel_rfl) (by kernel_rfl) (by kernel_rfl) (fun _ _ _ h => h) rfl (wtF HE154 rfl rfl rfl (decide_eq_false hc26)) rfl rfl fun a_155 HE156 => ?_
          refine dr_takeNo (i := 5) (ls' := #[true, true, true, true, true, true, false, false, false, false, false, false, false, false]) HE156 HS37 rfl (by kernel_rfl) (by kernel_rfl) (by kernel_rfl) (fun _ _ _ h => h) rfl (wtF HE156 rfl rfl rfl (decide_eq_false hc26)) rfl rfl fun a_157 HE158 => ?_
          refine dr_takeNo (i := 6) (ls' := #[true, true, true, true, true, true, true, false, false, false, false, false, false, false]) HE158 HS37 rfl (by kernel_rfl) (by kernel_rfl) (by kernel_rfl) (fun _ _ _ h => h) rfl (wtF HE158 rfl rfl rfl (decide_eq_false hc26)) rfl rfl fun a_159 HE160 => ?_
          refine dr_takeNo (i := 7) (ls' := #[true, true, true, true, true, true, true, true, false, false, false, false, false, false]) HE160 HS37 rfl (by kernel_rfl) (by kernel_rfl) (by kernel_rfl) (fun _ _ _ h => h) rfl (wtF HE160 rfl rfl rfl (decide_eq_false hc26)) rfl rfl fun a_161 HE162 => ?_
          refine dr_takeNo (i := 8) (ls' := #[true, true, true, true, true, true, true, true, true, false, false, false, false, false]) HE162 HS37 rfl (by kernel_rfl) (by kernel_rfl) (by kernel_rfl) (fun _ _ _ h => h) rfl (wtF HE162 rfl rfl rfl (decide_eq_false hc26)) rfl rfl fun a_163 HE164 => ?_
          refine dr_takeNo (i := 9) (ls' := #[true, true, true, true, true, true, true, true, true, true, false, false, false, false]) HE164 HS37 rfl (by kernel_rfl) (by kernel_rfl) (by kernel_rfl) (fun _ _ _ h => h) rfl (wtF HE164 rfl rfl rfl (decide_eq_false hc26)) rfl rfl fun a_165 HE166 => ?_
          refine dr_takeNo (i := 10) (ls' := #[true, true, true, true, true, true, true, true, true, true, true, false, false, false]) HE166 HS37 rfl (by kernel_rfl) (by kernel_rfl) (by kernel_rfl) (fun _ _ _ h => h) rfl (wtF HE166 rfl rfl rfl (decide_eq_false hc26)) rfl rfl fun a_167 HE168 => ?_
          refine dr_takeNo (i := 11) (ls' := #[true, true, true, true, true, true, true, true, true, true, true, true, false, false]) HE168 HS37 rfl (by kernel_rfl) (by kernel_rfl) (by kernel_rfl) (fun _ _ _ h => h) rfl (wtF HE168 rfl rfl rfl (decide_eq_false hc26)) rfl rfl fun a_169 HE170 => ?_
          refine dr_takeNo (i := 12) (ls' := #[true, true, true, true, true, true, true, true, true, true, true, true, true, false]) HE170 HS37 rfl (by kernel_rfl) (by kernel_rfl) (by kernel_rfl) (fun _ _ _ h => h) rfl (wtF HE170 rfl rfl rfl (decide_eq_false hc26)) rfl rfl fun a_171 HE172 => ?_
          refine dr_take (i := 13) (ls' := #[true, true, true, true, true, true, true, true, true, true, true, true, true, true]) HE172 HS37 rfl (by kernel_rfl) (by kernel_rfl) (by kernel_rfl) (fun _ _ _ h => h) rfl (wt0 rfl) (x_pickF rfl (decide_eq_false hc26) rfl) rfl rfl fun a_173 HE174 => ?_
          refine dr_done (by kernel_rfl) ?_
          clear a_31 HE32 HH18 HH35 a_33 HE34 a_38 HE39 a_40 HE41 a_42 HE43 a_153 HE154 a_155 HE156 a_157 HE158 a_159 HE160 a_161 HE162 a_163 HE164 a_165 HE166 a_167 HE168 a_169 HE170 a_171 HE172
          refine nrm ?_
          refine cndF HE174 rfl rfl ?_
          refine wp_exit ?_
          refine (thn_exit (thn_exit (blk_hit ?_)))
          refine nrm ?_
          refine wp_seq ?_
          refine rg ?_
          refine pl_x HE174 HH36 (wt0 rfl) (x_move rfl) rfl rfl fun a_175 HE176 => ?_
          refine pl fun K_177 hK178 => ?_
          refine st_lit (m := 1) (cs := [.int .i64 (0)]) (e := 2) HE176 HH36 (run_lit ts_37 HE176 (vs := [.int .i64 (0)]) rfl rfl (by simp [Value.cells]) rfl (by decide)) (wt0 rfl) rfl rfl fun q44 a_179 w' HE180 HH181 => hK178 _ _ ?_
          refine pl fun K_182 hK183 => ?_
          refine st_app1F 0 HE180 HH181 ts_37 [1, 0] (by decide) rfl (fun _ => (oI (by exact ⟨by omega, by omega⟩))) rfl rfl (by simp [Value.oneCell']) (by unfold maxLen; first | omega | (simp; done) | (simp; omega)) (by first | omega | (simp; done) | (simp; omega)) (wt0 rfl) rfl fun A45 c46 S47 a_184 w' HE185 HH186 => hK183 _ _ ?_
          have lA45 : List.length (o ++ [0]) = List.length o + 1 := List.length_append
          refine pl_x HE185 HH186 (wt0 rfl) (x_assign rfl) rfl rfl fun a_187 HE188 => ?_
          refine wpList_nil ?_
          clear a_173 HE174 a_175 HE176 HH36 K_177 hK178 a_179 HE180 HH181 a_184 HE185 hK183 K_182
          refine nrm ?_
          refine wp_seq ?_
          refine wp_seq ?_
          refine rg ?_
          refine pl_x HE188 HH186 (wt0 rfl) (x_move rfl) rfl rfl fun a_189 HE190 => ?_
          refine pl_x HE190 HH186 (wt0 rfl) (x_len Try.underlying37 rfl) rfl rfl fun a_191 HE192 => ?_
          refine pl_x HE192 HH186 (wt0 rfl) (x_sub rfl rfl (by exact ⟨by omega, by omega⟩)) rfl rfl fun a_193 HE194 => ?_
          refine pl_x HE194 HH186 (wt0 rfl) (x_assign rfl) rfl rfl fun a_195 HE196 => ?_
          refine wpList_nil ?_
          clear a_187 HE188 a_189 HE190 a_191 HE192 a_193 HE194
          refine nrm ?_
          refine wp_block ?_
          refine lp (fun m a w' => ∃ (v : Nat) (A_3 : Option Addr) (c_3 : Nat) (S_3 : Nat → Prop), m = 0 + v ∧ Env 59 [(3, .slice A_3 (List.length (shR o 0 v)) c_3), (6, .int .i64 (v : Int)), (0, .slice A0 (a0.length) c0), (4, .int .i64 ((k : Int))), (5, .int .i64 ((j : Int)))] a ∧ Held Nob w [rVec eInt 2 S_3 A_3 c_3 (shR o 0 v)] w' ∧ (j ≤ v) ∧ (v ≤ o.length)) (0 + (o.length)) ?_ ?_
          · have E48 : shR o 0 (o.length) = (o ++ [0]) := by
              exact shR_start _ _
            exact ⟨o.length, A45, c46, S47, rfl, HE196.sub ⟨(by rw [E48]; rfl), (lkI rfl (by omega)), rfl, rfl, rfl, trivial⟩, ((HH186.sel [0] (by decide) rfl).to (by first | rfl | (rw [E48]; done) | (rw [E48]; rfl) | (simp only [E48]; done) | (simp only [E48]; rfl) | (rw [E48]; simp only [List.length_set]; done))), (by first | omega | assumption | (simp; done) | simp_all), (by first | omega | assumption | (simp; done) | simp_all)⟩
          · rintro m a_197 w' ⟨v, A_3, c_3, S_3, rfl, HE198, HH199, p49_0, p49_1⟩
            have hsl := shR_len o 0 v (by omega)
            refine wp_seq ?_
            refine wp_seq ?_
            refine rg ?_
            refine pl_x HE198 HH199 (wt0 rfl) (x_move rfl) rfl rfl fun a_200 HE201 => ?_
            refine pl_x HE201 HH199 (wt0 rfl) (x_move rfl) rfl rfl fun a_202 HE203 => ?_
            refine pl_x HE203 HH199 (wt0 rfl) (x_gtr rfl rfl) rfl rfl fun a_204 HE205 => ?_
            refine wpList_nil ?_
            clear a_195 HE196 HH186 a_197 HE198 a_200 HE201 a_202 HE203
            refine nrm ?_
            refine cnd_d HE205 rfl (fun hc50 => ?_) (fun hc50 => ?_)
            · refine wp_skip ?_
              refine nrm ?_
              refine wp_seq ?_
              refine wp_block ?_
              refine rg ?_
              refine pl_x HE205 HH199 (wt0 rfl) (x_move rfl) rfl rfl fun a_206 HE207 => ?_
              refine pl_x HE207 HH199 (wt0 rfl) (x_move rfl) rfl rfl fun a_208 HE209 => ?_
              refine pl_x HE209 HH199 (wt0 rfl) (x_move rfl) rfl rfl fun a_210 HE211 => ?_
              refine pl_x HE211 HH199 (wt0 rfl) (x_move rfl) rfl rfl fun a_212 HE213 => ?_
              refine pl_x HE213 HH199 (wt0 rfl) (x_sub rfl rfl (by exact ⟨by omega, by omega⟩)) rfl rfl fun a_214 HE215 => ?_
              have ke51 : (v - 1) < (List.length (shR o 0 v)) := by omega
              obtain ⟨be51, rfl⟩ := el_vec HH199 (i := 0) rfl ke51
              refine pl_x HE215 HH199 (wt0 rfl) (x_indexAddr ts_37 rfl rfl rfl (by omega) ke51) rfl rfl fun a_216 HE217 => ?_
              obtain ⟨y52, xy52⟩ : ∃ y_, y_ = (shR o 0 v)[(v - 1)]'(by first | exact ke51 | (simp only [List.length_set]; exact ke51) | omega | (simp only [List.length_set]; omega) | (simp; omega)) := ⟨_, rfl⟩
              have iy52 : I64 y52 := by rw [xy52]; exact i_vecI HH199 0 rfl _
              have jy52 := iy52; unfold I64 at jy52
              refine pl_x HE217 HH199 (wt0 rfl) (x_load1 tv_2 rfl (c_vecV 0 rfl (by first | exact ke51 | (simp only [List.length_set]; exact ke51) | omega | (simp only [List.length_set]; omega) | (simp; omega)) xy52.symm)) rfl rfl fun a_218 HE219 => ?_
              have ke53 : v < (List.length (shR o 0 v)) := by omega
              refine pl_x HE219 HH199 (wt0 rfl) (x_indexAddr ts_37 rfl rfl rfl rfl ke53) rfl rfl fun a_220 HE221 => ?_
              refine pl fun K_222 hK223 => ?_
              refine st_storeV 0 HE221 HH199 tv_2 rfl rfl rfl (by first | exact ke53 | (simp only [List.length_set]; exact ke53) | omega | (simp only [List.length_set]; omega) | (simp; omega)) (by exact ⟨by omega, by omega⟩) (wt0 rfl) fun w' HH224 => hK223 _ _ ?_
              have HE225 := HE221.castS (t := 3) (m' := List.length ((shR o 0 v).set v y52)) rfl (by rw [List.length_set])
              refine wpList_nil ?_
              clear a_204 HE205 a_206 HE207 a_208 HE209 a_210 HE211 a_212 HE213 a_214 HE215 a_216 HE217 a_218 HE219 HH199 HE221 hK223 K_222
              refine blk_n ?_
              refine nrm ?_
              refine rg ?_
              refine pl_x HE225 HH224 (wt0 rfl) (x_move rfl) rfl rfl fun a_226 HE227 => ?_
              refine pl_x HE227 HH224 (wt0 rfl) (x_sub rfl rfl (by exact ⟨by omega, by omega⟩)) rfl rfl fun a_228 HE229 => ?_
              refine pl_x HE229 HH224 (wt0 rfl) (x_assign rfl) rfl rfl fun a_230 HE231 => ?_
              refine wpList_nil ?_
              clear a_220 HE225 a_226 HE227 a_228 HE229
              have E54 : shR o 0 ((v - 1)) = ((shR o 0 v).set v y52) := by
                exact shR_step (by omega) (by omega) (by rw [xy52]; exact List.getElem?_eq_getElem _)
              exact nrm ⟨0 + ((v - 1)), (by omega), (v - 1), (some ⟨be51, 0, none⟩), c_3, S_3, rfl, HE231.sub ⟨(by rw [E54]; rfl), (lkI rfl (by first | rfl | omega | (simp [p23_0, p23_1, p23_2, hc24, p25_0, p25_1, hc26, p49_0, p49_1, hc50, xy52]; done))), rfl, rfl, rfl, trivial⟩, ((HH224.sel [0] (by decide) rfl).to (by first | rfl | (rw [E54]; done) | (rw [E54]; rfl) | (simp only [E54]; done) | (simp only [E54]; rfl) | (rw [E54]; simp only [List.length_set]; done))), (by first | omega | assumption | (simp; done) | simp_all), (by first | omega | assumption | (simp; done) | simp_all)⟩
            · refine wp_exit ?_
              refine (thn_exit (thn_exit (blk_hit ?_)))
              refine nrm ?_
              refine rg ?_
              refine pl_x HE205 HH199 (wt0 rfl) (x_move rfl) rfl rfl fun a_232 HE233 => ?_
              refine pl_x HE233 HH199 (wt0 rfl) (x_move rfl) rfl rfl fun a_234 HE235 => ?_
              refine pl_x HE235 HH199 (wt0 rfl) (x_move rfl) rfl rfl fun a_236 HE237 => ?_
              refine pl_x HE237 HH199 (wt0 rfl) (x_move rfl) rfl rfl fun a_238 HE239 => ?_
              have ke55 : k < a0.length := by omega
              obtain ⟨be55, fe55, ese55, Ae55, Re55, De55⟩ := el_old h0 ke55
              obtain ⟨e55, xe55⟩ : ∃ x_, x_ = a0[k] := ⟨_, rfl⟩
              rw [← xe55] at Re55
              have Qe55 := Re55
              obtain ⟨rfl, ie55⟩ := Re55
              have je55 := ie55; unfold I64 at je55
              have heke55 : a0[k]? = some e55 := by rw [xe55, List.getElem?_eq_getElem ke55]
              refine pl_x HE239 HH199 (wt0 rfl) (x_indexAddr ts_37 rfl rfl Ae55 rfl ke55) rfl rfl fun a_240 HE241 => ?_
              refine pl_x HE241 HH199 (wt0 rfl) (x_load1 tv_2 rfl (c_old (De55 0 _ rfl))) rfl rfl fun a_242 HE243 => ?_
              have ke56 : j < (List.length (shR o 0 v)) := by omega
              obtain ⟨be56, rfl⟩ := el_vec HH199 (i := 0) rfl ke56
              refine pl_x HE243 HH199 (wt0 rfl) (x_indexAddr ts_37 rfl rfl rfl rfl ke56) rfl rfl fun a_244 HE245 => ?_
              refine pl fun K_246 hK247 => ?_
              refine st_storeV 0 HE245 HH199 tv_2 rfl rfl rfl (by first | exact ke56 | (simp only [List.length_set]; exact ke56) | omega | (simp only [List.length_set]; omega) | (simp; omega)) (by exact ⟨by omega, by omega⟩) (wt0 rfl) fun w' HH248 => hK247 _ _ ?_
              have HE249 := HE245.castS (t := 3) (m' := List.length ((shR o 0 v).set j e55)) rfl (by rw [List.length_set])
              refine wpList_nil ?_
              clear a_204 HE205 a_232 HE233 a_234 HE235 a_236 HE237 a_238 HE239 a_240 HE241 a_242 HE243 HH199 HE245 hK247 K_246
              refine blk_n ?_
              refine nrm ?_
              refine rg ?_
              refine pl_x HE249 HH248 (wt0 rfl) (x_move rfl) rfl rfl fun a_250 HE251 => ?_
              refine pl_x HE251 HH248 (wt0 rfl) (x_add rfl rfl (by exact ⟨by omega, by omega⟩)) rfl rfl fun a_252 HE253 => ?_
              refine pl_x HE253 HH248 (wt0 rfl) (x_assign rfl) rfl rfl fun a_254 HE255 => ?_
              refine wpList_nil ?_
              clear a_244 HE249 a_250 HE251 a_252 HE253
              have E57 : (((shR o 0 v).set j e55)) = ((shR o 0 v).set j e55) := by
                first | rfl | simp
              exact nrm ⟨a0.length - (k + 1), (by omega), k + 1, ((shR o 0 v).set j e55), (some ⟨be56, 0, none⟩), c_3, S_3, rfl, HE255.sub ⟨(by rw [E57]; rfl), (lkI rfl (by first | rfl | omega | (simp [p23_0, p23_1, p23_2, hc24, p25_0, p25_1, hc26, p49_0, p49_1, hc50, xe55]; done))), rfl, trivial⟩, ((HH248.sel [0] (by decide) rfl).to (by first | rfl | (rw [E57]; done) | (rw [E57]; rfl) | (simp only [E57]; done) | (simp only [E57]; rfl) | (rw [E57]; simp only [List.length_set]; done))), (by first | omega | assumption | (simp; done) | simp_all), (by exact (ins_fin p23_1 p23_2 (by omega) (by omega) heke55 (by first | (left; omega) | (right; grind)) p25_1).1), (by exact (ins_fin p23_1 p23_2 (by omega) (by omega) heke55 (by first | (left; omega) | (right; grind)) p25_1).2)⟩
    · refine wp_exit ?_
      refine (thn_exit (thn_exit (blk_hit ?_)))
      refine nrm ?_
      refine wp_seq ?_
      refine rg ?_
      refine pl_x HE26 HH18 (wt0 rfl) (x_move rfl) rfl rfl fun a_256 HE257 => ?_
      refine pl_x HE257 HH18 (wt0 rfl) (x_assign rfl) rfl rfl fun a_258 HE259 => ?_
      refine wpList_nil ?_
      clear a_25 HE26 a_256 HE257
      refine nrm ?_
      refine wp_ret ?_
      refine ret1 HE259 rfl (rv_tmp rfl) ?_
      have HH260 := HH18.vecSo
      have hF : (sortI a0) = o := by
        rw [List.take_of_length_le (by omega)] at p23_2; exact sortI_uniq p23_1 p23_2
      exact ⟨A_3, c_3, by first | (rw [hF] <;> rfl) | rfl | (rw [hF]; simp only [Ending.returned.injEq, Value.slice.injEq, true_and, and_true]; first | omega | (simp; done)) | (rw [hF]; simp; omega), by rw [hF]; exact (HH260.so (i := 0) rfl), HH260.below⟩

end Go.Proofs.Ythfihlfjphiihaa
