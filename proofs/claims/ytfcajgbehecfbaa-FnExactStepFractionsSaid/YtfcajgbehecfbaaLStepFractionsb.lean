/- What the proof of FnExactStepFractions needs: contracts of the functions that it reaches, each once. -/
import Derived.Test.YtfcajgbehecfbaaProg
import Derived.Test.YtfcajgbehecfbaaQMem
import Derived.Test.YtfcajgbehecfbaaQOpen
import Derived.Test.YtfcajgbehecfbaaLStepFractionsa
import Derived.WalkKit
import Derived.WalkSpells
import Derived.Below
import Derived.LoopTactic
import Derived.Outline
import Derived.Deep.QuietTactic
import Derived.BigQuiet
import Derived.Deep.LoopGhost
import Derived.Handy
import Derived.Lib.Hide
import Derived.Shelf.Abstract
import Derived.StillTailTactics
import Derived.OwnWalk
import Derived.Maps.AppendAt
import Derived.RegionTactic
import Derived.Deep.RegionHeld3
import Derived.IntWalk
import Derived.Deep.Upon
import Derived.Laws.OwnMore
import Derived.Maps.AppendAt
import Derived.Lib.SliceRun
import Derived.Lib.AppendZeros
namespace Go.Proofs.Ytfcajgbehecfbaa
open Go.RowKit

set_option maxRecDepth 100000 in
set_option maxHeartbeats 4000000 in
theorem spec_l02Mul (A0 : Option Addr) (c0 : Nat) (a0 : (List Int)) (A1 : Option Addr) (c1 : Nat) (a1 : (List Int)) (w : World) (h0 : Sl eInt w (Old w) A0 c0 a0) (h1 : Sl eInt w (Old w) A1 c1 a1) (s0 : limbs a0) (s1 : limbs a1) (s2 : a0.length ≤ 1000000000) (s3 : a1.length ≤ 1000000000) :
    Calls Try.prog 162 #[.slice A0 a0.length c0, .slice A1 a1.length c1] w fun e w' => ∃ (A0' : Option Addr) (c0' : Nat), e = .returned (.slice A0' (mulN a0 a1).length c0') ∧ So eInt w' (Fr w w') A0' c0' (mulN a0 a1) ∧ Below w.heap.size w w' := by
  have l0 := h0.len
  have l1 := h1.len
  have HH1 := Held.start Nob w
  refine enter (n := 67) Try.func162 rfl rfl rfl fun a_2 HE3 => ?_
  refine wp_seq ?_
  refine rg ?_
  refine pl_x HE3 HH1 (wt0 rfl) (x_assign rfl) rfl rfl fun a_4 HE5 => ?_
  refine wpList_nil ?_
  clear a_2 HE3
  refine nrm ?_
  refine wp_seq ?_
  refine rg ?_
  refine pl_x HE5 HH1 (wt0 rfl) (x_move rfl) rfl rfl fun a_6 HE7 => ?_
  refine pl_x HE7 HH1 (wt0 rfl) (x_len Try.underlying31 rfl) rfl rfl fun a_8 HE9 => ?_
  refine pl_x HE9 HH1 (wt0 rfl) (x_move rfl) rfl rfl fun a_10 HE11 => ?_
  refine pl_x HE11 HH1 (wt0 rfl) (x_len Try.underlying31 rfl) rfl rfl fun a_12 HE13 => ?_
  refine pl_x HE13 HH1 (wt0 rfl) (x_add rfl rfl (by exact ⟨by omega, by omega⟩)) rfl rfl fun a_14 HE15 => ?_
  refine pl_x HE15 HH1 (wt0 rfl) (x_add rfl rfl (by exact ⟨by omega, by omega⟩)) rfl rfl fun a_16 HE17 => ?_
  refine pl fun K_18 hK19 => ?_
  refine st_make (E := eInt) (x := (0 : Int)) (k := (((((a0.length : Int) + (a1.length : Int)) + 1)).toNat)) HE17 HH1 ts_31 tv_2 rfl (fun _ => oI ⟨by omega, by omega⟩) rfl rfl (by omega) (by omega) (by omega) (by omega) (wt0 rfl) rfl fun q21 a_20 w' HE21 HH22 => hK19 _ _ ?_
  have hlq21 : (List.replicate (((((a0.length : Int) + (a1.length : Int)) + 1)).toNat) (0 : Int)).length = ((((a0.length : Int) + (a1.length : Int)) + 1)).toNat := List.length_replicate
  refine pl_x HE21 HH22 (wt0 rfl) (x_assign rfl) rfl rfl fun a_23 HE24 => ?_
  refine wpList_nil ?_
  clear a_4 HE5 a_6 HE7 a_8 HE9 a_10 HE11 a_12 HE13 a_14 HE15 a_16 HE17 HH1 a_20 HE21 hK19 K_18
  refine nrm ?_
  refine wp_seq ?_
  refine wp_seq ?_
  refine rg ?_
  refine pl_x HE24 HH22 (wt0 rfl) (x_assign rfl) rfl rfl fun a_25 HE26 => ?_
  refine wpList_nil ?_
  clear a_23 HE24
  refine nrm ?_
  refine wp_block ?_
  refine lp (fun m a w' => ∃ (i : Nat) (o : List Int), m = a0.length - i ∧ Env 67 [(6, .int .i64 (i : Int)), (0, .slice A0 (a0.length) c0), (1, .slice A1 (a1.length) c1), (5, .slice (some ⟨q21, 0, none⟩) ((List.replicate (((((a0.length : Int) + (a1.length : Int)) + 1)).toNat) (0 : Int)).length) (((((a0.length : Int) + (a1.length : Int)) + 1)).toNat))] a ∧ Held Nob w [rSo eInt (fun b => b = q21) (some ⟨q21, 0, none⟩) (((((a0.length : Int) + (a1.length : Int)) + 1)).toNat) o] w' ∧ (i ≤ a0.length) ∧ (o.length = a0.length + a1.length + 1) ∧ (limbs o) ∧ (val o = val (a0.take i) * val a1)) (a0.length - (0)) ?_ ?_
  · have E22 : (List.replicate (a0.length + a1.length + 1) 0) = (List.replicate (((((a0.length : Int) + (a1.length : Int)) + 1)).toNat) (0 : Int)) := by
      first | rfl | simp
    exact ⟨0, List.replicate (a0.length + a1.length + 1) 0, rfl, HE26.sub ⟨(lkI rfl (by first | rfl | omega | (simp []; done))), rfl, rfl, rfl, trivial⟩, ((HH22.sel [0] (by decide) rfl).to (by first | rfl | (rw [E22]; done) | (rw [E22]; rfl) | (simp only [E22]; done) | (simp only [E22]; rfl))), (by first | omega | assumption | (simp; done) | simp_all), (by simp), (by exact limbs_rep _), (by rw [val_rep]; simp [val])⟩
  · rintro m a_27 w' ⟨i, o, rfl, HE28, HH29, p23_0, p23_1, p23_2, p23_3⟩
    refine wp_seq ?_
    refine wp_seq ?_
    refine rg ?_
    refine pl_x HE28 HH29 (wt0 rfl) (x_move rfl) rfl rfl fun a_30 HE31 => ?_
    refine pl_x HE31 HH29 (wt0 rfl) (x_move rfl) rfl rfl fun a_32 HE33 => ?_
    refine pl_x HE33 HH29 (wt0 rfl) (x_len Try.underlying31 rfl) rfl rfl fun a_34 HE35 => ?_
    refine pl_x HE35 HH29 (wt0 rfl) (x_lss rfl rfl) rfl rfl fun a_36 HE37 => ?_
    refine wpList_nil ?_
    clear a_25 HE26 HH22 a_27 HE28 a_30 HE31 a_32 HE33 a_34 HE35
    refine nrm ?_
    refine cnd_d HE37 rfl (fun hc24 => ?_) (fun hc24 => ?_)
    · refine wp_skip ?_
      refine nrm ?_
      refine wp_seq ?_
      refine wp_block ?_
      refine wp_seq ?_
      refine rg ?_
      refine pl_x HE37 HH29 (wt0 rfl) (x_assign rfl) rfl rfl fun a_38 HE39 => ?_
      refine wpList_nil ?_
      clear a_36 HE37
      refine nrm ?_
      refine wp_seq ?_
      refine rg ?_
      refine pl_x HE39 HH29 (wt0 rfl) (x_assign rfl) rfl rfl fun a_40 HE41 => ?_
      refine wpList_nil ?_
      clear a_38 HE39
      refine nrm ?_
      refine wp_block ?_
      refine lp (fun m a w' => ∃ (k : Nat) (u : List Int) (c : Int), m = (a0.length + a1.length + 1) - (i + k) ∧ Env 67 [(7, .int .i64 c), (8, .int .i64 (k : Int)), (0, .slice A0 (a0.length) c0), (1, .slice A1 (a1.length) c1), (5, .slice (some ⟨q21, 0, none⟩) ((List.replicate (((((a0.length : Int) + (a1.length : Int)) + 1)).toNat) (0 : Int)).length) (((((a0.length : Int) + (a1.length : Int)) + 1)).toNat)), (6, .int .i64 ((i : Int)))] a ∧ Held Nob w [rSo eInt (fun b => b = q21) (some ⟨q21, 0, none⟩) (((((a0.length : Int) + (a1.length : Int)) + 1)).toNat) u] w' ∧ (u.length = a0.length + a1.length + 1) ∧ (limbs u) ∧ (0 ≤ c ∧ c ≤ 999999) ∧ (val u + c * 1000000 ^ (i + k) = val (a0.take i) * val a1 + a0[i]?.getD 0 * val (a1.take k) * 1000000 ^ i) ∧ (i + k ≤ a0.length + a1.length + 1)) ((a0.length + a1.length + 1) - (i + (0))) ?_ ?_
      · exact ⟨0, o, 0, rfl, HE41.sub ⟨rfl, (lkI rfl (by first | rfl | omega | (simp [p23_0, p23_1, p23_2, p23_3, hc24]; done))), rfl, rfl, rfl, rfl, trivial⟩, (HH29.sel [0] (by decide) rfl), (by exact p23_1), (by exact p23_2), (by first | omega | assumption | (simp; done) | simp_all), (by rw [p23_3]; simp [val]), (by first | omega | assumption | (simp; done) | simp_all)⟩
      · rintro m a_42 w' ⟨k, u, c, rfl, HE43, HH44, p25_0, p25_1, p25_2, p25_3, p25_4⟩
        refine wp_seq ?_
        refine wp_seq ?_
        refine rg ?_
        refine pl_x HE43 HH44 (wt0 rfl) (x_move rfl) rfl rfl fun a_45 HE46 => ?_
        refine pl_x HE46 HH44 (wt0 rfl) (x_move rfl) rfl rfl fun a_47 HE48 => ?_
        refine pl_x HE48 HH44 (wt0 rfl) (x_len Try.underlying31 rfl) rfl rfl fun a_49 HE50 => ?_
        refine pl_x HE50 HH44 (wt0 rfl) (x_lss rfl rfl) rfl rfl fun a_51 HE52 => ?_
        refine pl_x HE52 HH44 (wt0 rfl) (x_move rfl) rfl rfl fun a_53 HE54 => ?_
        by_cases hc26 : (k : Int) < (a1.length : Int)
        · refine pl_no HE54 (wtF HE54 rfl rfl rfl (decide_eq_true hc26)) rfl rfl fun a_55 HE56 => ?_
          refine pl_no HE56 (wtF HE56 rfl rfl rfl (decide_eq_true hc26)) rfl rfl fun a_57 HE58 => ?_
          refine pl_x HE58 HH44 (wt0 rfl) (x_pickT rfl (decide_eq_true hc26) rfl) rfl rfl fun a_59 HE60 => ?_
          refine wpList_nil ?_
          clear a_40 HE41 HH29 a_42 HE43 a_45 HE46 a_47 HE48 a_49 HE50 a_51 HE52 a_53 HE54 a_55 HE56 a_57 HE58
          refine nrm ?_
          refine cndT HE60 rfl rfl ?_
          refine wp_skip ?_
          refine nrm ?_
          refine wp_seq ?_
          refine wp_block ?_
          refine wp_seq ?_
          refine rg ?_
          refine pl_x HE60 HH44 (wt0 rfl) (x_move rfl) rfl rfl fun a_61 HE62 => ?_
          refine pl_x HE62 HH44 (wt0 rfl) (x_move rfl) rfl rfl fun a_63 HE64 => ?_
          refine pl_x HE64 HH44 (wt0 rfl) (x_move rfl) rfl rfl fun a_65 HE66 => ?_
          refine pl_x HE66 HH44 (wt0 rfl) (x_add rfl rfl (by exact ⟨by omega, by omega⟩)) rfl rfl fun a_67 HE68 => ?_
          have ke27 : (i + k) < (List.replicate (((((a0.length : Int) + (a1.length : Int)) + 1)).toNat) (0 : Int)).length := by omega
          refine pl_x HE68 HH44 (wt0 rfl) (x_indexAddr ts_31 rfl rfl rfl (by omega) ke27) rfl rfl fun a_69 HE70 => ?_
          obtain ⟨y28, xy28⟩ : ∃ y, y = u[(i + k)]'(by first | exact ke27 | (simp only [List.length_set]; exact ke27) | omega | (simp only [List.length_set]; omega) | (simp; omega)) := ⟨_, rfl⟩
          have iy28 : I64 y28 := by rw [xy28]; exact i_ownI HH44 0 rfl _
          have jy28 := iy28; unfold I64 at jy28
          have by28 := p25_1 y28 (by rw [xy28]; exact List.getElem_mem _)
          refine pl_x HE70 HH44 (wt0 rfl) (x_load1 tv_2 rfl (c_ownV 0 rfl (by first | exact ke27 | (simp only [List.length_set]; exact ke27) | omega | (simp only [List.length_set]; omega) | (simp; omega)) xy28.symm)) rfl rfl fun a_71 HE72 => ?_
          refine pl_x HE72 HH44 (wt0 rfl) (x_move rfl) rfl rfl fun a_73 HE74 => ?_
          refine pl_x HE74 HH44 (wt0 rfl) (x_add rfl rfl (by exact ⟨by omega, by omega⟩)) rfl rfl fun a_75 HE76 => ?_
          refine pl_x HE76 HH44 (wt0 rfl) (x_assign rfl) rfl rfl fun a_77 HE78 => ?_
          refine wpList_nil ?_
          clear a_59 HE60 a_61 HE62 a_63 HE64 a_65 HE66 a_67 HE68 a_69 HE70 a_71 HE72 a_73 HE74 a_75 HE76
          refine nrm ?_
          refine wp_seq ?_
          refine wp_seq ?_
          refine rg ?_
          refine pl_x HE78 HH44 (wt0 rfl) (x_move rfl) rfl rfl fun a_79 HE80 => ?_
          refine pl_x HE80 HH44 (wt0 rfl) (x_move rfl) rfl rfl fun a_81 HE82 => ?_
          refine pl_x HE82 HH44 (wt0 rfl) (x_len Try.underlying31 rfl) rfl rfl fun a_83 HE84 => ?_
          refine pl_x HE84 HH44 (wt0 rfl) (x_lss rfl rfl) rfl rfl fun a_85 HE86 => ?_
          refine wpList_nil ?_
          clear a_77 HE78 a_79 HE80 a_81 HE82 a_83 HE84
          refine nrm ?_
          refine cndT HE86 rfl (decide_eq_true hc26) ?_
          refine dr_start (Held Nob w [rSo eInt (fun b => b = q21) (some ⟨q21, 0, none⟩) (((((a0.length : Int) + (a1.length : Int)) + 1)).toNat) u]) 12 #[false, false, false, false, false, false, false, false, false, false, false, false] hmix rfl rfl HH44 (fun _ h => h.sel [0] (by decide) rfl) fun w' HH87 => ?_
          have HS88 := HH87
          refine dr_take (i := 0) (ls' := #[true, false, false, false, false, false, false, false, false, false, false, false]) HE86 HS88 rfl (by kernel_rfl) (by kernel_rfl) (by kernel_rfl) (fun _ _ _ h => h) rfl (wt0 rfl) (x_move rfl) rfl rfl fun a_89 HE90 => ?_
          refine dr_take (i := 1) (ls' := #[true, true, false, false, false, false, false, false, false, false, false, false]) HE90 HS88 rfl (by kernel_rfl) (by kernel_rfl) (by kernel_rfl) (fun _ _ _ h => h) rfl (wt0 rfl) (x_move rfl) rfl rfl fun a_91 HE92 => ?_
          refine dr_take (i := 2) (ls' := #[true, true, true, false, false, false, false, false, false, false, false, false]) HE92 HS88 rfl (by kernel_rfl) (by kernel_rfl) (by kernel_rfl) (fun _ _ _ h => h) rfl (wt0 rfl) (x_move rfl) rfl rfl fun a_93 HE94 => ?_
          have ke29 : i < a0.length := by omega
          obtain ⟨be29, fe29, ese29, Ae29, Re29, De29⟩ := el_old h0 ke29
          obtain ⟨e29, xe29⟩ : ∃ x, x = a0[i] := ⟨_, rfl⟩
          rw [← xe29] at Re29
          have Qe29 := Re29
          obtain ⟨rfl, ie29⟩ := Re29
          have je29 := ie29; unfold I64 at je29
          have be29 := s0 e29 (by rw [xe29]; exact List.getElem_mem _)
          have hx0 : a0[i]?.getD 0 = e29 := by rw [List.getElem?_eq_getElem ke29, xe29]; rfl
          have hm0 : ∀ y, 0 ≤ y ∧ y ≤ 999999 → 0 ≤ e29 * y ∧ e29 * y ≤ 999998000001 := fun y hy => mul_b6 be29 hy
          refine dr_take (i := 3) (ls' := #[true, true, true, true, false, false, false, false, false, false, false, false]) HE94 HS88 rfl (by kernel_rfl) (by kernel_rfl) (by kernel_rfl) (fun _ _ _ h => h) rfl (wt0 rfl) (x_indexAddr ts_31 rfl rfl Ae29 rfl ke29) rfl rfl fun a_95 HE96 => ?_
          refine dr_take (i := 4) (ls' := #[true, true, true, true, true, false, false, false, false, false, false, false]) HE96 HS88 rfl (by kernel_rfl) (by kernel_rfl) (by kernel_rfl) (fun _ _ _ h => h) rfl (wt0 rfl) (x_load1 tv_2 rfl (c_old (De29 0 _ rfl))) rfl rfl fun a_97 HE98 => ?_
          refine dr_take (i := 5) (ls' := #[true, true, true, true, true, true, false, false, false, false, false, false]) HE98 HS88 rfl (by kernel_rfl) (by kernel_rfl) (by kernel_rfl) (fun _ _ _ h => h) rfl (wt0 rfl) (x_move rfl) rfl rfl fun a_99 HE100 => ?_
          refine dr_take (i := 6) (ls' := #[true, true, true, true, true, true, true, false, false, false, false, false]) HE100 HS88 rfl (by kernel_rfl) (by kernel_rfl) (by kernel_rfl) (fun _ _ _ h => h) rfl (wt0 rfl) (x_move rfl) rfl rfl fun a_101 HE102 => ?_
          have ke30 : k < a1.length := by omega
          obtain ⟨be30, fe30, ese30, Ae30, Re30, De30⟩ := el_old h1 ke30
          obtain ⟨e30, xe30⟩ : ∃ x, x = a1[k] := ⟨_, rfl⟩
          rw [← xe30] at Re30
          have Qe30 := Re30
          obtain ⟨rfl, ie30⟩ := Re30
          have je30 := ie30; unfold I64 at je30
          have be30 := s1 e30 (by rw [xe30]; exact List.getElem_mem _)
          have me30 := hm0 e30 be30
          refine dr_take (i := 7) (ls' := #[true, true, true, true, true, true, true, true, false, false, false, false]) HE102 HS88 rfl (by kernel_rfl) (by kernel_rfl) (by kernel_rfl) (fun _ _ _ h => h) rfl (wt0 rfl) (x_indexAddr ts_31 rfl rfl Ae30 rfl ke30) rfl rfl fun a_103 HE104 => ?_
          refine dr_take (i := 8) (ls' := #[true, true, true, true, true, true, true, true, true, false, false, false]) HE104 HS88 rfl (by kernel_rfl) (by kernel_rfl) (by kernel_rfl) (fun _ _ _ h => h) rfl (wt0 rfl) (x_load1 tv_2 rfl (c_old (De30 0 _ rfl))) rfl rfl fun a_105 HE106 => ?_
          refine dr_take (i := 9) (ls' := #[true, true, true, true, true, true, true, true, true, true, false, false]) HE106 HS88 rfl (by kernel_rfl) (by kernel_rfl) (by kernel_rfl) (fun _ _ _ h => h) rfl (wt0 rfl) (x_mul rfl rfl (by exact ⟨by omega, by omega⟩)) rfl rfl fun a_107 HE108 => ?_
          refine dr_take (i := 10) (ls' := #[true, true, true, true, true, true, true, true, true, true, true, false]) HE108 HS88 rfl (by kernel_rfl) (by kernel_rfl) (by kernel_rfl) (fun _ _ _ h => h) rfl (wt0 rfl) (x_add rfl rfl (by exact ⟨by omega, by omega⟩)) rfl rfl fun a_109 HE110 => ?_
          refine dr_take (i := 11) (ls' := #[true, true, true, true, true, true, true, true, true, true, true, true]) HE110 HS88 rfl (by kernel_rfl) (by kernel_rfl) (by kernel_rfl) (fun _ _ _ h => h) rfl (wt0 rfl) (x_assign rfl) rfl rfl fun a_111 HE112 => ?_
          refine dr_done (by kernel_rfl) ?_
          clear HH44 a_85 HE86 a_89 HE90 a_91 HE92 a_93 HE94 a_95 HE96 a_97 HE98 a_99 HE100 a_101 HE102 a_103 HE104 a_105 HE106 a_107 HE108 a_109 HE110
          refine nrm ?_
          refine wp_seq ?_
          refine rg ?_
          refine pl_x HE112 HH87 (wt0 rfl) (x_move rfl) rfl rfl fun a_113 HE114 => ?_
          refine pl_x HE114 HH87 (wt0 rfl) (x_move rfl) rfl rfl fun a_115 HE116 => ?_
          refine pl_x HE116 HH87 (wt0 rfl) (x_move rfl) rfl rfl fun a_117 HE118 => ?_
          refine pl_x HE118 HH87 (wt0 rfl) (x_add rfl rfl (by exact ⟨by omega, by omega⟩)) rfl rfl fun a_119 HE120 => ?_
          refine pl_x HE120 HH87 (wt0 rfl) (x_move rfl) rfl rfl fun a_121 HE122 => ?_
          refine pl_x HE122 HH87 (wt0 rfl) (x_rem rfl rfl (by omega) (by omega)) rfl rfl fun a_123 HE124 => ?_
          have ke31 : (i + k) < (List.replicate (((((a0.length : Int) + (a1.length : Int)) + 1)).toNat) (0 : Int)).length := by omega
          refine pl_x HE124 HH87 (wt0 rfl) (x_indexAddr ts_31 rfl rfl rfl (by omega) ke31) rfl rfl fun a_125 HE126 => ?_
          refine pl fun K_127 hK128 => ?_
          refine st_storeI 0 HE126 HH87 tv_2 rfl rfl rfl (by first | exact ke31 | (simp only [List.length_set]; exact ke31) | omega | (simp only [List.length_set]; omega) | (simp; omega)) (by exact ⟨by omega, by omega⟩) (wt0 rfl) fun w' HH129 => hK128 _ _ ?_
          refine wpList_nil ?_
          clear a_111 HE112 a_113 HE114 a_115 HE116 a_117 HE118 a_119 HE120 a_121 HE122 a_123 HE124 HH87 hK128 K_127
          refine nrm ?_
          refine rg ?_
          refine pl_x HE126 HH129 (wt0 rfl) (x_move rfl) rfl rfl fun a_130 HE131 => ?_
          refine pl_x HE131 HH129 (wt0 rfl) (x_quo rfl rfl (by omega) (by omega) (by omega)) rfl rfl fun a_132 HE133 => ?_
          refine pl_x HE133 HH129 (wt0 rfl) (x_assign rfl) rfl rfl fun a_134 HE135 => ?_
          refine wpList_nil ?_
          clear a_125 HE126 a_130 HE131 a_132 HE133
          refine blk_n ?_
          refine nrm ?_
          refine rg ?_
          refine pl_x HE135 HH129 (wt0 rfl) (x_move rfl) rfl rfl fun a_136 HE137 => ?_
          refine pl_x HE137 HH129 (wt0 rfl) (x_add rfl rfl (by exact ⟨by omega, by omega⟩)) rfl rfl fun a_138 HE139 => ?_
          refine pl_x HE139 HH129 (wt0 rfl) (x_assign rfl) rfl rfl fun a_140 HE141 => ?_
          refine wpList_nil ?_
          clear a_134 HE135 a_136 HE137 a_138 HE139
          have E32 : ((u.set (i + k) (((y28 + c) + (e29 * e30)) % 1000000))) = (u.set (i + k) (((y28 + c) + (e29 * e30)) % 1000000)) := by
            first | rfl | simp
          exact nrm ⟨(a0.length + a1.length + 1) - (i + (k + 1)), (by omega), k + 1, (u.set (i + k) (((y28 + c) + (e29 * e30)) % 1000000)), (((y28 + c) + (e29 * e30)) / 1000000), rfl, HE141.sub ⟨rfl, (lkI rfl (by first | rfl | omega | (simp [p23_0, p23_1, p23_2, p23_3, hc24, p25_0, p25_1, p25_2, p25_3, p25_4, hc26, xy28, xe29, xe30]; done))), rfl, rfl, rfl, rfl, trivial⟩, ((HH129.sel [0] (by decide) rfl).to (by first | rfl | (rw [E32]; done) | (rw [E32]; rfl) | (simp only [E32]; done) | (simp only [E32]; rfl))), (by rw [List.length_set]; exact p25_0), (by exact limbs_set p25_1 (by omega)), (by omega), (by first | exact mul_round1 (by omega) (by omega) p25_3 (by rw [hx0, ← xe30, ← xy28]; omega) | exact mul_round0 (by omega) (by omega) p25_3 (by rw [← xy28]; omega)), (by omega)⟩
        · refine pl_x HE54 HH44 (wtT HE54 rfl rfl rfl (decide_eq_false hc26)) (x_move rfl) rfl rfl fun a_142 HE143 => ?_
          refine pl_x HE143 HH44 (wtT HE143 rfl rfl rfl (decide_eq_false hc26)) (x_gtr rfl rfl) rfl rfl fun a_144 HE145 => ?_
          refine pl_x HE145 HH44 (wt0 rfl) (x_pickF rfl (decide_eq_false hc26) rfl) rfl rfl fun a_146 HE147 => ?_
          refine wpList_nil ?_
          clear a_40 HE41 HH29 a_42 HE43 a_45 HE46 a_47 HE48 a_49 HE50 a_51 HE52 a_53 HE54 a_142 HE143 a_144 HE145
          refine nrm ?_
          refine cnd_d HE147 rfl (fun hc33 => ?_) (fun hc33 => ?_)
          · have hroom := mul_room (N := a0.length + a1.length + 1) s0 s1 p25_1 (by omega) p25_3 (by omega) hc33 (by omega)
            refine wp_skip ?_
            refine nrm ?_
            refine wp_seq ?_
            refine wp_block ?_
            refine wp_seq ?_
            refine rg ?_
            refine pl_x HE147 HH44 (wt0 rfl) (x_move rfl) rfl rfl fun a_148 HE149 => ?_
            refine pl_x HE149 HH44 (wt0 rfl) (x_move rfl) rfl rfl fun a_150 HE151 => ?_
            refine pl_x HE151 HH44 (wt0 rfl) (x_move rfl) rfl rfl fun a_152 HE153 => ?_
            refine pl_x HE153 HH44 (wt0 rfl) (x_add rfl rfl (by exact ⟨by omega, by omega⟩)) rfl rfl fun a_154 HE155 => ?_
            have ke34 : (i + k) < (List.replicate (((((a0.length : Int) + (a1.length : Int)) + 1)).toNat) (0 : Int)).length := by omega
            refine pl_x HE155 HH44 (wt0 rfl) (x_indexAddr ts_31 rfl rfl rfl (by omega) ke34) rfl rfl fun a_156 HE157 => ?_
            obtain ⟨y35, xy35⟩ : ∃ y, y = u[(i + k)]'(by first | exact ke34 | (simp only [List.length_set]; exact ke34) | omega | (simp only [List.length_set]; omega) | (simp; omega)) := ⟨_, rfl⟩
            have iy35 : I64 y35 := by rw [xy35]; exact i_ownI HH44 0 rfl _
            have jy35 := iy35; unfold I64 at jy35
            have by35 := p25_1 y35 (by rw [xy35]; exact List.getElem_mem _)
            refine pl_x HE157 HH44 (wt0 rfl) (x_load1 tv_2 rfl (c_ownV 0 rfl (by first | exact ke34 | (simp only [List.length_set]; exact ke34) | omega | (simp only [List.length_set]; omega) | (simp; omega)) xy35.symm)) rfl rfl fun a_158 HE159 => ?_
            refine pl_x HE159 HH44 (wt0 rfl) (x_move rfl) rfl rfl fun a_160 HE161 => ?_
            refine pl_x HE161 HH44 (wt0 rfl) (x_add rfl rfl (by exact ⟨by omega, by omega⟩)) rfl rfl fun a_162 HE163 => ?_
            refine pl_x HE163 HH44 (wt0 rfl) (x_assign rfl) rfl rfl fun a_164 HE165 => ?_
            refine wpList_nil ?_
            clear a_146 HE147 a_148 HE149 a_150 HE151 a_152 HE153 a_154 HE155 a_156 HE157 a_158 HE159 a_160 HE161 a_162 HE163
            refine nrm ?_
            refine wp_seq ?_
            refine wp_seq ?_
            refine rg ?_
            refine pl_x HE165 HH44 (wt0 rfl) (x_move rfl) rfl rfl fun a_166 HE167 => ?_
            refine pl_x HE167 HH44 (wt0 rfl) (x_move rfl) rfl rfl fun a_168 HE169 => ?_
            refine pl_x HE169 HH44 (wt0 rfl) (x_len Try.underlying31 rfl) rfl rfl fun a_170 HE171 => ?_
            refine pl_x HE171 HH44 (wt0 rfl) (x_lss rfl rfl) rfl rfl fun a_172 HE173 => ?_
            refine wpList_nil ?_
            clear a_164 HE165 a_166 HE167 a_168 HE169 a_170 HE171
            refine nrm ?_
            refine cndF HE173 rfl (decide_eq_false hc26) ?_
            refine wp_skip ?_
            refine nrm ?_
            refine wp_seq ?_
            refine rg ?_
            refine pl_x HE173 HH44 (wt0 rfl) (x_move rfl) rfl rfl fun a_174 HE175 => ?_
            refine pl_x HE175 HH44 (wt0 rfl) (x_move rfl) rfl rfl fun a_176 HE177 => ?_
            refine pl_x HE177 HH44 (wt0 rfl) (x_move rfl) rfl rfl fun a_178 HE179 => ?_
            refine pl_x HE179 HH44 (wt0 rfl) (x_add rfl rfl (by exact ⟨by omega, by omega⟩)) rfl rfl fun a_180 HE181 => ?_
            refine pl_x HE181 HH44 (wt0 rfl) (x_move rfl) rfl rfl fun a_182 HE183 => ?_
            refine pl_x HE183 HH44 (wt0 rfl) (x_rem rfl rfl (by omega) (by omega)) rfl rfl fun a_184 HE185 => ?_
            have ke36 : (i + k) < (List.replicate (((((a0.length : Int) + (a1.length : Int)) + 1)).toNat) (0 : Int)).length := by omega
            refine pl_x HE185 HH44 (wt0 rfl) (x_indexAddr ts_31 rfl rfl rfl (by omega) ke36) rfl rfl fun a_186 HE187 => ?_
            refine pl fun K_188 hK189 => ?_
            refine st_storeI 0 HE187 HH44 tv_2 rfl rfl rfl (by first | exact ke36 | (simp only [List.length_set]; exact ke36) | omega | (simp only [List.length_set]; omega) | (simp; omega)) (by exact ⟨by omega, by omega⟩) (wt0 rfl) fun w' HH190 => hK189 _ _ ?_
            refine wpList_nil ?_
            clear a_172 HE173 a_174 HE175 a_176 HE177 a_178 HE179 a_180 HE181 a_182 HE183 a_184 HE185 HH44 hK189 K_188
            refine nrm ?_
            refine rg ?_
            refine pl_x HE187 HH190 (wt0 rfl) (x_move rfl) rfl rfl fun a_191 HE192 => ?_
            refine pl_x HE192 HH190 (wt0 rfl) (x_quo rfl rfl (by omega) (by omega) (by omega)) rfl rfl fun a_193 HE194 => ?_
            refine pl_x HE194 HH190 (wt0 rfl) (x_assign rfl) rfl rfl fun a_195 HE196 => ?_
            refine wpList_nil ?_
            clear a_186 HE187 a_191 HE192 a_193 HE194
            refine blk_n ?_
            refine nrm ?_
            refine rg ?_
            refine pl_x HE196 HH190 (wt0 rfl) (x_move rfl) rfl rfl fun a_197 HE198 => ?_
            refine pl_x HE198 HH190 (wt0 rfl) (x_add rfl rfl (by exact ⟨by omega, by omega⟩)) rfl rfl fun a_199 HE200 => ?_
            refine pl_x HE200 HH190 (wt0 rfl) (x_assign rfl) rfl rfl fun a_201 HE202 => ?_
            refine wpList_nil ?_
            clear a_195 HE196 a_197 HE198 a_199 HE200
            have E37 : ((u.set (i + k) ((y35 + c) % 1000000))) = (u.set (i + k) ((y35 + c) % 1000000)) := by
              first | rfl | simp
            exact nrm ⟨(a0.length + a1.length + 1) - (i + (k + 1)), (by omega), k + 1, (u.set (i + k) ((y35 + c) % 1000000)), ((y35 + c) / 1000000), rfl, HE202.sub ⟨rfl, (lkI rfl (by first | rfl | omega | (simp [p23_0, p23_1, p23_2, p23_3, hc24, p25_0, p25_1, p25_2, p25_3, p25_4, hc26, hc33, xy35]; done))), rfl, rfl, rfl, rfl, trivial⟩, ((HH190.sel [0] (by decide) rfl).to (by first | rfl | (rw [E37]; done) | (rw [E37]; rfl) | (simp only [E37]; done) | (simp only [E37]; rfl))), (by rw [List.length_set]; exact p25_0), (by exact limbs_set p25_1 (by omega)), (by omega), (by first | exact mul_round1 (by omega) (by omega) p25_3 (by rw [hx0, ← xe0, ← xy35]; omega) | exact mul_round0 (by omega) (by omega) p25_3 (by rw [← xy35]; omega)), (by omega)⟩
          · refine wp_exit ?_
            refine (thn_exit (thn_exit (blk_hit ?_)))
            refine blk_n ?_
            refine nrm ?_
            refine rg ?_
            refine pl_x HE147 HH44 (wt0 rfl) (x_move rfl) rfl rfl fun a_203 HE204 => ?_
            refine pl_x HE204 HH44 (wt0 rfl) (x_add rfl rfl (by exact ⟨by omega, by omega⟩)) rfl rfl fun a_205 HE206 => ?_
            refine pl_x HE206 HH44 (wt0 rfl) (x_assign rfl) rfl rfl fun a_207 HE208 => ?_
            refine wpList_nil ?_
            clear a_146 HE147 a_203 HE204 a_205 HE206
            exact nrm ⟨a0.length - (i + 1), (by omega), i + 1, u, rfl, HE208.sub ⟨(lkI rfl (by first | rfl | omega | (simp [p23_0, p23_1, p23_2, p23_3, hc24, p25_0, p25_1, p25_2, p25_3, p25_4, hc26, hc33]; done))), rfl, rfl, rfl, trivial⟩, (HH44.sel [0] (by decide) rfl), (by first | omega | assumption | (simp; done) | simp_all), (by exact p25_0), (by exact p25_1), (by exact mul_end (by omega) p25_3 (by omega) (by omega))⟩
    · refine wp_exit ?_
      refine (thn_exit (thn_exit (blk_hit ?_)))
      refine nrm ?_
      refine wp_seq ?_
      refine rg ?_
      refine pl_x HE37 HH29 (wt0 rfl) (x_move rfl) rfl rfl fun a_209 HE210 => ?_
      refine pl fun K_211 hK212 => ?_
      have HE213 := HE210.castS (t := 65) (m' := List.length o) rfl (by first | omega | (simp; done) | (simp; omega))
      refine st_call HE213 (wt0 rfl) rfl rfl rfl en_158 rfl rfl (spec_l02Trim _ _ o _ (HH29.sl (i := 0) rfl)) fun e w' hr => ?_
      obtain ⟨rfl, ⟨kt38, ht38⟩, rfl⟩ := hr
      have HH214 := HH29.turn (rSo eInt (fun b => b = q21) (some ⟨q21, 0, none⟩) (((((a0.length : Int) + (a1.length : Int)) + 1)).toNat) (trimZ o)) (fun h => oSl (by rw [ht38]; exact (so_of_o h).take kt38)) (fun _ h => h)
      refine ⟨_, rfl, fun a_215 HE216 => hK212 _ _ ?_⟩
      refine pl_x HE216 HH214 (wt0 rfl) (x_assign rfl) rfl rfl fun a_217 HE218 => ?_
      refine wpList_nil ?_
      clear a_36 HE37 HE210 HH29 a_209 HE213 a_215 HE216 hK212 K_211
      refine nrm ?_
      refine wp_ret ?_
      refine ret1 HE218 rfl (rv_tmp rfl) ?_
      have hF : (mulN a0 a1) = (trimZ o) := by
        exact mulN_of p23_2 (by have := p23_3; rwa [List.take_of_length_le (by omega)] at this)
      exact ⟨(some ⟨q21, 0, none⟩), ((((a0.length : Int) + (a1.length : Int)) + 1)).toNat, by rw [hF] <;> rfl, by rw [hF]; exact (HH214.so (i := 0) rfl), HH214.below⟩

set_option maxRecDepth 100000 in
set_option maxHeartbeats 4000000 in
theorem impl_stepFractions (A0 : Option Addr) (c0 : Nat) (a0 : (List tFraction)) (A1 : Option Addr) (c1 : Nat) (a1 : (List Int)) (w : World) (h0 : Sl eFraction w (Old w) A0 c0 a0) (h1 : Sl eInt w (Old w) A1 c1 a1) (s0 : okFr a0) (s1 : limbs a1) (s2 : a1.length ≤ 40) (s3 : a0.length ≤ 100) :
    Calls Try.prog 112 #[.slice A0 a0.length c0, .slice A1 a1.length c1] w fun e w' => ∃ (A0' : Option Addr) (c0' : Nat) (S0' : Nat → Prop), e = .returned (.tuple #[.slice A0' (stepFI a0 a1).1.length c0', .int .i64 (stepFI a0 a1).2]) ∧ Held Nob w [rIf (0 ≤ (stepFI a0 a1).2) (rSo eInt S0' A0' c0' (stepFI a0 a1).1)] w' := by
  have l0 := h0.len
  have l1 := h1.len
  have HH1 := Held.start Nob w
  refine enter (n := 34) Try.func112 rfl rfl rfl fun a_2 HE3 => ?_
  refine wp_seq ?_
  refine rg ?_
  refine pl_x HE3 HH1 (wt0 rfl) (x_assign rfl) rfl rfl fun a_4 HE5 => ?_
  refine pl_x HE5 HH1 (wt0 rfl) (x_assign rfl) rfl rfl fun a_6 HE7 => ?_
  refine wpList_nil ?_
  clear a_2 HE3 a_4 HE5
  refine nrm ?_
  refine wp_seq ?_
  refine wp_seq ?_
  refine rg ?_
  refine pl_x HE7 HH1 (wt0 rfl) (x_move rfl) rfl rfl fun a_8 HE9 => ?_
  refine pl_x HE9 HH1 (wt0 rfl) (x_len Try.underlying67 rfl) rfl rfl fun a_10 HE11 => ?_
  refine pl_x HE11 HH1 (wt0 rfl) (x_move rfl) rfl rfl fun a_12 HE13 => ?_
  refine wpList_nil ?_
  clear a_6 HE7 a_8 HE9 a_10 HE11
  refine nrm ?_
  refine wp_block ?_
  refine lp (fun m a w' => ∃ (k : Nat), m = a0.length - k ∧ Env 34 [(12, .int .i64 (k : Int)), (1, .slice A1 (a1.length) c1), (10, .slice A0 (a0.length) c0), (11, .int .i64 ((a0.length : Int)))] a ∧ Held Nob w [] w' ∧ (k ≤ a0.length) ∧ (stepFr a0 a1 0 = stepFr (a0.drop k) a1 k)) (a0.length - (0)) ?_ ?_
  · exact ⟨0, rfl, HE13.sub ⟨(lkI rfl (by first | rfl | omega | (simp []; done))), rfl, rfl, rfl, trivial⟩, (HH1.sel [] (by decide) rfl), (by first | omega | assumption | (simp; done) | simp_all), (by rfl)⟩
  · rintro m a_14 w' ⟨k, rfl, HE15, HH16, p21_0, p21_1⟩
    refine wp_seq ?_
    refine rg ?_
    refine pl_x HE15 HH16 (wt0 rfl) (x_lss rfl rfl) rfl rfl fun a_17 HE18 => ?_
    refine wpList_nil ?_
    clear a_12 HE13 HH1 a_14 HE15
    refine nrm ?_
    refine wp_seq ?_
    refine cnd_d HE18 rfl (fun hc22 => ?_) (fun hc22 => ?_)
    · refine wp_skip ?_
      refine nrm ?_
      refine wp_seq ?_
      refine wp_block ?_
      refine wp_seq ?_
      refine rg ?_
      refine pl_x HE18 HH16 (wt0 rfl) (x_move rfl) rfl rfl fun a_19 HE20 => ?_
      have ke23 : k < a0.length := by omega
      obtain ⟨be23, fe23, ese23, Ae23, Re23, De23⟩ := el_old h0 ke23
      obtain ⟨e23, xe23⟩ : ∃ x, x = a0[k] := ⟨_, rfl⟩
      rw [← xe23] at Re23
      have Qe23 := Re23
      obtain ⟨rfl, ge23_0, ge23_1⟩ := shape_Fraction Re23
      have je23_0 := ge23_0; unfold I64 at je23_0
      have je23_1 := ge23_1; unfold I64 at je23_1
      have fe23 := s0 e23 (by rw [xe23]; exact List.getElem_mem _)
      refine pl_x HE20 HH16 (wt0 rfl) (x_indexAddr ts_67 rfl rfl Ae23 rfl ke23) rfl rfl fun a_21 HE22 => ?_
      refine pl_x HE22 HH16 (wt0 rfl) (x_loadN (cs := [.int .i64 (e23.1), .int .i64 (e23.2)]) tv_130 rfl rfl (c_oldN De23)) rfl rfl fun a_23 HE24 => ?_
      refine pl fun K_25 hK26 => ?_
      refine st_alloc HE24 HH16 tv_130 (wt0 rfl) rfl fun q24 a_27 w' HE28 HH29 => hK26 _ _ ?_
      refine pl_x HE28 HH29 (wt0 rfl) (x_assign rfl) rfl rfl fun a_30 HE31 => ?_
      refine pl fun K_32 hK33 => ?_
      refine st_store (vs := [.int .i64 (e23.1), .int .i64 (e23.2)]) 0 HE31 HH29 tv_130 rfl rfl rfl rfl rfl rfl (by simp [Value.oneCell']) (wt0 rfl) fun w' HH34 => hK33 _ _ ?_
      refine wpList_nil ?_
      clear a_17 HE18 a_19 HE20 a_21 HE22 a_23 HE24 HH16 a_27 HE28 K_25 hK26 HH29 hK33 K_32
      refine nrm ?_
      refine wp_seq ?_
      refine dr_start (Held Nob w [rBlk q24 130 [.int .i64 (e23.1), .int .i64 (e23.2)]]) 13 #[false, false, false, false, false, false, false, false, false, false, false, false, false] hmix rfl rfl HH34 (fun _ h => h.sel [0] (by decide) rfl) fun w' HH35 => ?_
      have HS36 := HH35
      refine dr_take (i := 0) (ls' := #[true, false, false, false, false, false, false, false, false, false, false, false, false]) HE31 HS36 rfl (by kernel_rfl) (by kernel_rfl) (by kernel_rfl) (fun _ _ _ h => h) rfl (wt0 rfl) (x_move rfl) rfl rfl fun a_37 HE38 => ?_
      refine dr_take (i := 1) (ls' := #[true, true, false, false, false, false, false, false, false, false, false, false, false]) HE38 HS36 rfl (by kernel_rfl) (by kernel_rfl) (by kernel_rfl) (fun _ _ _ h => h) rfl (wt0 rfl) (x_fieldAddr fa_130_0 rfl) rfl rfl fun a_39 HE40 => ?_
      refine dr_take (i := 2) (ls' := #[true, true, true, false, false, false, false, false, false, false, false, false, false]) HE40 HS36 rfl (by kernel_rfl) (by kernel_rfl) (by kernel_rfl) (fun _ _ _ h => h) rfl (wt0 rfl) (x_load1 tv_2 rfl (c_blk 0 rfl rfl)) rfl rfl fun a_41 HE42 => ?_
      refine dr_take (i := 5) (ls' := #[true, true, true, false, false, true, false, false, false, false, false, false, false]) HE42 HS36 rfl (by kernel_rfl) (by kernel_rfl) (by kernel_rfl) (fun _ _ _ h => h) rfl (wt0 rfl) (x_fieldAddr fa_130_1 rfl) rfl rfl fun a_43 HE44 => ?_
      refine dr_take (i := 6) (ls' := #[true, true, true, false, false, true, true, false, false, false, false, false, false]) HE44 HS36 rfl (by kernel_rfl) (by kernel_rfl) (by kernel_rfl) (fun _ _ _ h => h) rfl (wt0 rfl) (x_load1 tv_2 rfl (c_blk 0 rfl rfl)) rfl rfl fun a_45 HE46 => ?_
      refine dr_one (i := 3) (ls' := #[true, true, true, true, false, true, true, false, false, false, false, false, false]) rfl (by kernel_rfl) rfl fun K_47 hK48 => ?_
      refine st_lit (m := 1) (cs := [.int .i64 (e23.1)]) (e := 2) HE46 HH35 (run_lit ts_31 HE46 (vs := [.int .i64 (e23.1)]) rfl rfl (by simp [Value.cells]) rfl (by decide)) (wt0 rfl) rfl rfl fun q25 a_49 w' HE50 HH51 => hK48 _ _ (by exact HH51.sel [1] (by decide) rfl) ?_
      have HS52 := HH51.sel [1] (by decide) rfl
      refine dr_one (i := 4) (ls' := #[true, true, true, true, true, true, true, false, false, false, false, false, false]) rfl (by kernel_rfl) rfl fun K_53 hK54 => ?_
      have HH55 := Held.vecFlat (E := eInt) (xs := [e23.1]) (css := [[.int .i64 (e23.1)]]) HH51 rfl (by unfold maxLen; simp) (fun i x hx => by match i with | 0 => exact ⟨_, rfl, fun _ => by simp at hx; subst hx; exact (oI (by exact ⟨by omega, by omega⟩))⟩ | i + 1 => simp at hx)
      refine st_call HE50 (wt0 rfl) rfl rfl rfl en_166 rfl rfl (impl_multiply _ _ a1 _ _ ([e23.1] : List Int) _ (HH55.old h1) (HH55.vecSl (i := 0) rfl) (by assumption) (by first | assumption | (intro x hx; simp at hx; omega)) (by first | omega | simp) (by first | omega | simp)) fun e w' hr => ?_
      obtain ⟨Ar26_0, cr26_0, rfl, hor26_0, hbr26⟩ := hr
      obtain ⟨Sr26, HH56⟩ := HH55.newS hbr26 hor26_0
      refine ⟨_, rfl, fun a_57 HE58 => hK54 _ _ (by exact HH56.sel [2] (by decide) rfl) ?_⟩
      have HS59 := HH56.sel [2] (by decide) rfl
      refine dr_one (i := 7) (ls' := #[true, true, true, true, true, true, true, true, false, false, false, false, false]) rfl (by kernel_rfl) rfl fun K_60 hK61 => ?_
      refine st_call HE58 (wt0 rfl) rfl rfl rfl en_107 rfl rfl (impl_divideSmall _ _ (mulN a1 ([e23.1] : List Int)) e23.2 _ (HH56.sl (i := 0) rfl) (by first | assumption | exact mulN_limbs _ _) (by omega) (by first | omega | exact Nat.le_trans (mulN_len (by assumption) (by intro x hx; simp at hx; omega)) (by simp; omega))) fun e w' hr => ?_
      obtain ⟨Ar27_0, cr27_0, rfl, hor27_0, hbr27⟩ := hr
      obtain ⟨Sr27, HH62⟩ := HH56.newS hbr27 hor27_0
      refine ⟨_, rfl, fun a_63 HE64 => hK61 _ _ (by exact HH62.sel [3] (by decide) rfl) ?_⟩
      have HS65 := HH62.sel [3] (by decide) rfl
      refine dr_take (i := 8) (ls' := #[true, true, true, true, true, true, true, true, true, false, false, false, false]) HE64 HS65 rfl (by kernel_rfl) (by kernel_rfl) (by kernel_rfl) (fun _ _ _ h => h) rfl (wt0 rfl) (x_move rfl) rfl rfl fun a_66 HE67 => ?_
      refine dr_take (i := 9) (ls' := #[true, true, true, true, true, true, true, true, true, true, false, false, false]) HE67 HS65 rfl (by kernel_rfl) (by kernel_rfl) (by kernel_rfl) (fun _ _ _ h => h) rfl (wt0 rfl) (x_extract rfl rfl) rfl rfl fun a_68 HE69 => ?_
      refine dr_take (i := 10) (ls' := #[true, true, true, true, true, true, true, true, true, true, true, false, false]) HE69 HS65 rfl (by kernel_rfl) (by kernel_rfl) (by kernel_rfl) (fun _ _ _ h => h) rfl (wt0 rfl) (x_extract rfl rfl) rfl rfl fun a_70 HE71 => ?_
      refine dr_take (i := 11) (ls' := #[true, true, true, true, true, true, true, true, true, true, true, true, false]) HE71 HS65 rfl (by kernel_rfl) (by kernel_rfl) (by kernel_rfl) (fun _ _ _ h => h) rfl (wt0 rfl) (x_assign rfl) rfl rfl fun a_72 HE73 => ?_
      refine dr_take (i := 12) (ls' := #[true, true, true, true, true, true, true, true, true, true, true, true, true]) HE73 HS65 rfl (by kernel_rfl) (by kernel_rfl) (by kernel_rfl) (fun _ _ _ h => h) rfl (wt0 rfl) (x_assign rfl) rfl rfl fun a_74 HE75 => ?_
      refine dr_done (by kernel_rfl) ?_
      clear HH34 a_30 HE31 a_37 HE38 a_39 HE40 a_41 HE42 a_43 HE44 a_45 HE46 HH35 HS36 K_47 hK48 HH51 HH55 a_49 HE50 HS52 K_53 hK54 HH56 a_57 HE58 HS59 a_63 HE64 a_66 HE67 a_68 HE69 a_70 HE71 a_72 HE73 hK61 K_60
      refine nrm ?_
      refine wp_seq ?_
      refine rg ?_
      refine pl_x HE75 HH62 (wt0 rfl) (x_move rfl) rfl rfl fun a_76 HE77 => ?_
      refine pl_x HE77 HH62 (wt0 rfl) (x_eql rfl rfl) rfl rfl fun a_78 HE79 => ?_
      refine wpList_nil ?_
      clear a_74 HE75 a_76 HE77
      refine nrm ?_
      refine cnd_e HE79 rfl (fun hc28 => ?_) (fun hc28 => ?_)
      · refine wp_seq ?_
        refine rg ?_
        refine pl_x HE79 HH62 (wt0 rfl) (x_move rfl) rfl rfl fun a_80 HE81 => ?_
        refine pl_x HE81 HH62 (wt0 rfl) (x_move rfl) rfl rfl fun a_82 HE83 => ?_
        refine pl_x HE83 HH62 (wt0 rfl) (x_assign rfl) rfl rfl fun a_84 HE85 => ?_
        refine pl_x HE85 HH62 (wt0 rfl) (x_assign rfl) rfl rfl fun a_86 HE87 => ?_
        refine wpList_nil ?_
        clear a_78 HE79 a_80 HE81 a_82 HE83 a_84 HE85
        refine nrm ?_
        refine wp_ret ?_
        refine (blk_ret (thn_ret (thn_ret (blk_ret (thn_ret ?_)))))
        refine ret2 HE87 rfl (rv_tmp rfl) (rv_tmp rfl) ?_
        have HH88 := HH62.toIf (0 ≤ (stepFI a0 a1).2)
        have hF : (stepFI a0 a1) = ((divN (mulN a1 ([e23.1] : List Int)) e23.2).1, (k : Int)) := by
          first | (subst xe23; unfold stepFI; rw [p21_1, stepFr_hit (by omega) hc28]; rfl) | (unfold stepFI; rw [p21_1, List.drop_of_length_le (by omega)]; rfl)
        rw [hF] at HH88
        exact ⟨_, _, _, by rw [hF] <;> rfl, by rw [hF]; exact HH88.sel [0] (by decide) rfl⟩
      · refine wp_skip ?_
        refine blk_n ?_
        refine nrm ?_
        refine rg ?_
        refine pl_x HE79 HH62 (wt0 rfl) (x_add rfl rfl (by exact ⟨by omega, by omega⟩)) rfl rfl fun a_89 HE90 => ?_
        refine pl_x HE90 HH62 (wt0 rfl) (x_move rfl) rfl rfl fun a_91 HE92 => ?_
        refine wpList_nil ?_
        clear a_78 HE79 a_89 HE90
        exact nrm ⟨a0.length - (k + 1), (by omega), k + 1, rfl, HE92.sub ⟨(lkI rfl (by first | rfl | omega | (simp [p21_0, p21_1, hc22, xe23, hc28]; done))), rfl, rfl, rfl, trivial⟩, (HH62.sel [] (by decide) rfl), (by first | omega | assumption | (simp; done) | simp_all), (by subst xe23; rw [p21_1, stepFr_miss (by omega) hc28])⟩
    · refine wp_exit ?_
      refine (thn_exit (thn_exit (blk_hit ?_)))
      refine nrm ?_
      refine wp_seq ?_
      refine rg ?_
      refine pl_x HE18 HH16 (wt0 rfl) (x_move rfl) rfl rfl fun a_93 HE94 => ?_
      refine pl_x HE94 HH16 (wt0 rfl) (x_assign rfl) rfl rfl fun a_95 HE96 => ?_
      refine pl_x HE96 HH16 (wt0 rfl) (x_assign rfl) rfl rfl fun a_97 HE98 => ?_
      refine wpList_nil ?_
      clear a_17 HE18 a_93 HE94 a_95 HE96
      refine nrm ?_
      refine wp_ret ?_
      refine ret2 HE98 rfl (rv_tmp rfl) (rv_tmp rfl) ?_
      have hN : ¬ (0 ≤ (stepFI a0 a1).2) := by unfold stepFI; rw [p21_1, List.drop_of_length_le (by omega)]; simp [stepFr]
      have HH99 := HH16.noIf (rSo eInt Nob A1 c1 a1) hN
      have hF : (stepFI a0 a1) = (a1, -1) := by
        first | (subst xe0; unfold stepFI; rw [p21_1, stepFr_hit (by omega) hc22]; rfl) | (unfold stepFI; rw [p21_1, List.drop_of_length_le (by omega)]; rfl)
      rw [hF] at HH99
      exact ⟨_, _, _, by rw [hF] <;> rfl, by rw [hF]; exact HH99.sel [0] (by decide) rfl⟩

set_option maxRecDepth 100000 in
set_option maxHeartbeats 4000000 in
theorem spec_l08Next (A0 : Option Addr) (c0 : Nat) (a0 : (List tFraction)) (A1 : Option Addr) (c1 : Nat) (a1 : (List Int)) (w : World) (h0 : Sl eFraction w (Old w) A0 c0 a0) (h1 : Sl eInt w (Old w) A1 c1 a1) (s0 : okFr a0) (s1 : limbs a1) (s2 : a1.length ≤ 40) (s3 : a0.length ≤ 100) :
    Calls Try.prog 109 #[.slice A0 a0.length c0, .slice A1 a1.length c1] w fun e w' => ∃ (A0' : Option Addr) (c0' : Nat), e = .returned (.tuple #[.slice A0' (stepFS a0 a1).1.length c0', .int .i64 (stepFS a0 a1).2]) ∧ So eInt w' (Fr w w') A0' c0' (stepFS a0 a1).1 ∧ Below w.heap.size w w' := by
  have l0 := h0.len
  have l1 := h1.len
  have HH1 := Held.start Nob w
  refine enter (n := 38) Try.func109 rfl rfl rfl fun a_2 HE3 => ?_
  refine wp_seq ?_
  refine rg ?_
  refine pl_x HE3 HH1 (wt0 rfl) (x_assign rfl) rfl rfl fun a_4 HE5 => ?_
  refine pl_x HE5 HH1 (wt0 rfl) (x_assign rfl) rfl rfl fun a_6 HE7 => ?_
  refine wpList_nil ?_
  clear a_2 HE3 a_4 HE5
  refine nrm ?_
  refine wp_seq ?_
  refine wp_seq ?_
  refine rg ?_
  refine pl_x HE7 HH1 (wt0 rfl) (x_assign rfl) rfl rfl fun a_8 HE9 => ?_
  refine wpList_nil ?_
  clear a_6 HE7
  refine nrm ?_
  refine wp_block ?_
  refine lp (fun m a w' => ∃ (k : Nat), m = a0.length - k ∧ Env 38 [(6, .int .i64 (k : Int)), (0, .slice A0 (a0.length) c0), (1, .slice A1 (a1.length) c1)] a ∧ Held Nob w [] w' ∧ (k ≤ a0.length) ∧ (stepFr a0 a1 0 = stepFr (a0.drop k) a1 k)) (a0.length - (0)) ?_ ?_
  · exact ⟨0, rfl, HE9.sub ⟨(lkI rfl (by first | rfl | omega | (simp []; done))), rfl, rfl, trivial⟩, (HH1.sel [] (by decide) rfl), (by first | omega | assumption | (simp; done) | simp_all), (by rfl)⟩
  · rintro m a_10 w' ⟨k, rfl, HE11, HH12, p21_0, p21_1⟩
    refine wp_seq ?_
    refine wp_seq ?_
    refine rg ?_
    refine pl_x HE11 HH12 (wt0 rfl) (x_move rfl) rfl rfl fun a_13 HE14 => ?_
    refine pl_x HE14 HH12 (wt0 rfl) (x_move rfl) rfl rfl fun a_15 HE16 => ?_
    refine pl_x HE16 HH12 (wt0 rfl) (x_len Try.underlying67 rfl) rfl rfl fun a_17 HE18 => ?_
    refine pl_x HE18 HH12 (wt0 rfl) (x_lss rfl rfl) rfl rfl fun a_19 HE20 => ?_
    refine wpList_nil ?_
    clear a_8 HE9 HH1 a_10 HE11 a_13 HE14 a_15 HE16 a_17 HE18
    refine nrm ?_
    refine cnd_d HE20 rfl (fun hc22 => ?_) (fun hc22 => ?_)
    · refine wp_skip ?_
      refine nrm ?_
      refine wp_seq ?_
      refine wp_block ?_
      refine wp_seq ?_
      refine rg ?_
      refine pl_x HE20 HH12 (wt0 rfl) (x_move rfl) rfl rfl fun a_21 HE22 => ?_
      refine pl_x HE22 HH12 (wt0 rfl) (x_move rfl) rfl rfl fun a_23 HE24 => ?_
      refine pl_x HE24 HH12 (wt0 rfl) (x_move rfl) rfl rfl fun a_25 HE26 => ?_
      have ke23 : k < a0.length := by omega
      obtain ⟨be23, fe23, ese23, Ae23, Re23, De23⟩ := el_old h0 ke23
      obtain ⟨e23, xe23⟩ : ∃ x, x = a0[k] := ⟨_, rfl⟩
      rw [← xe23] at Re23
      have Qe23 := Re23
      obtain ⟨rfl, ge23_0, ge23_1⟩ := shape_Fraction Re23
      have je23_0 := ge23_0; unfold I64 at je23_0
      have je23_1 := ge23_1; unfold I64 at je23_1
      have fe23 := s0 e23 (by rw [xe23]; exact List.getElem_mem _)
      refine pl_x HE26 HH12 (wt0 rfl) (x_indexAddr ts_67 rfl rfl Ae23 rfl ke23) rfl rfl fun a_27 HE28 => ?_
      refine pl_x HE28 HH12 (wt0 rfl) (x_fieldAddr fa_130_0 rfl) rfl rfl fun a_29 HE30 => ?_
      refine pl_x HE30 HH12 (wt0 rfl) (x_load1 tv_2 rfl (c_old (De23 0 _ rfl))) rfl rfl fun a_31 HE32 => ?_
      refine pl fun K_33 hK34 => ?_
      refine st_lit (m := 1) (cs := [.int .i64 (e23.1)]) (e := 2) HE32 HH12 (run_lit ts_31 HE32 (vs := [.int .i64 (e23.1)]) rfl rfl (by simp [Value.cells]) rfl (by decide)) (wt0 rfl) rfl rfl fun q24 a_35 w' HE36 HH37 => hK34 _ _ ?_
      refine pl fun K_38 hK39 => ?_
      have HH40 := Held.vecFlat (E := eInt) (xs := [e23.1]) (css := [[.int .i64 (e23.1)]]) HH37 rfl (by unfold maxLen; simp) (fun i x hx => by match i with | 0 => exact ⟨_, rfl, fun _ => by simp at hx; subst hx; exact (oI (by exact ⟨by omega, by omega⟩))⟩ | i + 1 => simp at hx)
      refine st_call HE36 (wt0 rfl) rfl rfl rfl en_162 rfl rfl (spec_l02Mul _ _ a1 _ _ ([e23.1] : List Int) _ (HH40.old h1) (HH40.vecSl (i := 0) rfl) (by assumption) (by first | assumption | (intro x hx; simp at hx; omega)) (by first | omega | simp) (by first | omega | simp)) fun e w' hr => ?_
      obtain ⟨Ar25_0, cr25_0, rfl, hor25_0, hbr25⟩ := hr
      obtain ⟨Sr25, HH41⟩ := HH40.newS hbr25 hor25_0
      refine ⟨_, rfl, fun a_42 HE43 => hK39 _ _ ?_⟩
      refine pl_x HE43 HH41 (wt0 rfl) (x_assign rfl) rfl rfl fun a_44 HE45 => ?_
      refine wpList_nil ?_
      clear a_19 HE20 a_21 HE22 a_23 HE24 a_25 HE26 a_27 HE28 a_29 HE30 a_31 HE32 HH12 K_33 hK34 HH37 HH40 a_35 HE36 a_42 HE43 hK39 K_38
      refine nrm ?_
      refine wp_seq ?_
      refine rg ?_
      refine pl_x HE45 HH41 (wt0 rfl) (x_move rfl) rfl rfl fun a_46 HE47 => ?_
      refine pl_x HE47 HH41 (wt0 rfl) (x_move rfl) rfl rfl fun a_48 HE49 => ?_
      refine pl_x HE49 HH41 (wt0 rfl) (x_move rfl) rfl rfl fun a_50 HE51 => ?_
      refine pl_x HE51 HH41 (wt0 rfl) (x_indexAddr ts_67 rfl rfl Ae23 rfl ke23) rfl rfl fun a_52 HE53 => ?_
      refine pl_x HE53 HH41 (wt0 rfl) (x_fieldAddr fa_130_1 rfl) rfl rfl fun a_54 HE55 => ?_
      refine pl_x HE55 HH41 (wt0 rfl) (x_load1 tv_2 rfl (c_old (De23 1 _ rfl))) rfl rfl fun a_56 HE57 => ?_
      refine pl fun K_58 hK59 => ?_
      refine st_call HE57 (wt0 rfl) rfl rfl rfl en_100 rfl rfl (spec_l02By _ _ (mulN a1 ([e23.1] : List Int)) e23.2 _ (HH41.sl (i := 0) rfl) (by first | assumption | exact mulN_limbs _ _) (by omega) (by first | omega | exact Nat.le_trans (mulN_len (by assumption) (by intro x hx; simp at hx; omega)) (by simp; omega))) fun e w' hr => ?_
      obtain ⟨Ar26_0, cr26_0, rfl, hor26_0, hbr26⟩ := hr
      obtain ⟨Sr26, HH60⟩ := HH41.newS hbr26 hor26_0
      refine ⟨_, rfl, fun a_61 HE62 => hK59 _ _ ?_⟩
      refine pl_x HE62 HH60 (wt0 rfl) (x_move rfl) rfl rfl fun a_63 HE64 => ?_
      refine pl_x HE64 HH60 (wt0 rfl) (x_extract rfl rfl) rfl rfl fun a_65 HE66 => ?_
      refine pl_x HE66 HH60 (wt0 rfl) (x_extract rfl rfl) rfl rfl fun a_67 HE68 => ?_
      refine pl_x HE68 HH60 (wt0 rfl) (x_assign rfl) rfl rfl fun a_69 HE70 => ?_
      refine pl_x HE70 HH60 (wt0 rfl) (x_assign rfl) rfl rfl fun a_71 HE72 => ?_
      refine wpList_nil ?_
      clear a_44 HE45 a_46 HE47 a_48 HE49 a_50 HE51 a_52 HE53 a_54 HE55 HH41 a_56 HE57 a_61 HE62 a_63 HE64 a_65 HE66 a_67 HE68 a_69 HE70 hK59 K_58
      refine nrm ?_
      refine wp_seq ?_
      refine rg ?_
      refine pl_x HE72 HH60 (wt0 rfl) (x_move rfl) rfl rfl fun a_73 HE74 => ?_
      refine pl_x HE74 HH60 (wt0 rfl) (x_eql rfl rfl) rfl rfl fun a_75 HE76 => ?_
      refine wpList_nil ?_
      clear a_71 HE72 a_73 HE74
      refine nrm ?_
      refine cnd_e HE76 rfl (fun hc27 => ?_) (fun hc27 => ?_)
      · refine wp_seq ?_
        refine rg ?_
        refine pl_x HE76 HH60 (wt0 rfl) (x_move rfl) rfl rfl fun a_77 HE78 => ?_
        refine pl_x HE78 HH60 (wt0 rfl) (x_move rfl) rfl rfl fun a_79 HE80 => ?_
        refine pl_x HE80 HH60 (wt0 rfl) (x_assign rfl) rfl rfl fun a_81 HE82 => ?_
        refine pl_x HE82 HH60 (wt0 rfl) (x_assign rfl) rfl rfl fun a_83 HE84 => ?_
        refine wpList_nil ?_
        clear a_75 HE76 a_77 HE78 a_79 HE80 a_81 HE82
        refine nrm ?_
        refine wp_ret ?_
        refine (blk_ret (thn_ret (thn_ret (blk_ret (thn_ret ?_)))))
        refine ret2 HE84 rfl (rv_tmp rfl) (rv_tmp rfl) ?_
        have hF : (stepFS a0 a1) = ((divN (mulN a1 ([e23.1] : List Int)) e23.2).1, (k : Int)) := by
          first | (subst xe23; unfold stepFS; rw [p21_1, stepFr_hit (by omega) hc27]; rfl) | (unfold stepFS; rw [p21_1, List.drop_of_length_le (by omega)]; rfl)
        exact ⟨Ar26_0, cr26_0, by rw [hF] <;> rfl, by rw [hF]; exact (HH60.so (i := 0) rfl), HH60.below⟩
      · refine wp_skip ?_
        refine blk_n ?_
        refine nrm ?_
        refine rg ?_
        refine pl_x HE76 HH60 (wt0 rfl) (x_move rfl) rfl rfl fun a_85 HE86 => ?_
        refine pl_x HE86 HH60 (wt0 rfl) (x_add rfl rfl (by exact ⟨by omega, by omega⟩)) rfl rfl fun a_87 HE88 => ?_
        refine pl_x HE88 HH60 (wt0 rfl) (x_assign rfl) rfl rfl fun a_89 HE90 => ?_
        refine wpList_nil ?_
        clear a_75 HE76 a_85 HE86 a_87 HE88
        exact nrm ⟨a0.length - (k + 1), (by omega), k + 1, rfl, HE90.sub ⟨(lkI rfl (by first | rfl | omega | (simp [p21_0, p21_1, hc22, xe23, hc27]; done))), rfl, rfl, trivial⟩, (HH60.sel [] (by decide) rfl), (by first | omega | assumption | (simp; done) | simp_all), (by subst xe23; rw [p21_1, stepFr_miss (by omega) hc27])⟩
    · refine wp_exit ?_
      refine (thn_exit (thn_exit (blk_hit ?_)))
      refine nrm ?_
      refine wp_seq ?_
      refine rg ?_
      refine pl_x HE20 HH12 (wt0 rfl) (x_assign rfl) rfl rfl fun a_91 HE92 => ?_
      refine pl_x HE92 HH12 (wt0 rfl) (x_assign rfl) rfl rfl fun a_93 HE94 => ?_
      refine wpList_nil ?_
      clear a_19 HE20 a_91 HE92
      refine nrm ?_
      refine wp_ret ?_
      refine ret2 HE94 rfl (rv_tmp rfl) (rv_tmp rfl) ?_
      have hF : (stepFS a0 a1) = ([], -1) := by
        first | (subst xe0; unfold stepFS; rw [p21_1, stepFr_hit (by omega) hc22]; rfl) | (unfold stepFS; rw [p21_1, List.drop_of_length_le (by omega)]; rfl)
      exact ⟨none, 0, by rw [hF] <;> rfl, by rw [hF]; exact (So.nil (Nat.zero_le _)), HH12.below⟩

set_option maxRecDepth 100000 in
set_option maxHeartbeats 4000000 in
theorem impl_StepFractions (A0 : Option Addr) (c0 : Nat) (a0 : (List tFraction)) (A1 : Option Addr) (c1 : Nat) (a1 : (List Int)) (w : World) (h0 : Sl eFraction w (Old w) A0 c0 a0) (h1 : Sl eInt w (Old w) A1 c1 a1) :
    Calls Try.prog 50 #[.slice A0 a0.length c0, .slice A1 a1.length c1] w fun e w' => ∃ (A0' : Option Addr) (c0' : Nat), e = .returned (.tuple #[.slice A0' (stepFracs a0 a1).1.length c0', .int .i64 (stepFracs a0 a1).2.1, .int .i64 (stepFracs a0 a1).2.2]) ∧ So eInt w' (Fr w w') A0' c0' (stepFracs a0 a1).1 ∧ Below w.heap.size w w' := by
  have l0 := h0.len
  have l1 := h1.len
  have HH1 := Held.start Nob w
  refine enter (n := 32) Try.func50 rfl rfl rfl fun a_2 HE3 => ?_
  refine wp_seq ?_
  refine rg ?_
  refine pl_x HE3 HH1 (wt0 rfl) (x_assign rfl) rfl rfl fun a_4 HE5 => ?_
  refine pl_x HE5 HH1 (wt0 rfl) (x_assign rfl) rfl rfl fun a_6 HE7 => ?_
  refine pl_x HE7 HH1 (wt0 rfl) (x_assign rfl) rfl rfl fun a_8 HE9 => ?_
  refine wpList_nil ?_
  clear a_2 HE3 a_4 HE5 a_6 HE7
  refine nrm ?_
  refine wp_seq ?_
  refine wp_seq ?_
  refine rg ?_
  refine pl_x HE9 HH1 (wt0 rfl) (x_move rfl) rfl rfl fun a_10 HE11 => ?_
  refine pl fun K_12 hK13 => ?_
  refine st_call HE11 (wt0 rfl) rfl rfl rfl en_111 rfl rfl (impl_ValidFractions _ _ a0 _ (HH1.old h0)) fun e w' hr => ?_
  obtain ⟨rfl, hbr21⟩ := hr
  have HH14 := HH1.on hbr21
  refine ⟨_, rfl, fun a_15 HE16 => hK13 _ _ ?_⟩
  refine pl_x HE16 HH14 (wt0 rfl) (x_not rfl) rfl rfl fun a_17 HE18 => ?_
  refine pl_x HE18 HH14 (wt0 rfl) (x_move rfl) rfl rfl fun a_19 HE20 => ?_
  rcases Bool.eq_false_or_eq_true ((validFrac a0)) with hc22 | hc22
  · have hV := validFrac_facts hc22
    refine pl_x HE20 HH14 (wtT HE20 rfl rfl rfl (not_f hc22)) (x_move rfl) rfl rfl fun a_21 HE22 => ?_
    refine pl fun K_23 hK24 => ?_
    refine st_call HE22 (wtT HE22 rfl rfl rfl (not_f hc22)) rfl rfl rfl en_101 rfl rfl (impl_isPositive _ _ a1 _ (HH14.old h1)) fun e w' hr => ?_
    obtain ⟨rfl, rfl⟩ := hr
    refine ⟨_, rfl, fun a_25 HE26 => hK24 _ _ ?_⟩
    refine pl_x HE26 HH14 (wtT HE26 rfl rfl rfl (not_f hc22)) (x_not rfl) rfl rfl fun a_27 HE28 => ?_
    refine pl_x HE28 HH14 (wt0 rfl) (x_pickF rfl (not_f hc22) rfl) rfl rfl fun a_29 HE30 => ?_
    refine wpList_nil ?_
    clear a_8 HE9 HH1 a_10 HE11 a_15 HE16 a_17 HE18 a_19 HE20 K_12 hK13 a_21 HE22 a_25 HE26 a_27 HE28 hK24 K_23
    refine nrm ?_
    refine cnd_nb HE30 rfl (fun hc24 => ?_) (fun hc24 => ?_)
    · refine wp_seq ?_
      refine rg ?_
      refine pl_x HE30 HH14 (wt0 rfl) (x_assign rfl) rfl rfl fun a_31 HE32 => ?_
      refine pl_x HE32 HH14 (wt0 rfl) (x_assign rfl) rfl rfl fun a_33 HE34 => ?_
      refine pl_x HE34 HH14 (wt0 rfl) (x_assign rfl) rfl rfl fun a_35 HE36 => ?_
      refine wpList_nil ?_
      clear a_29 HE30 a_31 HE32 a_33 HE34
      refine nrm ?_
      refine wp_ret ?_
      refine (thn_ret ?_)
      refine ret3 HE36 rfl (rv_tmp rfl) (rv_tmp rfl) (rv_tmp rfl) ?_
      have hF : (stepFracs a0 a1) = ([], 0, 1) := by
        first | (simp [stepFracs, hc22, hc24]; done) | grind [stepFracs]
      exact ⟨none, 0, by rw [hF] <;> rfl, by rw [hF]; exact (So.nil (Nat.zero_le _)), HH14.below⟩
    · have hP := isPos_facts hc24
      refine wp_skip ?_
      refine nrm ?_
      refine wp_seq ?_
      refine rg ?_
      refine pl_x HE30 HH14 (wt0 rfl) (x_move rfl) rfl rfl fun a_37 HE38 => ?_
      refine pl_x HE38 HH14 (wt0 rfl) (x_move rfl) rfl rfl fun a_39 HE40 => ?_
      refine pl fun K_41 hK42 => ?_
      refine st_call HE40 (wt0 rfl) rfl rfl rfl en_112 rfl rfl (impl_stepFractions _ _ a0 _ _ a1 _ (HH14.old h0) (HH14.old h1) (by first | assumption | exact hV.2) (by first | assumption | exact hP.1) (by omega) (by omega)) fun e w' hr => ?_
      obtain ⟨Ar25_0, cr25_0, Sr25_0, rfl, hbr25⟩ := hr
      have HH43 := HH14.app hbr25
      clear hbr25
      have HH44 : Held Nob w ([rIf (0 ≤ (stepFI a0 a1).2) (rSo eInt Sr25_0 Ar25_0 cr25_0 ((stepFI a0 a1).1))]) _ := HH43
      refine ⟨_, rfl, fun a_45 HE46 => hK42 _ _ ?_⟩
      refine pl_x HE46 HH44 (wt0 rfl) (x_move rfl) rfl rfl fun a_47 HE48 => ?_
      refine pl_x HE48 HH44 (wt0 rfl) (x_extract rfl rfl) rfl rfl fun a_49 HE50 => ?_
      refine pl_x HE50 HH44 (wt0 rfl) (x_extract rfl rfl) rfl rfl fun a_51 HE52 => ?_
      refine pl_x HE52 HH44 (wt0 rfl) (x_assign rfl) rfl rfl fun a_53 HE54 => ?_
      refine pl_x HE54 HH44 (wt0 rfl) (x_assign rfl) rfl rfl fun a_55 HE56 => ?_
      refine wpList_nil ?_
      clear a_29 HE30 a_37 HE38 HH14 HH43 a_39 HE40 a_45 HE46 a_47 HE48 a_49 HE50 a_51 HE52 a_53 HE54 hK42 K_41
      refine nrm ?_
      refine wp_seq ?_
      refine wp_block ?_
      refine wp_seq ?_
      refine rg ?_
      refine pl_x HE56 HH44 (wt0 rfl) (x_move rfl) rfl rfl fun a_57 HE58 => ?_
      refine pl_x HE58 HH44 (wt0 rfl) (x_lss rfl rfl) rfl rfl fun a_59 HE60 => ?_
      refine pl_x HE60 HH44 (wt0 rfl) (x_assign rfl) rfl rfl fun a_61 HE62 => ?_
      refine wpList_nil ?_
      clear a_55 HE56 a_57 HE58 a_59 HE60
      refine nrm ?_
      refine cnd_d HE62 rfl (fun hc26 => ?_) (fun hc26 => ?_)
      · refine wp_seq ?_
        refine rg ?_
        refine pl_x HE62 HH44 (wt0 rfl) (x_assign rfl) rfl rfl fun a_63 HE64 => ?_
        refine pl_x HE64 HH44 (wt0 rfl) (x_assign rfl) rfl rfl fun a_65 HE66 => ?_
        refine pl_x HE66 HH44 (wt0 rfl) (x_assign rfl) rfl rfl fun a_67 HE68 => ?_
        refine wpList_nil ?_
        clear a_61 HE62 a_63 HE64 a_65 HE66
        refine nrm ?_
        refine wp_ret ?_
        refine (blk_ret (thn_ret ?_))
        refine ret3 HE68 rfl (rv_tmp rfl) (rv_tmp rfl) (rv_tmp rfl) ?_
        have hF : (stepFracs a0 a1) = ([], 0, 6) := by
          first | (simp [stepFracs, hc22, hc24, hc26]; done) | grind [stepFracs]
        exact ⟨none, 0, by rw [hF] <;> rfl, by rw [hF]; exact (So.nil (Nat.zero_le _)), HH44.below⟩
      · refine wp_seq ?_
        refine rg ?_
        refine pl_x HE62 HH44 (wt0 rfl) (x_move rfl) rfl rfl fun a_69 HE70 => ?_
        refine pl_x HE70 HH44 (wt0 rfl) (x_len Try.underlying31 rfl) rfl rfl fun a_71 HE72 => ?_
        refine pl_x HE72 HH44 (wt0 rfl) (x_gtr rfl rfl) rfl rfl fun a_73 HE74 => ?_
        refine pl_x HE74 HH44 (wt0 rfl) (x_assign rfl) rfl rfl fun a_75 HE76 => ?_
        refine wpList_nil ?_
        clear a_61 HE62 a_69 HE70 a_71 HE72 a_73 HE74
        refine nrm ?_
        refine cnd_d HE76 rfl (fun hc27 => ?_) (fun hc27 => ?_)
        · refine wp_seq ?_
          refine rg ?_
          refine pl_x HE76 HH44 (wt0 rfl) (x_assign rfl) rfl rfl fun a_77 HE78 => ?_
          refine pl_x HE78 HH44 (wt0 rfl) (x_assign rfl) rfl rfl fun a_79 HE80 => ?_
          refine pl_x HE80 HH44 (wt0 rfl) (x_assign rfl) rfl rfl fun a_81 HE82 => ?_
          refine wpList_nil ?_
          clear a_75 HE76 a_77 HE78 a_79 HE80
          refine nrm ?_
          refine wp_ret ?_
          refine (blk_ret (thn_ret ?_))
          refine ret3 HE82 rfl (rv_tmp rfl) (rv_tmp rfl) (rv_tmp rfl) ?_
          have hF : (stepFracs a0 a1) = ([], 0, 5) := by
            first | (simp [stepFracs, hc22, hc24, hc26, hc27]; done) | grind [stepFracs]
          exact ⟨none, 0, by rw [hF] <;> rfl, by rw [hF]; exact (So.nil (Nat.zero_le _)), HH44.below⟩
        · refine wp_skip ?_
          refine blk_n ?_
          refine nrm ?_
          refine wp_seq ?_
          refine rg ?_
          refine pl_x HE76 HH44 (wt0 rfl) (x_move rfl) rfl rfl fun a_83 HE84 => ?_
          refine pl_x HE84 HH44 (wt0 rfl) (x_move rfl) rfl rfl fun a_85 HE86 => ?_
          refine pl_x HE86 HH44 (wt0 rfl) (x_assign rfl) rfl rfl fun a_87 HE88 => ?_
          refine pl_x HE88 HH44 (wt0 rfl) (x_assign rfl) rfl rfl fun a_89 HE90 => ?_
          refine pl_x HE90 HH44 (wt0 rfl) (x_assign rfl) rfl rfl fun a_91 HE92 => ?_
          refine wpList_nil ?_
          clear a_75 HE76 a_83 HE84 a_85 HE86 a_87 HE88 a_89 HE90
          refine nrm ?_
          refine wp_ret ?_
          refine ret3 HE92 rfl (rv_tmp rfl) (rv_tmp rfl) (rv_tmp rfl) ?_
          have HH93 := HH44.ofIf (by first | assumption | omega | (simp [hc22, hc24, hc26, hc27]; done))
          have hF : (stepFracs a0 a1) = ((stepFI a0 a1).1, (stepFI a0 a1).2, 0) := by
            first | (simp [stepFracs, hc22, hc24, hc26, hc27]; done) | grind [stepFracs]
          exact ⟨Ar25_0, cr25_0, by rw [hF] <;> rfl, by rw [hF]; exact (HH93.so (i := 0) rfl), HH93.below⟩
  · refine pl_no HE20 (wtF HE20 rfl rfl rfl (not_t hc22)) rfl rfl fun a_94 HE95 => ?_
    refine pl_no HE95 (wtF HE95 rfl rfl rfl (not_t hc22)) rfl rfl fun a_96 HE97 => ?_
    refine pl_no HE97 (wtF HE97 rfl rfl rfl (not_t hc22)) rfl rfl fun a_98 HE99 => ?_
    refine pl_x HE99 HH14 (wt0 rfl) (x_pickT rfl (not_t hc22) rfl) rfl rfl fun a_100 HE101 => ?_
    refine wpList_nil ?_
    clear a_8 HE9 HH1 a_10 HE11 a_15 HE16 a_17 HE18 a_19 HE20 a_94 HE95 a_96 HE97 a_98 HE99 hK13 K_12
    refine nrm ?_
    refine cndT HE101 rfl rfl ?_
    refine wp_seq ?_
    refine rg ?_
    refine pl_x HE101 HH14 (wt0 rfl) (x_assign rfl) rfl rfl fun a_102 HE103 => ?_
    refine pl_x HE103 HH14 (wt0 rfl) (x_assign rfl) rfl rfl fun a_104 HE105 => ?_
    refine pl_x HE105 HH14 (wt0 rfl) (x_assign rfl) rfl rfl fun a_106 HE107 => ?_
    refine wpList_nil ?_
    clear a_100 HE101 a_102 HE103 a_104 HE105
    refine nrm ?_
    refine wp_ret ?_
    refine (thn_ret ?_)
    refine ret3 HE107 rfl (rv_tmp rfl) (rv_tmp rfl) (rv_tmp rfl) ?_
    have hF : (stepFracs a0 a1) = ([], 0, 1) := by
      first | (simp [stepFracs, hc22]; done) | grind [stepFracs]
    exact ⟨none, 0, by rw [hF] <;> rfl, by rw [hF]; exact (So.nil (Nat.zero_le _)), HH14.below⟩

set_option maxRecDepth 100000 in
set_option maxHeartbeats 4000000 in
theorem spec_StepFractions (A0 : Option Addr) (c0 : Nat) (a0 : (List tFraction)) (A1 : Option Addr) (c1 : Nat) (a1 : (List Int)) (w : World) (h0 : Sl eFraction w (Old w) A0 c0 a0) (h1 : Sl eInt w (Old w) A1 c1 a1) :
    Calls Try.prog 48 #[.slice A0 a0.length c0, .slice A1 a1.length c1] w fun e w' => ∃ (A0' : Option Addr) (c0' : Nat), e = .returned (.tuple #[.slice A0' (stepFracs a0 a1).1.length c0', .int .i64 (stepFracs a0 a1).2.1, .int .i64 (stepFracs a0 a1).2.2]) ∧ So eInt w' (Fr w w') A0' c0' (stepFracs a0 a1).1 ∧ Below w.heap.size w w' := by
  have l0 := h0.len
  have l1 := h1.len
  have HH1 := Held.start Nob w
  refine enter (n := 30) Try.func48 rfl rfl rfl fun a_2 HE3 => ?_
  refine wp_seq ?_
  refine rg ?_
  refine pl_x HE3 HH1 (wt0 rfl) (x_assign rfl) rfl rfl fun a_4 HE5 => ?_
  refine pl_x HE5 HH1 (wt0 rfl) (x_assign rfl) rfl rfl fun a_6 HE7 => ?_
  refine pl_x HE7 HH1 (wt0 rfl) (x_assign rfl) rfl rfl fun a_8 HE9 => ?_
  refine wpList_nil ?_
  clear a_2 HE3 a_4 HE5 a_6 HE7
  refine nrm ?_
  refine wp_seq ?_
  refine wp_seq ?_
  refine rg ?_
  refine pl_x HE9 HH1 (wt0 rfl) (x_move rfl) rfl rfl fun a_10 HE11 => ?_
  refine pl fun K_12 hK13 => ?_
  refine st_call HE11 (wt0 rfl) rfl rfl rfl en_108 rfl rfl (spec_l08Is _ _ a0 _ (HH1.old h0)) fun e w' hr => ?_
  obtain ⟨rfl, rfl⟩ := hr
  refine ⟨_, rfl, fun a_14 HE15 => hK13 _ _ ?_⟩
  refine pl_x HE15 HH1 (wt0 rfl) (x_not rfl) rfl rfl fun a_16 HE17 => ?_
  refine pl_x HE17 HH1 (wt0 rfl) (x_move rfl) rfl rfl fun a_18 HE19 => ?_
  rcases Bool.eq_false_or_eq_true ((validFrac a0)) with hc22 | hc22
  · have hV := validFrac_facts hc22
    refine pl_x HE19 HH1 (wtT HE19 rfl rfl rfl (not_f hc22)) (x_move rfl) rfl rfl fun a_20 HE21 => ?_
    refine pl fun K_22 hK23 => ?_
    refine st_call HE21 (wtT HE21 rfl rfl rfl (not_f hc22)) rfl rfl rfl en_96 rfl rfl (spec_l08Number _ _ a1 _ (HH1.old h1)) fun e w' hr => ?_
    obtain ⟨rfl, hbr23⟩ := hr
    have HH24 := HH1.on hbr23
    refine ⟨_, rfl, fun a_25 HE26 => hK23 _ _ ?_⟩
    refine pl_x HE26 HH24 (wtT HE26 rfl rfl rfl (not_f hc22)) (x_not rfl) rfl rfl fun a_27 HE28 => ?_
    refine pl_x HE28 HH24 (wt0 rfl) (x_pickF rfl (not_f hc22) rfl) rfl rfl fun a_29 HE30 => ?_
    refine wpList_nil ?_
    clear a_8 HE9 a_10 HE11 a_14 HE15 a_16 HE17 a_18 HE19 K_12 hK13 HH1 a_20 HE21 a_25 HE26 a_27 HE28 hK23 K_22
    refine nrm ?_
    refine cnd_nb HE30 rfl (fun hc24 => ?_) (fun hc24 => ?_)
    · refine wp_seq ?_
      refine rg ?_
      refine pl_x HE30 HH24 (wt0 rfl) (x_assign rfl) rfl rfl fun a_31 HE32 => ?_
      refine pl_x HE32 HH24 (wt0 rfl) (x_assign rfl) rfl rfl fun a_33 HE34 => ?_
      refine pl_x HE34 HH24 (wt0 rfl) (x_assign rfl) rfl rfl fun a_35 HE36 => ?_
      refine wpList_nil ?_
      clear a_29 HE30 a_31 HE32 a_33 HE34
      refine nrm ?_
      refine wp_ret ?_
      refine (thn_ret ?_)
      refine ret3 HE36 rfl (rv_tmp rfl) (rv_tmp rfl) (rv_tmp rfl) ?_
      have hF : (stepFracs a0 a1) = ([], 0, 1) := by
        first | (simp [stepFracs, hc22, hc24]; done) | (have hq := stepFS_eq a0 a1; unfold stepFracs; grind)
      exact ⟨none, 0, by rw [hF] <;> rfl, by rw [hF]; exact (So.nil (Nat.zero_le _)), HH24.below⟩
    · have hP := isPos_facts hc24
      refine wp_skip ?_
      refine nrm ?_
      refine wp_seq ?_
      refine rg ?_
      refine pl_x HE30 HH24 (wt0 rfl) (x_move rfl) rfl rfl fun a_37 HE38 => ?_
      refine pl_x HE38 HH24 (wt0 rfl) (x_move rfl) rfl rfl fun a_39 HE40 => ?_
      refine pl fun K_41 hK42 => ?_
      refine st_call HE40 (wt0 rfl) rfl rfl rfl en_109 rfl rfl (spec_l08Next _ _ a0 _ _ a1 _ (HH24.old h0) (HH24.old h1) (by first | assumption | exact hV.2) (by first | assumption | exact hP.1) (by omega) (by omega)) fun e w' hr => ?_
      obtain ⟨Ar25_0, cr25_0, rfl, hor25_0, hbr25⟩ := hr
      obtain ⟨Sr25, HH43⟩ := HH24.newS hbr25 hor25_0
      refine ⟨_, rfl, fun a_44 HE45 => hK42 _ _ ?_⟩
      refine pl_x HE45 HH43 (wt0 rfl) (x_move rfl) rfl rfl fun a_46 HE47 => ?_
      refine pl_x HE47 HH43 (wt0 rfl) (x_extract rfl rfl) rfl rfl fun a_48 HE49 => ?_
      refine pl_x HE49 HH43 (wt0 rfl) (x_extract rfl rfl) rfl rfl fun a_50 HE51 => ?_
      refine pl_x HE51 HH43 (wt0 rfl) (x_assign rfl) rfl rfl fun a_52 HE53 => ?_
      refine pl_x HE53 HH43 (wt0 rfl) (x_assign rfl) rfl rfl fun a_54 HE55 => ?_
      refine wpList_nil ?_
      clear a_29 HE30 a_37 HE38 HH24 a_39 HE40 a_44 HE45 a_46 HE47 a_48 HE49 a_50 HE51 a_52 HE53 hK42 K_41
      refine nrm ?_
      refine wp_seq ?_
      refine wp_seq ?_
      refine rg ?_
      refine pl_x HE55 HH43 (wt0 rfl) (x_move rfl) rfl rfl fun a_56 HE57 => ?_
      refine pl_x HE57 HH43 (wt0 rfl) (x_lss rfl rfl) rfl rfl fun a_58 HE59 => ?_
      refine wpList_nil ?_
      clear a_54 HE55 a_56 HE57
      refine nrm ?_
      refine cnd_d HE59 rfl (fun hc26 => ?_) (fun hc26 => ?_)
      · refine wp_seq ?_
        refine rg ?_
        refine pl_x HE59 HH43 (wt0 rfl) (x_assign rfl) rfl rfl fun a_60 HE61 => ?_
        refine pl_x HE61 HH43 (wt0 rfl) (x_assign rfl) rfl rfl fun a_62 HE63 => ?_
        refine pl_x HE63 HH43 (wt0 rfl) (x_assign rfl) rfl rfl fun a_64 HE65 => ?_
        refine wpList_nil ?_
        clear a_58 HE59 a_60 HE61 a_62 HE63
        refine nrm ?_
        refine wp_ret ?_
        refine (thn_ret ?_)
        refine ret3 HE65 rfl (rv_tmp rfl) (rv_tmp rfl) (rv_tmp rfl) ?_
        have hF : (stepFracs a0 a1) = ([], 0, 6) := by
          first | (simp [stepFracs, hc22, hc24, hc26]; done) | (have hq := stepFS_eq a0 a1; unfold stepFracs; grind)
        exact ⟨none, 0, by rw [hF] <;> rfl, by rw [hF]; exact (So.nil (Nat.zero_le _)), HH43.below⟩
      · refine wp_skip ?_
        refine nrm ?_
        refine wp_seq ?_
        refine wp_seq ?_
        refine rg ?_
        refine pl_x HE59 HH43 (wt0 rfl) (x_move rfl) rfl rfl fun a_66 HE67 => ?_
        refine pl_x HE67 HH43 (wt0 rfl) (x_len Try.underlying31 rfl) rfl rfl fun a_68 HE69 => ?_
        refine pl_x HE69 HH43 (wt0 rfl) (x_gtr rfl rfl) rfl rfl fun a_70 HE71 => ?_
        refine wpList_nil ?_
        clear a_58 HE59 a_66 HE67 a_68 HE69
        refine nrm ?_
        refine cnd_d HE71 rfl (fun hc27 => ?_) (fun hc27 => ?_)
        · refine wp_seq ?_
          refine rg ?_
          refine pl_x HE71 HH43 (wt0 rfl) (x_assign rfl) rfl rfl fun a_72 HE73 => ?_
          refine pl_x HE73 HH43 (wt0 rfl) (x_assign rfl) rfl rfl fun a_74 HE75 => ?_
          refine pl_x HE75 HH43 (wt0 rfl) (x_assign rfl) rfl rfl fun a_76 HE77 => ?_
          refine wpList_nil ?_
          clear a_70 HE71 a_72 HE73 a_74 HE75
          refine nrm ?_
          refine wp_ret ?_
          refine (thn_ret ?_)
          refine ret3 HE77 rfl (rv_tmp rfl) (rv_tmp rfl) (rv_tmp rfl) ?_
          have hF : (stepFracs a0 a1) = ([], 0, 5) := by
            first | (simp [stepFracs, hc22, hc24, hc26, hc27]; done) | (have hq := stepFS_eq a0 a1; unfold stepFracs; grind)
          exact ⟨none, 0, by rw [hF] <;> rfl, by rw [hF]; exact (So.nil (Nat.zero_le _)), HH43.below⟩
        · refine wp_skip ?_
          refine nrm ?_
          refine wp_seq ?_
          refine rg ?_
          refine pl_x HE71 HH43 (wt0 rfl) (x_move rfl) rfl rfl fun a_78 HE79 => ?_
          refine pl_x HE79 HH43 (wt0 rfl) (x_move rfl) rfl rfl fun a_80 HE81 => ?_
          refine pl_x HE81 HH43 (wt0 rfl) (x_assign rfl) rfl rfl fun a_82 HE83 => ?_
          refine pl_x HE83 HH43 (wt0 rfl) (x_assign rfl) rfl rfl fun a_84 HE85 => ?_
          refine pl_x HE85 HH43 (wt0 rfl) (x_assign rfl) rfl rfl fun a_86 HE87 => ?_
          refine wpList_nil ?_
          clear a_70 HE71 a_78 HE79 a_80 HE81 a_82 HE83 a_84 HE85
          refine nrm ?_
          refine wp_ret ?_
          refine ret3 HE87 rfl (rv_tmp rfl) (rv_tmp rfl) (rv_tmp rfl) ?_
          have hF : (stepFracs a0 a1) = ((stepFS a0 a1).1, (stepFS a0 a1).2, 0) := by
            first | (simp [stepFracs, hc22, hc24, hc26, hc27]; done) | (have hq := stepFS_eq a0 a1; unfold stepFracs; grind)
          exact ⟨Ar25_0, cr25_0, by rw [hF] <;> rfl, by rw [hF]; exact (HH43.so (i := 0) rfl), HH43.below⟩
  · refine pl_no HE19 (wtF HE19 rfl rfl rfl (not_t hc22)) rfl rfl fun a_88 HE89 => ?_
    refine pl_no HE89 (wtF HE89 rfl rfl rfl (not_t hc22)) rfl rfl fun a_90 HE91 => ?_
    refine pl_no HE91 (wtF HE91 rfl rfl rfl (not_t hc22)) rfl rfl fun a_92 HE93 => ?_
    refine pl_x HE93 HH1 (wt0 rfl) (x_pickT rfl (not_t hc22) rfl) rfl rfl fun a_94 HE95 => ?_
    refine wpList_nil ?_
    clear a_8 HE9 a_10 HE11 a_14 HE15 a_16 HE17 a_18 HE19 a_88 HE89 a_90 HE91 a_92 HE93 hK13 K_12
    refine nrm ?_
    refine cndT HE95 rfl rfl ?_
    refine wp_seq ?_
    refine rg ?_
    refine pl_x HE95 HH1 (wt0 rfl) (x_assign rfl) rfl rfl fun a_96 HE97 => ?_
    refine pl_x HE97 HH1 (wt0 rfl) (x_assign rfl) rfl rfl fun a_98 HE99 => ?_
    refine pl_x HE99 HH1 (wt0 rfl) (x_assign rfl) rfl rfl fun a_100 HE101 => ?_
    refine wpList_nil ?_
    clear a_94 HE95 a_96 HE97 a_98 HE99
    refine nrm ?_
    refine wp_ret ?_
    refine (thn_ret ?_)
    refine ret3 HE101 rfl (rv_tmp rfl) (rv_tmp rfl) (rv_tmp rfl) ?_
    have hF : (stepFracs a0 a1) = ([], 0, 1) := by
      first | (simp [stepFracs, hc22]; done) | (have hq := stepFS_eq a0 a1; unfold stepFracs; grind)
    exact ⟨none, 0, by rw [hF] <;> rfl, by rw [hF]; exact (So.nil (Nat.zero_le _)), HH1.below⟩

theorem ct_L_40 {xs : List Int} (h : xs.length ≤ 40) : (ct_L xs : Int) ≤ 1000000000 := by
  have h1 := cntL_const ct_i 1 xs fun _ => rfl
  unfold ct_L; omega

theorem stepFracs_ct (l : List tFraction) (n : List Int) : (ct_L (stepFracs l n).1 : Int) ≤ 1000000000 := by
  refine ct_L_40 ?_
  unfold stepFracs
  split
  · split
    · simp
    · split
      · simp
      · simp only; omega
  · simp

set_option maxRecDepth 100000 in
set_option maxHeartbeats 4000000 in
theorem law_StepFractions (A0 : Option Addr) (c0 : Nat) (a0 : (List tFraction)) (A1 : Option Addr) (c1 : Nat) (a1 : (List Int)) (w : World) (h0 : Sl eFraction w (Old w) A0 c0 a0) (h1 : Sl eInt w (Old w) A1 c1 a1) :
    Calls Try.prog 9 #[.slice A0 a0.length c0, .slice A1 a1.length c1] w fun e w' => e = .returned (.bool true) ∧ Below w.heap.size w w' := by
  have l0 := h0.len
  have l1 := h1.len
  have m0 := ct_cost_SFraction a0
  have cl1 : cost_L a1 = a1.length := rfl
  have m1 := ct_cost_L a1
  have n0 : (ct_L (stepFracs a0 a1).1 : Int) ≤ 1000000000 := stepFracs_ct a0 a1
  have HH1 := Held.start Nob w
  refine enter (n := 138) Try.func9 rfl rfl rfl fun a_2 HE3 => ?_
  refine wp_seq ?_
  refine rg ?_
  refine pl_x HE3 HH1 (wt0 rfl) (x_assign rfl) rfl rfl fun a_4 HE5 => ?_
  refine wpList_nil ?_
  clear a_2 HE3
  refine nrm ?_
  refine wp_seq ?_
  refine wp_seq ?_
  refine rg ?_
  refine pl_x HE5 HH1 (wt0 rfl) (x_move rfl) rfl rfl fun a_6 HE7 => ?_
  refine pl_x HE7 HH1 (wt0 rfl) (x_len Try.underlying31 rfl) rfl rfl fun a_8 HE9 => ?_
  refine pl_x HE9 HH1 (wt0 rfl) (x_gtr rfl rfl) rfl rfl fun a_10 HE11 => ?_
  refine wpList_nil ?_
  clear a_4 HE5 a_6 HE7 a_8 HE9
  refine nrm ?_
  refine cnd_d HE11 rfl (fun hc21 => ?_) (fun hc21 => ?_)
  · refine wp_seq ?_
    refine rg ?_
    refine pl_x HE11 HH1 (wt0 rfl) (x_assign rfl) rfl rfl fun a_12 HE13 => ?_
    refine wpList_nil ?_
    clear a_10 HE11
    refine nrm ?_
    refine wp_ret ?_
    refine (thn_ret ?_)
    refine ret1 HE13 rfl (rv_tmp rfl) ?_
    have hF : true = true := by
      first | rfl | (exfalso; omega)
    exact ⟨by rw [hF] <;> rfl, HH1.below⟩
  · refine wp_skip ?_
    refine nrm ?_
    refine wp_seq ?_
    refine rg ?_
    refine pl_x HE11 HH1 (wt0 rfl) (x_assign rfl) rfl rfl fun a_14 HE15 => ?_
    refine wpList_nil ?_
    clear a_10 HE11
    refine nrm ?_
    refine wp_seq ?_
    refine rg ?_
    refine pl_x HE15 HH1 (wt0 rfl) (x_move rfl) rfl rfl fun a_16 HE17 => ?_
    refine pl_x HE17 HH1 (wt0 rfl) (x_move rfl) rfl rfl fun a_18 HE19 => ?_
    refine pl fun K_20 hK21 => ?_
    refine st_call HE19 (wt0 rfl) rfl rfl rfl en_47 rfl rfl (sz_FractionS _ _ a0 1048576 _ (HH1.old h0) (by omega) (by omega)) fun e w' hr => ?_
    obtain ⟨rfl, hbr22⟩ := hr
    have HH22 := HH1.on hbr22
    clear hbr22
    refine ⟨_, rfl, fun a_23 HE24 => hK21 _ _ ?_⟩
    refine pl_x HE24 HH22 (wt0 rfl) (x_assign rfl) rfl rfl fun a_25 HE26 => ?_
    refine wpList_nil ?_
    clear a_14 HE15 a_16 HE17 HH1 a_18 HE19 a_23 HE24 hK21 K_20
    refine nrm ?_
    refine wp_seq ?_
    refine wp_seq ?_
    refine rg ?_
    refine pl_x HE26 HH22 (wt0 rfl) (x_move rfl) rfl rfl fun a_27 HE28 => ?_
    refine pl_x HE28 HH22 (wt0 rfl) (x_lss rfl rfl) rfl rfl fun a_29 HE30 => ?_
    refine wpList_nil ?_
    clear a_25 HE26 a_27 HE28
    refine nrm ?_
    refine cnd_d HE30 rfl (fun hc23 => ?_) (fun hc23 => ?_)
    · refine wp_seq ?_
      refine rg ?_
      refine pl_x HE30 HH22 (wt0 rfl) (x_assign rfl) rfl rfl fun a_31 HE32 => ?_
      refine wpList_nil ?_
      clear a_29 HE30
      refine nrm ?_
      refine wp_ret ?_
      refine (thn_ret ?_)
      refine ret1 HE32 rfl (rv_tmp rfl) ?_
      have hF : true = true := by
        first | rfl | (exfalso; omega)
      exact ⟨by rw [hF] <;> rfl, HH22.below⟩
    · have zr22 := left_ok hc23
      refine wp_skip ?_
      refine nrm ?_
      refine wp_seq ?_
      refine rg ?_
      refine pl_x HE30 HH22 (wt0 rfl) (x_move rfl) rfl rfl fun a_33 HE34 => ?_
      refine pl fun K_35 hK36 => ?_
      refine st_call HE34 (wt0 rfl) rfl rfl rfl en_49 rfl rfl (to_FractionS _ _ a0 _ (HH22.old h0) (by omega)) fun e w' hr => ?_
      obtain ⟨Ar24, cr24, rfl, hor24, hbr24⟩ := hr
      obtain ⟨Sr24, HH37⟩ := HH22.newS hbr24 hor24
      clear hbr24 hor24
      refine ⟨_, rfl, fun a_38 HE39 => hK36 _ _ ?_⟩
      refine pl_x HE39 HH37 (wt0 rfl) (x_move rfl) rfl rfl fun a_40 HE41 => ?_
      refine pl fun K_42 hK43 => ?_
      refine st_call HE41 (wt0 rfl) rfl rfl rfl en_23 rfl rfl (to_Int64S _ _ a1 _ (HH37.old h1) (by omega)) fun e w' hr => ?_
      obtain ⟨Ar25, cr25, rfl, hor25, hbr25⟩ := hr
      obtain ⟨Sr25, HH44⟩ := HH37.newS hbr25 hor25
      clear hbr25 hor25
      refine ⟨_, rfl, fun a_45 HE46 => hK43 _ _ ?_⟩
      refine pl fun K_47 hK48 => ?_
      refine st_call HE46 (wt0 rfl) rfl rfl rfl en_48 rfl rfl (spec_StepFractions _ _ a0 _ _ a1 _ (HH44.sl (i := 1) rfl) (HH44.sl (i := 0) rfl)) fun e w' hr => ?_
      obtain ⟨Ar26_0, cr26_0, rfl, hor26_0, hbr26⟩ := hr
      obtain ⟨Sr26, HH49⟩ := HH44.newS hbr26 hor26_0
      refine ⟨_, rfl, fun a_50 HE51 => hK48 _ _ ?_⟩
      refine pl_x HE51 HH49 (wt0 rfl) (x_move rfl) rfl rfl fun a_52 HE53 => ?_
      refine pl_x HE53 HH49 (wt0 rfl) (x_extract rfl rfl) rfl rfl fun a_54 HE55 => ?_
      refine pl_x HE55 HH49 (wt0 rfl) (x_extract rfl rfl) rfl rfl fun a_56 HE57 => ?_
      refine pl_x HE57 HH49 (wt0 rfl) (x_extract rfl rfl) rfl rfl fun a_58 HE59 => ?_
      refine pl_x HE59 HH49 (wt0 rfl) (x_assign rfl) rfl rfl fun a_60 HE61 => ?_
      refine pl_x HE61 HH49 (wt0 rfl) (x_assign rfl) rfl rfl fun a_62 HE63 => ?_
      refine pl_x HE63 HH49 (wt0 rfl) (x_assign rfl) rfl rfl fun a_64 HE65 => ?_
      refine wpList_nil ?_
      clear a_29 HE30 HH22 a_33 HE34 a_38 HE39 K_35 hK36 HH37 a_40 HE41 K_42 hK43 HH44 a_45 HE46 a_50 HE51 a_52 HE53 a_54 HE55 a_56 HE57 a_58 HE59 a_60 HE61 a_62 HE63 hK48 K_47
      refine nrm ?_
      refine wp_seq ?_
      refine rg ?_
      refine pl_x HE65 HH49 (wt0 rfl) (x_move rfl) rfl rfl fun a_66 HE67 => ?_
      refine pl fun K_68 hK69 => ?_
      refine st_call HE67 (wt0 rfl) rfl rfl rfl en_49 rfl rfl (to_FractionS _ _ a0 _ (HH49.old h0) (by omega)) fun e w' hr => ?_
      obtain ⟨Ar27, cr27, rfl, hor27, hbr27⟩ := hr
      obtain ⟨Sr27, HH70⟩ := HH49.newS hbr27 hor27
      clear hbr27 hor27
      refine ⟨_, rfl, fun a_71 HE72 => hK69 _ _ ?_⟩
      refine pl_x HE72 HH70 (wt0 rfl) (x_assign rfl) rfl rfl fun a_73 HE74 => ?_
      refine wpList_nil ?_
      clear a_64 HE65 HH49 a_66 HE67 a_71 HE72 hK69 K_68
      refine nrm ?_
      refine wp_seq ?_
      refine rg ?_
      refine pl_x HE74 HH70 (wt0 rfl) (x_move rfl) rfl rfl fun a_75 HE76 => ?_
      refine pl fun K_77 hK78 => ?_
      refine st_call HE76 (wt0 rfl) rfl rfl rfl en_23 rfl rfl (to_Int64S _ _ a1 _ (HH70.old h1) (by omega)) fun e w' hr => ?_
      obtain ⟨Ar28, cr28, rfl, hor28, hbr28⟩ := hr
      obtain ⟨Sr28, HH79⟩ := HH70.newS hbr28 hor28
      clear hbr28 hor28
      refine ⟨_, rfl, fun a_80 HE81 => hK78 _ _ ?_⟩
      refine pl_x HE81 HH79 (wt0 rfl) (x_assign rfl) rfl rfl fun a_82 HE83 => ?_
      refine wpList_nil ?_
      clear a_73 HE74 HH70 a_75 HE76 a_80 HE81 hK78 K_77
      refine nrm ?_
      refine wp_seq ?_
      refine rg ?_
      refine pl_x HE83 HH79 (wt0 rfl) (x_move rfl) rfl rfl fun a_84 HE85 => ?_
      refine pl_x HE85 HH79 (wt0 rfl) (x_move rfl) rfl rfl fun a_86 HE87 => ?_
      refine pl fun K_88 hK89 => ?_
      refine st_call HE87 (wt0 rfl) rfl rfl rfl en_50 rfl rfl (impl_StepFractions _ _ a0 _ _ a1 _ (HH79.sl (i := 1) rfl) (HH79.sl (i := 0) rfl)) fun e w' hr => ?_
      obtain ⟨Ar29_0, cr29_0, rfl, hor29_0, hbr29⟩ := hr
      obtain ⟨Sr29, HH90⟩ := HH79.newS hbr29 hor29_0
      refine ⟨_, rfl, fun a_91 HE92 => hK89 _ _ ?_⟩
      refine pl_x HE92 HH90 (wt0 rfl) (x_move rfl) rfl rfl fun a_93 HE94 => ?_
      refine pl_x HE94 HH90 (wt0 rfl) (x_extract rfl rfl) rfl rfl fun a_95 HE96 => ?_
      refine pl_x HE96 HH90 (wt0 rfl) (x_extract rfl rfl) rfl rfl fun a_97 HE98 => ?_
      refine pl_x HE98 HH90 (wt0 rfl) (x_extract rfl rfl) rfl rfl fun a_99 HE100 => ?_
      refine pl_x HE100 HH90 (wt0 rfl) (x_assign rfl) rfl rfl fun a_101 HE102 => ?_
      refine pl_x HE102 HH90 (wt0 rfl) (x_assign rfl) rfl rfl fun a_103 HE104 => ?_
      refine pl_x HE104 HH90 (wt0 rfl) (x_assign rfl) rfl rfl fun a_105 HE106 => ?_
      refine wpList_nil ?_
      clear a_82 HE83 a_84 HE85 HH79 a_86 HE87 a_91 HE92 a_93 HE94 a_95 HE96 a_97 HE98 a_99 HE100 a_101 HE102 a_103 HE104 hK89 K_88
      refine nrm ?_
      refine wp_seq ?_
      refine wp_seq ?_
      refine rg ?_
      refine pl_x HE106 HH90 (wt0 rfl) (x_move rfl) rfl rfl fun a_107 HE108 => ?_
      refine pl_x HE108 HH90 (wt0 rfl) (x_move rfl) rfl rfl fun a_109 HE110 => ?_
      refine pl fun K_111 hK112 => ?_
      refine st_call HE110 (wt0 rfl) rfl rfl rfl en_26 rfl rfl (eq_L_c _ _ _ _ ((stepFracs a0 a1).1) ((stepFracs a0 a1).1) _ (HH90.sl (i := 0) rfl) (HH90.sl (i := 3) rfl)) fun e w' hr => ?_
      obtain ⟨rfl, hbr30⟩ := hr
      have HH113 := HH90.on hbr30
      clear hbr30
      refine ⟨_, rfl, fun a_114 HE115 => hK112 _ _ ?_⟩
      refine pl_x HE115 HH113 (wt0 rfl) (x_not rfl) rfl rfl fun a_116 HE117 => ?_
      refine pl_x HE117 HH113 (wt0 rfl) (x_move rfl) rfl rfl fun a_118 HE119 => ?_
      refine pl_x HE119 HH113 (wtT HE119 rfl rfl rfl (not_f (eq_L_refl _))) (x_move rfl) rfl rfl fun a_120 HE121 => ?_
      refine pl_x HE121 HH113 (wtT HE121 rfl rfl rfl (not_f (eq_L_refl _))) (x_move rfl) rfl rfl fun a_122 HE123 => ?_
      refine pl_x HE123 HH113 (wtT HE123 rfl rfl rfl (not_f (eq_L_refl _))) (x_neq rfl rfl) rfl rfl fun a_124 HE125 => ?_
      refine pl_x HE125 HH113 (wt0 rfl) (x_pickF rfl (not_f (eq_L_refl _)) rfl) rfl rfl fun a_126 HE127 => ?_
      refine pl_x HE127 HH113 (wt0 rfl) (x_move rfl) rfl rfl fun a_128 HE129 => ?_
      refine pl_x HE129 HH113 (wtT HE129 rfl rfl rfl (bne_f rfl)) (x_move rfl) rfl rfl fun a_130 HE131 => ?_
      refine pl_x HE131 HH113 (wtT HE131 rfl rfl rfl (bne_f rfl)) (x_move rfl) rfl rfl fun a_132 HE133 => ?_
      refine pl_x HE133 HH113 (wtT HE133 rfl rfl rfl (bne_f rfl)) (x_neq rfl rfl) rfl rfl fun a_134 HE135 => ?_
      refine pl_x HE135 HH113 (wt0 rfl) (x_pickF rfl (bne_f rfl) rfl) rfl rfl fun a_136 HE137 => ?_
      refine wpList_nil ?_
      clear a_105 HE106 a_107 HE108 HH90 a_109 HE110 a_114 HE115 a_116 HE117 a_118 HE119 a_120 HE121 a_122 HE123 a_124 HE125 a_126 HE127 a_128 HE129 a_130 HE131 a_132 HE133 a_134 HE135 hK112 K_111
      refine nrm ?_
      refine cndF HE137 rfl (bne_f rfl) ?_
      refine wp_skip ?_
      refine nrm ?_
      refine wp_seq ?_
      refine wp_seq ?_
      refine rg ?_
      refine pl_x HE137 HH113 (wt0 rfl) (x_move rfl) rfl rfl fun a_138 HE139 => ?_
      refine pl_x HE139 HH113 (wt0 rfl) (x_move rfl) rfl rfl fun a_140 HE141 => ?_
      refine pl fun K_142 hK143 => ?_
      refine st_call HE141 (wt0 rfl) rfl rfl rfl en_49 rfl rfl (to_FractionS _ _ a0 _ (HH113.old h0) (by omega)) fun e w' hr => ?_
      obtain ⟨Ar31, cr31, rfl, hor31, hbr31⟩ := hr
      obtain ⟨Sr31, HH144⟩ := HH113.newS hbr31 hor31
      clear hbr31 hor31
      refine ⟨_, rfl, fun a_145 HE146 => hK143 _ _ ?_⟩
      refine pl fun K_147 hK148 => ?_
      refine st_call HE146 (wt0 rfl) rfl rfl rfl en_51 rfl rfl (eq_SFraction_c _ _ _ _ a0 a0 _ (HH144.sl (i := 3) rfl) (HH144.sl (i := 0) rfl)) fun e w' hr => ?_
      obtain ⟨rfl, hbr32⟩ := hr
      have HH149 := HH144.on hbr32
      clear hbr32
      refine ⟨_, rfl, fun a_150 HE151 => hK148 _ _ ?_⟩
      refine pl_x HE151 HH149 (wt0 rfl) (x_not rfl) rfl rfl fun a_152 HE153 => ?_
      refine wpList_nil ?_
      clear a_136 HE137 a_138 HE139 HH113 a_140 HE141 K_142 hK143 HH144 a_145 HE146 a_150 HE151 hK148 K_147
      refine nrm ?_
      refine cndF HE153 rfl (not_f (eq_SFraction_refl _)) ?_
      refine wp_skip ?_
      refine nrm ?_
      refine wp_seq ?_
      refine wp_seq ?_
      refine rg ?_
      refine pl_x HE153 HH149 (wt0 rfl) (x_move rfl) rfl rfl fun a_154 HE155 => ?_
      refine pl_x HE155 HH149 (wt0 rfl) (x_move rfl) rfl rfl fun a_156 HE157 => ?_
      refine pl fun K_158 hK159 => ?_
      refine st_call HE157 (wt0 rfl) rfl rfl rfl en_23 rfl rfl (to_Int64S _ _ a1 _ (HH149.old h1) (by omega)) fun e w' hr => ?_
      obtain ⟨Ar33, cr33, rfl, hor33, hbr33⟩ := hr
      obtain ⟨Sr33, HH160⟩ := HH149.newS hbr33 hor33
      clear hbr33 hor33
      refine ⟨_, rfl, fun a_161 HE162 => hK159 _ _ ?_⟩
      refine pl fun K_163 hK164 => ?_
      refine st_call HE162 (wt0 rfl) rfl rfl rfl en_26 rfl rfl (eq_L_c _ _ _ _ a1 a1 _ (HH160.sl (i := 3) rfl) (HH160.sl (i := 0) rfl)) fun e w' hr => ?_
      obtain ⟨rfl, hbr34⟩ := hr
      have HH165 := HH160.on hbr34
      clear hbr34
      refine ⟨_, rfl, fun a_166 HE167 => hK164 _ _ ?_⟩
      refine pl_x HE167 HH165 (wt0 rfl) (x_not rfl) rfl rfl fun a_168 HE169 => ?_
      refine wpList_nil ?_
      clear a_152 HE153 a_154 HE155 HH149 a_156 HE157 K_158 hK159 HH160 a_161 HE162 a_166 HE167 hK164 K_163
      refine nrm ?_
      refine cndF HE169 rfl (not_f (eq_L_refl _)) ?_
      refine wp_skip ?_
      refine nrm ?_
      refine wp_seq ?_
      refine rg ?_
      refine pl_x HE169 HH165 (wt0 rfl) (x_assign rfl) rfl rfl fun a_170 HE171 => ?_
      refine wpList_nil ?_
      clear a_168 HE169
      refine nrm ?_
      refine wp_seq ?_
      refine rg ?_
      refine pl_x HE171 HH165 (wt0 rfl) (x_move rfl) rfl rfl fun a_172 HE173 => ?_
      refine pl_x HE173 HH165 (wt0 rfl) (x_move rfl) rfl rfl fun a_174 HE175 => ?_
      refine pl fun K_176 hK177 => ?_
      refine st_call HE175 (wt0 rfl) rfl rfl rfl en_52 rfl rfl (mark_SFraction_c _ _ a0 1 _ _ (so_of_o (HH165.get (i := 4) rfl)) (HH165.lt (i := 4) rfl) (by omega) (by omega)) fun e w' hr => ?_
      obtain ⟨rfl, hsr35, hcr35⟩ := hr
      have HH178 := HH165.mut (i := 4) rfl hcr35 (rSo eFraction Sr27 Ar27 cr27 (mk_SFraction a0 1)) (oSl hsr35) (fun b hb => .inl hb)
      clear hsr35 hcr35
      refine ⟨_, rfl, fun a_179 HE180 => hK177 _ _ ?_⟩
      refine pl_x HE180 HH178 (wt0 rfl) (x_assign rfl) rfl rfl fun a_181 HE182 => ?_
      refine wpList_nil ?_
      clear a_170 HE171 a_172 HE173 HH165 a_174 HE175 a_179 HE180 hK177 K_176
      refine nrm ?_
      refine wp_seq ?_
      refine rg ?_
      refine pl_x HE182 HH178 (wt0 rfl) (x_move rfl) rfl rfl fun a_183 HE184 => ?_
      refine pl_x HE184 HH178 (wt0 rfl) (x_move rfl) rfl rfl fun a_185 HE186 => ?_
      refine pl fun K_187 hK188 => ?_
      refine st_call HE186 (wt0 rfl) rfl rfl rfl en_34 rfl rfl (mark_L_c _ _ a1 (1 + (ct_SFraction a0 : Int)) _ _ (so_of_o (HH178.get (i := 3) rfl)) (HH178.lt (i := 3) rfl) (by omega) (by omega)) fun e w' hr => ?_
      obtain ⟨rfl, hsr36, hcr36⟩ := hr
      have HH189 := HH178.mut (i := 3) rfl hcr36 (rSo eInt Sr28 Ar28 cr28 (mk_L a1 (1 + (ct_SFraction a0 : Int)))) (oSl hsr36) (fun b hb => .inl hb)
      clear hsr36 hcr36
      refine ⟨_, rfl, fun a_190 HE191 => hK188 _ _ ?_⟩
      refine pl_x HE191 HH189 (wt0 rfl) (x_assign rfl) rfl rfl fun a_192 HE193 => ?_
      refine wpList_nil ?_
      clear a_181 HE182 a_183 HE184 HH178 a_185 HE186 a_190 HE191 hK188 K_187
      refine nrm ?_
      refine wp_seq ?_
      refine wp_seq ?_
      refine rg ?_
      refine pl_x HE193 HH189 (wt0 rfl) (x_move rfl) rfl rfl fun a_194 HE195 => ?_
      refine pl_x HE195 HH189 (wt0 rfl) (x_lss rfl rfl) rfl rfl fun a_196 HE197 => ?_
      refine pl_x HE197 HH189 (wt0 rfl) (x_move rfl) rfl rfl fun a_198 HE199 => ?_
      by_cases hc37 : ((1 + (ct_SFraction a0 : Int)) + (ct_L a1 : Int)) < 0
      · refine pl_no HE199 (wtF HE199 rfl rfl rfl (decide_eq_true hc37)) rfl rfl fun a_200 HE201 => ?_
        refine pl_no HE201 (wtF HE201 rfl rfl rfl (decide_eq_true hc37)) rfl rfl fun a_202 HE203 => ?_
        refine pl_no HE203 (wtF HE203 rfl rfl rfl (decide_eq_true hc37)) rfl rfl fun a_204 HE205 => ?_
        refine pl_no HE205 (wtF HE205 rfl rfl rfl (decide_eq_true hc37)) rfl rfl fun a_206 HE207 => ?_
        refine pl_x HE207 HH189 (wt0 rfl) (x_pickT rfl (decide_eq_true hc37) rfl) rfl rfl fun a_208 HE209 => ?_
        refine pl_x HE209 HH189 (wt0 rfl) (x_move rfl) rfl rfl fun a_210 HE211 => ?_
        refine pl_no HE211 (wtF HE211 rfl rfl rfl rfl) rfl rfl fun a_212 HE213 => ?_
        refine pl_no HE213 (wtF HE213 rfl rfl rfl rfl) rfl rfl fun a_214 HE215 => ?_
        refine pl_no HE215 (wtF HE215 rfl rfl rfl rfl) rfl rfl fun a_216 HE217 => ?_
        refine pl_x HE217 HH189 (wt0 rfl) (x_pickT rfl rfl rfl) rfl rfl fun a_218 HE219 => ?_
        refine pl_x HE219 HH189 (wt0 rfl) (x_move rfl) rfl rfl fun a_220 HE221 => ?_
        refine pl_no HE221 (wtF HE221 rfl rfl rfl rfl) rfl rfl fun a_222 HE223 => ?_
        refine pl_no HE223 (wtF HE223 rfl rfl rfl rfl) rfl rfl fun a_224 HE225 => ?_
        refine pl_no HE225 (wtF HE225 rfl rfl rfl rfl) rfl rfl fun a_226 HE227 => ?_
        refine pl_x HE227 HH189 (wt0 rfl) (x_pickT rfl rfl rfl) rfl rfl fun a_228 HE229 => ?_
        refine wpList_nil ?_
        clear a_192 HE193 a_194 HE195 a_196 HE197 a_198 HE199 a_200 HE201 a_202 HE203 a_204 HE205 a_206 HE207 a_208 HE209 a_210 HE211 a_212 HE213 a_214 HE215 a_216 HE217 a_218 HE219 a_220 HE221 a_222 HE223 a_224 HE225 a_226 HE227
        refine nrm ?_
        refine cndT HE229 rfl rfl ?_
        refine wp_seq ?_
        refine rg ?_
        refine pl_x HE229 HH189 (wt0 rfl) (x_assign rfl) rfl rfl fun a_230 HE231 => ?_
        refine wpList_nil ?_
        clear a_228 HE229
        refine nrm ?_
        refine wp_ret ?_
        refine (thn_ret ?_)
        refine ret1 HE231 rfl (rv_tmp rfl) ?_
        have hF : true = false := by
          first | rfl | (exfalso; omega)
        exact ⟨by rw [hF] <;> rfl, HH189.below⟩
      · refine pl_x HE199 HH189 (wtT HE199 rfl rfl rfl (decide_eq_false hc37)) (x_move rfl) rfl rfl fun a_232 HE233 => ?_
        refine pl_x HE233 HH189 (wtT HE233 rfl rfl rfl (decide_eq_false hc37)) (x_move rfl) rfl rfl fun a_234 HE235 => ?_
        refine pl fun K_236 hK237 => ?_
        refine st_call HE235 (wtT HE235 rfl rfl rfl (decide_eq_false hc37)) rfl rfl rfl en_26 rfl rfl (eq_L_c _ _ _ _ ((stepFracs a0 a1).1) ((stepFracs a0 a1).1) _ (HH189.sl (i := 2) rfl) (HH189.sl (i := 5) rfl)) fun e w' hr => ?_
        obtain ⟨rfl, hbr38⟩ := hr
        have HH238 := HH189.on hbr38
        clear hbr38
        refine ⟨_, rfl, fun a_239 HE240 => hK237 _ _ ?_⟩
        refine pl_x HE240 HH238 (wtT HE240 rfl rfl rfl (decide_eq_false hc37)) (x_not rfl) rfl rfl fun a_241 HE242 => ?_
        refine pl_x HE242 HH238 (wt0 rfl) (x_pickF rfl (decide_eq_false hc37) rfl) rfl rfl fun a_243 HE244 => ?_
        refine pl_x HE244 HH238 (wt0 rfl) (x_move rfl) rfl rfl fun a_245 HE246 => ?_
        refine pl_x HE246 HH238 (wtT HE246 rfl rfl rfl (not_f (eq_L_refl _))) (x_move rfl) rfl rfl fun a_247 HE248 => ?_
        refine pl_x HE248 HH238 (wtT HE248 rfl rfl rfl (not_f (eq_L_refl _))) (x_move rfl) rfl rfl fun a_249 HE250 => ?_
        refine pl_x HE250 HH238 (wtT HE250 rfl rfl rfl (not_f (eq_L_refl _))) (x_neq rfl rfl) rfl rfl fun a_251 HE252 => ?_
        refine pl_x HE252 HH238 (wt0 rfl) (x_pickF rfl (not_f (eq_L_refl _)) rfl) rfl rfl fun a_253 HE254 => ?_
        refine pl_x HE254 HH238 (wt0 rfl) (x_move rfl) rfl rfl fun a_255 HE256 => ?_
        refine pl_x HE256 HH238 (wtT HE256 rfl rfl rfl (bne_f rfl)) (x_move rfl) rfl rfl fun a_257 HE258 => ?_
        refine pl_x HE258 HH238 (wtT HE258 rfl rfl rfl (bne_f rfl)) (x_move rfl) rfl rfl fun a_259 HE260 => ?_
        refine pl_x HE260 HH238 (wtT HE260 rfl rfl rfl (bne_f rfl)) (x_neq rfl rfl) rfl rfl fun a_261 HE262 => ?_
        refine pl_x HE262 HH238 (wt0 rfl) (x_pickF rfl (bne_f rfl) rfl) rfl rfl fun a_263 HE264 => ?_
        refine wpList_nil ?_
        clear a_192 HE193 a_194 HE195 a_196 HE197 a_198 HE199 a_232 HE233 HH189 a_234 HE235 a_239 HE240 a_241 HE242 a_243 HE244 a_245 HE246 a_247 HE248 a_249 HE250 a_251 HE252 a_253 HE254 a_255 HE256 a_257 HE258 a_259 HE260 a_261 HE262 hK237 K_236
        refine nrm ?_
        refine cndF HE264 rfl (bne_f rfl) ?_
        refine wp_skip ?_
        refine nrm ?_
        refine wp_seq ?_
        refine rg ?_
        refine pl_x HE264 HH238 (wt0 rfl) (x_assign rfl) rfl rfl fun a_265 HE266 => ?_
        refine wpList_nil ?_
        clear a_263 HE264
        refine nrm ?_
        refine wp_seq ?_
        refine rg ?_
        refine pl_x HE266 HH238 (wt0 rfl) (x_move rfl) rfl rfl fun a_267 HE268 => ?_
        refine pl_x HE268 HH238 (wt0 rfl) (x_move rfl) rfl rfl fun a_269 HE270 => ?_
        refine pl fun K_271 hK272 => ?_
        refine st_call HE270 (wt0 rfl) rfl rfl rfl en_34 rfl rfl (mark_L_c _ _ ((stepFracs a0 a1).1) 1 _ _ (so_of_o (HH238.get (i := 2) rfl)) (HH238.lt (i := 2) rfl) (by omega) (by omega)) fun e w' hr => ?_
        obtain ⟨rfl, hsr39, hcr39⟩ := hr
        have HH273 := HH238.mut (i := 2) rfl hcr39 (rSo eInt Sr29 Ar29_0 cr29_0 (mk_L ((stepFracs a0 a1).1) 1)) (oSl hsr39) (fun b hb => .inl hb)
        clear hsr39 hcr39
        refine ⟨_, rfl, fun a_274 HE275 => hK272 _ _ ?_⟩
        refine pl_x HE275 HH273 (wt0 rfl) (x_assign rfl) rfl rfl fun a_276 HE277 => ?_
        refine wpList_nil ?_
        clear a_265 HE266 a_267 HE268 HH238 a_269 HE270 a_274 HE275 hK272 K_271
        refine nrm ?_
        refine wp_seq ?_
        refine rg ?_
        refine pl_x HE277 HH273 (wt0 rfl) (x_assign rfl) rfl rfl fun a_278 HE279 => ?_
        refine wpList_nil ?_
        clear a_276 HE277
        refine nrm ?_
        refine wp_seq ?_
        refine rg ?_
        refine pl_x HE279 HH273 (wt0 rfl) (x_move rfl) rfl rfl fun a_280 HE281 => ?_
        refine pl_x HE281 HH273 (wt0 rfl) (x_move rfl) rfl rfl fun a_282 HE283 => ?_
        refine pl fun K_284 hK285 => ?_
        refine st_call HE283 (wt0 rfl) rfl rfl rfl en_46 rfl rfl (held_L_c _ _ ((stepFracs a0 a1).1) 1 _ (HH273.sl (i := 2) rfl) (by omega) (by omega)) fun e w' hr => ?_
        obtain ⟨rfl, hbr40⟩ := hr
        have HH286 := HH273.on hbr40
        clear hbr40
        refine ⟨_, rfl, fun a_287 HE288 => hK285 _ _ ?_⟩
        refine pl_x HE288 HH286 (wt0 rfl) (x_assign rfl) rfl rfl fun a_289 HE290 => ?_
        refine wpList_nil ?_
        clear a_278 HE279 a_280 HE281 HH273 a_282 HE283 a_287 HE288 hK285 K_284
        refine nrm ?_
        refine wp_seq ?_
        refine wp_seq ?_
        refine rg ?_
        refine pl_x HE290 HH286 (wt0 rfl) (x_move rfl) rfl rfl fun a_291 HE292 => ?_
        refine pl_x HE292 HH286 (wt0 rfl) (x_lss rfl rfl) rfl rfl fun a_293 HE294 => ?_
        refine wpList_nil ?_
        clear a_289 HE290 a_291 HE292
        refine nrm ?_
        refine cnd_d HE294 rfl (fun hc41 => ?_) (fun hc41 => ?_)
        · refine wp_seq ?_
          refine rg ?_
          refine pl_x HE294 HH286 (wt0 rfl) (x_assign rfl) rfl rfl fun a_295 HE296 => ?_
          refine wpList_nil ?_
          clear a_293 HE294
          refine nrm ?_
          refine wp_ret ?_
          refine (thn_ret ?_)
          refine ret1 HE296 rfl (rv_tmp rfl) ?_
          have hF : true = false := by
            first | rfl | (exfalso; omega)
          exact ⟨by rw [hF] <;> rfl, HH286.below⟩
        · refine wp_skip ?_
          refine nrm ?_
          refine wp_seq ?_
          refine wp_seq ?_
          refine rg ?_
          refine pl_x HE294 HH286 (wt0 rfl) (x_move rfl) rfl rfl fun a_297 HE298 => ?_
          refine pl_x HE298 HH286 (wt0 rfl) (x_move rfl) rfl rfl fun a_299 HE300 => ?_
          refine pl_x HE300 HH286 (wt0 rfl) (x_neq rfl rfl) rfl rfl fun a_301 HE302 => ?_
          refine wpList_nil ?_
          clear a_293 HE294 a_297 HE298 a_299 HE300
          refine nrm ?_
          refine cndF HE302 rfl (bne_f rfl) ?_
          refine wp_skip ?_
          refine nrm ?_
          refine wp_seq ?_
          refine rg ?_
          refine pl_x HE302 HH286 (wt0 rfl) (x_move rfl) rfl rfl fun a_303 HE304 => ?_
          refine pl fun K_305 hK306 => ?_
          refine st_call HE304 (wt0 rfl) rfl rfl rfl en_49 rfl rfl (to_FractionS _ _ a0 _ (HH286.old h0) (by omega)) fun e w' hr => ?_
          obtain ⟨Ar42, cr42, rfl, hor42, hbr42⟩ := hr
          obtain ⟨Sr42, HH307⟩ := HH286.newS hbr42 hor42
          clear hbr42 hor42
          refine ⟨_, rfl, fun a_308 HE309 => hK306 _ _ ?_⟩
          refine pl_x HE309 HH307 (wt0 rfl) (x_move rfl) rfl rfl fun a_310 HE311 => ?_
          refine pl fun K_312 hK313 => ?_
          refine st_call HE311 (wt0 rfl) rfl rfl rfl en_23 rfl rfl (to_Int64S _ _ a1 _ (HH307.old h1) (by omega)) fun e w' hr => ?_
          obtain ⟨Ar43, cr43, rfl, hor43, hbr43⟩ := hr
          obtain ⟨Sr43, HH314⟩ := HH307.newS hbr43 hor43
          clear hbr43 hor43
          refine ⟨_, rfl, fun a_315 HE316 => hK313 _ _ ?_⟩
          refine pl fun K_317 hK318 => ?_
          refine st_call HE316 (wt0 rfl) rfl rfl rfl en_50 rfl rfl (impl_StepFractions _ _ a0 _ _ a1 _ (HH314.sl (i := 1) rfl) (HH314.sl (i := 0) rfl)) fun e w' hr => ?_
          obtain ⟨Ar44_0, cr44_0, rfl, hor44_0, hbr44⟩ := hr
          obtain ⟨Sr44, HH319⟩ := HH314.newS hbr44 hor44_0
          refine ⟨_, rfl, fun a_320 HE321 => hK318 _ _ ?_⟩
          refine pl_x HE321 HH319 (wt0 rfl) (x_move rfl) rfl rfl fun a_322 HE323 => ?_
          refine pl_x HE323 HH319 (wt0 rfl) (x_extract rfl rfl) rfl rfl fun a_324 HE325 => ?_
          refine pl_x HE325 HH319 (wt0 rfl) (x_extract rfl rfl) rfl rfl fun a_326 HE327 => ?_
          refine pl_x HE327 HH319 (wt0 rfl) (x_extract rfl rfl) rfl rfl fun a_328 HE329 => ?_
          refine pl_x HE329 HH319 (wt0 rfl) (x_assign rfl) rfl rfl fun a_330 HE331 => ?_
          refine pl_x HE331 HH319 (wt0 rfl) (x_assign rfl) rfl rfl fun a_332 HE333 => ?_
          refine pl_x HE333 HH319 (wt0 rfl) (x_assign rfl) rfl rfl fun a_334 HE335 => ?_
          refine wpList_nil ?_
          clear a_301 HE302 HH286 a_303 HE304 a_308 HE309 K_305 hK306 HH307 a_310 HE311 K_312 hK313 HH314 a_315 HE316 a_320 HE321 a_322 HE323 a_324 HE325 a_326 HE327 a_328 HE329 a_330 HE331 a_332 HE333 hK318 K_317
          refine nrm ?_
          refine wp_seq ?_
          refine wp_seq ?_
          refine rg ?_
          refine pl_x HE335 HH319 (wt0 rfl) (x_move rfl) rfl rfl fun a_336 HE337 => ?_
          refine pl_x HE337 HH319 (wt0 rfl) (x_move rfl) rfl rfl fun a_338 HE339 => ?_
          refine pl fun K_340 hK341 => ?_
          refine st_call HE339 (wt0 rfl) rfl rfl rfl en_26 rfl rfl (eq_L_c _ _ _ _ ((stepFracs a0 a1).1) ((stepFracs a0 a1).1) _ (HH319.sl (i := 0) rfl) (HH319.sl (i := 8) rfl)) fun e w' hr => ?_
          obtain ⟨rfl, hbr45⟩ := hr
          have HH342 := HH319.on hbr45
          clear hbr45
          refine ⟨_, rfl, fun a_343 HE344 => hK341 _ _ ?_⟩
          refine pl_x HE344 HH342 (wt0 rfl) (x_not rfl) rfl rfl fun a_345 HE346 => ?_
          refine pl_x HE346 HH342 (wt0 rfl) (x_move rfl) rfl rfl fun a_347 HE348 => ?_
          refine pl_x HE348 HH342 (wtT HE348 rfl rfl rfl (not_f (eq_L_refl _))) (x_move rfl) rfl rfl fun a_349 HE350 => ?_
          refine pl_x HE350 HH342 (wtT HE350 rfl rfl rfl (not_f (eq_L_refl _))) (x_move rfl) rfl rfl fun a_351 HE352 => ?_
          refine pl_x HE352 HH342 (wtT HE352 rfl rfl rfl (not_f (eq_L_refl _))) (x_neq rfl rfl) rfl rfl fun a_353 HE354 => ?_
          refine pl_x HE354 HH342 (wt0 rfl) (x_pickF rfl (not_f (eq_L_refl _)) rfl) rfl rfl fun a_355 HE356 => ?_
          refine pl_x HE356 HH342 (wt0 rfl) (x_move rfl) rfl rfl fun a_357 HE358 => ?_
          refine pl_x HE358 HH342 (wtT HE358 rfl rfl rfl (bne_f rfl)) (x_move rfl) rfl rfl fun a_359 HE360 => ?_
          refine pl_x HE360 HH342 (wtT HE360 rfl rfl rfl (bne_f rfl)) (x_move rfl) rfl rfl fun a_361 HE362 => ?_
          refine pl_x HE362 HH342 (wtT HE362 rfl rfl rfl (bne_f rfl)) (x_neq rfl rfl) rfl rfl fun a_363 HE364 => ?_
          refine pl_x HE364 HH342 (wt0 rfl) (x_pickF rfl (bne_f rfl) rfl) rfl rfl fun a_365 HE366 => ?_
          refine wpList_nil ?_
          clear a_334 HE335 a_336 HE337 HH319 a_338 HE339 a_343 HE344 a_345 HE346 a_347 HE348 a_349 HE350 a_351 HE352 a_353 HE354 a_355 HE356 a_357 HE358 a_359 HE360 a_361 HE362 a_363 HE364 hK341 K_340
          refine nrm ?_
          refine cndF HE366 rfl (bne_f rfl) ?_
          refine wp_skip ?_
          refine nrm ?_
          refine wp_seq ?_
          refine rg ?_
          refine pl_x HE366 HH342 (wt0 rfl) (x_assign rfl) rfl rfl fun a_367 HE368 => ?_
          refine wpList_nil ?_
          clear a_365 HE366
          refine nrm ?_
          refine wp_seq ?_
          refine rg ?_
          refine pl_x HE368 HH342 (wt0 rfl) (x_move rfl) rfl rfl fun a_369 HE370 => ?_
          refine pl_x HE370 HH342 (wt0 rfl) (x_move rfl) rfl rfl fun a_371 HE372 => ?_
          refine pl fun K_373 hK374 => ?_
          refine st_call HE372 (wt0 rfl) rfl rfl rfl en_46 rfl rfl (held_L_c _ _ ((stepFracs a0 a1).1) 1 _ (HH342.sl (i := 5) rfl) (by omega) (by omega)) fun e w' hr => ?_
          obtain ⟨rfl, hbr46⟩ := hr
          have HH375 := HH342.on hbr46
          clear hbr46
          refine ⟨_, rfl, fun a_376 HE377 => hK374 _ _ ?_⟩
          refine pl_x HE377 HH375 (wt0 rfl) (x_assign rfl) rfl rfl fun a_378 HE379 => ?_
          refine wpList_nil ?_
          clear a_367 HE368 a_369 HE370 HH342 a_371 HE372 a_376 HE377 hK374 K_373
          refine nrm ?_
          refine wp_seq ?_
          refine wp_seq ?_
          refine rg ?_
          refine pl_x HE379 HH375 (wt0 rfl) (x_move rfl) rfl rfl fun a_380 HE381 => ?_
          refine pl_x HE381 HH375 (wt0 rfl) (x_lss rfl rfl) rfl rfl fun a_382 HE383 => ?_
          refine wpList_nil ?_
          clear a_378 HE379 a_380 HE381
          refine nrm ?_
          refine cndF HE383 rfl (decide_eq_false hc41) ?_
          refine wp_skip ?_
          refine nrm ?_
          refine wp_seq ?_
          refine wp_seq ?_
          refine rg ?_
          refine pl_x HE383 HH375 (wt0 rfl) (x_move rfl) rfl rfl fun a_384 HE385 => ?_
          refine pl_x HE385 HH375 (wt0 rfl) (x_move rfl) rfl rfl fun a_386 HE387 => ?_
          refine pl_x HE387 HH375 (wt0 rfl) (x_neq rfl rfl) rfl rfl fun a_388 HE389 => ?_
          refine wpList_nil ?_
          clear a_382 HE383 a_384 HE385 a_386 HE387
          refine nrm ?_
          refine cndF HE389 rfl (bne_f rfl) ?_
          refine wp_skip ?_
          refine nrm ?_
          refine wp_seq ?_
          refine rg ?_
          refine pl_x HE389 HH375 (wt0 rfl) (x_assign rfl) rfl rfl fun a_390 HE391 => ?_
          refine wpList_nil ?_
          clear a_388 HE389
          refine nrm ?_
          refine wp_ret ?_
          refine ret1 HE391 rfl (rv_tmp rfl) ?_
          have hF : true = true := by
            first | rfl | (exfalso; omega)
          exact ⟨by rw [hF] <;> rfl, HH375.below⟩

end Go.Proofs.Ytfcajgbehecfbaa
