/- What the proof of FnExactRunFractions needs: contracts of the functions that it reaches, each once. -/
import Derived.Test.YtfcajgbehecfbaaProg
import Derived.Test.YtfcajgbehecfbaaQMem
import Derived.Test.YtfcajgbehecfbaaQOpen
import Derived.Test.YtfcajgbehecfbaaLRunFractionsa
import Derived.WalkKit
import Derived.WalkSpells
import Derived.Below
import Derived.LoopTactic
import Derived.Outline
import Derived.Deep.QuietTactic
import Derived.BigQuiet
import Derived.Deep.LoopGhost
import Derived.Handy
import Derived.Lib.Hide
import Derived.Shelf.Abstract
import Derived.StillTailTactics
import Derived.OwnWalk
import Derived.Maps.AppendAt
import Derived.RegionTactic
import Derived.Deep.RegionHeld3
import Derived.IntWalk
import Derived.Deep.Upon
import Derived.Laws.OwnMore
import Derived.Maps.AppendAt
import Derived.Lib.SliceRun
import Derived.Lib.AppendZeros
namespace Go.Proofs.Ytfcajgbehecfbaa
open Go.RowKit

set_option maxRecDepth 100000 in
set_option maxHeartbeats 4000000 in
theorem impl_multiply (A0 : Option Addr) (c0 : Nat) (a0 : (List Int)) (A1 : Option Addr) (c1 : Nat) (a1 : (List Int)) (w : World) (h0 : Sl eInt w (Old w) A0 c0 a0) (h1 : Sl eInt w (Old w) A1 c1 a1) (s0 : limbs a0) (s1 : limbs a1) (s2 : a0.length ≤ 1000000000) (s3 : a1.length ≤ 1000000000) :
    Calls Try.prog 166 #[.slice A0 a0.length c0, .slice A1 a1.length c1] w fun e w' => ∃ (A0' : Option Addr) (c0' : Nat), e = .returned (.slice A0' (mulN a0 a1).length c0') ∧ So eInt w' (Fr w w') A0' c0' (mulN a0 a1) ∧ Below w.heap.size w w' := by
  have l0 := h0.len
  have l1 := h1.len
  have HH1 := Held.start Nob w
  refine enter (n := 65) Try.func166 rfl rfl rfl fun a_2 HE3 => ?_
  refine wp_seq ?_
  refine rg ?_
  refine pl_x HE3 HH1 (wt0 rfl) (x_assign rfl) rfl rfl fun a_4 HE5 => ?_
  refine wpList_nil ?_
  clear a_2 HE3
  refine nrm ?_
  refine wp_seq ?_
  refine rg ?_
  refine pl_x HE5 HH1 (wt0 rfl) (x_move rfl) rfl rfl fun a_6 HE7 => ?_
  refine pl_x HE7 HH1 (wt0 rfl) (x_len Try.underlying31 rfl) rfl rfl fun a_8 HE9 => ?_
  refine pl_x HE9 HH1 (wt0 rfl) (x_move rfl) rfl rfl fun a_10 HE11 => ?_
  refine pl_x HE11 HH1 (wt0 rfl) (x_len Try.underlying31 rfl) rfl rfl fun a_12 HE13 => ?_
  refine pl_x HE13 HH1 (wt0 rfl) (x_add rfl rfl (by exact ⟨by omega, by omega⟩)) rfl rfl fun a_14 HE15 => ?_
  refine pl fun K_16 hK17 => ?_
  refine st_make (E := eInt) (x := (0 : Int)) (k := (a0.length + a1.length)) HE15 HH1 ts_31 tv_2 rfl (fun _ => oI ⟨by omega, by omega⟩) rfl rfl (by omega) (by omega) (by omega) (by omega) (wt0 rfl) rfl fun q21 a_18 w' HE19 HH20 => hK17 _ _ ?_
  have hlq21 : (List.replicate (a0.length + a1.length) (0 : Int)).length = (a0.length + a1.length) := List.length_replicate
  refine pl_x HE19 HH20 (wt0 rfl) (x_assign rfl) rfl rfl fun a_21 HE22 => ?_
  refine wpList_nil ?_
  clear a_4 HE5 a_6 HE7 a_8 HE9 a_10 HE11 a_12 HE13 a_14 HE15 HH1 a_18 HE19 hK17 K_16
  refine nrm ?_
  refine wp_seq ?_
  refine wp_seq ?_
  refine rg ?_
  refine pl_x HE22 HH20 (wt0 rfl) (x_move rfl) rfl rfl fun a_23 HE24 => ?_
  refine pl_x HE24 HH20 (wt0 rfl) (x_len Try.underlying31 rfl) rfl rfl fun a_25 HE26 => ?_
  refine pl_x HE26 HH20 (wt0 rfl) (x_move rfl) rfl rfl fun a_27 HE28 => ?_
  refine wpList_nil ?_
  clear a_21 HE22 a_23 HE24 a_25 HE26
  refine nrm ?_
  refine wp_block ?_
  refine lp (fun m a w' => ∃ (i : Nat) (o : List Int), m = a0.length - i ∧ Env 65 [(18, .int .i64 (i : Int)), (1, .slice A1 (a1.length) c1), (5, .slice (some ⟨q21, 0, none⟩) ((List.replicate (a0.length + a1.length) (0 : Int)).length) (a0.length + a1.length)), (16, .slice A0 (a0.length) c0), (17, .int .i64 ((a0.length : Int)))] a ∧ Held Nob w [rSo eInt (fun b => b = q21) (some ⟨q21, 0, none⟩) (a0.length + a1.length) o] w' ∧ (i ≤ a0.length) ∧ (o.length = a0.length + a1.length) ∧ (limbs o) ∧ (val o = val (a0.take i) * val a1)) (a0.length - (0)) ?_ ?_
  · have E22 : (List.replicate (a0.length + a1.length) 0) = (List.replicate (a0.length + a1.length) (0 : Int)) := by
      first | rfl | simp
    exact ⟨0, List.replicate (a0.length + a1.length) 0, rfl, HE28.sub ⟨(lkI rfl (by first | rfl | omega | (simp []; done))), rfl, rfl, rfl, rfl, trivial⟩, ((HH20.sel [0] (by decide) rfl).to (by first | rfl | (rw [E22]; done) | (rw [E22]; rfl) | (simp only [E22]; done) | (simp only [E22]; rfl))), (by first | omega | assumption | (simp; done) | simp_all), (by simp), (by exact limbs_rep _), (by rw [val_rep]; simp [val])⟩
  · rintro m a_29 w' ⟨i, o, rfl, HE30, HH31, p23_0, p23_1, p23_2, p23_3⟩
    refine wp_seq ?_
    refine rg ?_
    refine pl_x HE30 HH31 (wt0 rfl) (x_lss rfl rfl) rfl rfl fun a_32 HE33 => ?_
    refine wpList_nil ?_
    clear a_27 HE28 HH20 a_29 HE30
    refine nrm ?_
    refine wp_seq ?_
    refine cnd_d HE33 rfl (fun hc24 => ?_) (fun hc24 => ?_)
    · refine wp_skip ?_
      refine nrm ?_
      refine wp_seq ?_
      refine wp_block ?_
      refine wp_seq ?_
      refine rg ?_
      refine pl_x HE33 HH31 (wt0 rfl) (x_move rfl) rfl rfl fun a_34 HE35 => ?_
      have ke25 : i < a0.length := by omega
      obtain ⟨be25, fe25, ese25, Ae25, Re25, De25⟩ := el_old h0 ke25
      obtain ⟨e25, xe25⟩ : ∃ x, x = a0[i] := ⟨_, rfl⟩
      rw [← xe25] at Re25
      have Qe25 := Re25
      obtain ⟨rfl, ie25⟩ := Re25
      have je25 := ie25; unfold I64 at je25
      have be25 := s0 e25 (by rw [xe25]; exact List.getElem_mem _)
      have hx0 : a0[i]?.getD 0 = e25 := by rw [List.getElem?_eq_getElem ke25, xe25]; rfl
      have hm0 : ∀ y, 0 ≤ y ∧ y ≤ 999999 → 0 ≤ e25 * y ∧ e25 * y ≤ 999998000001 := fun y hy => mul_b6 be25 hy
      refine pl_x HE35 HH31 (wt0 rfl) (x_indexAddr ts_31 rfl rfl Ae25 rfl ke25) rfl rfl fun a_36 HE37 => ?_
      refine pl_x HE37 HH31 (wt0 rfl) (x_load1 tv_2 rfl (c_old (De25 0 _ rfl))) rfl rfl fun a_38 HE39 => ?_
      refine pl_x HE39 HH31 (wt0 rfl) (x_assign rfl) rfl rfl fun a_40 HE41 => ?_
      refine pl_x HE41 HH31 (wt0 rfl) (x_assign rfl) rfl rfl fun a_42 HE43 => ?_
      refine wpList_nil ?_
      clear a_32 HE33 a_34 HE35 a_36 HE37 a_38 HE39 a_40 HE41
      refine nrm ?_
      refine wp_seq ?_
      refine rg ?_
      refine pl_x HE43 HH31 (wt0 rfl) (x_assign rfl) rfl rfl fun a_44 HE45 => ?_
      refine wpList_nil ?_
      clear a_42 HE43
      refine nrm ?_
      refine wp_seq ?_
      refine rg ?_
      refine pl_x HE45 HH31 (wt0 rfl) (x_assign rfl) rfl rfl fun a_46 HE47 => ?_
      refine wpList_nil ?_
      clear a_44 HE45
      refine nrm ?_
      refine wp_block ?_
      refine lp (fun m a w' => ∃ (k : Nat) (u : List Int) (c : Int), m = (a0.length + a1.length) - (i + k) ∧ Env 65 [(8, .int .i64 c), (9, .int .i64 (k : Int)), (1, .slice A1 (a1.length) c1), (5, .slice (some ⟨q21, 0, none⟩) ((List.replicate (a0.length + a1.length) (0 : Int)).length) (a0.length + a1.length)), (6, .int .i64 ((i : Int))), (7, .int .i64 (e25)), (16, .slice A0 (a0.length) c0), (17, .int .i64 ((a0.length : Int))), (18, .int .i64 ((i : Int)))] a ∧ Held Nob w [rSo eInt (fun b => b = q21) (some ⟨q21, 0, none⟩) (a0.length + a1.length) u] w' ∧ (u.length = a0.length + a1.length) ∧ (limbs u) ∧ (0 ≤ c ∧ c ≤ 999999) ∧ (val u + c * 1000000 ^ (i + k) = val (a0.take i) * val a1 + a0[i]?.getD 0 * val (a1.take k) * 1000000 ^ i) ∧ (i + k ≤ a0.length + a1.length)) ((a0.length + a1.length) - (i + (0))) ?_ ?_
      · exact ⟨0, o, 0, rfl, HE47.sub ⟨rfl, (lkI rfl (by first | rfl | omega | (simp [p23_0, p23_1, p23_2, p23_3, hc24, xe25]; done))), rfl, rfl, rfl, rfl, rfl, rfl, rfl, trivial⟩, (HH31.sel [0] (by decide) rfl), (by exact p23_1), (by exact p23_2), (by first | omega | assumption | (simp; done) | simp_all), (by rw [p23_3]; simp [val]), (by first | omega | assumption | (simp; done) | simp_all)⟩
      · rintro m a_48 w' ⟨k, u, c, rfl, HE49, HH50, p26_0, p26_1, p26_2, p26_3, p26_4⟩
        refine wp_seq ?_
        refine wp_seq ?_
        refine rg ?_
        refine pl_x HE49 HH50 (wt0 rfl) (x_move rfl) rfl rfl fun a_51 HE52 => ?_
        refine pl_x HE52 HH50 (wt0 rfl) (x_move rfl) rfl rfl fun a_53 HE54 => ?_
        refine pl_x HE54 HH50 (wt0 rfl) (x_len Try.underlying31 rfl) rfl rfl fun a_55 HE56 => ?_
        refine pl_x HE56 HH50 (wt0 rfl) (x_lss rfl rfl) rfl rfl fun a_57 HE58 => ?_
        refine pl_x HE58 HH50 (wt0 rfl) (x_move rfl) rfl rfl fun a_59 HE60 => ?_
        by_cases hc27 : (k : Int) < (a1.length : Int)
        · refine pl_no HE60 (wtF HE60 rfl rfl rfl (decide_eq_true hc27)) rfl rfl fun a_61 HE62 => ?_
          refine pl_no HE62 (wtF HE62 rfl rfl rfl (decide_eq_true hc27)) rfl rfl fun a_63 HE64 => ?_
          refine pl_x HE64 HH50 (wt0 rfl) (x_pickT rfl (decide_eq_true hc27) rfl) rfl rfl fun a_65 HE66 => ?_
          refine wpList_nil ?_
          clear a_46 HE47 HH31 a_48 HE49 a_51 HE52 a_53 HE54 a_55 HE56 a_57 HE58 a_59 HE60 a_61 HE62 a_63 HE64
          refine nrm ?_
          refine cndT HE66 rfl rfl ?_
          refine wp_skip ?_
          refine nrm ?_
          refine wp_seq ?_
          refine wp_block ?_
          refine wp_seq ?_
          refine rg ?_
          refine pl_x HE66 HH50 (wt0 rfl) (x_move rfl) rfl rfl fun a_67 HE68 => ?_
          refine pl_x HE68 HH50 (wt0 rfl) (x_move rfl) rfl rfl fun a_69 HE70 => ?_
          refine pl_x HE70 HH50 (wt0 rfl) (x_move rfl) rfl rfl fun a_71 HE72 => ?_
          refine pl_x HE72 HH50 (wt0 rfl) (x_move rfl) rfl rfl fun a_73 HE74 => ?_
          refine pl_x HE74 HH50 (wt0 rfl) (x_add rfl rfl (by exact ⟨by omega, by omega⟩)) rfl rfl fun a_75 HE76 => ?_
          have ke28 : (i + k) < (List.replicate (a0.length + a1.length) (0 : Int)).length := by omega
          refine pl_x HE76 HH50 (wt0 rfl) (x_indexAddr ts_31 rfl rfl rfl (by omega) ke28) rfl rfl fun a_77 HE78 => ?_
          obtain ⟨y29, xy29⟩ : ∃ y, y = u[(i + k)]'(by first | exact ke28 | (simp only [List.length_set]; exact ke28) | omega | (simp only [List.length_set]; omega) | (simp; omega)) := ⟨_, rfl⟩
          have iy29 : I64 y29 := by rw [xy29]; exact i_ownI HH50 0 rfl _
          have jy29 := iy29; unfold I64 at jy29
          have by29 := p26_1 y29 (by rw [xy29]; exact List.getElem_mem _)
          refine pl_x HE78 HH50 (wt0 rfl) (x_load1 tv_2 rfl (c_ownV 0 rfl (by first | exact ke28 | (simp only [List.length_set]; exact ke28) | omega | (simp only [List.length_set]; omega) | (simp; omega)) xy29.symm)) rfl rfl fun a_79 HE80 => ?_
          refine pl_x HE80 HH50 (wt0 rfl) (x_add rfl rfl (by exact ⟨by omega, by omega⟩)) rfl rfl fun a_81 HE82 => ?_
          refine pl_x HE82 HH50 (wt0 rfl) (x_assign rfl) rfl rfl fun a_83 HE84 => ?_
          refine wpList_nil ?_
          clear a_65 HE66 a_67 HE68 a_69 HE70 a_71 HE72 a_73 HE74 a_75 HE76 a_77 HE78 a_79 HE80 a_81 HE82
          refine nrm ?_
          refine wp_seq ?_
          refine wp_seq ?_
          refine rg ?_
          refine pl_x HE84 HH50 (wt0 rfl) (x_move rfl) rfl rfl fun a_85 HE86 => ?_
          refine pl_x HE86 HH50 (wt0 rfl) (x_move rfl) rfl rfl fun a_87 HE88 => ?_
          refine pl_x HE88 HH50 (wt0 rfl) (x_len Try.underlying31 rfl) rfl rfl fun a_89 HE90 => ?_
          refine pl_x HE90 HH50 (wt0 rfl) (x_lss rfl rfl) rfl rfl fun a_91 HE92 => ?_
          refine wpList_nil ?_
          clear a_83 HE84 a_85 HE86 a_87 HE88 a_89 HE90
          refine nrm ?_
          refine cndT HE92 rfl (decide_eq_true hc27) ?_
          refine rg ?_
          refine pl_x HE92 HH50 (wt0 rfl) (x_move rfl) rfl rfl fun a_93 HE94 => ?_
          refine pl_x HE94 HH50 (wt0 rfl) (x_move rfl) rfl rfl fun a_95 HE96 => ?_
          refine pl_x HE96 HH50 (wt0 rfl) (x_move rfl) rfl rfl fun a_97 HE98 => ?_
          refine pl_x HE98 HH50 (wt0 rfl) (x_move rfl) rfl rfl fun a_99 HE100 => ?_
          have ke30 : k < a1.length := by omega
          obtain ⟨be30, fe30, ese30, Ae30, Re30, De30⟩ := el_old h1 ke30
          obtain ⟨e30, xe30⟩ : ∃ x, x = a1[k] := ⟨_, rfl⟩
          rw [← xe30] at Re30
          have Qe30 := Re30
          obtain ⟨rfl, ie30⟩ := Re30
          have je30 := ie30; unfold I64 at je30
          have be30 := s1 e30 (by rw [xe30]; exact List.getElem_mem _)
          have me30 := hm0 e30 be30
          refine pl_x HE100 HH50 (wt0 rfl) (x_indexAddr ts_31 rfl rfl Ae30 rfl ke30) rfl rfl fun a_101 HE102 => ?_
          refine pl_x HE102 HH50 (wt0 rfl) (x_load1 tv_2 rfl (c_old (De30 0 _ rfl))) rfl rfl fun a_103 HE104 => ?_
          refine pl_x HE104 HH50 (wt0 rfl) (x_mul rfl rfl (by exact ⟨by omega, by omega⟩)) rfl rfl fun a_105 HE106 => ?_
          refine pl_x HE106 HH50 (wt0 rfl) (x_add rfl rfl (by exact ⟨by omega, by omega⟩)) rfl rfl fun a_107 HE108 => ?_
          refine pl_x HE108 HH50 (wt0 rfl) (x_assign rfl) rfl rfl fun a_109 HE110 => ?_
          refine wpList_nil ?_
          clear a_91 HE92 a_93 HE94 a_95 HE96 a_97 HE98 a_99 HE100 a_101 HE102 a_103 HE104 a_105 HE106 a_107 HE108
          refine nrm ?_
          refine wp_seq ?_
          refine rg ?_
          refine pl_x HE110 HH50 (wt0 rfl) (x_move rfl) rfl rfl fun a_111 HE112 => ?_
          refine pl_x HE112 HH50 (wt0 rfl) (x_move rfl) rfl rfl fun a_113 HE114 => ?_
          refine pl_x HE114 HH50 (wt0 rfl) (x_move rfl) rfl rfl fun a_115 HE116 => ?_
          refine pl_x HE116 HH50 (wt0 rfl) (x_add rfl rfl (by exact ⟨by omega, by omega⟩)) rfl rfl fun a_117 HE118 => ?_
          refine pl_x HE118 HH50 (wt0 rfl) (x_move rfl) rfl rfl fun a_119 HE120 => ?_
          refine pl_x HE120 HH50 (wt0 rfl) (x_rem rfl rfl (by omega) (by omega)) rfl rfl fun a_121 HE122 => ?_
          have ke31 : (i + k) < (List.replicate (a0.length + a1.length) (0 : Int)).length := by omega
          refine pl_x HE122 HH50 (wt0 rfl) (x_indexAddr ts_31 rfl rfl rfl (by omega) ke31) rfl rfl fun a_123 HE124 => ?_
          refine pl fun K_125 hK126 => ?_
          refine st_storeI 0 HE124 HH50 tv_2 rfl rfl rfl (by first | exact ke31 | (simp only [List.length_set]; exact ke31) | omega | (simp only [List.length_set]; omega) | (simp; omega)) (by exact ⟨by omega, by omega⟩) (wt0 rfl) fun w' HH127 => hK126 _ _ ?_
          refine wpList_nil ?_
          clear a_109 HE110 a_111 HE112 a_113 HE114 a_115 HE116 a_117 HE118 a_119 HE120 a_121 HE122 HH50 hK126 K_125
          refine nrm ?_
          refine rg ?_
          refine pl_x HE124 HH127 (wt0 rfl) (x_move rfl) rfl rfl fun a_128 HE129 => ?_
          refine pl_x HE129 HH127 (wt0 rfl) (x_quo rfl rfl (by omega) (by omega) (by omega)) rfl rfl fun a_130 HE131 => ?_
          refine pl_x HE131 HH127 (wt0 rfl) (x_assign rfl) rfl rfl fun a_132 HE133 => ?_
          refine wpList_nil ?_
          clear a_123 HE124 a_128 HE129 a_130 HE131
          refine blk_n ?_
          refine nrm ?_
          refine rg ?_
          refine pl_x HE133 HH127 (wt0 rfl) (x_move rfl) rfl rfl fun a_134 HE135 => ?_
          refine pl_x HE135 HH127 (wt0 rfl) (x_add rfl rfl (by exact ⟨by omega, by omega⟩)) rfl rfl fun a_136 HE137 => ?_
          refine pl_x HE137 HH127 (wt0 rfl) (x_assign rfl) rfl rfl fun a_138 HE139 => ?_
          refine wpList_nil ?_
          clear a_132 HE133 a_134 HE135 a_136 HE137
          have E32 : ((u.set (i + k) (((c + y29) + (e25 * e30)) % 1000000))) = (u.set (i + k) (((c + y29) + (e25 * e30)) % 1000000)) := by
            first | rfl | simp
          exact nrm ⟨(a0.length + a1.length) - (i + (k + 1)), (by omega), k + 1, (u.set (i + k) (((c + y29) + (e25 * e30)) % 1000000)), (((c + y29) + (e25 * e30)) / 1000000), rfl, HE139.sub ⟨rfl, (lkI rfl (by first | rfl | omega | (simp [p23_0, p23_1, p23_2, p23_3, hc24, xe25, p26_0, p26_1, p26_2, p26_3, p26_4, hc27, xy29, xe30]; done))), rfl, rfl, rfl, rfl, rfl, rfl, rfl, trivial⟩, ((HH127.sel [0] (by decide) rfl).to (by first | rfl | (rw [E32]; done) | (rw [E32]; rfl) | (simp only [E32]; done) | (simp only [E32]; rfl))), (by rw [List.length_set]; exact p26_0), (by exact limbs_set p26_1 (by omega)), (by omega), (by first | exact mul_round1 (by omega) (by omega) p26_3 (by rw [hx0, ← xe30, ← xy29]; omega) | exact mul_round0 (by omega) (by omega) p26_3 (by rw [← xy29]; omega)), (by omega)⟩
        · refine pl_x HE60 HH50 (wtT HE60 rfl rfl rfl (decide_eq_false hc27)) (x_move rfl) rfl rfl fun a_140 HE141 => ?_
          refine pl_x HE141 HH50 (wtT HE141 rfl rfl rfl (decide_eq_false hc27)) (x_gtr rfl rfl) rfl rfl fun a_142 HE143 => ?_
          refine pl_x HE143 HH50 (wt0 rfl) (x_pickF rfl (decide_eq_false hc27) rfl) rfl rfl fun a_144 HE145 => ?_
          refine wpList_nil ?_
          clear a_46 HE47 HH31 a_48 HE49 a_51 HE52 a_53 HE54 a_55 HE56 a_57 HE58 a_59 HE60 a_140 HE141 a_142 HE143
          refine nrm ?_
          refine cnd_d HE145 rfl (fun hc33 => ?_) (fun hc33 => ?_)
          · have hroom := mul_room (N := a0.length + a1.length) s0 s1 p26_1 (by omega) p26_3 (by omega) hc33 (by omega)
            refine wp_skip ?_
            refine nrm ?_
            refine wp_seq ?_
            refine wp_block ?_
            refine wp_seq ?_
            refine rg ?_
            refine pl_x HE145 HH50 (wt0 rfl) (x_move rfl) rfl rfl fun a_146 HE147 => ?_
            refine pl_x HE147 HH50 (wt0 rfl) (x_move rfl) rfl rfl fun a_148 HE149 => ?_
            refine pl_x HE149 HH50 (wt0 rfl) (x_move rfl) rfl rfl fun a_150 HE151 => ?_
            refine pl_x HE151 HH50 (wt0 rfl) (x_move rfl) rfl rfl fun a_152 HE153 => ?_
            refine pl_x HE153 HH50 (wt0 rfl) (x_add rfl rfl (by exact ⟨by omega, by omega⟩)) rfl rfl fun a_154 HE155 => ?_
            have ke34 : (i + k) < (List.replicate (a0.length + a1.length) (0 : Int)).length := by omega
            refine pl_x HE155 HH50 (wt0 rfl) (x_indexAddr ts_31 rfl rfl rfl (by omega) ke34) rfl rfl fun a_156 HE157 => ?_
            obtain ⟨y35, xy35⟩ : ∃ y, y = u[(i + k)]'(by first | exact ke34 | (simp only [List.length_set]; exact ke34) | omega | (simp only [List.length_set]; omega) | (simp; omega)) := ⟨_, rfl⟩
            have iy35 : I64 y35 := by rw [xy35]; exact i_ownI HH50 0 rfl _
            have jy35 := iy35; unfold I64 at jy35
            have by35 := p26_1 y35 (by rw [xy35]; exact List.getElem_mem _)
            refine pl_x HE157 HH50 (wt0 rfl) (x_load1 tv_2 rfl (c_ownV 0 rfl (by first | exact ke34 | (simp only [List.length_set]; exact ke34) | omega | (simp only [List.length_set]; omega) | (simp; omega)) xy35.symm)) rfl rfl fun a_158 HE159 => ?_
            refine pl_x HE159 HH50 (wt0 rfl) (x_add rfl rfl (by exact ⟨by omega, by omega⟩)) rfl rfl fun a_160 HE161 => ?_
            refine pl_x HE161 HH50 (wt0 rfl) (x_assign rfl) rfl rfl fun a_162 HE163 => ?_
            refine wpList_nil ?_
            clear a_144 HE145 a_146 HE147 a_148 HE149 a_150 HE151 a_152 HE153 a_154 HE155 a_156 HE157 a_158 HE159 a_160 HE161
            refine nrm ?_
            refine wp_seq ?_
            refine wp_seq ?_
            refine rg ?_
            refine pl_x HE163 HH50 (wt0 rfl) (x_move rfl) rfl rfl fun a_164 HE165 => ?_
            refine pl_x HE165 HH50 (wt0 rfl) (x_move rfl) rfl rfl fun a_166 HE167 => ?_
            refine pl_x HE167 HH50 (wt0 rfl) (x_len Try.underlying31 rfl) rfl rfl fun a_168 HE169 => ?_
            refine pl_x HE169 HH50 (wt0 rfl) (x_lss rfl rfl) rfl rfl fun a_170 HE171 => ?_
            refine wpList_nil ?_
            clear a_162 HE163 a_164 HE165 a_166 HE167 a_168 HE169
            refine nrm ?_
            refine cndF HE171 rfl (decide_eq_false hc27) ?_
            refine wp_skip ?_
            refine nrm ?_
            refine wp_seq ?_
            refine rg ?_
            refine pl_x HE171 HH50 (wt0 rfl) (x_move rfl) rfl rfl fun a_172 HE173 => ?_
            refine pl_x HE173 HH50 (wt0 rfl) (x_move rfl) rfl rfl fun a_174 HE175 => ?_
            refine pl_x HE175 HH50 (wt0 rfl) (x_move rfl) rfl rfl fun a_176 HE177 => ?_
            refine pl_x HE177 HH50 (wt0 rfl) (x_add rfl rfl (by exact ⟨by omega, by omega⟩)) rfl rfl fun a_178 HE179 => ?_
            refine pl_x HE179 HH50 (wt0 rfl) (x_move rfl) rfl rfl fun a_180 HE181 => ?_
            refine pl_x HE181 HH50 (wt0 rfl) (x_rem rfl rfl (by omega) (by omega)) rfl rfl fun a_182 HE183 => ?_
            have ke36 : (i + k) < (List.replicate (a0.length + a1.length) (0 : Int)).length := by omega
            refine pl_x HE183 HH50 (wt0 rfl) (x_indexAddr ts_31 rfl rfl rfl (by omega) ke36) rfl rfl fun a_184 HE185 => ?_
            refine pl fun K_186 hK187 => ?_
            refine st_storeI 0 HE185 HH50 tv_2 rfl rfl rfl (by first | exact ke36 | (simp only [List.length_set]; exact ke36) | omega | (simp only [List.length_set]; omega) | (simp; omega)) (by exact ⟨by omega, by omega⟩) (wt0 rfl) fun w' HH188 => hK187 _ _ ?_
            refine wpList_nil ?_
            clear a_170 HE171 a_172 HE173 a_174 HE175 a_176 HE177 a_178 HE179 a_180 HE181 a_182 HE183 HH50 hK187 K_186
            refine nrm ?_
            refine rg ?_
            refine pl_x HE185 HH188 (wt0 rfl) (x_move rfl) rfl rfl fun a_189 HE190 => ?_
            refine pl_x HE190 HH188 (wt0 rfl) (x_quo rfl rfl (by omega) (by omega) (by omega)) rfl rfl fun a_191 HE192 => ?_
            refine pl_x HE192 HH188 (wt0 rfl) (x_assign rfl) rfl rfl fun a_193 HE194 => ?_
            refine wpList_nil ?_
            clear a_184 HE185 a_189 HE190 a_191 HE192
            refine blk_n ?_
            refine nrm ?_
            refine rg ?_
            refine pl_x HE194 HH188 (wt0 rfl) (x_move rfl) rfl rfl fun a_195 HE196 => ?_
            refine pl_x HE196 HH188 (wt0 rfl) (x_add rfl rfl (by exact ⟨by omega, by omega⟩)) rfl rfl fun a_197 HE198 => ?_
            refine pl_x HE198 HH188 (wt0 rfl) (x_assign rfl) rfl rfl fun a_199 HE200 => ?_
            refine wpList_nil ?_
            clear a_193 HE194 a_195 HE196 a_197 HE198
            have E37 : ((u.set (i + k) ((c + y35) % 1000000))) = (u.set (i + k) ((c + y35) % 1000000)) := by
              first | rfl | simp
            exact nrm ⟨(a0.length + a1.length) - (i + (k + 1)), (by omega), k + 1, (u.set (i + k) ((c + y35) % 1000000)), ((c + y35) / 1000000), rfl, HE200.sub ⟨rfl, (lkI rfl (by first | rfl | omega | (simp [p23_0, p23_1, p23_2, p23_3, hc24, xe25, p26_0, p26_1, p26_2, p26_3, p26_4, hc27, hc33, xy35]; done))), rfl, rfl, rfl, rfl, rfl, rfl, rfl, trivial⟩, ((HH188.sel [0] (by decide) rfl).to (by first | rfl | (rw [E37]; done) | (rw [E37]; rfl) | (simp only [E37]; done) | (simp only [E37]; rfl))), (by rw [List.length_set]; exact p26_0), (by exact limbs_set p26_1 (by omega)), (by omega), (by first | exact mul_round1 (by omega) (by omega) p26_3 (by rw [hx0, ← xe25, ← xy35]; omega) | exact mul_round0 (by omega) (by omega) p26_3 (by rw [← xy35]; omega)), (by omega)⟩
          · refine wp_exit ?_
            refine (thn_exit (thn_exit (blk_hit ?_)))
            refine blk_n ?_
            refine nrm ?_
            refine rg ?_
            refine pl_x HE145 HH50 (wt0 rfl) (x_add rfl rfl (by exact ⟨by omega, by omega⟩)) rfl rfl fun a_201 HE202 => ?_
            refine pl_x HE202 HH50 (wt0 rfl) (x_move rfl) rfl rfl fun a_203 HE204 => ?_
            refine wpList_nil ?_
            clear a_144 HE145 a_201 HE202
            exact nrm ⟨a0.length - (i + 1), (by omega), i + 1, u, rfl, HE204.sub ⟨(lkI rfl (by first | rfl | omega | (simp [p23_0, p23_1, p23_2, p23_3, hc24, xe25, p26_0, p26_1, p26_2, p26_3, p26_4, hc27, hc33]; done))), rfl, rfl, rfl, rfl, trivial⟩, (HH50.sel [0] (by decide) rfl), (by first | omega | assumption | (simp; done) | simp_all), (by exact p26_0), (by exact p26_1), (by exact mul_end (by omega) p26_3 (by omega) (by omega))⟩
    · refine wp_exit ?_
      refine (thn_exit (thn_exit (blk_hit ?_)))
      refine nrm ?_
      refine wp_seq ?_
      refine rg ?_
      refine pl_x HE33 HH31 (wt0 rfl) (x_move rfl) rfl rfl fun a_205 HE206 => ?_
      refine pl fun K_207 hK208 => ?_
      have HE209 := HE206.castS (t := 63) (m' := List.length o) rfl (by first | omega | (simp; done) | (simp; omega))
      refine st_call HE209 (wt0 rfl) rfl rfl rfl en_161 rfl rfl (impl_trimmed _ _ o _ (HH31.sl (i := 0) rfl)) fun e w' hr => ?_
      obtain ⟨rfl, ⟨kt38, ht38⟩, rfl⟩ := hr
      have HH210 := HH31.turn (rSo eInt (fun b => b = q21) (some ⟨q21, 0, none⟩) (a0.length + a1.length) (trimZ o)) (fun h => oSl (by rw [ht38]; exact (so_of_o h).take kt38)) (fun _ h => h)
      refine ⟨_, rfl, fun a_211 HE212 => hK208 _ _ ?_⟩
      refine pl_x HE212 HH210 (wt0 rfl) (x_assign rfl) rfl rfl fun a_213 HE214 => ?_
      refine wpList_nil ?_
      clear a_32 HE33 HE206 HH31 a_205 HE209 a_211 HE212 hK208 K_207
      refine nrm ?_
      refine wp_ret ?_
      refine ret1 HE214 rfl (rv_tmp rfl) ?_
      have hF : (mulN a0 a1) = (trimZ o) := by
        exact mulN_of p23_2 (by have := p23_3; rwa [List.take_of_length_le (by omega)] at this)
      exact ⟨(some ⟨q21, 0, none⟩), (a0.length + a1.length), by rw [hF] <;> rfl, by rw [hF]; exact (HH210.so (i := 0) rfl), HH210.below⟩

set_option maxRecDepth 100000 in
set_option maxHeartbeats 4000000 in
theorem spec_l02Mul (A0 : Option Addr) (c0 : Nat) (a0 : (List Int)) (A1 : Option Addr) (c1 : Nat) (a1 : (List Int)) (w : World) (h0 : Sl eInt w (Old w) A0 c0 a0) (h1 : Sl eInt w (Old w) A1 c1 a1) (s0 : limbs a0) (s1 : limbs a1) (s2 : a0.length ≤ 1000000000) (s3 : a1.length ≤ 1000000000) :
    Calls Try.prog 162 #[.slice A0 a0.length c0, .slice A1 a1.length c1] w fun e w' => ∃ (A0' : Option Addr) (c0' : Nat), e = .returned (.slice A0' (mulN a0 a1).length c0') ∧ So eInt w' (Fr w w') A0' c0' (mulN a0 a1) ∧ Below w.heap.size w w' := by
  have l0 := h0.len
  have l1 := h1.len
  have HH1 := Held.start Nob w
  refine enter (n := 67) Try.func162 rfl rfl rfl fun a_2 HE3 => ?_
  refine wp_seq ?_
  refine rg ?_
  refine pl_x HE3 HH1 (wt0 rfl) (x_assign rfl) rfl rfl fun a_4 HE5 => ?_
  refine wpList_nil ?_
  clear a_2 HE3
  refine nrm ?_
  refine wp_seq ?_
  refine rg ?_
  refine pl_x HE5 HH1 (wt0 rfl) (x_move rfl) rfl rfl fun a_6 HE7 => ?_
  refine pl_x HE7 HH1 (wt0 rfl) (x_len Try.underlying31 rfl) rfl rfl fun a_8 HE9 => ?_
  refine pl_x HE9 HH1 (wt0 rfl) (x_move rfl) rfl rfl fun a_10 HE11 => ?_
  refine pl_x HE11 HH1 (wt0 rfl) (x_len Try.underlying31 rfl) rfl rfl fun a_12 HE13 => ?_
  refine pl_x HE13 HH1 (wt0 rfl) (x_add rfl rfl (by exact ⟨by omega, by omega⟩)) rfl rfl fun a_14 HE15 => ?_
  refine pl_x HE15 HH1 (wt0 rfl) (x_add rfl rfl (by exact ⟨by omega, by omega⟩)) rfl rfl fun a_16 HE17 => ?_
  refine pl fun K_18 hK19 => ?_
  refine st_make (E := eInt) (x := (0 : Int)) (k := (((((a0.length : Int) + (a1.length : Int)) + 1)).toNat)) HE17 HH1 ts_31 tv_2 rfl (fun _ => oI ⟨by omega, by omega⟩) rfl rfl (by omega) (by omega) (by omega) (by omega) (wt0 rfl) rfl fun q21 a_20 w' HE21 HH22 => hK19 _ _ ?_
  have hlq21 : (List.replicate (((((a0.length : Int) + (a1.length : Int)) + 1)).toNat) (0 : Int)).length = ((((a0.length : Int) + (a1.length : Int)) + 1)).toNat := List.length_replicate
  refine pl_x HE21 HH22 (wt0 rfl) (x_assign rfl) rfl rfl fun a_23 HE24 => ?_
  refine wpList_nil ?_
  clear a_4 HE5 a_6 HE7 a_8 HE9 a_10 HE11 a_12 HE13 a_14 HE15 a_16 HE17 HH1 a_20 HE21 hK19 K_18
  refine nrm ?_
  refine wp_seq ?_
  refine wp_seq ?_
  refine rg ?_
  refine pl_x HE24 HH22 (wt0 rfl) (x_assign rfl) rfl rfl fun a_25 HE26 => ?_
  refine wpList_nil ?_
  clear a_23 HE24
  refine nrm ?_
  refine wp_block ?_
  refine lp (fun m a w' => ∃ (i : Nat) (o : List Int), m = a0.length - i ∧ Env 67 [(6, .int .i64 (i : Int)), (0, .slice A0 (a0.length) c0), (1, .slice A1 (a1.length) c1), (5, .slice (some ⟨q21, 0, none⟩) ((List.replicate (((((a0.length : Int) + (a1.length : Int)) + 1)).toNat) (0 : Int)).length) (((((a0.length : Int) + (a1.length : Int)) + 1)).toNat))] a ∧ Held Nob w [rSo eInt (fun b => b = q21) (some ⟨q21, 0, none⟩) (((((a0.length : Int) + (a1.length : Int)) + 1)).toNat) o] w' ∧ (i ≤ a0.length) ∧ (o.length = a0.length + a1.length + 1) ∧ (limbs o) ∧ (val o = val (a0.take i) * val a1)) (a0.length - (0)) ?_ ?_
  · have E22 : (List.replicate (a0.length + a1.length + 1) 0) = (List.replicate (((((a0.length : Int) + (a1.length : Int)) + 1)).toNat) (0 : Int)) := by
      first | rfl | simp
    exact ⟨0, List.replicate (a0.length + a1.length + 1) 0, rfl, HE26.sub ⟨(lkI rfl (by first | rfl | omega | (simp []; done))), rfl, rfl, rfl, trivial⟩, ((HH22.sel [0] (by decide) rfl).to (by first | rfl | (rw [E22]; done) | (rw [E22]; rfl) | (simp only [E22]; done) | (simp only [E22]; rfl))), (by first | omega | assumption | (simp; done) | simp_all), (by simp), (by exact limbs_rep _), (by rw [val_rep]; simp [val])⟩
  · rintro m a_27 w' ⟨i, o, rfl, HE28, HH29, p23_0, p23_1, p23_2, p23_3⟩
    refine wp_seq ?_
    refine wp_seq ?_
    refine rg ?_
    refine pl_x HE28 HH29 (wt0 rfl) (x_move rfl) rfl rfl fun a_30 HE31 => ?_
    refine pl_x HE31 HH29 (wt0 rfl) (x_move rfl) rfl rfl fun a_32 HE33 => ?_
    refine pl_x HE33 HH29 (wt0 rfl) (x_len Try.underlying31 rfl) rfl rfl fun a_34 HE35 => ?_
    refine pl_x HE35 HH29 (wt0 rfl) (x_lss rfl rfl) rfl rfl fun a_36 HE37 => ?_
    refine wpList_nil ?_
    clear a_25 HE26 HH22 a_27 HE28 a_30 HE31 a_32 HE33 a_34 HE35
    refine nrm ?_
    refine cnd_d HE37 rfl (fun hc24 => ?_) (fun hc24 => ?_)
    · refine wp_skip ?_
      refine nrm ?_
      refine wp_seq ?_
      refine wp_block ?_
      refine wp_seq ?_
      refine rg ?_
      refine pl_x HE37 HH29 (wt0 rfl) (x_assign rfl) rfl rfl fun a_38 HE39 => ?_
      refine wpList_nil ?_
      clear a_36 HE37
      refine nrm ?_
      refine wp_seq ?_
      refine rg ?_
      refine pl_x HE39 HH29 (wt0 rfl) (x_assign rfl) rfl rfl fun a_40 HE41 => ?_
      refine wpList_nil ?_
      clear a_38 HE39
      refine nrm ?_
      refine wp_block ?_
      refine lp (fun m a w' => ∃ (k : Nat) (u : List Int) (c : Int), m = (a0.length + a1.length + 1) - (i + k) ∧ Env 67 [(7, .int .i64 c), (8, .int .i64 (k : Int)), (0, .slice A0 (a0.length) c0), (1, .slice A1 (a1.length) c1), (5, .slice (some ⟨q21, 0, none⟩) ((List.replicate (((((a0.length : Int) + (a1.length : Int)) + 1)).toNat) (0 : Int)).length) (((((a0.length : Int) + (a1.length : Int)) + 1)).toNat)), (6, .int .i64 ((i : Int)))] a ∧ Held Nob w [rSo eInt (fun b => b = q21) (some ⟨q21, 0, none⟩) (((((a0.length : Int) + (a1.length : Int)) + 1)).toNat) u] w' ∧ (u.length = a0.length + a1.length + 1) ∧ (limbs u) ∧ (0 ≤ c ∧ c ≤ 999999) ∧ (val u + c * 1000000 ^ (i + k) = val (a0.take i) * val a1 + a0[i]?.getD 0 * val (a1.take k) * 1000000 ^ i) ∧ (i + k ≤ a0.length + a1.length + 1)) ((a0.length + a1.length + 1) - (i + (0))) ?_ ?_
      · exact ⟨0, o, 0, rfl, HE41.sub ⟨rfl, (lkI rfl (by first | rfl | omega | (simp [p23_0, p23_1, p23_2, p23_3, hc24]; done))), rfl, rfl, rfl, rfl, trivial⟩, (HH29.sel [0] (by decide) rfl), (by exact p23_1), (by exact p23_2), (by first | omega | assumption | (simp; done) | simp_all), (by rw [p23_3]; simp [val]), (by first | omega | assumption | (simp; done) | simp_all)⟩
      · rintro m a_42 w' ⟨k, u, c, rfl, HE43, HH44, p25_0, p25_1, p25_2, p25_3, p25_4⟩
        refine wp_seq ?_
        refine wp_seq ?_
        refine rg ?_
        refine pl_x HE43 HH44 (wt0 rfl) (x_move rfl) rfl rfl fun a_45 HE46 => ?_
        refine pl_x HE46 HH44 (wt0 rfl) (x_move rfl) rfl rfl fun a_47 HE48 => ?_
        refine pl_x HE48 HH44 (wt0 rfl) (x_len Try.underlying31 rfl) rfl rfl fun a_49 HE50 => ?_
        refine pl_x HE50 HH44 (wt0 rfl) (x_lss rfl rfl) rfl rfl fun a_51 HE52 => ?_
        refine pl_x HE52 HH44 (wt0 rfl) (x_move rfl) rfl rfl fun a_53 HE54 => ?_
        by_cases hc26 : (k : Int) < (a1.length : Int)
        · refine pl_no HE54 (wtF HE54 rfl rfl rfl (decide_eq_true hc26)) rfl rfl fun a_55 HE56 => ?_
          refine pl_no HE56 (wtF HE56 rfl rfl rfl (decide_eq_true hc26)) rfl rfl fun a_57 HE58 => ?_
          refine pl_x HE58 HH44 (wt0 rfl) (x_pickT rfl (decide_eq_true hc26) rfl) rfl rfl fun a_59 HE60 => ?_
          refine wpList_nil ?_
          clear a_40 HE41 HH29 a_42 HE43 a_45 HE46 a_47 HE48 a_49 HE50 a_51 HE52 a_53 HE54 a_55 HE56 a_57 HE58
          refine nrm ?_
          refine cndT HE60 rfl rfl ?_
          refine wp_skip ?_
          refine nrm ?_
          refine wp_seq ?_
          refine wp_block ?_
          refine wp_seq ?_
          refine rg ?_
          refine pl_x HE60 HH44 (wt0 rfl) (x_move rfl) rfl rfl fun a_61 HE62 => ?_
          refine pl_x HE62 HH44 (wt0 rfl) (x_move rfl) rfl rfl fun a_63 HE64 => ?_
          refine pl_x HE64 HH44 (wt0 rfl) (x_move rfl) rfl rfl fun a_65 HE66 => ?_
          refine pl_x HE66 HH44 (wt0 rfl) (x_add rfl rfl (by exact ⟨by omega, by omega⟩)) rfl rfl fun a_67 HE68 => ?_
          have ke27 : (i + k) < (List.replicate (((((a0.length : Int) + (a1.length : Int)) + 1)).toNat) (0 : Int)).length := by omega
          refine pl_x HE68 HH44 (wt0 rfl) (x_indexAddr ts_31 rfl rfl rfl (by omega) ke27) rfl rfl fun a_69 HE70 => ?_
          obtain ⟨y28, xy28⟩ : ∃ y, y = u[(i + k)]'(by first | exact ke27 | (simp only [List.length_set]; exact ke27) | omega | (simp only [List.length_set]; omega) | (simp; omega)) := ⟨_, rfl⟩
          have iy28 : I64 y28 := by rw [xy28]; exact i_ownI HH44 0 rfl _
          have jy28 := iy28; unfold I64 at jy28
          have by28 := p25_1 y28 (by rw [xy28]; exact List.getElem_mem _)
          refine pl_x HE70 HH44 (wt0 rfl) (x_load1 tv_2 rfl (c_ownV 0 rfl (by first | exact ke27 | (simp only [List.length_set]; exact ke27) | omega | (simp only [List.length_set]; omega) | (simp; omega)) xy28.symm)) rfl rfl fun a_71 HE72 => ?_
          refine pl_x HE72 HH44 (wt0 rfl) (x_move rfl) rfl rfl fun a_73 HE74 => ?_
          refine pl_x HE74 HH44 (wt0 rfl) (x_add rfl rfl (by exact ⟨by omega, by omega⟩)) rfl rfl fun a_75 HE76 => ?_
          refine pl_x HE76 HH44 (wt0 rfl) (x_assign rfl) rfl rfl fun a_77 HE78 => ?_
          refine wpList_nil ?_
          clear a_59 HE60 a_61 HE62 a_63 HE64 a_65 HE66 a_67 HE68 a_69 HE70 a_71 HE72 a_73 HE74 a_75 HE76
          refine nrm ?_
          refine wp_seq ?_
          refine wp_seq ?_
          refine rg ?_
          refine pl_x HE78 HH44 (wt0 rfl) (x_move rfl) rfl rfl fun a_79 HE80 => ?_
          refine pl_x HE80 HH44 (wt0 rfl) (x_move rfl) rfl rfl fun a_81 HE82 => ?_
          refine pl_x HE82 HH44 (wt0 rfl) (x_len Try.underlying31 rfl) rfl rfl fun a_83 HE84 => ?_
          refine pl_x HE84 HH44 (wt0 rfl) (x_lss rfl rfl) rfl rfl fun a_85 HE86 => ?_
          refine wpList_nil ?_
          clear a_77 HE78 a_79 HE80 a_81 HE82 a_83 HE84
          refine nrm ?_
          refine cndT HE86 rfl (decide_eq_true hc26) ?_
          refine dr_start (Held Nob w [rSo eInt (fun b => b = q21) (some ⟨q21, 0, none⟩) (((((a0.length : Int) + (a1.length : Int)) + 1)).toNat) u]) 12 #[false, false, false, false, false, false, false, false, false, false, false, false] hmix rfl rfl HH44 (fun _ h => h.sel [0] (by decide) rfl) fun w' HH87 => ?_
          have HS88 := HH87
          refine dr_take (i := 0) (ls' := #[true, false, false, false, false, false, false, false, false, false, false, false]) HE86 HS88 rfl (by kernel_rfl) (by kernel_rfl) (by kernel_rfl) (fun _ _ _ h => h) rfl (wt0 rfl) (x_move rfl) rfl rfl fun a_89 HE90 => ?_
          refine dr_take (i := 1) (ls' := #[true, true, false, false, false, false, false, false, false, false, false, false]) HE90 HS88 rfl (by kernel_rfl) (by kernel_rfl) (by kernel_rfl) (fun _ _ _ h => h) rfl (wt0 rfl) (x_move rfl) rfl rfl fun a_91 HE92 => ?_
          refine dr_take (i := 2) (ls' := #[true, true, true, false, false, false, false, false, false, false, false, false]) HE92 HS88 rfl (by kernel_rfl) (by kernel_rfl) (by kernel_rfl) (fun _ _ _ h => h) rfl (wt0 rfl) (x_move rfl) rfl rfl fun a_93 HE94 => ?_
          have ke29 : i < a0.length := by omega
          obtain ⟨be29, fe29, ese29, Ae29, Re29, De29⟩ := el_old h0 ke29
          obtain ⟨e29, xe29⟩ : ∃ x, x = a0[i] := ⟨_, rfl⟩
          rw [← xe29] at Re29
          have Qe29 := Re29
          obtain ⟨rfl, ie29⟩ := Re29
          have je29 := ie29; unfold I64 at je29
          have be29 := s0 e29 (by rw [xe29]; exact List.getElem_mem _)
          have hx0 : a0[i]?.getD 0 = e29 := by rw [List.getElem?_eq_getElem ke29, xe29]; rfl
          have hm0 : ∀ y, 0 ≤ y ∧ y ≤ 999999 → 0 ≤ e29 * y ∧ e29 * y ≤ 999998000001 := fun y hy => mul_b6 be29 hy
          refine dr_take (i := 3) (ls' := #[true, true, true, true, false, false, false, false, false, false, false, false]) HE94 HS88 rfl (by kernel_rfl) (by kernel_rfl) (by kernel_rfl) (fun _ _ _ h => h) rfl (wt0 rfl) (x_indexAddr ts_31 rfl rfl Ae29 rfl ke29) rfl rfl fun a_95 HE96 => ?_
          refine dr_take (i := 4) (ls' := #[true, true, true, true, true, false, false, false, false, false, false, false]) HE96 HS88 rfl (by kernel_rfl) (by kernel_rfl) (by kernel_rfl) (fun _ _ _ h => h) rfl (wt0 rfl) (x_load1 tv_2 rfl (c_old (De29 0 _ rfl))) rfl rfl fun a_97 HE98 => ?_
          refine dr_take (i := 5) (ls' := #[true, true, true, true, true, true, false, false, false, false, false, false]) HE98 HS88 rfl (by kernel_rfl) (by kernel_rfl) (by kernel_rfl) (fun _ _ _ h => h) rfl (wt0 rfl) (x_move rfl) rfl rfl fun a_99 HE100 => ?_
          refine dr_take (i := 6) (ls' := #[true, true, true, true, true, true, true, false, false, false, false, false]) HE100 HS88 rfl (by kernel_rfl) (by kernel_rfl) (by kernel_rfl) (fun _ _ _ h => h) rfl (wt0 rfl) (x_move rfl) rfl rfl fun a_101 HE102 => ?_
          have ke30 : k < a1.length := by omega
          obtain ⟨be30, fe30, ese30, Ae30, Re30, De30⟩ := el_old h1 ke30
          obtain ⟨e30, xe30⟩ : ∃ x, x = a1[k] := ⟨_, rfl⟩
          rw [← xe30] at Re30
          have Qe30 := Re30
          obtain ⟨rfl, ie30⟩ := Re30
          have je30 := ie30; unfold I64 at je30
          have be30 := s1 e30 (by rw [xe30]; exact List.getElem_mem _)
          have me30 := hm0 e30 be30
          refine dr_take (i := 7) (ls' := #[true, true, true, true, true, true, true, true, false, false, false, false]) HE102 HS88 rfl (by kernel_rfl) (by kernel_rfl) (by kernel_rfl) (fun _ _ _ h => h) rfl (wt0 rfl) (x_indexAddr ts_31 rfl rfl Ae30 rfl ke30) rfl rfl fun a_103 HE104 => ?_
          refine dr_take (i := 8) (ls' := #[true, true, true, true, true, true, true, true, true, false, false, false]) HE104 HS88 rfl (by kernel_rfl) (by kernel_rfl) (by kernel_rfl) (fun _ _ _ h => h) rfl (wt0 rfl) (x_load1 tv_2 rfl (c_old (De30 0 _ rfl))) rfl rfl fun a_105 HE106 => ?_
          refine dr_take (i := 9) (ls' := #[true, true, true, true, true, true, true, true, true, true, false, false]) HE106 HS88 rfl (by kernel_rfl) (by kernel_rfl) (by kernel_rfl) (fun _ _ _ h => h) rfl (wt0 rfl) (x_mul rfl rfl (by exact ⟨by omega, by omega⟩)) rfl rfl fun a_107 HE108 => ?_
          refine dr_take (i := 10) (ls' := #[true, true, true, true, true, true, true, true, true, true, true, false]) HE108 HS88 rfl (by kernel_rfl) (by kernel_rfl) (by kernel_rfl) (fun _ _ _ h => h) rfl (wt0 rfl) (x_add rfl rfl (by exact ⟨by omega, by omega⟩)) rfl rfl fun a_109 HE110 => ?_
          refine dr_take (i := 11) (ls' := #[true, true, true, true, true, true, true, true, true, true, true, true]) HE110 HS88 rfl (by kernel_rfl) (by kernel_rfl) (by kernel_rfl) (fun _ _ _ h => h) rfl (wt0 rfl) (x_assign rfl) rfl rfl fun a_111 HE112 => ?_
          refine dr_done (by kernel_rfl) ?_
          clear HH44 a_85 HE86 a_89 HE90 a_91 HE92 a_93 HE94 a_95 HE96 a_97 HE98 a_99 HE100 a_101 HE102 a_103 HE104 a_105 HE106 a_107 HE108 a_109 HE110
          refine nrm ?_
          refine wp_seq ?_
          refine rg ?_
          refine pl_x HE112 HH87 (wt0 rfl) (x_move rfl) rfl rfl fun a_113 HE114 => ?_
          refine pl_x HE114 HH87 (wt0 rfl) (x_move rfl) rfl rfl fun a_115 HE116 => ?_
          refine pl_x HE116 HH87 (wt0 rfl) (x_move rfl) rfl rfl fun a_117 HE118 => ?_
          refine pl_x HE118 HH87 (wt0 rfl) (x_add rfl rfl (by exact ⟨by omega, by omega⟩)) rfl rfl fun a_119 HE120 => ?_
          refine pl_x HE120 HH87 (wt0 rfl) (x_move rfl) rfl rfl fun a_121 HE122 => ?_
          refine pl_x HE122 HH87 (wt0 rfl) (x_rem rfl rfl (by omega) (by omega)) rfl rfl fun a_123 HE124 => ?_
          have ke31 : (i + k) < (List.replicate (((((a0.length : Int) + (a1.length : Int)) + 1)).toNat) (0 : Int)).length := by omega
          refine pl_x HE124 HH87 (wt0 rfl) (x_indexAddr ts_31 rfl rfl rfl (by omega) ke31) rfl rfl fun a_125 HE126 => ?_
          refine pl fun K_127 hK128 => ?_
          refine st_storeI 0 HE126 HH87 tv_2 rfl rfl rfl (by first | exact ke31 | (simp only [List.length_set]; exact ke31) | omega | (simp only [List.length_set]; omega) | (simp; omega)) (by exact ⟨by omega, by omega⟩) (wt0 rfl) fun w' HH129 => hK128 _ _ ?_
          refine wpList_nil ?_
          clear a_111 HE112 a_113 HE114 a_115 HE116 a_117 HE118 a_119 HE120 a_121 HE122 a_123 HE124 HH87 hK128 K_127
          refine nrm ?_
          refine rg ?_
          refine pl_x HE126 HH129 (wt0 rfl) (x_move rfl) rfl rfl fun a_130 HE131 => ?_
          refine pl_x HE131 HH129 (wt0 rfl) (x_quo rfl rfl (by omega) (by omega) (by omega)) rfl rfl fun a_132 HE133 => ?_
          refine pl_x HE133 HH129 (wt0 rfl) (x_assign rfl) rfl rfl fun a_134 HE135 => ?_
          refine wpList_nil ?_
          clear a_125 HE126 a_130 HE131 a_132 HE133
          refine blk_n ?_
          refine nrm ?_
          refine rg ?_
          refine pl_x HE135 HH129 (wt0 rfl) (x_move rfl) rfl rfl fun a_136 HE137 => ?_
          refine pl_x HE137 HH129 (wt0 rfl) (x_add rfl rfl (by exact ⟨by omega, by omega⟩)) rfl rfl fun a_138 HE139 => ?_
          refine pl_x HE139 HH129 (wt0 rfl) (x_assign rfl) rfl rfl fun a_140 HE141 => ?_
          refine wpList_nil ?_
          clear a_134 HE135 a_136 HE137 a_138 HE139
          have E32 : ((u.set (i + k) (((y28 + c) + (e29 * e30)) % 1000000))) = (u.set (i + k) (((y28 + c) + (e29 * e30)) % 1000000)) := by
            first | rfl | simp
          exact nrm ⟨(a0.length + a1.length + 1) - (i + (k + 1)), (by omega), k + 1, (u.set (i + k) (((y28 + c) + (e29 * e30)) % 1000000)), (((y28 + c) + (e29 * e30)) / 1000000), rfl, HE141.sub ⟨rfl, (lkI rfl (by first | rfl | omega | (simp [p23_0, p23_1, p23_2, p23_3, hc24, p25_0, p25_1, p25_2, p25_3, p25_4, hc26, xy28, xe29, xe30]; done))), rfl, rfl, rfl, rfl, trivial⟩, ((HH129.sel [0] (by decide) rfl).to (by first | rfl | (rw [E32]; done) | (rw [E32]; rfl) | (simp only [E32]; done) | (simp only [E32]; rfl))), (by rw [List.length_set]; exact p25_0), (by exact limbs_set p25_1 (by omega)), (by omega), (by first | exact mul_round1 (by omega) (by omega) p25_3 (by rw [hx0, ← xe30, ← xy28]; omega) | exact mul_round0 (by omega) (by omega) p25_3 (by rw [← xy28]; omega)), (by omega)⟩
        · refine pl_x HE54 HH44 (wtT HE54 rfl rfl rfl (decide_eq_false hc26)) (x_move rfl) rfl rfl fun a_142 HE143 => ?_
          refine pl_x HE143 HH44 (wtT HE143 rfl rfl rfl (decide_eq_false hc26)) (x_gtr rfl rfl) rfl rfl fun a_144 HE145 => ?_
          refine pl_x HE145 HH44 (wt0 rfl) (x_pickF rfl (decide_eq_false hc26) rfl) rfl rfl fun a_146 HE147 => ?_
          refine wpList_nil ?_
          clear a_40 HE41 HH29 a_42 HE43 a_45 HE46 a_47 HE48 a_49 HE50 a_51 HE52 a_53 HE54 a_142 HE143 a_144 HE145
          refine nrm ?_
          refine cnd_d HE147 rfl (fun hc33 => ?_) (fun hc33 => ?_)
          · have hroom := mul_room (N := a0.length + a1.length + 1) s0 s1 p25_1 (by omega) p25_3 (by omega) hc33 (by omega)
            refine wp_skip ?_
            refine nrm ?_
            refine wp_seq ?_
            refine wp_block ?_
            refine wp_seq ?_
            refine rg ?_
            refine pl_x HE147 HH44 (wt0 rfl) (x_move rfl) rfl rfl fun a_148 HE149 => ?_
            refine pl_x HE149 HH44 (wt0 rfl) (x_move rfl) rfl rfl fun a_150 HE151 => ?_
            refine pl_x HE151 HH44 (wt0 rfl) (x_move rfl) rfl rfl fun a_152 HE153 => ?_
            refine pl_x HE153 HH44 (wt0 rfl) (x_add rfl rfl (by exact ⟨by omega, by omega⟩)) rfl rfl fun a_154 HE155 => ?_
            have ke34 : (i + k) < (List.replicate (((((a0.length : Int) + (a1.length : Int)) + 1)).toNat) (0 : Int)).length := by omega
            refine pl_x HE155 HH44 (wt0 rfl) (x_indexAddr ts_31 rfl rfl rfl (by omega) ke34) rfl rfl fun a_156 HE157 => ?_
            obtain ⟨y35, xy35⟩ : ∃ y, y = u[(i + k)]'(by first | exact ke34 | (simp only [List.length_set]; exact ke34) | omega | (simp only [List.length_set]; omega) | (simp; omega)) := ⟨_, rfl⟩
            have iy35 : I64 y35 := by rw [xy35]; exact i_ownI HH44 0 rfl _
            have jy35 := iy35; unfold I64 at jy35
            have by35 := p25_1 y35 (by rw [xy35]; exact List.getElem_mem _)
            refine pl_x HE157 HH44 (wt0 rfl) (x_load1 tv_2 rfl (c_ownV 0 rfl (by first | exact ke34 | (simp only [List.length_set]; exact ke34) | omega | (simp only [List.length_set]; omega) | (simp; omega)) xy35.symm)) rfl rfl fun a_158 HE159 => ?_
            refine pl_x HE159 HH44 (wt0 rfl) (x_move rfl) rfl rfl fun a_160 HE161 => ?_
            refine pl_x HE161 HH44 (wt0 rfl) (x_add rfl rfl (by exact ⟨by omega, by omega⟩)) rfl rfl fun a_162 HE163 => ?_
            refine pl_x HE163 HH44 (wt0 rfl) (x_assign rfl) rfl rfl fun a_164 HE165 => ?_
            refine wpList_nil ?_
            clear a_146 HE147 a_148 HE149 a_150 HE151 a_152 HE153 a_154 HE155 a_156 HE157 a_158 HE159 a_160 HE161 a_162 HE163
            refine nrm ?_
            refine wp_seq ?_
            refine wp_seq ?_
            refine rg ?_
            refine pl_x HE165 HH44 (wt0 rfl) (x_move rfl) rfl rfl fun a_166 HE167 => ?_
            refine pl_x HE167 HH44 (wt0 rfl) (x_move rfl) rfl rfl fun a_168 HE169 => ?_
            refine pl_x HE169 HH44 (wt0 rfl) (x_len Try.underlying31 rfl) rfl rfl fun a_170 HE171 => ?_
            refine pl_x HE171 HH44 (wt0 rfl) (x_lss rfl rfl) rfl rfl fun a_172 HE173 => ?_
            refine wpList_nil ?_
            clear a_164 HE165 a_166 HE167 a_168 HE169 a_170 HE171
            refine nrm ?_
            refine cndF HE173 rfl (decide_eq_false hc26) ?_
            refine wp_skip ?_
            refine nrm ?_
            refine wp_seq ?_
            refine rg ?_
            refine pl_x HE173 HH44 (wt0 rfl) (x_move rfl) rfl rfl fun a_174 HE175 => ?_
            refine pl_x HE175 HH44 (wt0 rfl) (x_move rfl) rfl rfl fun a_176 HE177 => ?_
            refine pl_x HE177 HH44 (wt0 rfl) (x_move rfl) rfl rfl fun a_178 HE179 => ?_
            refine pl_x HE179 HH44 (wt0 rfl) (x_add rfl rfl (by exact ⟨by omega, by omega⟩)) rfl rfl fun a_180 HE181 => ?_
            refine pl_x HE181 HH44 (wt0 rfl) (x_move rfl) rfl rfl fun a_182 HE183 => ?_
            refine pl_x HE183 HH44 (wt0 rfl) (x_rem rfl rfl (by omega) (by omega)) rfl rfl fun a_184 HE185 => ?_
            have ke36 : (i + k) < (List.replicate (((((a0.length : Int) + (a1.length : Int)) + 1)).toNat) (0 : Int)).length := by omega
            refine pl_x HE185 HH44 (wt0 rfl) (x_indexAddr ts_31 rfl rfl rfl (by omega) ke36) rfl rfl fun a_186 HE187 => ?_
            refine pl fun K_188 hK189 => ?_
            refine st_storeI 0 HE187 HH44 tv_2 rfl rfl rfl (by first | exact ke36 | (simp only [List.length_set]; exact ke36) | omega | (simp only [List.length_set]; omega) | (simp; omega)) (by exact ⟨by omega, by omega⟩) (wt0 rfl) fun w' HH190 => hK189 _ _ ?_
            refine wpList_nil ?_
            clear a_172 HE173 a_174 HE175 a_176 HE177 a_178 HE179 a_180 HE181 a_182 HE183 a_184 HE185 HH44 hK189 K_188
            refine nrm ?_
            refine rg ?_
            refine pl_x HE187 HH190 (wt0 rfl) (x_move rfl) rfl rfl fun a_191 HE192 => ?_
            refine pl_x HE192 HH190 (wt0 rfl) (x_quo rfl rfl (by omega) (by omega) (by omega)) rfl rfl fun a_193 HE194 => ?_
            refine pl_x HE194 HH190 (wt0 rfl) (x_assign rfl) rfl rfl fun a_195 HE196 => ?_
            refine wpList_nil ?_
            clear a_186 HE187 a_191 HE192 a_193 HE194
            refine blk_n ?_
            refine nrm ?_
            refine rg ?_
            refine pl_x HE196 HH190 (wt0 rfl) (x_move rfl) rfl rfl fun a_197 HE198 => ?_
            refine pl_x HE198 HH190 (wt0 rfl) (x_add rfl rfl (by exact ⟨by omega, by omega⟩)) rfl rfl fun a_199 HE200 => ?_
            refine pl_x HE200 HH190 (wt0 rfl) (x_assign rfl) rfl rfl fun a_201 HE202 => ?_
            refine wpList_nil ?_
            clear a_195 HE196 a_197 HE198 a_199 HE200
            have E37 : ((u.set (i + k) ((y35 + c) % 1000000))) = (u.set (i + k) ((y35 + c) % 1000000)) := by
              first | rfl | simp
            exact nrm ⟨(a0.length + a1.length + 1) - (i + (k + 1)), (by omega), k + 1, (u.set (i + k) ((y35 + c) % 1000000)), ((y35 + c) / 1000000), rfl, HE202.sub ⟨rfl, (lkI rfl (by first | rfl | omega | (simp [p23_0, p23_1, p23_2, p23_3, hc24, p25_0, p25_1, p25_2, p25_3, p25_4, hc26, hc33, xy35]; done))), rfl, rfl, rfl, rfl, trivial⟩, ((HH190.sel [0] (by decide) rfl).to (by first | rfl | (rw [E37]; done) | (rw [E37]; rfl) | (simp only [E37]; done) | (simp only [E37]; rfl))), (by rw [List.length_set]; exact p25_0), (by exact limbs_set p25_1 (by omega)), (by omega), (by first | exact mul_round1 (by omega) (by omega) p25_3 (by rw [hx0, ← xe0, ← xy35]; omega) | exact mul_round0 (by omega) (by omega) p25_3 (by rw [← xy35]; omega)), (by omega)⟩
          · refine wp_exit ?_
            refine (thn_exit (thn_exit (blk_hit ?_)))
            refine blk_n ?_
            refine nrm ?_
            refine rg ?_
            refine pl_x HE147 HH44 (wt0 rfl) (x_move rfl) rfl rfl fun a_203 HE204 => ?_
            refine pl_x HE204 HH44 (wt0 rfl) (x_add rfl rfl (by exact ⟨by omega, by omega⟩)) rfl rfl fun a_205 HE206 => ?_
            refine pl_x HE206 HH44 (wt0 rfl) (x_assign rfl) rfl rfl fun a_207 HE208 => ?_
            refine wpList_nil ?_
            clear a_146 HE147 a_203 HE204 a_205 HE206
            exact nrm ⟨a0.length - (i + 1), (by omega), i + 1, u, rfl, HE208.sub ⟨(lkI rfl (by first | rfl | omega | (simp [p23_0, p23_1, p23_2, p23_3, hc24, p25_0, p25_1, p25_2, p25_3, p25_4, hc26, hc33]; done))), rfl, rfl, rfl, trivial⟩, (HH44.sel [0] (by decide) rfl), (by first | omega | assumption | (simp; done) | simp_all), (by exact p25_0), (by exact p25_1), (by exact mul_end (by omega) p25_3 (by omega) (by omega))⟩
    · refine wp_exit ?_
      refine (thn_exit (thn_exit (blk_hit ?_)))
      refine nrm ?_
      refine wp_seq ?_
      refine rg ?_
      refine pl_x HE37 HH29 (wt0 rfl) (x_move rfl) rfl rfl fun a_209 HE210 => ?_
      refine pl fun K_211 hK212 => ?_
      have HE213 := HE210.castS (t := 65) (m' := List.length o) rfl (by first | omega | (simp; done) | (simp; omega))
      refine st_call HE213 (wt0 rfl) rfl rfl rfl en_158 rfl rfl (spec_l02Trim _ _ o _ (HH29.sl (i := 0) rfl)) fun e w' hr => ?_
      obtain ⟨rfl, ⟨kt38, ht38⟩, rfl⟩ := hr
      have HH214 := HH29.turn (rSo eInt (fun b => b = q21) (some ⟨q21, 0, none⟩) (((((a0.length : Int) + (a1.length : Int)) + 1)).toNat) (trimZ o)) (fun h => oSl (by rw [ht38]; exact (so_of_o h).take kt38)) (fun _ h => h)
      refine ⟨_, rfl, fun a_215 HE216 => hK212 _ _ ?_⟩
      refine pl_x HE216 HH214 (wt0 rfl) (x_assign rfl) rfl rfl fun a_217 HE218 => ?_
      refine wpList_nil ?_
      clear a_36 HE37 HE210 HH29 a_209 HE213 a_215 HE216 hK212 K_211
      refine nrm ?_
      refine wp_ret ?_
      refine ret1 HE218 rfl (rv_tmp rfl) ?_
      have hF : (mulN a0 a1) = (trimZ o) := by
        exact mulN_of p23_2 (by have := p23_3; rwa [List.take_of_length_le (by omega)] at this)
      exact ⟨(some ⟨q21, 0, none⟩), ((((a0.length : Int) + (a1.length : Int)) + 1)).toNat, by rw [hF] <;> rfl, by rw [hF]; exact (HH214.so (i := 0) rfl), HH214.below⟩

set_option maxRecDepth 100000 in
set_option maxHeartbeats 4000000 in
theorem impl_stepFractions (A0 : Option Addr) (c0 : Nat) (a0 : (List tFraction)) (A1 : Option Addr) (c1 : Nat) (a1 : (List Int)) (w : World) (h0 : Sl eFraction w (Old w) A0 c0 a0) (h1 : Sl eInt w (Old w) A1 c1 a1) (s0 : okFr a0) (s1 : limbs a1) (s2 : a1.length ≤ 40) (s3 : a0.length ≤ 100) :
    Calls Try.prog 112 #[.slice A0 a0.length c0, .slice A1 a1.length c1] w fun e w' => ∃ (A0' : Option Addr) (c0' : Nat) (S0' : Nat → Prop), e = .returned (.tuple #[.slice A0' (stepFI a0 a1).1.length c0', .int .i64 (stepFI a0 a1).2]) ∧ Held Nob w [rIf (0 ≤ (stepFI a0 a1).2) (rSo eInt S0' A0' c0' (stepFI a0 a1).1)] w' := by
  have l0 := h0.len
  have l1 := h1.len
  have HH1 := Held.start Nob w
  refine enter (n := 34) Try.func112 rfl rfl rfl fun a_2 HE3 => ?_
  refine wp_seq ?_
  refine rg ?_
  refine pl_x HE3 HH1 (wt0 rfl) (x_assign rfl) rfl rfl fun a_4 HE5 => ?_
  refine pl_x HE5 HH1 (wt0 rfl) (x_assign rfl) rfl rfl fun a_6 HE7 => ?_
  refine wpList_nil ?_
  clear a_2 HE3 a_4 HE5
  refine nrm ?_
  refine wp_seq ?_
  refine wp_seq ?_
  refine rg ?_
  refine pl_x HE7 HH1 (wt0 rfl) (x_move rfl) rfl rfl fun a_8 HE9 => ?_
  refine pl_x HE9 HH1 (wt0 rfl) (x_len Try.underlying67 rfl) rfl rfl fun a_10 HE11 => ?_
  refine pl_x HE11 HH1 (wt0 rfl) (x_move rfl) rfl rfl fun a_12 HE13 => ?_
  refine wpList_nil ?_
  clear a_6 HE7 a_8 HE9 a_10 HE11
  refine nrm ?_
  refine wp_block ?_
  refine lp (fun m a w' => ∃ (k : Nat), m = a0.length - k ∧ Env 34 [(12, .int .i64 (k : Int)), (1, .slice A1 (a1.length) c1), (10, .slice A0 (a0.length) c0), (11, .int .i64 ((a0.length : Int)))] a ∧ Held Nob w [] w' ∧ (k ≤ a0.length) ∧ (stepFr a0 a1 0 = stepFr (a0.drop k) a1 k)) (a0.length - (0)) ?_ ?_
  · exact ⟨0, rfl, HE13.sub ⟨(lkI rfl (by first | rfl | omega | (simp []; done))), rfl, rfl, rfl, trivial⟩, (HH1.sel [] (by decide) rfl), (by first | omega | assumption | (simp; done) | simp_all), (by rfl)⟩
  · rintro m a_14 w' ⟨k, rfl, HE15, HH16, p21_0, p21_1⟩
    refine wp_seq ?_
    refine rg ?_
    refine pl_x HE15 HH16 (wt0 rfl) (x_lss rfl rfl) rfl rfl fun a_17 HE18 => ?_
    refine wpList_nil ?_
    clear a_12 HE13 HH1 a_14 HE15
    refine nrm ?_
    refine wp_seq ?_
    refine cnd_d HE18 rfl (fun hc22 => ?_) (fun hc22 => ?_)
    · refine wp_skip ?_
      refine nrm ?_
      refine wp_seq ?_
      refine wp_block ?_
      refine wp_seq ?_
      refine rg ?_
      refine pl_x HE18 HH16 (wt0 rfl) (x_move rfl) rfl rfl fun a_19 HE20 => ?_
      have ke23 : k < a0.length := by omega
      obtain ⟨be23, fe23, ese23, Ae23, Re23, De23⟩ := el_old h0 ke23
      obtain ⟨e23, xe23⟩ : ∃ x, x = a0[k] := ⟨_, rfl⟩
      rw [← xe23] at Re23
      have Qe23 := Re23
      obtain ⟨rfl, ge23_0, ge23_1⟩ := shape_Fraction Re23
      have je23_0 := ge23_0; unfold I64 at je23_0
      have je23_1 := ge23_1; unfold I64 at je23_1
      have fe23 := s0 e23 (by rw [xe23]; exact List.getElem_mem _)
      refine pl_x HE20 HH16 (wt0 rfl) (x_indexAddr ts_67 rfl rfl Ae23 rfl ke23) rfl rfl fun a_21 HE22 => ?_
      refine pl_x HE22 HH16 (wt0 rfl) (x_loadN (cs := [.int .i64 (e23.1), .int .i64 (e23.2)]) tv_130 rfl rfl (c_oldN De23)) rfl rfl fun a_23 HE24 => ?_
      refine pl fun K_25 hK26 => ?_
      refine st_alloc HE24 HH16 tv_130 (wt0 rfl) rfl fun q24 a_27 w' HE28 HH29 => hK26 _ _ ?_
      refine pl_x HE28 HH29 (wt0 rfl) (x_assign rfl) rfl rfl fun a_30 HE31 => ?_
      refine pl fun K_32 hK33 => ?_
      refine st_store (vs := [.int .i64 (e23.1), .int .i64 (e23.2)]) 0 HE31 HH29 tv_130 rfl rfl rfl rfl rfl rfl (by simp [Value.oneCell']) (wt0 rfl) fun w' HH34 => hK33 _ _ ?_
      refine wpList_nil ?_
      clear a_17 HE18 a_19 HE20 a_21 HE22 a_23 HE24 HH16 a_27 HE28 K_25 hK26 HH29 hK33 K_32
      refine nrm ?_
      refine wp_seq ?_
      refine dr_start (Held Nob w [rBlk q24 130 [.int .i64 (e23.1), .int .i64 (e23.2)]]) 13 #[false, false, false, false, false, false, false, false, false, false, false, false, false] hmix rfl rfl HH34 (fun _ h => h.sel [0] (by decide) rfl) fun w' HH35 => ?_
      have HS36 := HH35
      refine dr_take (i := 0) (ls' := #[true, false, false, false, false, false, false, false, false, false, false, false, false]) HE31 HS36 rfl (by kernel_rfl) (by kernel_rfl) (by kernel_rfl) (fun _ _ _ h => h) rfl (wt0 rfl) (x_move rfl) rfl rfl fun a_37 HE38 => ?_
      refine dr_take (i := 1) (ls' := #[true, true, false, false, false, false, false, false, false, false, false, false, false]) HE38 HS36 rfl (by kernel_rfl) (by kernel_rfl) (by kernel_rfl) (fun _ _ _ h => h) rfl (wt0 rfl) (x_fieldAddr fa_130_0 rfl) rfl rfl fun a_39 HE40 => ?_
      refine dr_take (i := 2) (ls' := #[true, true, true, false, false, false, false, false, false, false, false, false, false]) HE40 HS36 rfl (by kernel_rfl) (by kernel_rfl) (by kernel_rfl) (fun _ _ _ h => h) rfl (wt0 rfl) (x_load1 tv_2 rfl (c_blk 0 rfl rfl)) rfl rfl fun a_41 HE42 => ?_
      refine dr_take (i := 5) (ls' := #[true, true, true, false, false, true, false, false, false, false, false, false, false]) HE42 HS36 rfl (by kernel_rfl) (by kernel_rfl) (by kernel_rfl) (fun _ _ _ h => h) rfl (wt0 rfl) (x_fieldAddr fa_130_1 rfl) rfl rfl fun a_43 HE44 => ?_
      refine dr_take (i := 6) (ls' := #[true, true, true, false, false, true, true, false, false, false, false, false, false]) HE44 HS36 rfl (by kernel_rfl) (by kernel_rfl) (by kernel_rfl) (fun _ _ _ h => h) rfl (wt0 rfl) (x_load1 tv_2 rfl (c_blk 0 rfl rfl)) rfl rfl fun a_45 HE46 => ?_
      refine dr_one (i := 3) (ls' := #[true, true, true, true, false, true, true, false, false, false, false, false, false]) rfl (by kernel_rfl) rfl fun K_47 hK48 => ?_
      refine st_lit (m := 1) (cs := [.int .i64 (e23.1)]) (e := 2) HE46 HH35 (run_lit ts_31 HE46 (vs := [.int .i64 (e23.1)]) rfl rfl (by simp [Value.cells]) rfl (by decide)) (wt0 rfl) rfl rfl fun q25 a_49 w' HE50 HH51 => hK48 _ _ (by exact HH51.sel [1] (by decide) rfl) ?_
      have HS52 := HH51.sel [1] (by decide) rfl
      refine dr_one (i := 4) (ls' := #[true, true, true, true, true, true, true, false, false, false, false, false, false]) rfl (by kernel_rfl) rfl fun K_53 hK54 => ?_
      have HH55 := Held.vecFlat (E := eInt) (xs := [e23.1]) (css := [[.int .i64 (e23.1)]]) HH51 rfl (by unfold maxLen; simp) (fun i x hx => by match i with | 0 => exact ⟨_, rfl, fun _ => by simp at hx; subst hx; exact (oI (by exact ⟨by omega, by omega⟩))⟩ | i + 1 => simp at hx)
      refine st_call HE50 (wt0 rfl) rfl rfl rfl en_166 rfl rfl (impl_multiply _ _ a1 _ _ ([e23.1] : List Int) _ (HH55.old h1) (HH55.vecSl (i := 0) rfl) (by assumption) (by first | assumption | (intro x hx; simp at hx; omega)) (by first | omega | simp) (by first | omega | simp)) fun e w' hr => ?_
      obtain ⟨Ar26_0, cr26_0, rfl, hor26_0, hbr26⟩ := hr
      obtain ⟨Sr26, HH56⟩ := HH55.newS hbr26 hor26_0
      refine ⟨_, rfl, fun a_57 HE58 => hK54 _ _ (by exact HH56.sel [2] (by decide) rfl) ?_⟩
      have HS59 := HH56.sel [2] (by decide) rfl
      refine dr_one (i := 7) (ls' := #[true, true, true, true, true, true, true, true, false, false, false, false, false]) rfl (by kernel_rfl) rfl fun K_60 hK61 => ?_
      refine st_call HE58 (wt0 rfl) rfl rfl rfl en_107 rfl rfl (impl_divideSmall _ _ (mulN a1 ([e23.1] : List Int)) e23.2 _ (HH56.sl (i := 0) rfl) (by first | assumption | exact mulN_limbs _ _) (by omega) (by first | omega | exact Nat.le_trans (mulN_len (by assumption) (by intro x hx; simp at hx; omega)) (by simp; omega))) fun e w' hr => ?_
      obtain ⟨Ar27_0, cr27_0, rfl, hor27_0, hbr27⟩ := hr
      obtain ⟨Sr27, HH62⟩ := HH56.newS hbr27 hor27_0
      refine ⟨_, rfl, fun a_63 HE64 => hK61 _ _ (by exact HH62.sel [3] (by decide) rfl) ?_⟩
      have HS65 := HH62.sel [3] (by decide) rfl
      refine dr_take (i := 8) (ls' := #[true, true, true, true, true, true, true, true, true, false, false, false, false]) HE64 HS65 rfl (by kernel_rfl) (by kernel_rfl) (by kernel_rfl) (fun _ _ _ h => h) rfl (wt0 rfl) (x_move rfl) rfl rfl fun a_66 HE67 => ?_
      refine dr_take (i := 9) (ls' := #[true, true, true, true, true, true, true, true, true, true, false, false, false]) HE67 HS65 rfl (by kernel_rfl) (by kernel_rfl) (by kernel_rfl) (fun _ _ _ h => h) rfl (wt0 rfl) (x_extract rfl rfl) rfl rfl fun a_68 HE69 => ?_
      refine dr_take (i := 10) (ls' := #[true, true, true, true, true, true, true, true, true, true, true, false, false]) HE69 HS65 rfl (by kernel_rfl) (by kernel_rfl) (by kernel_rfl) (fun _ _ _ h => h) rfl (wt0 rfl) (x_extract rfl rfl) rfl rfl fun a_70 HE71 => ?_
      refine dr_take (i := 11) (ls' := #[true, true, true, true, true, true, true, true, true, true, true, true, false]) HE71 HS65 rfl (by kernel_rfl) (by kernel_rfl) (by kernel_rfl) (fun _ _ _ h => h) rfl (wt0 rfl) (x_assign rfl) rfl rfl fun a_72 HE73 => ?_
      refine dr_take (i := 12) (ls' := #[true, true, true, true, true, true, true, true, true, true, true, true, true]) HE73 HS65 rfl (by kernel_rfl) (by kernel_rfl) (by kernel_rfl) (fun _ _ _ h => h) rfl (wt0 rfl) (x_assign rfl) rfl rfl fun a_74 HE75 => ?_
      refine dr_done (by kernel_rfl) ?_
      clear HH34 a_30 HE31 a_37 HE38 a_39 HE40 a_41 HE42 a_43 HE44 a_45 HE46 HH35 HS36 K_47 hK48 HH51 HH55 a_49 HE50 HS52 K_53 hK54 HH56 a_57 HE58 HS59 a_63 HE64 a_66 HE67 a_68 HE69 a_70 HE71 a_72 HE73 hK61 K_60
      refine nrm ?_
      refine wp_seq ?_
      refine rg ?_
      refine pl_x HE75 HH62 (wt0 rfl) (x_move rfl) rfl rfl fun a_76 HE77 => ?_
      refine pl_x HE77 HH62 (wt0 rfl) (x_eql rfl rfl) rfl rfl fun a_78 HE79 => ?_
      refine wpList_nil ?_
      clear a_74 HE75 a_76 HE77
      refine nrm ?_
      refine cnd_e HE79 rfl (fun hc28 => ?_) (fun hc28 => ?_)
      · refine wp_seq ?_
        refine rg ?_
        refine pl_x HE79 HH62 (wt0 rfl) (x_move rfl) rfl rfl fun a_80 HE81 => ?_
        refine pl_x HE81 HH62 (wt0 rfl) (x_move rfl) rfl rfl fun a_82 HE83 => ?_
        refine pl_x HE83 HH62 (wt0 rfl) (x_assign rfl) rfl rfl fun a_84 HE85 => ?_
        refine pl_x HE85 HH62 (wt0 rfl) (x_assign rfl) rfl rfl fun a_86 HE87 => ?_
        refine wpList_nil ?_
        clear a_78 HE79 a_80 HE81 a_82 HE83 a_84 HE85
        refine nrm ?_
        refine wp_ret ?_
        refine (blk_ret (thn_ret (thn_ret (blk_ret (thn_ret ?_)))))
        refine ret2 HE87 rfl (rv_tmp rfl) (rv_tmp rfl) ?_
        have HH88 := HH62.toIf (0 ≤ (stepFI a0 a1).2)
        have hF : (stepFI a0 a1) = ((divN (mulN a1 ([e23.1] : List Int)) e23.2).1, (k : Int)) := by
          first | (subst xe23; unfold stepFI; rw [p21_1, stepFr_hit (by omega) hc28]; rfl) | (unfold stepFI; rw [p21_1, List.drop_of_length_le (by omega)]; rfl)
        rw [hF] at HH88
        exact ⟨_, _, _, by rw [hF] <;> rfl, by rw [hF]; exact HH88.sel [0] (by decide) rfl⟩
      · refine wp_skip ?_
        refine blk_n ?_
        refine nrm ?_
        refine rg ?_
        refine pl_x HE79 HH62 (wt0 rfl) (x_add rfl rfl (by exact ⟨by omega, by omega⟩)) rfl rfl fun a_89 HE90 => ?_
        refine pl_x HE90 HH62 (wt0 rfl) (x_move rfl) rfl rfl fun a_91 HE92 => ?_
        refine wpList_nil ?_
        clear a_78 HE79 a_89 HE90
        exact nrm ⟨a0.length - (k + 1), (by omega), k + 1, rfl, HE92.sub ⟨(lkI rfl (by first | rfl | omega | (simp [p21_0, p21_1, hc22, xe23, hc28]; done))), rfl, rfl, rfl, trivial⟩, (HH62.sel [] (by decide) rfl), (by first | omega | assumption | (simp; done) | simp_all), (by subst xe23; rw [p21_1, stepFr_miss (by omega) hc28])⟩
    · refine wp_exit ?_
      refine (thn_exit (thn_exit (blk_hit ?_)))
      refine nrm ?_
      refine wp_seq ?_
      refine rg ?_
      refine pl_x HE18 HH16 (wt0 rfl) (x_move rfl) rfl rfl fun a_93 HE94 => ?_
      refine pl_x HE94 HH16 (wt0 rfl) (x_assign rfl) rfl rfl fun a_95 HE96 => ?_
      refine pl_x HE96 HH16 (wt0 rfl) (x_assign rfl) rfl rfl fun a_97 HE98 => ?_
      refine wpList_nil ?_
      clear a_17 HE18 a_93 HE94 a_95 HE96
      refine nrm ?_
      refine wp_ret ?_
      refine ret2 HE98 rfl (rv_tmp rfl) (rv_tmp rfl) ?_
      have hN : ¬ (0 ≤ (stepFI a0 a1).2) := by unfold stepFI; rw [p21_1, List.drop_of_length_le (by omega)]; simp [stepFr]
      have HH99 := HH16.noIf (rSo eInt Nob A1 c1 a1) hN
      have hF : (stepFI a0 a1) = (a1, -1) := by
        first | (subst xe0; unfold stepFI; rw [p21_1, stepFr_hit (by omega) hc22]; rfl) | (unfold stepFI; rw [p21_1, List.drop_of_length_le (by omega)]; rfl)
      rw [hF] at HH99
      exact ⟨_, _, _, by rw [hF] <;> rfl, by rw [hF]; exact HH99.sel [0] (by decide) rfl⟩

set_option maxRecDepth 100000 in
set_option maxHeartbeats 4000000 in
theorem spec_l08Next (A0 : Option Addr) (c0 : Nat) (a0 : (List tFraction)) (A1 : Option Addr) (c1 : Nat) (a1 : (List Int)) (w : World) (h0 : Sl eFraction w (Old w) A0 c0 a0) (h1 : Sl eInt w (Old w) A1 c1 a1) (s0 : okFr a0) (s1 : limbs a1) (s2 : a1.length ≤ 40) (s3 : a0.length ≤ 100) :
    Calls Try.prog 109 #[.slice A0 a0.length c0, .slice A1 a1.length c1] w fun e w' => ∃ (A0' : Option Addr) (c0' : Nat), e = .returned (.tuple #[.slice A0' (stepFS a0 a1).1.length c0', .int .i64 (stepFS a0 a1).2]) ∧ So eInt w' (Fr w w') A0' c0' (stepFS a0 a1).1 ∧ Below w.heap.size w w' := by
  have l0 := h0.len
  have l1 := h1.len
  have HH1 := Held.start Nob w
  refine enter (n := 38) Try.func109 rfl rfl rfl fun a_2 HE3 => ?_
  refine wp_seq ?_
  refine rg ?_
  refine pl_x HE3 HH1 (wt0 rfl) (x_assign rfl) rfl rfl fun a_4 HE5 => ?_
  refine pl_x HE5 HH1 (wt0 rfl) (x_assign rfl) rfl rfl fun a_6 HE7 => ?_
  refine wpList_nil ?_
  clear a_2 HE3 a_4 HE5
  refine nrm ?_
  refine wp_seq ?_
  refine wp_seq ?_
  refine rg ?_
  refine pl_x HE7 HH1 (wt0 rfl) (x_assign rfl) rfl rfl fun a_8 HE9 => ?_
  refine wpList_nil ?_
  clear a_6 HE7
  refine nrm ?_
  refine wp_block ?_
  refine lp (fun m a w' => ∃ (k : Nat), m = a0.length - k ∧ Env 38 [(6, .int .i64 (k : Int)), (0, .slice A0 (a0.length) c0), (1, .slice A1 (a1.length) c1)] a ∧ Held Nob w [] w' ∧ (k ≤ a0.length) ∧ (stepFr a0 a1 0 = stepFr (a0.drop k) a1 k)) (a0.length - (0)) ?_ ?_
  · exact ⟨0, rfl, HE9.sub ⟨(lkI rfl (by first | rfl | omega | (simp []; done))), rfl, rfl, trivial⟩, (HH1.sel [] (by decide) rfl), (by first | omega | assumption | (simp; done) | simp_all), (by rfl)⟩
  · rintro m a_10 w' ⟨k, rfl, HE11, HH12, p21_0, p21_1⟩
    refine wp_seq ?_
    refine wp_seq ?_
    refine rg ?_
    refine pl_x HE11 HH12 (wt0 rfl) (x_move rfl) rfl rfl fun a_13 HE14 => ?_
    refine pl_x HE14 HH12 (wt0 rfl) (x_move rfl) rfl rfl fun a_15 HE16 => ?_
    refine pl_x HE16 HH12 (wt0 rfl) (x_len Try.underlying67 rfl) rfl rfl fun a_17 HE18 => ?_
    refine pl_x HE18 HH12 (wt0 rfl) (x_lss rfl rfl) rfl rfl fun a_19 HE20 => ?_
    refine wpList_nil ?_
    clear a_8 HE9 HH1 a_10 HE11 a_13 HE14 a_15 HE16 a_17 HE18
    refine nrm ?_
    refine cnd_d HE20 rfl (fun hc22 => ?_) (fun hc22 => ?_)
    · refine wp_skip ?_
      refine nrm ?_
      refine wp_seq ?_
      refine wp_block ?_
      refine wp_seq ?_
      refine rg ?_
      refine pl_x HE20 HH12 (wt0 rfl) (x_move rfl) rfl rfl fun a_21 HE22 => ?_
      refine pl_x HE22 HH12 (wt0 rfl) (x_move rfl) rfl rfl fun a_23 HE24 => ?_
      refine pl_x HE24 HH12 (wt0 rfl) (x_move rfl) rfl rfl fun a_25 HE26 => ?_
      have ke23 : k < a0.length := by omega
      obtain ⟨be23, fe23, ese23, Ae23, Re23, De23⟩ := el_old h0 ke23
      obtain ⟨e23, xe23⟩ : ∃ x, x = a0[k] := ⟨_, rfl⟩
      rw [← xe23] at Re23
      have Qe23 := Re23
      obtain ⟨rfl, ge23_0, ge23_1⟩ := shape_Fraction Re23
      have je23_0 := ge23_0; unfold I64 at je23_0
      have je23_1 := ge23_1; unfold I64 at je23_1
      have fe23 := s0 e23 (by rw [xe23]; exact List.getElem_mem _)
      refine pl_x HE26 HH12 (wt0 rfl) (x_indexAddr ts_67 rfl rfl Ae23 rfl ke23) rfl rfl fun a_27 HE28 => ?_
      refine pl_x HE28 HH12 (wt0 rfl) (x_fieldAddr fa_130_0 rfl) rfl rfl fun a_29 HE30 => ?_
      refine pl_x HE30 HH12 (wt0 rfl) (x_load1 tv_2 rfl (c_old (De23 0 _ rfl))) rfl rfl fun a_31 HE32 => ?_
      refine pl fun K_33 hK34 => ?_
      refine st_lit (m := 1) (cs := [.int .i64 (e23.1)]) (e := 2) HE32 HH12 (run_lit ts_31 HE32 (vs := [.int .i64 (e23.1)]) rfl rfl (by simp [Value.cells]) rfl (by decide)) (wt0 rfl) rfl rfl fun q24 a_35 w' HE36 HH37 => hK34 _ _ ?_
      refine pl fun K_38 hK39 => ?_
      have HH40 := Held.vecFlat (E := eInt) (xs := [e23.1]) (css := [[.int .i64 (e23.1)]]) HH37 rfl (by unfold maxLen; simp) (fun i x hx => by match i with | 0 => exact ⟨_, rfl, fun _ => by simp at hx; subst hx; exact (oI (by exact ⟨by omega, by omega⟩))⟩ | i + 1 => simp at hx)
      refine st_call HE36 (wt0 rfl) rfl rfl rfl en_162 rfl rfl (spec_l02Mul _ _ a1 _ _ ([e23.1] : List Int) _ (HH40.old h1) (HH40.vecSl (i := 0) rfl) (by assumption) (by first | assumption | (intro x hx; simp at hx; omega)) (by first | omega | simp) (by first | omega | simp)) fun e w' hr => ?_
      obtain ⟨Ar25_0, cr25_0, rfl, hor25_0, hbr25⟩ := hr
      obtain ⟨Sr25, HH41⟩ := HH40.newS hbr25 hor25_0
      refine ⟨_, rfl, fun a_42 HE43 => hK39 _ _ ?_⟩
      refine pl_x HE43 HH41 (wt0 rfl) (x_assign rfl) rfl rfl fun a_44 HE45 => ?_
      refine wpList_nil ?_
      clear a_19 HE20 a_21 HE22 a_23 HE24 a_25 HE26 a_27 HE28 a_29 HE30 a_31 HE32 HH12 K_33 hK34 HH37 HH40 a_35 HE36 a_42 HE43 hK39 K_38
      refine nrm ?_
      refine wp_seq ?_
      refine rg ?_
      refine pl_x HE45 HH41 (wt0 rfl) (x_move rfl) rfl rfl fun a_46 HE47 => ?_
      refine pl_x HE47 HH41 (wt0 rfl) (x_move rfl) rfl rfl fun a_48 HE49 => ?_
      refine pl_x HE49 HH41 (wt0 rfl) (x_move rfl) rfl rfl fun a_50 HE51 => ?_
      refine pl_x HE51 HH41 (wt0 rfl) (x_indexAddr ts_67 rfl rfl Ae23 rfl ke23) rfl rfl fun a_52 HE53 => ?_
      refine pl_x HE53 HH41 (wt0 rfl) (x_fieldAddr fa_130_1 rfl) rfl rfl fun a_54 HE55 => ?_
      refine pl_x HE55 HH41 (wt0 rfl) (x_load1 tv_2 rfl (c_old (De23 1 _ rfl))) rfl rfl fun a_56 HE57 => ?_
      refine pl fun K_58 hK59 => ?_
      refine st_call HE57 (wt0 rfl) rfl rfl rfl en_100 rfl rfl (spec_l02By _ _ (mulN a1 ([e23.1] : List Int)) e23.2 _ (HH41.sl (i := 0) rfl) (by first | assumption | exact mulN_limbs _ _) (by omega) (by first | omega | exact Nat.le_trans (mulN_len (by assumption) (by intro x hx; simp at hx; omega)) (by simp; omega))) fun e w' hr => ?_
      obtain ⟨Ar26_0, cr26_0, rfl, hor26_0, hbr26⟩ := hr
      obtain ⟨Sr26, HH60⟩ := HH41.newS hbr26 hor26_0
      refine ⟨_, rfl, fun a_61 HE62 => hK59 _ _ ?_⟩
      refine pl_x HE62 HH60 (wt0 rfl) (x_move rfl) rfl rfl fun a_63 HE64 => ?_
      refine pl_x HE64 HH60 (wt0 rfl) (x_extract rfl rfl) rfl rfl fun a_65 HE66 => ?_
      refine pl_x HE66 HH60 (wt0 rfl) (x_extract rfl rfl) rfl rfl fun a_67 HE68 => ?_
      refine pl_x HE68 HH60 (wt0 rfl) (x_assign rfl) rfl rfl fun a_69 HE70 => ?_
      refine pl_x HE70 HH60 (wt0 rfl) (x_assign rfl) rfl rfl fun a_71 HE72 => ?_
      refine wpList_nil ?_
      clear a_44 HE45 a_46 HE47 a_48 HE49 a_50 HE51 a_52 HE53 a_54 HE55 HH41 a_56 HE57 a_61 HE62 a_63 HE64 a_65 HE66 a_67 HE68 a_69 HE70 hK59 K_58
      refine nrm ?_
      refine wp_seq ?_
      refine rg ?_
      refine pl_x HE72 HH60 (wt0 rfl) (x_move rfl) rfl rfl fun a_73 HE74 => ?_
      refine pl_x HE74 HH60 (wt0 rfl) (x_eql rfl rfl) rfl rfl fun a_75 HE76 => ?_
      refine wpList_nil ?_
      clear a_71 HE72 a_73 HE74
      refine nrm ?_
      refine cnd_e HE76 rfl (fun hc27 => ?_) (fun hc27 => ?_)
      · refine wp_seq ?_
        refine rg ?_
        refine pl_x HE76 HH60 (wt0 rfl) (x_move rfl) rfl rfl fun a_77 HE78 => ?_
        refine pl_x HE78 HH60 (wt0 rfl) (x_move rfl) rfl rfl fun a_79 HE80 => ?_
        refine pl_x HE80 HH60 (wt0 rfl) (x_assign rfl) rfl rfl fun a_81 HE82 => ?_
        refine pl_x HE82 HH60 (wt0 rfl) (x_assign rfl) rfl rfl fun a_83 HE84 => ?_
        refine wpList_nil ?_
        clear a_75 HE76 a_77 HE78 a_79 HE80 a_81 HE82
        refine nrm ?_
        refine wp_ret ?_
        refine (blk_ret (thn_ret (thn_ret (blk_ret (thn_ret ?_)))))
        refine ret2 HE84 rfl (rv_tmp rfl) (rv_tmp rfl) ?_
        have hF : (stepFS a0 a1) = ((divN (mulN a1 ([e23.1] : List Int)) e23.2).1, (k : Int)) := by
          first | (subst xe23; unfold stepFS; rw [p21_1, stepFr_hit (by omega) hc27]; rfl) | (unfold stepFS; rw [p21_1, List.drop_of_length_le (by omega)]; rfl)
        exact ⟨Ar26_0, cr26_0, by rw [hF] <;> rfl, by rw [hF]; exact (HH60.so (i := 0) rfl), HH60.below⟩
      · refine wp_skip ?_
        refine blk_n ?_
        refine nrm ?_
        refine rg ?_
        refine pl_x HE76 HH60 (wt0 rfl) (x_move rfl) rfl rfl fun a_85 HE86 => ?_
        refine pl_x HE86 HH60 (wt0 rfl) (x_add rfl rfl (by exact ⟨by omega, by omega⟩)) rfl rfl fun a_87 HE88 => ?_
        refine pl_x HE88 HH60 (wt0 rfl) (x_assign rfl) rfl rfl fun a_89 HE90 => ?_
        refine wpList_nil ?_
        clear a_75 HE76 a_85 HE86 a_87 HE88
        exact nrm ⟨a0.length - (k + 1), (by omega), k + 1, rfl, HE90.sub ⟨(lkI rfl (by first | rfl | omega | (simp [p21_0, p21_1, hc22, xe23, hc27]; done))), rfl, rfl, trivial⟩, (HH60.sel [] (by decide) rfl), (by first | omega | assumption | (simp; done) | simp_all), (by subst xe23; rw [p21_1, stepFr_miss (by omega) hc27])⟩
    · refine wp_exit ?_
      refine (thn_exit (thn_exit (blk_hit ?_)))
      refine nrm ?_
      refine wp_seq ?_
      refine rg ?_
      refine pl_x HE20 HH12 (wt0 rfl) (x_assign rfl) rfl rfl fun a_91 HE92 => ?_
      refine pl_x HE92 HH12 (wt0 rfl) (x_assign rfl) rfl rfl fun a_93 HE94 => ?_
      refine wpList_nil ?_
      clear a_19 HE20 a_91 HE92
      refine nrm ?_
      refine wp_ret ?_
      refine ret2 HE94 rfl (rv_tmp rfl) (rv_tmp rfl) ?_
      have hF : (stepFS a0 a1) = ([], -1) := by
        first | (subst xe0; unfold stepFS; rw [p21_1, stepFr_hit (by omega) hc22]; rfl) | (unfold stepFS; rw [p21_1, List.drop_of_length_le (by omega)]; rfl)
      exact ⟨none, 0, by rw [hF] <;> rfl, by rw [hF]; exact (So.nil (Nat.zero_le _)), HH12.below⟩

theorem ct_L_40 {xs : List Int} (h : xs.length ≤ 40) : (ct_L xs : Int) ≤ 1000000000 := by
  have h1 := cntL_const ct_i 1 xs fun _ => rfl
  unfold ct_L; omega

theorem runFracs_ct (l : List tFraction) (n : List Int) (m : Int) : (ct_L (runFracs l n m).1 : Int) ≤ 1000000000 := by
  refine ct_L_40 ?_
  unfold runFracs
  split
  · rename_i h
    simp only [Bool.and_eq_true] at h
    split
    · exact runFr_len _ _ _ (isPos_facts h.2).2.1
    · simp
  · simp

set_option maxRecDepth 100000 in
set_option maxHeartbeats 4000000 in
theorem impl_RunFractions1 (A0 : Option Addr) (c0 : Nat) (a0 : (List Int)) (w : World) (h0 : Sl eInt w (Old w) A0 c0 a0) :
    Calls Try.prog 131 #[.slice A0 a0.length c0] w fun e w' => e = .returned (.bool (yes a0)) ∧ w = w' := by
  have l0 := h0.len
  have HH1 := Held.start Nob w
  refine enter (n := 3) Try.func131 rfl rfl rfl fun a_2 HE3 => ?_
  refine wp_seq ?_
  refine rg ?_
  refine pl_x HE3 HH1 (wt0 rfl) (x_assign rfl) rfl rfl fun a_4 HE5 => ?_
  refine wpList_nil ?_
  clear a_2 HE3
  refine nrm ?_
  refine wp_seq ?_
  refine rg ?_
  refine pl_x HE5 HH1 (wt0 rfl) (x_assign rfl) rfl rfl fun a_6 HE7 => ?_
  refine wpList_nil ?_
  clear a_4 HE5
  refine nrm ?_
  refine wp_ret ?_
  refine ret1 HE7 rfl (rv_tmp rfl) ?_
  have hF : (yes a0) = true := by
    first | rfl | (simp [yes]; done) | (simp [yes]; omega) | grind [yes]
  exact ⟨by rw [hF] <;> rfl, rfl⟩

set_option maxRecDepth 100000 in
set_option maxHeartbeats 4000000 in
theorem impl_runFractions (A0 : Option Addr) (c0 : Nat) (a0 : (List tFraction)) (A1 : Option Addr) (c1 : Nat) (a1 : (List Int)) (a2 : Int) (w : World) (h0 : Sl eFraction w (Old w) A0 c0 a0) (h1 : Sl eInt w (Old w) A1 c1 a1) (s0 : okFr a0) (s1 : limbs a1) (s2 : a1.length ≤ 40) (s3 : a0.length ≤ 100) (s4 : 0 ≤ a2 ∧ a2 ≤ 20000) :
    Calls Try.prog 130 #[.slice A0 a0.length c0, .slice A1 a1.length c1, .int .i64 a2, .func (.func 131) #[] #[]] w fun e w' => ∃ (A0' : Option Addr) (c0' : Nat), e = .returned (.tuple #[.slice A0' (runFI a0 a1 a2).1.length c0', .int .i64 (runFI a0 a1 a2).2.1, .bool (runFI a0 a1 a2).2.2.1, .int .i64 (runFI a0 a1 a2).2.2.2]) ∧ So eInt w' (Fr w w') A0' c0' (runFI a0 a1 a2).1 ∧ Below w.heap.size w w' := by
  have l0 := h0.len
  have l1 := h1.len
  have HH1 := Held.start Nob w
  refine enter (n := 46) Try.func130 rfl rfl rfl fun a_2 HE3 => ?_
  refine wp_seq ?_
  refine rg ?_
  refine pl_x HE3 HH1 (wt0 rfl) (x_assign rfl) rfl rfl fun a_4 HE5 => ?_
  refine pl_x HE5 HH1 (wt0 rfl) (x_assign rfl) rfl rfl fun a_6 HE7 => ?_
  refine pl_x HE7 HH1 (wt0 rfl) (x_assign rfl) rfl rfl fun a_8 HE9 => ?_
  refine pl_x HE9 HH1 (wt0 rfl) (x_assign rfl) rfl rfl fun a_10 HE11 => ?_
  refine wpList_nil ?_
  clear a_2 HE3 a_4 HE5 a_6 HE7 a_8 HE9
  refine nrm ?_
  refine wp_seq ?_
  refine rg ?_
  refine pl_x HE11 HH1 (wt0 rfl) (x_move rfl) rfl rfl fun a_12 HE13 => ?_
  refine pl fun K_14 hK15 => ?_
  refine st_call HE13 (wt0 rfl) rfl rfl rfl en_91 rfl rfl (Clone_Int64 _ _ a1 _ (HH1.old h1) (by omega)) fun e w' hr => ?_
  obtain ⟨Ar21_0, cr21_0, rfl, hor21_0, hbr21⟩ := hr
  obtain ⟨Sr21, HH16⟩ := HH1.newS hbr21 hor21_0
  refine ⟨_, rfl, fun a_17 HE18 => hK15 _ _ ?_⟩
  refine pl_x HE18 HH16 (wt0 rfl) (x_assign rfl) rfl rfl fun a_19 HE20 => ?_
  refine wpList_nil ?_
  clear a_10 HE11 HH1 a_12 HE13 a_17 HE18 hK15 K_14
  refine nrm ?_
  refine wp_seq ?_
  refine rg ?_
  refine pl_x HE20 HH16 (wt0 rfl) (x_assign rfl) rfl rfl fun a_21 HE22 => ?_
  refine wpList_nil ?_
  clear a_19 HE20
  refine nrm ?_
  refine wp_block ?_
  refine lp (fun m a w' => ∃ (k : Nat) (y : List Int) (A_1 : Option Addr) (c_1 : Nat) (S_1 : Nat → Prop), m = (a2 - (k : Int)).toNat ∧ Env 46 [(1, .slice A_1 (List.length y) c_1), (12, .int .i64 (k : Int)), (0, .slice A0 (a0.length) c0), (2, .int .i64 (a2)), (3, .func (.func 131) #[] #[])] a ∧ Held Nob w [rSo eInt S_1 A_1 c_1 y] w' ∧ ((k : Int) ≤ a2) ∧ (limbs y) ∧ (y.length ≤ 40) ∧ (runFI a0 a1 a2 = runFr a0 (a2 - k).toNat y k)) ((a2 - ((0) : Int)).toNat) ?_ ?_
  · exact ⟨0, a1, Ar21_0, cr21_0, Sr21, rfl, HE22.sub ⟨rfl, (lkI rfl (by first | rfl | omega | (simp []; done))), rfl, rfl, rfl, trivial⟩, (HH16.sel [0] (by decide) rfl), (by first | omega | assumption | (simp; done) | simp_all), (by exact s1), (by exact s2), (by unfold runFI; simp)⟩
  · rintro m a_23 w' ⟨k, y, A_1, c_1, S_1, rfl, HE24, HH25, p22_0, p22_1, p22_2, p22_3⟩
    refine wp_seq ?_
    refine wp_block ?_
    refine wp_seq ?_
    refine rg ?_
    refine pl_x HE24 HH25 (wt0 rfl) (x_move rfl) rfl rfl fun a_26 HE27 => ?_
    refine pl_x HE27 HH25 (wt0 rfl) (x_move rfl) rfl rfl fun a_28 HE29 => ?_
    refine pl fun K_30 hK31 => ?_
    refine st_call HE29 (wt0 rfl) rfl rfl rfl en_112 rfl rfl (impl_stepFractions _ _ a0 _ _ y _ (HH25.old h0) (HH25.sl (i := 0) rfl) (by first | assumption | exact hV.2) (by first | assumption | exact hP.1) (by omega) (by omega)) fun e w' hr => ?_
    obtain ⟨Ar23_0, cr23_0, Sr23_0, rfl, hbr23⟩ := hr
    have HH32 := HH25.app hbr23
    clear hbr23
    have HH33 : Held Nob w ([rIf (0 ≤ (stepFI a0 y).2) (rSo eInt Sr23_0 Ar23_0 cr23_0 ((stepFI a0 y).1)), rSo eInt S_1 A_1 c_1 y]) _ := HH32
    refine ⟨_, rfl, fun a_34 HE35 => hK31 _ _ ?_⟩
    refine pl_x HE35 HH33 (wt0 rfl) (x_move rfl) rfl rfl fun a_36 HE37 => ?_
    refine pl_x HE37 HH33 (wt0 rfl) (x_extract rfl rfl) rfl rfl fun a_38 HE39 => ?_
    refine pl_x HE39 HH33 (wt0 rfl) (x_extract rfl rfl) rfl rfl fun a_40 HE41 => ?_
    refine pl_x HE41 HH33 (wt0 rfl) (x_assign rfl) rfl rfl fun a_42 HE43 => ?_
    refine pl_x HE43 HH33 (wt0 rfl) (x_assign rfl) rfl rfl fun a_44 HE45 => ?_
    refine wpList_nil ?_
    clear a_21 HE22 HH16 a_23 HE24 a_26 HE27 HH25 HH32 a_28 HE29 a_34 HE35 a_36 HE37 a_38 HE39 a_40 HE41 a_42 HE43 hK31 K_30
    refine nrm ?_
    refine wp_seq ?_
    refine wp_seq ?_
    refine rg ?_
    refine pl_x HE45 HH33 (wt0 rfl) (x_move rfl) rfl rfl fun a_46 HE47 => ?_
    refine pl_x HE47 HH33 (wt0 rfl) (x_move rfl) rfl rfl fun a_48 HE49 => ?_
    refine pl fun K_50 hK51 => ?_
    refine st_call HE49 (wt0 rfl) rfl rfl rfl en_131 rfl rfl (impl_RunFractions1 _ _ y _ (HH33.sl (i := 1) rfl)) fun e w' hr => ?_
    obtain ⟨rfl, rfl⟩ := hr
    refine ⟨_, rfl, fun a_52 HE53 => hK51 _ _ ?_⟩
    refine pl_x HE53 HH33 (wt0 rfl) (x_not rfl) rfl rfl fun a_54 HE55 => ?_
    refine pl_x HE55 HH33 (wt0 rfl) (x_move rfl) rfl rfl fun a_56 HE57 => ?_
    refine pl_x HE57 HH33 (wtT HE57 rfl rfl rfl rfl) (x_move rfl) rfl rfl fun a_58 HE59 => ?_
    refine pl_x HE59 HH33 (wtT HE59 rfl rfl rfl rfl) (x_lss rfl rfl) rfl rfl fun a_60 HE61 => ?_
    refine pl_x HE61 HH33 (wt0 rfl) (x_pickF rfl rfl rfl) rfl rfl fun a_62 HE63 => ?_
    refine pl_x HE63 HH33 (wt0 rfl) (x_move rfl) rfl rfl fun a_64 HE65 => ?_
    by_cases hc25 : (stepFI a0 y).2 < 0
    · refine pl_no HE65 (wtF HE65 rfl rfl rfl (decide_eq_true hc25)) rfl rfl fun a_66 HE67 => ?_
      refine pl_no HE67 (wtF HE67 rfl rfl rfl (decide_eq_true hc25)) rfl rfl fun a_68 HE69 => ?_
      refine pl_no HE69 (wtF HE69 rfl rfl rfl (decide_eq_true hc25)) rfl rfl fun a_70 HE71 => ?_
      refine pl_x HE71 HH33 (wt0 rfl) (x_pickT rfl (decide_eq_true hc25) rfl) rfl rfl fun a_72 HE73 => ?_
      refine wpList_nil ?_
      clear a_44 HE45 a_46 HE47 a_48 HE49 a_52 HE53 a_54 HE55 a_56 HE57 a_58 HE59 a_60 HE61 a_62 HE63 a_64 HE65 a_66 HE67 a_68 HE69 a_70 HE71 hK51 K_50
      refine nrm ?_
      refine cndT HE73 rfl rfl ?_
      refine wp_seq ?_
      refine rg ?_
      refine pl_x HE73 HH33 (wt0 rfl) (x_move rfl) rfl rfl fun a_74 HE75 => ?_
      refine pl_x HE75 HH33 (wt0 rfl) (x_move rfl) rfl rfl fun a_76 HE77 => ?_
      refine pl_x HE77 HH33 (wt0 rfl) (x_move rfl) rfl rfl fun a_78 HE79 => ?_
      refine pl_x HE79 HH33 (wt0 rfl) (x_lss rfl rfl) rfl rfl fun a_80 HE81 => ?_
      refine pl_x HE81 HH33 (wt0 rfl) (x_assign rfl) rfl rfl fun a_82 HE83 => ?_
      refine pl_x HE83 HH33 (wt0 rfl) (x_assign rfl) rfl rfl fun a_84 HE85 => ?_
      refine pl_x HE85 HH33 (wt0 rfl) (x_assign rfl) rfl rfl fun a_86 HE87 => ?_
      refine pl_x HE87 HH33 (wt0 rfl) (x_assign rfl) rfl rfl fun a_88 HE89 => ?_
      refine wpList_nil ?_
      clear a_72 HE73 a_74 HE75 a_76 HE77 a_78 HE79 a_80 HE81 a_82 HE83 a_84 HE85 a_86 HE87
      refine nrm ?_
      refine wp_ret ?_
      refine (thn_ret (blk_ret (thn_ret (thn_ret (blk_ret ?_)))))
      refine ret4 HE89 rfl (rv_tmp rfl) (rv_tmp rfl) (rv_tmp rfl) (rv_tmp rfl) ?_
      have hF : (runFI a0 a1 a2) = (y, (k : Int), decide ((stepFI a0 y).2 < 0), 0) := by
        rw [p22_3, runFr_eq]; grind
      exact ⟨A_1, c_1, by rw [hF] <;> rfl, by rw [hF]; exact (HH33.so (i := 1) rfl), HH33.below⟩
    · refine pl_x HE65 HH33 (wtT HE65 rfl rfl rfl (decide_eq_false hc25)) (x_move rfl) rfl rfl fun a_90 HE91 => ?_
      refine pl_x HE91 HH33 (wtT HE91 rfl rfl rfl (decide_eq_false hc25)) (x_move rfl) rfl rfl fun a_92 HE93 => ?_
      refine pl_x HE93 HH33 (wtT HE93 rfl rfl rfl (decide_eq_false hc25)) (x_eql rfl rfl) rfl rfl fun a_94 HE95 => ?_
      refine pl_x HE95 HH33 (wt0 rfl) (x_pickF rfl (decide_eq_false hc25) rfl) rfl rfl fun a_96 HE97 => ?_
      refine wpList_nil ?_
      clear a_44 HE45 a_46 HE47 a_48 HE49 a_52 HE53 a_54 HE55 a_56 HE57 a_58 HE59 a_60 HE61 a_62 HE63 a_64 HE65 a_90 HE91 a_92 HE93 a_94 HE95 hK51 K_50
      refine nrm ?_
      refine cnd_e HE97 rfl (fun hc26 => ?_) (fun hc26 => ?_)
      · refine wp_seq ?_
        refine rg ?_
        refine pl_x HE97 HH33 (wt0 rfl) (x_move rfl) rfl rfl fun a_98 HE99 => ?_
        refine pl_x HE99 HH33 (wt0 rfl) (x_move rfl) rfl rfl fun a_100 HE101 => ?_
        refine pl_x HE101 HH33 (wt0 rfl) (x_move rfl) rfl rfl fun a_102 HE103 => ?_
        refine pl_x HE103 HH33 (wt0 rfl) (x_lss rfl rfl) rfl rfl fun a_104 HE105 => ?_
        refine pl_x HE105 HH33 (wt0 rfl) (x_assign rfl) rfl rfl fun a_106 HE107 => ?_
        refine pl_x HE107 HH33 (wt0 rfl) (x_assign rfl) rfl rfl fun a_108 HE109 => ?_
        refine pl_x HE109 HH33 (wt0 rfl) (x_assign rfl) rfl rfl fun a_110 HE111 => ?_
        refine pl_x HE111 HH33 (wt0 rfl) (x_assign rfl) rfl rfl fun a_112 HE113 => ?_
        refine wpList_nil ?_
        clear a_96 HE97 a_98 HE99 a_100 HE101 a_102 HE103 a_104 HE105 a_106 HE107 a_108 HE109 a_110 HE111
        refine nrm ?_
        refine wp_ret ?_
        refine (thn_ret (blk_ret (thn_ret (thn_ret (blk_ret ?_)))))
        refine ret4 HE113 rfl (rv_tmp rfl) (rv_tmp rfl) (rv_tmp rfl) (rv_tmp rfl) ?_
        have hF : (runFI a0 a1 a2) = (y, (k : Int), decide ((stepFI a0 y).2 < 0), 0) := by
          rw [p22_3, runFr_eq]; grind
        exact ⟨A_1, c_1, by rw [hF] <;> rfl, by rw [hF]; exact (HH33.so (i := 1) rfl), HH33.below⟩
      · refine wp_skip ?_
        refine nrm ?_
        refine wp_seq ?_
        refine wp_seq ?_
        refine rg ?_
        refine pl_x HE97 HH33 (wt0 rfl) (x_move rfl) rfl rfl fun a_114 HE115 => ?_
        refine pl_x HE115 HH33 (wt0 rfl) (x_len Try.underlying31 rfl) rfl rfl fun a_116 HE117 => ?_
        refine pl_x HE117 HH33 (wt0 rfl) (x_gtr rfl rfl) rfl rfl fun a_118 HE119 => ?_
        refine wpList_nil ?_
        clear a_96 HE97 a_114 HE115 a_116 HE117
        refine nrm ?_
        refine cnd_d HE119 rfl (fun hc27 => ?_) (fun hc27 => ?_)
        · refine wp_seq ?_
          refine rg ?_
          refine pl_x HE119 HH33 (wt0 rfl) (x_assign rfl) rfl rfl fun a_120 HE121 => ?_
          refine pl_x HE121 HH33 (wt0 rfl) (x_assign rfl) rfl rfl fun a_122 HE123 => ?_
          refine pl_x HE123 HH33 (wt0 rfl) (x_assign rfl) rfl rfl fun a_124 HE125 => ?_
          refine pl_x HE125 HH33 (wt0 rfl) (x_assign rfl) rfl rfl fun a_126 HE127 => ?_
          refine wpList_nil ?_
          clear a_118 HE119 a_120 HE121 a_122 HE123 a_124 HE125
          refine nrm ?_
          refine wp_ret ?_
          refine (thn_ret (blk_ret (thn_ret (thn_ret (blk_ret ?_)))))
          refine ret4 HE127 rfl (rv_tmp rfl) (rv_tmp rfl) (rv_tmp rfl) (rv_tmp rfl) ?_
          have hF : (runFI a0 a1 a2) = ([], 0, false, 5) := by
            rw [p22_3, runFr_eq]; grind
          exact ⟨none, 0, by rw [hF] <;> rfl, by rw [hF]; exact (So.nil (Nat.zero_le _)), HH33.below⟩
        · refine wp_skip ?_
          refine nrm ?_
          refine rg ?_
          refine pl_x HE119 HH33 (wt0 rfl) (x_move rfl) rfl rfl fun a_128 HE129 => ?_
          refine pl_x HE129 HH33 (wt0 rfl) (x_assign rfl) rfl rfl fun a_130 HE131 => ?_
          refine wpList_nil ?_
          clear a_118 HE119 a_128 HE129
          refine blk_n ?_
          refine nrm ?_
          refine rg ?_
          refine pl_x HE131 HH33 (wt0 rfl) (x_move rfl) rfl rfl fun a_132 HE133 => ?_
          refine pl_x HE133 HH33 (wt0 rfl) (x_add rfl rfl (by exact ⟨by omega, by omega⟩)) rfl rfl fun a_134 HE135 => ?_
          refine pl_x HE135 HH33 (wt0 rfl) (x_assign rfl) rfl rfl fun a_136 HE137 => ?_
          refine wpList_nil ?_
          clear a_130 HE131 a_132 HE133 a_134 HE135
          have HH138 := HH33.ofIf (by first | assumption | omega | (simp [p22_0, p22_1, p22_2, p22_3, hc25, hc26, hc27]; done))
          have E28 : ((stepFI a0 y).1) = (stepFI a0 y).1 := by
            first | rfl | simp
          exact nrm ⟨(a2 - ((k + 1) : Int)).toNat, (by omega), k + 1, (stepFI a0 y).1, Ar23_0, cr23_0, Sr23_0, rfl, HE137.sub ⟨(by rw [E28]; rfl), (lkI rfl (by first | rfl | omega | (simp [p22_0, p22_1, p22_2, p22_3, hc25, hc26, hc27]; done))), rfl, rfl, rfl, trivial⟩, ((HH138.sel [0] (by decide) rfl).to (by first | rfl | (rw [E28]; done) | (rw [E28]; rfl) | (simp only [E28]; done) | (simp only [E28]; rfl))), (by first | omega | assumption | (simp; done) | simp_all), (by exact (stepFI_facts s0 p22_1 (by omega)).1), (by omega), (by rw [p22_3, runFr_step (g := (a2 - ((k + 1 : Nat) : Int)).toNat) (by omega) (by omega) (by omega)]; rfl)⟩

set_option maxRecDepth 100000 in
set_option maxHeartbeats 4000000 in
theorem impl_RunFractions (A0 : Option Addr) (c0 : Nat) (a0 : (List tFraction)) (A1 : Option Addr) (c1 : Nat) (a1 : (List Int)) (a2 : Int) (w : World) (h0 : Sl eFraction w (Old w) A0 c0 a0) (h1 : Sl eInt w (Old w) A1 c1 a1) :
    Calls Try.prog 62 #[.slice A0 a0.length c0, .slice A1 a1.length c1, .int .i64 a2] w fun e w' => ∃ (A0' : Option Addr) (c0' : Nat), e = .returned (.tuple #[.slice A0' (runFracs a0 a1 a2).1.length c0', .int .i64 (runFracs a0 a1 a2).2.1, .bool (runFracs a0 a1 a2).2.2.1, .int .i64 (runFracs a0 a1 a2).2.2.2]) ∧ So eInt w' (Fr w w') A0' c0' (runFracs a0 a1 a2).1 ∧ Below w.heap.size w w' := by
  have l0 := h0.len
  have l1 := h1.len
  have HH1 := Held.start Nob w
  refine enter (n := 29) Try.func62 rfl rfl rfl fun a_2 HE3 => ?_
  refine wp_seq ?_
  refine rg ?_
  refine pl_x HE3 HH1 (wt0 rfl) (x_assign rfl) rfl rfl fun a_4 HE5 => ?_
  refine pl_x HE5 HH1 (wt0 rfl) (x_assign rfl) rfl rfl fun a_6 HE7 => ?_
  refine pl_x HE7 HH1 (wt0 rfl) (x_assign rfl) rfl rfl fun a_8 HE9 => ?_
  refine pl_x HE9 HH1 (wt0 rfl) (x_assign rfl) rfl rfl fun a_10 HE11 => ?_
  refine wpList_nil ?_
  clear a_2 HE3 a_4 HE5 a_6 HE7 a_8 HE9
  refine nrm ?_
  refine wp_seq ?_
  refine wp_seq ?_
  refine rg ?_
  refine pl_x HE11 HH1 (wt0 rfl) (x_move rfl) rfl rfl fun a_12 HE13 => ?_
  refine pl fun K_14 hK15 => ?_
  refine st_call HE13 (wt0 rfl) rfl rfl rfl en_111 rfl rfl (impl_ValidFractions _ _ a0 _ (HH1.old h0)) fun e w' hr => ?_
  obtain ⟨rfl, hbr21⟩ := hr
  have HH16 := HH1.on hbr21
  refine ⟨_, rfl, fun a_17 HE18 => hK15 _ _ ?_⟩
  refine pl_x HE18 HH16 (wt0 rfl) (x_not rfl) rfl rfl fun a_19 HE20 => ?_
  refine pl_x HE20 HH16 (wt0 rfl) (x_move rfl) rfl rfl fun a_21 HE22 => ?_
  rcases Bool.eq_false_or_eq_true ((validFrac a0)) with hc22 | hc22
  · have hV := validFrac_facts hc22
    refine pl_x HE22 HH16 (wtT HE22 rfl rfl rfl (not_f hc22)) (x_move rfl) rfl rfl fun a_23 HE24 => ?_
    refine pl fun K_25 hK26 => ?_
    refine st_call HE24 (wtT HE24 rfl rfl rfl (not_f hc22)) rfl rfl rfl en_101 rfl rfl (impl_isPositive _ _ a1 _ (HH16.old h1)) fun e w' hr => ?_
    obtain ⟨rfl, rfl⟩ := hr
    refine ⟨_, rfl, fun a_27 HE28 => hK26 _ _ ?_⟩
    refine pl_x HE28 HH16 (wtT HE28 rfl rfl rfl (not_f hc22)) (x_not rfl) rfl rfl fun a_29 HE30 => ?_
    refine pl_x HE30 HH16 (wt0 rfl) (x_pickF rfl (not_f hc22) rfl) rfl rfl fun a_31 HE32 => ?_
    refine wpList_nil ?_
    clear a_10 HE11 HH1 a_12 HE13 a_17 HE18 a_19 HE20 a_21 HE22 K_14 hK15 a_23 HE24 a_27 HE28 a_29 HE30 hK26 K_25
    refine nrm ?_
    refine cnd_nb HE32 rfl (fun hc24 => ?_) (fun hc24 => ?_)
    · refine wp_seq ?_
      refine rg ?_
      refine pl_x HE32 HH16 (wt0 rfl) (x_assign rfl) rfl rfl fun a_33 HE34 => ?_
      refine pl_x HE34 HH16 (wt0 rfl) (x_assign rfl) rfl rfl fun a_35 HE36 => ?_
      refine pl_x HE36 HH16 (wt0 rfl) (x_assign rfl) rfl rfl fun a_37 HE38 => ?_
      refine pl_x HE38 HH16 (wt0 rfl) (x_assign rfl) rfl rfl fun a_39 HE40 => ?_
      refine wpList_nil ?_
      clear a_31 HE32 a_33 HE34 a_35 HE36 a_37 HE38
      refine nrm ?_
      refine wp_ret ?_
      refine (thn_ret ?_)
      refine ret4 HE40 rfl (rv_tmp rfl) (rv_tmp rfl) (rv_tmp rfl) (rv_tmp rfl) ?_
      have hF : (runFracs a0 a1 a2) = ([], 0, false, 1) := by
        first | (simp [runFracs, hc22, hc24]; done) | grind [runFracs]
      exact ⟨none, 0, by rw [hF] <;> rfl, by rw [hF]; exact (So.nil (Nat.zero_le _)), HH16.below⟩
    · have hP := isPos_facts hc24
      refine wp_skip ?_
      refine nrm ?_
      refine wp_seq ?_
      refine wp_seq ?_
      refine rg ?_
      refine pl_x HE32 HH16 (wt0 rfl) (x_move rfl) rfl rfl fun a_41 HE42 => ?_
      refine pl fun K_43 hK44 => ?_
      refine st_call HE42 (wt0 rfl) rfl rfl rfl en_129 rfl rfl (impl_budgetOk a2 _ ) fun e w' hr => ?_
      obtain ⟨rfl, rfl⟩ := hr
      refine ⟨_, rfl, fun a_45 HE46 => hK44 _ _ ?_⟩
      refine pl_x HE46 HH16 (wt0 rfl) (x_not rfl) rfl rfl fun a_47 HE48 => ?_
      refine wpList_nil ?_
      clear a_31 HE32 a_41 HE42 a_45 HE46 hK44 K_43
      refine nrm ?_
      refine cnd_nb HE48 rfl (fun hc26 => ?_) (fun hc26 => ?_)
      · refine wp_seq ?_
        refine rg ?_
        refine pl_x HE48 HH16 (wt0 rfl) (x_assign rfl) rfl rfl fun a_49 HE50 => ?_
        refine pl_x HE50 HH16 (wt0 rfl) (x_assign rfl) rfl rfl fun a_51 HE52 => ?_
        refine pl_x HE52 HH16 (wt0 rfl) (x_assign rfl) rfl rfl fun a_53 HE54 => ?_
        refine pl_x HE54 HH16 (wt0 rfl) (x_assign rfl) rfl rfl fun a_55 HE56 => ?_
        refine wpList_nil ?_
        clear a_47 HE48 a_49 HE50 a_51 HE52 a_53 HE54
        refine nrm ?_
        refine wp_ret ?_
        refine (thn_ret ?_)
        refine ret4 HE56 rfl (rv_tmp rfl) (rv_tmp rfl) (rv_tmp rfl) (rv_tmp rfl) ?_
        have hF : (runFracs a0 a1 a2) = ([], 0, false, 2) := by
          first | (simp [runFracs, hc22, hc24, hc26]; done) | grind [runFracs]
        exact ⟨none, 0, by rw [hF] <;> rfl, by rw [hF]; exact (So.nil (Nat.zero_le _)), HH16.below⟩
      · have hBu := budgetB_le hc26
        refine wp_skip ?_
        refine nrm ?_
        refine wp_seq ?_
        refine rg ?_
        refine pl_x HE48 HH16 (wt0 rfl) (x_move rfl) rfl rfl fun a_57 HE58 => ?_
        refine pl_x HE58 HH16 (wt0 rfl) (x_move rfl) rfl rfl fun a_59 HE60 => ?_
        refine pl_x HE60 HH16 (wt0 rfl) (x_move rfl) rfl rfl fun a_61 HE62 => ?_
        refine pl fun K_63 hK64 => ?_
        refine st_call HE62 (wt0 rfl) rfl rfl rfl en_130 rfl rfl (impl_runFractions _ _ a0 _ _ a1 a2 _ (HH16.old h0) (HH16.old h1) (by exact hV.2) (by exact hP.1) (by omega) (by omega) (by omega)) fun e w' hr => ?_
        obtain ⟨Ar27_0, cr27_0, rfl, hor27_0, hbr27⟩ := hr
        obtain ⟨Sr27, HH65⟩ := HH16.newS hbr27 hor27_0
        refine ⟨_, rfl, fun a_66 HE67 => hK64 _ _ ?_⟩
        refine pl_x HE67 HH65 (wt0 rfl) (x_extract rfl rfl) rfl rfl fun a_68 HE69 => ?_
        refine pl_x HE69 HH65 (wt0 rfl) (x_extract rfl rfl) rfl rfl fun a_70 HE71 => ?_
        refine pl_x HE71 HH65 (wt0 rfl) (x_extract rfl rfl) rfl rfl fun a_72 HE73 => ?_
        refine pl_x HE73 HH65 (wt0 rfl) (x_extract rfl rfl) rfl rfl fun a_74 HE75 => ?_
        refine pl_x HE75 HH65 (wt0 rfl) (x_assign rfl) rfl rfl fun a_76 HE77 => ?_
        refine pl_x HE77 HH65 (wt0 rfl) (x_assign rfl) rfl rfl fun a_78 HE79 => ?_
        refine pl_x HE79 HH65 (wt0 rfl) (x_assign rfl) rfl rfl fun a_80 HE81 => ?_
        refine pl_x HE81 HH65 (wt0 rfl) (x_assign rfl) rfl rfl fun a_82 HE83 => ?_
        refine wpList_nil ?_
        clear a_47 HE48 a_57 HE58 a_59 HE60 HH16 a_61 HE62 a_66 HE67 a_68 HE69 a_70 HE71 a_72 HE73 a_74 HE75 a_76 HE77 a_78 HE79 a_80 HE81 hK64 K_63
        refine nrm ?_
        refine wp_ret ?_
        refine ret4 HE83 rfl (rv_tmp rfl) (rv_tmp rfl) (rv_tmp rfl) (rv_tmp rfl) ?_
        have hF : (runFracs a0 a1 a2) = ((runFI a0 a1 a2).1, (runFI a0 a1 a2).2.1, (runFI a0 a1 a2).2.2.1, (runFI a0 a1 a2).2.2.2) := by
          first | (simp [runFracs, hc22, hc24, hc26]; done) | grind [runFracs]
        exact ⟨Ar27_0, cr27_0, by rw [hF] <;> rfl, by rw [hF]; exact (HH65.so (i := 0) rfl), HH65.below⟩
  · refine pl_no HE22 (wtF HE22 rfl rfl rfl (not_t hc22)) rfl rfl fun a_84 HE85 => ?_
    refine pl_no HE85 (wtF HE85 rfl rfl rfl (not_t hc22)) rfl rfl fun a_86 HE87 => ?_
    refine pl_no HE87 (wtF HE87 rfl rfl rfl (not_t hc22)) rfl rfl fun a_88 HE89 => ?_
    refine pl_x HE89 HH16 (wt0 rfl) (x_pickT rfl (not_t hc22) rfl) rfl rfl fun a_90 HE91 => ?_
    refine wpList_nil ?_
    clear a_10 HE11 HH1 a_12 HE13 a_17 HE18 a_19 HE20 a_21 HE22 a_84 HE85 a_86 HE87 a_88 HE89 hK15 K_14
    refine nrm ?_
    refine cndT HE91 rfl rfl ?_
    refine wp_seq ?_
    refine rg ?_
    refine pl_x HE91 HH16 (wt0 rfl) (x_assign rfl) rfl rfl fun a_92 HE93 => ?_
    refine pl_x HE93 HH16 (wt0 rfl) (x_assign rfl) rfl rfl fun a_94 HE95 => ?_
    refine pl_x HE95 HH16 (wt0 rfl) (x_assign rfl) rfl rfl fun a_96 HE97 => ?_
    refine pl_x HE97 HH16 (wt0 rfl) (x_assign rfl) rfl rfl fun a_98 HE99 => ?_
    refine wpList_nil ?_
    clear a_90 HE91 a_92 HE93 a_94 HE95 a_96 HE97
    refine nrm ?_
    refine wp_ret ?_
    refine (thn_ret ?_)
    refine ret4 HE99 rfl (rv_tmp rfl) (rv_tmp rfl) (rv_tmp rfl) (rv_tmp rfl) ?_
    have hF : (runFracs a0 a1 a2) = ([], 0, false, 1) := by
      first | (simp [runFracs, hc22]; done) | grind [runFracs]
    exact ⟨none, 0, by rw [hF] <;> rfl, by rw [hF]; exact (So.nil (Nat.zero_le _)), HH16.below⟩

set_option maxRecDepth 100000 in
set_option maxHeartbeats 4000000 in
theorem spec_l08Go (A0 : Option Addr) (c0 : Nat) (a0 : (List tFraction)) (A1 : Option Addr) (c1 : Nat) (a1 : (List Int)) (a2 : Int) (w : World) (h0 : Sl eFraction w (Old w) A0 c0 a0) (h1 : Sl eInt w (Old w) A1 c1 a1) (s0 : okFr a0) (s1 : limbs a1) (s2 : a1.length ≤ 40) (s3 : a0.length ≤ 100) (s4 : 0 ≤ a2 ∧ a2 ≤ 20000) :
    Calls Try.prog 128 #[.slice A0 a0.length c0, .slice A1 a1.length c1, .int .i64 a2] w fun e w' => ∃ (A0' : Option Addr) (c0' : Nat), e = .returned (.tuple #[.slice A0' (runFS a0 a1 a2).1.length c0', .int .i64 (runFS a0 a1 a2).2.1, .bool (runFS a0 a1 a2).2.2.1, .bool (runFS a0 a1 a2).2.2.2]) ∧ So eInt w' (Fr w w') A0' c0' (runFS a0 a1 a2).1 ∧ Below w.heap.size w w' := by
  have l0 := h0.len
  have l1 := h1.len
  have HH1 := Held.start Nob w
  refine enter (n := 37) Try.func128 rfl rfl rfl fun a_2 HE3 => ?_
  refine wp_seq ?_
  refine rg ?_
  refine pl_x HE3 HH1 (wt0 rfl) (x_assign rfl) rfl rfl fun a_4 HE5 => ?_
  refine pl_x HE5 HH1 (wt0 rfl) (x_assign rfl) rfl rfl fun a_6 HE7 => ?_
  refine pl_x HE7 HH1 (wt0 rfl) (x_assign rfl) rfl rfl fun a_8 HE9 => ?_
  refine pl_x HE9 HH1 (wt0 rfl) (x_assign rfl) rfl rfl fun a_10 HE11 => ?_
  refine wpList_nil ?_
  clear a_2 HE3 a_4 HE5 a_6 HE7 a_8 HE9
  refine nrm ?_
  refine wp_seq ?_
  refine rg ?_
  refine pl_x HE11 HH1 (wt0 rfl) (x_move rfl) rfl rfl fun a_12 HE13 => ?_
  refine pl fun K_14 hK15 => ?_
  refine st_call HE13 (wt0 rfl) rfl rfl rfl en_90 rfl rfl (spec_l00Own _ _ a1 _ (HH1.old h1) (by omega)) fun e w' hr => ?_
  obtain ⟨Ar21_0, cr21_0, rfl, hor21_0, hbr21⟩ := hr
  obtain ⟨Sr21, HH16⟩ := HH1.newS hbr21 hor21_0
  refine ⟨_, rfl, fun a_17 HE18 => hK15 _ _ ?_⟩
  refine pl_x HE18 HH16 (wt0 rfl) (x_assign rfl) rfl rfl fun a_19 HE20 => ?_
  refine wpList_nil ?_
  clear a_10 HE11 HH1 a_12 HE13 a_17 HE18 hK15 K_14
  refine nrm ?_
  refine wp_seq ?_
  refine rg ?_
  refine pl_x HE20 HH16 (wt0 rfl) (x_assign rfl) rfl rfl fun a_21 HE22 => ?_
  refine wpList_nil ?_
  clear a_19 HE20
  refine nrm ?_
  refine wp_block ?_
  refine lp (fun m a w' => ∃ (k : Nat) (y : List Int) (A_10 : Option Addr) (c_10 : Nat) (S_10 : Nat → Prop), m = (a2 - (k : Int)).toNat ∧ Env 37 [(10, .slice A_10 (List.length y) c_10), (11, .int .i64 (k : Int)), (0, .slice A0 (a0.length) c0), (2, .int .i64 (a2))] a ∧ Held Nob w [rSo eInt S_10 A_10 c_10 y] w' ∧ ((k : Int) ≤ a2) ∧ (limbs y) ∧ (y.length ≤ 40) ∧ (runFI a0 a1 a2 = runFr a0 (a2 - k).toNat y k)) ((a2 - ((0) : Int)).toNat) ?_ ?_
  · exact ⟨0, a1, Ar21_0, cr21_0, Sr21, rfl, HE22.sub ⟨rfl, (lkI rfl (by first | rfl | omega | (simp []; done))), rfl, rfl, trivial⟩, (HH16.sel [0] (by decide) rfl), (by first | omega | assumption | (simp; done) | simp_all), (by exact s1), (by exact s2), (by unfold runFI; simp)⟩
  · rintro m a_23 w' ⟨k, y, A_10, c_10, S_10, rfl, HE24, HH25, p22_0, p22_1, p22_2, p22_3⟩
    have hs := stepFS_eq a0 y
    refine wp_seq ?_
    refine wp_block ?_
    refine wp_seq ?_
    refine rg ?_
    refine pl_x HE24 HH25 (wt0 rfl) (x_move rfl) rfl rfl fun a_26 HE27 => ?_
    refine pl_x HE27 HH25 (wt0 rfl) (x_move rfl) rfl rfl fun a_28 HE29 => ?_
    refine pl fun K_30 hK31 => ?_
    refine st_call HE29 (wt0 rfl) rfl rfl rfl en_109 rfl rfl (spec_l08Next _ _ a0 _ _ y _ (HH25.old h0) (HH25.sl (i := 0) rfl) (by first | assumption | exact hV.2) (by first | assumption | exact hP.1) (by omega) (by omega)) fun e w' hr => ?_
    obtain ⟨Ar23_0, cr23_0, rfl, hor23_0, hbr23⟩ := hr
    obtain ⟨Sr23, HH32⟩ := HH25.newS hbr23 hor23_0
    refine ⟨_, rfl, fun a_33 HE34 => hK31 _ _ ?_⟩
    refine pl_x HE34 HH32 (wt0 rfl) (x_move rfl) rfl rfl fun a_35 HE36 => ?_
    refine pl_x HE36 HH32 (wt0 rfl) (x_extract rfl rfl) rfl rfl fun a_37 HE38 => ?_
    refine pl_x HE38 HH32 (wt0 rfl) (x_extract rfl rfl) rfl rfl fun a_39 HE40 => ?_
    refine pl_x HE40 HH32 (wt0 rfl) (x_assign rfl) rfl rfl fun a_41 HE42 => ?_
    refine pl_x HE42 HH32 (wt0 rfl) (x_assign rfl) rfl rfl fun a_43 HE44 => ?_
    refine wpList_nil ?_
    clear a_21 HE22 HH16 a_23 HE24 a_26 HE27 HH25 a_28 HE29 a_33 HE34 a_35 HE36 a_37 HE38 a_39 HE40 a_41 HE42 hK31 K_30
    refine nrm ?_
    refine wp_seq ?_
    refine wp_seq ?_
    refine rg ?_
    refine pl_x HE44 HH32 (wt0 rfl) (x_move rfl) rfl rfl fun a_45 HE46 => ?_
    refine pl_x HE46 HH32 (wt0 rfl) (x_lss rfl rfl) rfl rfl fun a_47 HE48 => ?_
    refine wpList_nil ?_
    clear a_43 HE44 a_45 HE46
    refine nrm ?_
    refine cnd_d HE48 rfl (fun hc24 => ?_) (fun hc24 => ?_)
    · refine wp_seq ?_
      refine rg ?_
      refine pl_x HE48 HH32 (wt0 rfl) (x_move rfl) rfl rfl fun a_49 HE50 => ?_
      refine pl_x HE50 HH32 (wt0 rfl) (x_move rfl) rfl rfl fun a_51 HE52 => ?_
      refine pl_x HE52 HH32 (wt0 rfl) (x_assign rfl) rfl rfl fun a_53 HE54 => ?_
      refine pl_x HE54 HH32 (wt0 rfl) (x_assign rfl) rfl rfl fun a_55 HE56 => ?_
      refine pl_x HE56 HH32 (wt0 rfl) (x_assign rfl) rfl rfl fun a_57 HE58 => ?_
      refine pl_x HE58 HH32 (wt0 rfl) (x_assign rfl) rfl rfl fun a_59 HE60 => ?_
      refine wpList_nil ?_
      clear a_47 HE48 a_49 HE50 a_51 HE52 a_53 HE54 a_55 HE56 a_57 HE58
      refine nrm ?_
      refine wp_ret ?_
      refine (thn_ret (blk_ret (thn_ret (thn_ret (blk_ret ?_)))))
      refine ret4 HE60 rfl (rv_tmp rfl) (rv_tmp rfl) (rv_tmp rfl) (rv_tmp rfl) ?_
      have hF : (runFS a0 a1 a2) = (y, (k : Int), true, true) := by
        unfold runFS; rw [p22_3, runFr_eq]; first | (rw [if_pos (by omega)]; rfl) | (rw [if_neg (by omega), if_pos (by omega)]; rfl) | (rw [if_neg (by omega), if_neg (by omega), if_pos (by omega)]; rfl)
      exact ⟨A_10, c_10, by rw [hF] <;> rfl, by rw [hF]; exact (HH32.so (i := 1) rfl), HH32.below⟩
    · have hs3 := hs.2 (by omega)
      have hs4 : (stepFS a0 y).1.length = (stepFI a0 y).1.length := by rw [hs3]
      refine wp_skip ?_
      refine nrm ?_
      refine wp_seq ?_
      refine wp_seq ?_
      refine rg ?_
      refine pl_x HE48 HH32 (wt0 rfl) (x_move rfl) rfl rfl fun a_61 HE62 => ?_
      refine pl_x HE62 HH32 (wt0 rfl) (x_move rfl) rfl rfl fun a_63 HE64 => ?_
      refine pl_x HE64 HH32 (wt0 rfl) (x_eql rfl rfl) rfl rfl fun a_65 HE66 => ?_
      refine wpList_nil ?_
      clear a_47 HE48 a_61 HE62 a_63 HE64
      refine nrm ?_
      refine cnd_e HE66 rfl (fun hc25 => ?_) (fun hc25 => ?_)
      · refine wp_seq ?_
        refine rg ?_
        refine pl_x HE66 HH32 (wt0 rfl) (x_move rfl) rfl rfl fun a_67 HE68 => ?_
        refine pl_x HE68 HH32 (wt0 rfl) (x_move rfl) rfl rfl fun a_69 HE70 => ?_
        refine pl_x HE70 HH32 (wt0 rfl) (x_assign rfl) rfl rfl fun a_71 HE72 => ?_
        refine pl_x HE72 HH32 (wt0 rfl) (x_assign rfl) rfl rfl fun a_73 HE74 => ?_
        refine pl_x HE74 HH32 (wt0 rfl) (x_assign rfl) rfl rfl fun a_75 HE76 => ?_
        refine pl_x HE76 HH32 (wt0 rfl) (x_assign rfl) rfl rfl fun a_77 HE78 => ?_
        refine wpList_nil ?_
        clear a_65 HE66 a_67 HE68 a_69 HE70 a_71 HE72 a_73 HE74 a_75 HE76
        refine nrm ?_
        refine wp_ret ?_
        refine (thn_ret (blk_ret (thn_ret (thn_ret (blk_ret ?_)))))
        refine ret4 HE78 rfl (rv_tmp rfl) (rv_tmp rfl) (rv_tmp rfl) (rv_tmp rfl) ?_
        have hF : (runFS a0 a1 a2) = (y, (k : Int), false, true) := by
          unfold runFS; rw [p22_3, runFr_eq]; first | (rw [if_pos (by omega)]; rfl) | (rw [if_neg (by omega), if_pos (by omega)]; rfl) | (rw [if_neg (by omega), if_neg (by omega), if_pos (by omega)]; rfl)
        exact ⟨A_10, c_10, by rw [hF] <;> rfl, by rw [hF]; exact (HH32.so (i := 1) rfl), HH32.below⟩
      · refine wp_skip ?_
        refine nrm ?_
        refine wp_seq ?_
        refine wp_seq ?_
        refine rg ?_
        refine pl_x HE66 HH32 (wt0 rfl) (x_move rfl) rfl rfl fun a_79 HE80 => ?_
        refine pl_x HE80 HH32 (wt0 rfl) (x_len Try.underlying31 rfl) rfl rfl fun a_81 HE82 => ?_
        refine pl_x HE82 HH32 (wt0 rfl) (x_gtr rfl rfl) rfl rfl fun a_83 HE84 => ?_
        refine wpList_nil ?_
        clear a_65 HE66 a_79 HE80 a_81 HE82
        refine nrm ?_
        refine cnd_d HE84 rfl (fun hc26 => ?_) (fun hc26 => ?_)
        · refine wp_seq ?_
          refine rg ?_
          refine pl_x HE84 HH32 (wt0 rfl) (x_assign rfl) rfl rfl fun a_85 HE86 => ?_
          refine pl_x HE86 HH32 (wt0 rfl) (x_assign rfl) rfl rfl fun a_87 HE88 => ?_
          refine pl_x HE88 HH32 (wt0 rfl) (x_assign rfl) rfl rfl fun a_89 HE90 => ?_
          refine pl_x HE90 HH32 (wt0 rfl) (x_assign rfl) rfl rfl fun a_91 HE92 => ?_
          refine wpList_nil ?_
          clear a_83 HE84 a_85 HE86 a_87 HE88 a_89 HE90
          refine nrm ?_
          refine wp_ret ?_
          refine (thn_ret (blk_ret (thn_ret (thn_ret (blk_ret ?_)))))
          refine ret4 HE92 rfl (rv_tmp rfl) (rv_tmp rfl) (rv_tmp rfl) (rv_tmp rfl) ?_
          have hF : (runFS a0 a1 a2) = ([], 0, false, false) := by
            unfold runFS; rw [p22_3, runFr_eq]; first | (rw [if_pos (by omega)]; rfl) | (rw [if_neg (by omega), if_pos (by omega)]; rfl) | (rw [if_neg (by omega), if_neg (by omega), if_pos (by omega)]; rfl)
          exact ⟨none, 0, by rw [hF] <;> rfl, by rw [hF]; exact (So.nil (Nat.zero_le _)), HH32.below⟩
        · refine wp_skip ?_
          refine nrm ?_
          refine rg ?_
          refine pl_x HE84 HH32 (wt0 rfl) (x_move rfl) rfl rfl fun a_93 HE94 => ?_
          refine pl_x HE94 HH32 (wt0 rfl) (x_assign rfl) rfl rfl fun a_95 HE96 => ?_
          refine wpList_nil ?_
          clear a_83 HE84 a_93 HE94
          refine blk_n ?_
          refine nrm ?_
          refine rg ?_
          refine pl_x HE96 HH32 (wt0 rfl) (x_move rfl) rfl rfl fun a_97 HE98 => ?_
          refine pl_x HE98 HH32 (wt0 rfl) (x_add rfl rfl (by exact ⟨by omega, by omega⟩)) rfl rfl fun a_99 HE100 => ?_
          refine pl_x HE100 HH32 (wt0 rfl) (x_assign rfl) rfl rfl fun a_101 HE102 => ?_
          refine wpList_nil ?_
          clear a_95 HE96 a_97 HE98 a_99 HE100
          have E27 : ((stepFI a0 y).1) = (stepFS a0 y).1 := by
            exact hs3.symm
          exact nrm ⟨(a2 - ((k + 1) : Int)).toNat, (by omega), k + 1, (stepFI a0 y).1, Ar23_0, cr23_0, Sr23, rfl, HE102.sub ⟨(by rw [E27]; rfl), (lkI rfl (by first | rfl | omega | (simp [p22_0, p22_1, p22_2, p22_3, hc24, hc25, hc26]; done))), rfl, rfl, trivial⟩, ((HH32.sel [0] (by decide) rfl).to (by first | rfl | (rw [E27]; done) | (rw [E27]; rfl) | (simp only [E27]; done) | (simp only [E27]; rfl))), (by first | omega | assumption | (simp; done) | simp_all), (by exact (stepFI_facts s0 p22_1 (by omega)).1), (by omega), (by rw [p22_3, runFr_step (g := (a2 - ((k + 1 : Nat) : Int)).toNat) (by omega) (by omega) (by omega)]; rfl)⟩

set_option maxRecDepth 100000 in
set_option maxHeartbeats 4000000 in
theorem spec_RunFractions (A0 : Option Addr) (c0 : Nat) (a0 : (List tFraction)) (A1 : Option Addr) (c1 : Nat) (a1 : (List Int)) (a2 : Int) (w : World) (h0 : Sl eFraction w (Old w) A0 c0 a0) (h1 : Sl eInt w (Old w) A1 c1 a1) :
    Calls Try.prog 61 #[.slice A0 a0.length c0, .slice A1 a1.length c1, .int .i64 a2] w fun e w' => ∃ (A0' : Option Addr) (c0' : Nat), e = .returned (.tuple #[.slice A0' (runFracs a0 a1 a2).1.length c0', .int .i64 (runFracs a0 a1 a2).2.1, .bool (runFracs a0 a1 a2).2.2.1, .int .i64 (runFracs a0 a1 a2).2.2.2]) ∧ So eInt w' (Fr w w') A0' c0' (runFracs a0 a1 a2).1 ∧ Below w.heap.size w w' := by
  have l0 := h0.len
  have l1 := h1.len
  have HH1 := Held.start Nob w
  refine enter (n := 39) Try.func61 rfl rfl rfl fun a_2 HE3 => ?_
  refine wp_seq ?_
  refine rg ?_
  refine pl_x HE3 HH1 (wt0 rfl) (x_assign rfl) rfl rfl fun a_4 HE5 => ?_
  refine pl_x HE5 HH1 (wt0 rfl) (x_assign rfl) rfl rfl fun a_6 HE7 => ?_
  refine pl_x HE7 HH1 (wt0 rfl) (x_assign rfl) rfl rfl fun a_8 HE9 => ?_
  refine pl_x HE9 HH1 (wt0 rfl) (x_assign rfl) rfl rfl fun a_10 HE11 => ?_
  refine wpList_nil ?_
  clear a_2 HE3 a_4 HE5 a_6 HE7 a_8 HE9
  refine nrm ?_
  refine wp_seq ?_
  refine wp_seq ?_
  refine rg ?_
  refine pl_x HE11 HH1 (wt0 rfl) (x_move rfl) rfl rfl fun a_12 HE13 => ?_
  refine pl fun K_14 hK15 => ?_
  refine st_call HE13 (wt0 rfl) rfl rfl rfl en_108 rfl rfl (spec_l08Is _ _ a0 _ (HH1.old h0)) fun e w' hr => ?_
  obtain ⟨rfl, rfl⟩ := hr
  refine ⟨_, rfl, fun a_16 HE17 => hK15 _ _ ?_⟩
  refine pl_x HE17 HH1 (wt0 rfl) (x_not rfl) rfl rfl fun a_18 HE19 => ?_
  refine pl_x HE19 HH1 (wt0 rfl) (x_move rfl) rfl rfl fun a_20 HE21 => ?_
  rcases Bool.eq_false_or_eq_true ((validFrac a0)) with hc22 | hc22
  · have hV := validFrac_facts hc22
    refine pl_x HE21 HH1 (wtT HE21 rfl rfl rfl (not_f hc22)) (x_move rfl) rfl rfl fun a_22 HE23 => ?_
    refine pl fun K_24 hK25 => ?_
    refine st_call HE23 (wtT HE23 rfl rfl rfl (not_f hc22)) rfl rfl rfl en_96 rfl rfl (spec_l08Number _ _ a1 _ (HH1.old h1)) fun e w' hr => ?_
    obtain ⟨rfl, hbr23⟩ := hr
    have HH26 := HH1.on hbr23
    refine ⟨_, rfl, fun a_27 HE28 => hK25 _ _ ?_⟩
    refine pl_x HE28 HH26 (wtT HE28 rfl rfl rfl (not_f hc22)) (x_not rfl) rfl rfl fun a_29 HE30 => ?_
    refine pl_x HE30 HH26 (wt0 rfl) (x_pickF rfl (not_f hc22) rfl) rfl rfl fun a_31 HE32 => ?_
    refine wpList_nil ?_
    clear a_10 HE11 a_12 HE13 a_16 HE17 a_18 HE19 a_20 HE21 K_14 hK15 HH1 a_22 HE23 a_27 HE28 a_29 HE30 hK25 K_24
    refine nrm ?_
    refine cnd_nb HE32 rfl (fun hc24 => ?_) (fun hc24 => ?_)
    · refine wp_seq ?_
      refine rg ?_
      refine pl_x HE32 HH26 (wt0 rfl) (x_assign rfl) rfl rfl fun a_33 HE34 => ?_
      refine pl_x HE34 HH26 (wt0 rfl) (x_assign rfl) rfl rfl fun a_35 HE36 => ?_
      refine pl_x HE36 HH26 (wt0 rfl) (x_assign rfl) rfl rfl fun a_37 HE38 => ?_
      refine pl_x HE38 HH26 (wt0 rfl) (x_assign rfl) rfl rfl fun a_39 HE40 => ?_
      refine wpList_nil ?_
      clear a_31 HE32 a_33 HE34 a_35 HE36 a_37 HE38
      refine nrm ?_
      refine wp_ret ?_
      refine (thn_ret ?_)
      refine ret4 HE40 rfl (rv_tmp rfl) (rv_tmp rfl) (rv_tmp rfl) (rv_tmp rfl) ?_
      have hF : (runFracs a0 a1 a2) = ([], 0, false, 1) := by
        first | (simp [runFracs, hc22, hc24]; done) | (have hq := runFr_code (l := a0) a2.toNat a1 0; unfold runFracs; grind [runFS, runFI])
      exact ⟨none, 0, by rw [hF] <;> rfl, by rw [hF]; exact (So.nil (Nat.zero_le _)), HH26.below⟩
    · have hP := isPos_facts hc24
      refine wp_skip ?_
      refine nrm ?_
      refine wp_seq ?_
      refine wp_seq ?_
      refine rg ?_
      refine pl_x HE32 HH26 (wt0 rfl) (x_move rfl) rfl rfl fun a_41 HE42 => ?_
      refine pl fun K_43 hK44 => ?_
      refine st_call HE42 (wt0 rfl) rfl rfl rfl en_127 rfl rfl (spec_l05Budget a2 _ ) fun e w' hr => ?_
      obtain ⟨rfl, rfl⟩ := hr
      refine ⟨_, rfl, fun a_45 HE46 => hK44 _ _ ?_⟩
      refine pl_x HE46 HH26 (wt0 rfl) (x_not rfl) rfl rfl fun a_47 HE48 => ?_
      refine wpList_nil ?_
      clear a_31 HE32 a_41 HE42 a_45 HE46 hK44 K_43
      refine nrm ?_
      refine cnd_nb HE48 rfl (fun hc26 => ?_) (fun hc26 => ?_)
      · refine wp_seq ?_
        refine rg ?_
        refine pl_x HE48 HH26 (wt0 rfl) (x_assign rfl) rfl rfl fun a_49 HE50 => ?_
        refine pl_x HE50 HH26 (wt0 rfl) (x_assign rfl) rfl rfl fun a_51 HE52 => ?_
        refine pl_x HE52 HH26 (wt0 rfl) (x_assign rfl) rfl rfl fun a_53 HE54 => ?_
        refine pl_x HE54 HH26 (wt0 rfl) (x_assign rfl) rfl rfl fun a_55 HE56 => ?_
        refine wpList_nil ?_
        clear a_47 HE48 a_49 HE50 a_51 HE52 a_53 HE54
        refine nrm ?_
        refine wp_ret ?_
        refine (thn_ret ?_)
        refine ret4 HE56 rfl (rv_tmp rfl) (rv_tmp rfl) (rv_tmp rfl) (rv_tmp rfl) ?_
        have hF : (runFracs a0 a1 a2) = ([], 0, false, 2) := by
          first | (simp [runFracs, hc22, hc24, hc26]; done) | (have hq := runFr_code (l := a0) a2.toNat a1 0; unfold runFracs; grind [runFS, runFI])
        exact ⟨none, 0, by rw [hF] <;> rfl, by rw [hF]; exact (So.nil (Nat.zero_le _)), HH26.below⟩
      · have hBu := budgetB_le hc26
        refine wp_skip ?_
        refine nrm ?_
        refine wp_seq ?_
        refine rg ?_
        refine pl_x HE48 HH26 (wt0 rfl) (x_move rfl) rfl rfl fun a_57 HE58 => ?_
        refine pl_x HE58 HH26 (wt0 rfl) (x_move rfl) rfl rfl fun a_59 HE60 => ?_
        refine pl_x HE60 HH26 (wt0 rfl) (x_move rfl) rfl rfl fun a_61 HE62 => ?_
        refine pl fun K_63 hK64 => ?_
        refine st_call HE62 (wt0 rfl) rfl rfl rfl en_128 rfl rfl (spec_l08Go _ _ a0 _ _ a1 a2 _ (HH26.old h0) (HH26.old h1) (by exact hV.2) (by exact hP.1) (by omega) (by omega) (by omega)) fun e w' hr => ?_
        obtain ⟨Ar27_0, cr27_0, rfl, hor27_0, hbr27⟩ := hr
        obtain ⟨Sr27, HH65⟩ := HH26.newS hbr27 hor27_0
        refine ⟨_, rfl, fun a_66 HE67 => hK64 _ _ ?_⟩
        refine pl_x HE67 HH65 (wt0 rfl) (x_move rfl) rfl rfl fun a_68 HE69 => ?_
        refine pl_x HE69 HH65 (wt0 rfl) (x_extract rfl rfl) rfl rfl fun a_70 HE71 => ?_
        refine pl_x HE71 HH65 (wt0 rfl) (x_extract rfl rfl) rfl rfl fun a_72 HE73 => ?_
        refine pl_x HE73 HH65 (wt0 rfl) (x_extract rfl rfl) rfl rfl fun a_74 HE75 => ?_
        refine pl_x HE75 HH65 (wt0 rfl) (x_extract rfl rfl) rfl rfl fun a_76 HE77 => ?_
        refine pl_x HE77 HH65 (wt0 rfl) (x_assign rfl) rfl rfl fun a_78 HE79 => ?_
        refine pl_x HE79 HH65 (wt0 rfl) (x_assign rfl) rfl rfl fun a_80 HE81 => ?_
        refine pl_x HE81 HH65 (wt0 rfl) (x_assign rfl) rfl rfl fun a_82 HE83 => ?_
        refine pl_x HE83 HH65 (wt0 rfl) (x_assign rfl) rfl rfl fun a_84 HE85 => ?_
        refine wpList_nil ?_
        clear a_47 HE48 a_57 HE58 a_59 HE60 HH26 a_61 HE62 a_66 HE67 a_68 HE69 a_70 HE71 a_72 HE73 a_74 HE75 a_76 HE77 a_78 HE79 a_80 HE81 a_82 HE83 hK64 K_63
        refine nrm ?_
        refine wp_seq ?_
        refine wp_seq ?_
        refine rg ?_
        refine pl_x HE85 HH65 (wt0 rfl) (x_move rfl) rfl rfl fun a_86 HE87 => ?_
        refine pl_x HE87 HH65 (wt0 rfl) (x_not rfl) rfl rfl fun a_88 HE89 => ?_
        refine wpList_nil ?_
        clear a_84 HE85 a_86 HE87
        refine nrm ?_
        refine cnd_nb HE89 rfl (fun hc28 => ?_) (fun hc28 => ?_)
        · refine wp_seq ?_
          refine rg ?_
          refine pl_x HE89 HH65 (wt0 rfl) (x_assign rfl) rfl rfl fun a_90 HE91 => ?_
          refine pl_x HE91 HH65 (wt0 rfl) (x_assign rfl) rfl rfl fun a_92 HE93 => ?_
          refine pl_x HE93 HH65 (wt0 rfl) (x_assign rfl) rfl rfl fun a_94 HE95 => ?_
          refine pl_x HE95 HH65 (wt0 rfl) (x_assign rfl) rfl rfl fun a_96 HE97 => ?_
          refine wpList_nil ?_
          clear a_88 HE89 a_90 HE91 a_92 HE93 a_94 HE95
          refine nrm ?_
          refine wp_ret ?_
          refine (thn_ret ?_)
          refine ret4 HE97 rfl (rv_tmp rfl) (rv_tmp rfl) (rv_tmp rfl) (rv_tmp rfl) ?_
          have hF : (runFracs a0 a1 a2) = ([], 0, false, 5) := by
            first | (simp [runFracs, hc22, hc24, hc26, hc28]; done) | (have hq := runFr_code (l := a0) a2.toNat a1 0; unfold runFracs; grind [runFS, runFI])
          exact ⟨none, 0, by rw [hF] <;> rfl, by rw [hF]; exact (So.nil (Nat.zero_le _)), HH65.below⟩
        · refine wp_skip ?_
          refine nrm ?_
          refine wp_seq ?_
          refine rg ?_
          refine pl_x HE89 HH65 (wt0 rfl) (x_move rfl) rfl rfl fun a_98 HE99 => ?_
          refine pl_x HE99 HH65 (wt0 rfl) (x_move rfl) rfl rfl fun a_100 HE101 => ?_
          refine pl_x HE101 HH65 (wt0 rfl) (x_move rfl) rfl rfl fun a_102 HE103 => ?_
          refine pl_x HE103 HH65 (wt0 rfl) (x_assign rfl) rfl rfl fun a_104 HE105 => ?_
          refine pl_x HE105 HH65 (wt0 rfl) (x_assign rfl) rfl rfl fun a_106 HE107 => ?_
          refine pl_x HE107 HH65 (wt0 rfl) (x_assign rfl) rfl rfl fun a_108 HE109 => ?_
          refine pl_x HE109 HH65 (wt0 rfl) (x_assign rfl) rfl rfl fun a_110 HE111 => ?_
          refine wpList_nil ?_
          clear a_88 HE89 a_98 HE99 a_100 HE101 a_102 HE103 a_104 HE105 a_106 HE107 a_108 HE109
          refine nrm ?_
          refine wp_ret ?_
          refine ret4 HE111 rfl (rv_tmp rfl) (rv_tmp rfl) (rv_tmp rfl) (rv_tmp rfl) ?_
          have hF : (runFracs a0 a1 a2) = ((runFS a0 a1 a2).1, (runFS a0 a1 a2).2.1, (runFS a0 a1 a2).2.2.1, 0) := by
            first | (simp [runFracs, hc22, hc24, hc26, hc28]; done) | (have hq := runFr_code (l := a0) a2.toNat a1 0; unfold runFracs; grind [runFS, runFI])
          exact ⟨Ar27_0, cr27_0, by rw [hF] <;> rfl, by rw [hF]; exact (HH65.so (i := 0) rfl), HH65.below⟩
  · refine pl_no HE21 (wtF HE21 rfl rfl rfl (not_t hc22)) rfl rfl fun a_112 HE113 => ?_
    refine pl_no HE113 (wtF HE113 rfl rfl rfl (not_t hc22)) rfl rfl fun a_114 HE115 => ?_
    refine pl_no HE115 (wtF HE115 rfl rfl rfl (not_t hc22)) rfl rfl fun a_116 HE117 => ?_
    refine pl_x HE117 HH1 (wt0 rfl) (x_pickT rfl (not_t hc22) rfl) rfl rfl fun a_118 HE119 => ?_
    refine wpList_nil ?_
    clear a_10 HE11 a_12 HE13 a_16 HE17 a_18 HE19 a_20 HE21 a_112 HE113 a_114 HE115 a_116 HE117 hK15 K_14
    refine nrm ?_
    refine cndT HE119 rfl rfl ?_
    refine wp_seq ?_
    refine rg ?_
    refine pl_x HE119 HH1 (wt0 rfl) (x_assign rfl) rfl rfl fun a_120 HE121 => ?_
    refine pl_x HE121 HH1 (wt0 rfl) (x_assign rfl) rfl rfl fun a_122 HE123 => ?_
    refine pl_x HE123 HH1 (wt0 rfl) (x_assign rfl) rfl rfl fun a_124 HE125 => ?_
    refine pl_x HE125 HH1 (wt0 rfl) (x_assign rfl) rfl rfl fun a_126 HE127 => ?_
    refine wpList_nil ?_
    clear a_118 HE119 a_120 HE121 a_122 HE123 a_124 HE125
    refine nrm ?_
    refine wp_ret ?_
    refine (thn_ret ?_)
    refine ret4 HE127 rfl (rv_tmp rfl) (rv_tmp rfl) (rv_tmp rfl) (rv_tmp rfl) ?_
    have hF : (runFracs a0 a1 a2) = ([], 0, false, 1) := by
      first | (simp [runFracs, hc22]; done) | (have hq := runFr_code (l := a0) a2.toNat a1 0; unfold runFracs; grind [runFS, runFI])
    exact ⟨none, 0, by rw [hF] <;> rfl, by rw [hF]; exact (So.nil (Nat.zero_le _)), HH1.below⟩

set_option maxRecDepth 100000 in
set_option maxHeartbeats 4000000 in
theorem law_RunFractions (A0 : Option Addr) (c0 : Nat) (a0 : (List tFraction)) (A1 : Option Addr) (c1 : Nat) (a1 : (List Int)) (a2 : Int) (w : World) (h0 : Sl eFraction w (Old w) A0 c0 a0) (h1 : Sl eInt w (Old w) A1 c1 a1) (h2 : I64 a2) :
    Calls Try.prog 12 #[.slice A0 a0.length c0, .slice A1 a1.length c1, .int .i64 a2] w fun e w' => e = .returned (.bool true) ∧ Below w.heap.size w w' := by
  have l0 := h0.len
  have l1 := h1.len
  unfold I64 at h2
  have m0 := ct_cost_SFraction a0
  have cl1 : cost_L a1 = a1.length := rfl
  have m1 := ct_cost_L a1
  have n0 : (ct_L (runFracs a0 a1 a2).1 : Int) ≤ 1000000000 := runFracs_ct a0 a1 a2
  have HH1 := Held.start Nob w
  refine enter (n := 164) Try.func12 rfl rfl rfl fun a_2 HE3 => ?_
  refine wp_seq ?_
  refine rg ?_
  refine pl_x HE3 HH1 (wt0 rfl) (x_assign rfl) rfl rfl fun a_4 HE5 => ?_
  refine wpList_nil ?_
  clear a_2 HE3
  refine nrm ?_
  refine wp_seq ?_
  refine wp_seq ?_
  refine rg ?_
  refine pl_x HE5 HH1 (wt0 rfl) (x_move rfl) rfl rfl fun a_6 HE7 => ?_
  refine pl_x HE7 HH1 (wt0 rfl) (x_len Try.underlying31 rfl) rfl rfl fun a_8 HE9 => ?_
  refine pl_x HE9 HH1 (wt0 rfl) (x_gtr rfl rfl) rfl rfl fun a_10 HE11 => ?_
  refine wpList_nil ?_
  clear a_4 HE5 a_6 HE7 a_8 HE9
  refine nrm ?_
  refine cnd_d HE11 rfl (fun hc21 => ?_) (fun hc21 => ?_)
  · refine wp_seq ?_
    refine rg ?_
    refine pl_x HE11 HH1 (wt0 rfl) (x_assign rfl) rfl rfl fun a_12 HE13 => ?_
    refine wpList_nil ?_
    clear a_10 HE11
    refine nrm ?_
    refine wp_ret ?_
    refine (thn_ret ?_)
    refine ret1 HE13 rfl (rv_tmp rfl) ?_
    have hF : true = true := by
      first | rfl | (exfalso; omega)
    exact ⟨by rw [hF] <;> rfl, HH1.below⟩
  · refine wp_skip ?_
    refine nrm ?_
    refine wp_seq ?_
    refine rg ?_
    refine pl_x HE11 HH1 (wt0 rfl) (x_assign rfl) rfl rfl fun a_14 HE15 => ?_
    refine wpList_nil ?_
    clear a_10 HE11
    refine nrm ?_
    refine wp_seq ?_
    refine rg ?_
    refine pl_x HE15 HH1 (wt0 rfl) (x_move rfl) rfl rfl fun a_16 HE17 => ?_
    refine pl_x HE17 HH1 (wt0 rfl) (x_move rfl) rfl rfl fun a_18 HE19 => ?_
    refine pl fun K_20 hK21 => ?_
    refine st_call HE19 (wt0 rfl) rfl rfl rfl en_47 rfl rfl (sz_FractionS _ _ a0 1048576 _ (HH1.old h0) (by omega) (by omega)) fun e w' hr => ?_
    obtain ⟨rfl, hbr22⟩ := hr
    have HH22 := HH1.on hbr22
    clear hbr22
    refine ⟨_, rfl, fun a_23 HE24 => hK21 _ _ ?_⟩
    refine pl_x HE24 HH22 (wt0 rfl) (x_assign rfl) rfl rfl fun a_25 HE26 => ?_
    refine wpList_nil ?_
    clear a_14 HE15 a_16 HE17 HH1 a_18 HE19 a_23 HE24 hK21 K_20
    refine nrm ?_
    refine wp_seq ?_
    refine wp_seq ?_
    refine rg ?_
    refine pl_x HE26 HH22 (wt0 rfl) (x_move rfl) rfl rfl fun a_27 HE28 => ?_
    refine pl_x HE28 HH22 (wt0 rfl) (x_lss rfl rfl) rfl rfl fun a_29 HE30 => ?_
    refine wpList_nil ?_
    clear a_25 HE26 a_27 HE28
    refine nrm ?_
    refine cnd_d HE30 rfl (fun hc23 => ?_) (fun hc23 => ?_)
    · refine wp_seq ?_
      refine rg ?_
      refine pl_x HE30 HH22 (wt0 rfl) (x_assign rfl) rfl rfl fun a_31 HE32 => ?_
      refine wpList_nil ?_
      clear a_29 HE30
      refine nrm ?_
      refine wp_ret ?_
      refine (thn_ret ?_)
      refine ret1 HE32 rfl (rv_tmp rfl) ?_
      have hF : true = true := by
        first | rfl | (exfalso; omega)
      exact ⟨by rw [hF] <;> rfl, HH22.below⟩
    · have zr22 := left_ok hc23
      refine wp_skip ?_
      refine nrm ?_
      refine wp_seq ?_
      refine rg ?_
      refine pl_x HE30 HH22 (wt0 rfl) (x_move rfl) rfl rfl fun a_33 HE34 => ?_
      refine pl fun K_35 hK36 => ?_
      refine st_call HE34 (wt0 rfl) rfl rfl rfl en_49 rfl rfl (to_FractionS _ _ a0 _ (HH22.old h0) (by omega)) fun e w' hr => ?_
      obtain ⟨Ar24, cr24, rfl, hor24, hbr24⟩ := hr
      obtain ⟨Sr24, HH37⟩ := HH22.newS hbr24 hor24
      clear hbr24 hor24
      refine ⟨_, rfl, fun a_38 HE39 => hK36 _ _ ?_⟩
      refine pl_x HE39 HH37 (wt0 rfl) (x_move rfl) rfl rfl fun a_40 HE41 => ?_
      refine pl fun K_42 hK43 => ?_
      refine st_call HE41 (wt0 rfl) rfl rfl rfl en_23 rfl rfl (to_Int64S _ _ a1 _ (HH37.old h1) (by omega)) fun e w' hr => ?_
      obtain ⟨Ar25, cr25, rfl, hor25, hbr25⟩ := hr
      obtain ⟨Sr25, HH44⟩ := HH37.newS hbr25 hor25
      clear hbr25 hor25
      refine ⟨_, rfl, fun a_45 HE46 => hK43 _ _ ?_⟩
      refine pl_x HE46 HH44 (wt0 rfl) (x_move rfl) rfl rfl fun a_47 HE48 => ?_
      refine pl fun K_49 hK50 => ?_
      refine st_call HE48 (wt0 rfl) rfl rfl rfl en_61 rfl rfl (spec_RunFractions _ _ a0 _ _ a1 a2 _ (HH44.sl (i := 1) rfl) (HH44.sl (i := 0) rfl)) fun e w' hr => ?_
      obtain ⟨Ar26_0, cr26_0, rfl, hor26_0, hbr26⟩ := hr
      obtain ⟨Sr26, HH51⟩ := HH44.newS hbr26 hor26_0
      refine ⟨_, rfl, fun a_52 HE53 => hK50 _ _ ?_⟩
      refine pl_x HE53 HH51 (wt0 rfl) (x_move rfl) rfl rfl fun a_54 HE55 => ?_
      refine pl_x HE55 HH51 (wt0 rfl) (x_extract rfl rfl) rfl rfl fun a_56 HE57 => ?_
      refine pl_x HE57 HH51 (wt0 rfl) (x_extract rfl rfl) rfl rfl fun a_58 HE59 => ?_
      refine pl_x HE59 HH51 (wt0 rfl) (x_extract rfl rfl) rfl rfl fun a_60 HE61 => ?_
      refine pl_x HE61 HH51 (wt0 rfl) (x_extract rfl rfl) rfl rfl fun a_62 HE63 => ?_
      refine pl_x HE63 HH51 (wt0 rfl) (x_assign rfl) rfl rfl fun a_64 HE65 => ?_
      refine pl_x HE65 HH51 (wt0 rfl) (x_assign rfl) rfl rfl fun a_66 HE67 => ?_
      refine pl_x HE67 HH51 (wt0 rfl) (x_assign rfl) rfl rfl fun a_68 HE69 => ?_
      refine pl_x HE69 HH51 (wt0 rfl) (x_assign rfl) rfl rfl fun a_70 HE71 => ?_
      refine wpList_nil ?_
      clear a_29 HE30 HH22 a_33 HE34 a_38 HE39 K_35 hK36 HH37 a_40 HE41 a_45 HE46 K_42 hK43 HH44 a_47 HE48 a_52 HE53 a_54 HE55 a_56 HE57 a_58 HE59 a_60 HE61 a_62 HE63 a_64 HE65 a_66 HE67 a_68 HE69 hK50 K_49
      refine nrm ?_
      refine wp_seq ?_
      refine rg ?_
      refine pl_x HE71 HH51 (wt0 rfl) (x_move rfl) rfl rfl fun a_72 HE73 => ?_
      refine pl fun K_74 hK75 => ?_
      refine st_call HE73 (wt0 rfl) rfl rfl rfl en_49 rfl rfl (to_FractionS _ _ a0 _ (HH51.old h0) (by omega)) fun e w' hr => ?_
      obtain ⟨Ar27, cr27, rfl, hor27, hbr27⟩ := hr
      obtain ⟨Sr27, HH76⟩ := HH51.newS hbr27 hor27
      clear hbr27 hor27
      refine ⟨_, rfl, fun a_77 HE78 => hK75 _ _ ?_⟩
      refine pl_x HE78 HH76 (wt0 rfl) (x_assign rfl) rfl rfl fun a_79 HE80 => ?_
      refine wpList_nil ?_
      clear a_70 HE71 HH51 a_72 HE73 a_77 HE78 hK75 K_74
      refine nrm ?_
      refine wp_seq ?_
      refine rg ?_
      refine pl_x HE80 HH76 (wt0 rfl) (x_move rfl) rfl rfl fun a_81 HE82 => ?_
      refine pl fun K_83 hK84 => ?_
      refine st_call HE82 (wt0 rfl) rfl rfl rfl en_23 rfl rfl (to_Int64S _ _ a1 _ (HH76.old h1) (by omega)) fun e w' hr => ?_
      obtain ⟨Ar28, cr28, rfl, hor28, hbr28⟩ := hr
      obtain ⟨Sr28, HH85⟩ := HH76.newS hbr28 hor28
      clear hbr28 hor28
      refine ⟨_, rfl, fun a_86 HE87 => hK84 _ _ ?_⟩
      refine pl_x HE87 HH85 (wt0 rfl) (x_assign rfl) rfl rfl fun a_88 HE89 => ?_
      refine wpList_nil ?_
      clear a_79 HE80 HH76 a_81 HE82 a_86 HE87 hK84 K_83
      refine nrm ?_
      refine wp_seq ?_
      refine rg ?_
      refine pl_x HE89 HH85 (wt0 rfl) (x_move rfl) rfl rfl fun a_90 HE91 => ?_
      refine pl_x HE91 HH85 (wt0 rfl) (x_move rfl) rfl rfl fun a_92 HE93 => ?_
      refine pl_x HE93 HH85 (wt0 rfl) (x_move rfl) rfl rfl fun a_94 HE95 => ?_
      refine pl fun K_96 hK97 => ?_
      refine st_call HE95 (wt0 rfl) rfl rfl rfl en_62 rfl rfl (impl_RunFractions _ _ a0 _ _ a1 a2 _ (HH85.sl (i := 1) rfl) (HH85.sl (i := 0) rfl)) fun e w' hr => ?_
      obtain ⟨Ar29_0, cr29_0, rfl, hor29_0, hbr29⟩ := hr
      obtain ⟨Sr29, HH98⟩ := HH85.newS hbr29 hor29_0
      refine ⟨_, rfl, fun a_99 HE100 => hK97 _ _ ?_⟩
      refine pl_x HE100 HH98 (wt0 rfl) (x_move rfl) rfl rfl fun a_101 HE102 => ?_
      refine pl_x HE102 HH98 (wt0 rfl) (x_extract rfl rfl) rfl rfl fun a_103 HE104 => ?_
      refine pl_x HE104 HH98 (wt0 rfl) (x_extract rfl rfl) rfl rfl fun a_105 HE106 => ?_
      refine pl_x HE106 HH98 (wt0 rfl) (x_extract rfl rfl) rfl rfl fun a_107 HE108 => ?_
      refine pl_x HE108 HH98 (wt0 rfl) (x_extract rfl rfl) rfl rfl fun a_109 HE110 => ?_
      refine pl_x HE110 HH98 (wt0 rfl) (x_assign rfl) rfl rfl fun a_111 HE112 => ?_
      refine pl_x HE112 HH98 (wt0 rfl) (x_assign rfl) rfl rfl fun a_113 HE114 => ?_
      refine pl_x HE114 HH98 (wt0 rfl) (x_assign rfl) rfl rfl fun a_115 HE116 => ?_
      refine pl_x HE116 HH98 (wt0 rfl) (x_assign rfl) rfl rfl fun a_117 HE118 => ?_
      refine wpList_nil ?_
      clear a_88 HE89 a_90 HE91 a_92 HE93 HH85 a_94 HE95 a_99 HE100 a_101 HE102 a_103 HE104 a_105 HE106 a_107 HE108 a_109 HE110 a_111 HE112 a_113 HE114 a_115 HE116 hK97 K_96
      refine nrm ?_
      refine wp_seq ?_
      refine wp_seq ?_
      refine rg ?_
      refine pl_x HE118 HH98 (wt0 rfl) (x_move rfl) rfl rfl fun a_119 HE120 => ?_
      refine pl_x HE120 HH98 (wt0 rfl) (x_move rfl) rfl rfl fun a_121 HE122 => ?_
      refine pl fun K_123 hK124 => ?_
      refine st_call HE122 (wt0 rfl) rfl rfl rfl en_26 rfl rfl (eq_L_c _ _ _ _ ((runFracs a0 a1 a2).1) ((runFracs a0 a1 a2).1) _ (HH98.sl (i := 0) rfl) (HH98.sl (i := 3) rfl)) fun e w' hr => ?_
      obtain ⟨rfl, hbr30⟩ := hr
      have HH125 := HH98.on hbr30
      clear hbr30
      refine ⟨_, rfl, fun a_126 HE127 => hK124 _ _ ?_⟩
      refine pl_x HE127 HH125 (wt0 rfl) (x_not rfl) rfl rfl fun a_128 HE129 => ?_
      refine pl_x HE129 HH125 (wt0 rfl) (x_move rfl) rfl rfl fun a_130 HE131 => ?_
      refine pl_x HE131 HH125 (wtT HE131 rfl rfl rfl (not_f (eq_L_refl _))) (x_move rfl) rfl rfl fun a_132 HE133 => ?_
      refine pl_x HE133 HH125 (wtT HE133 rfl rfl rfl (not_f (eq_L_refl _))) (x_move rfl) rfl rfl fun a_134 HE135 => ?_
      refine pl_x HE135 HH125 (wtT HE135 rfl rfl rfl (not_f (eq_L_refl _))) (x_neq rfl rfl) rfl rfl fun a_136 HE137 => ?_
      refine pl_x HE137 HH125 (wt0 rfl) (x_pickF rfl (not_f (eq_L_refl _)) rfl) rfl rfl fun a_138 HE139 => ?_
      refine pl_x HE139 HH125 (wt0 rfl) (x_move rfl) rfl rfl fun a_140 HE141 => ?_
      refine pl_x HE141 HH125 (wtT HE141 rfl rfl rfl (bne_f rfl)) (x_move rfl) rfl rfl fun a_142 HE143 => ?_
      refine pl_x HE143 HH125 (wtT HE143 rfl rfl rfl (bne_f rfl)) (x_move rfl) rfl rfl fun a_144 HE145 => ?_
      refine pl_x HE145 HH125 (wtT HE145 rfl rfl rfl (bne_f rfl)) (x_bneq Try.underlying4 rfl rfl) rfl rfl fun a_146 HE147 => ?_
      refine pl_x HE147 HH125 (wt0 rfl) (x_pickF rfl (bne_f rfl) rfl) rfl rfl fun a_148 HE149 => ?_
      refine pl_x HE149 HH125 (wt0 rfl) (x_move rfl) rfl rfl fun a_150 HE151 => ?_
      refine pl_x HE151 HH125 (wtT HE151 rfl rfl rfl (not_f (beq_self_eq_true _))) (x_move rfl) rfl rfl fun a_152 HE153 => ?_
      refine pl_x HE153 HH125 (wtT HE153 rfl rfl rfl (not_f (beq_self_eq_true _))) (x_move rfl) rfl rfl fun a_154 HE155 => ?_
      refine pl_x HE155 HH125 (wtT HE155 rfl rfl rfl (not_f (beq_self_eq_true _))) (x_neq rfl rfl) rfl rfl fun a_156 HE157 => ?_
      refine pl_x HE157 HH125 (wt0 rfl) (x_pickF rfl (not_f (beq_self_eq_true _)) rfl) rfl rfl fun a_158 HE159 => ?_
      refine wpList_nil ?_
      clear a_117 HE118 a_119 HE120 HH98 a_121 HE122 a_126 HE127 a_128 HE129 a_130 HE131 a_132 HE133 a_134 HE135 a_136 HE137 a_138 HE139 a_140 HE141 a_142 HE143 a_144 HE145 a_146 HE147 a_148 HE149 a_150 HE151 a_152 HE153 a_154 HE155 a_156 HE157 hK124 K_123
      refine nrm ?_
      refine cndF HE159 rfl (bne_f rfl) ?_
      refine wp_skip ?_
      refine nrm ?_
      refine wp_seq ?_
      refine wp_seq ?_
      refine rg ?_
      refine pl_x HE159 HH125 (wt0 rfl) (x_move rfl) rfl rfl fun a_160 HE161 => ?_
      refine pl_x HE161 HH125 (wt0 rfl) (x_move rfl) rfl rfl fun a_162 HE163 => ?_
      refine pl fun K_164 hK165 => ?_
      refine st_call HE163 (wt0 rfl) rfl rfl rfl en_49 rfl rfl (to_FractionS _ _ a0 _ (HH125.old h0) (by omega)) fun e w' hr => ?_
      obtain ⟨Ar31, cr31, rfl, hor31, hbr31⟩ := hr
      obtain ⟨Sr31, HH166⟩ := HH125.newS hbr31 hor31
      clear hbr31 hor31
      refine ⟨_, rfl, fun a_167 HE168 => hK165 _ _ ?_⟩
      refine pl fun K_169 hK170 => ?_
      refine st_call HE168 (wt0 rfl) rfl rfl rfl en_51 rfl rfl (eq_SFraction_c _ _ _ _ a0 a0 _ (HH166.sl (i := 3) rfl) (HH166.sl (i := 0) rfl)) fun e w' hr => ?_
      obtain ⟨rfl, hbr32⟩ := hr
      have HH171 := HH166.on hbr32
      clear hbr32
      refine ⟨_, rfl, fun a_172 HE173 => hK170 _ _ ?_⟩
      refine pl_x HE173 HH171 (wt0 rfl) (x_not rfl) rfl rfl fun a_174 HE175 => ?_
      refine wpList_nil ?_
      clear a_158 HE159 a_160 HE161 HH125 a_162 HE163 K_164 hK165 HH166 a_167 HE168 a_172 HE173 hK170 K_169
      refine nrm ?_
      refine cndF HE175 rfl (not_f (eq_SFraction_refl _)) ?_
      refine wp_skip ?_
      refine nrm ?_
      refine wp_seq ?_
      refine wp_seq ?_
      refine rg ?_
      refine pl_x HE175 HH171 (wt0 rfl) (x_move rfl) rfl rfl fun a_176 HE177 => ?_
      refine pl_x HE177 HH171 (wt0 rfl) (x_move rfl) rfl rfl fun a_178 HE179 => ?_
      refine pl fun K_180 hK181 => ?_
      refine st_call HE179 (wt0 rfl) rfl rfl rfl en_23 rfl rfl (to_Int64S _ _ a1 _ (HH171.old h1) (by omega)) fun e w' hr => ?_
      obtain ⟨Ar33, cr33, rfl, hor33, hbr33⟩ := hr
      obtain ⟨Sr33, HH182⟩ := HH171.newS hbr33 hor33
      clear hbr33 hor33
      refine ⟨_, rfl, fun a_183 HE184 => hK181 _ _ ?_⟩
      refine pl fun K_185 hK186 => ?_
      refine st_call HE184 (wt0 rfl) rfl rfl rfl en_26 rfl rfl (eq_L_c _ _ _ _ a1 a1 _ (HH182.sl (i := 3) rfl) (HH182.sl (i := 0) rfl)) fun e w' hr => ?_
      obtain ⟨rfl, hbr34⟩ := hr
      have HH187 := HH182.on hbr34
      clear hbr34
      refine ⟨_, rfl, fun a_188 HE189 => hK186 _ _ ?_⟩
      refine pl_x HE189 HH187 (wt0 rfl) (x_not rfl) rfl rfl fun a_190 HE191 => ?_
      refine wpList_nil ?_
      clear a_174 HE175 a_176 HE177 HH171 a_178 HE179 K_180 hK181 HH182 a_183 HE184 a_188 HE189 hK186 K_185
      refine nrm ?_
      refine cndF HE191 rfl (not_f (eq_L_refl _)) ?_
      refine wp_skip ?_
      refine nrm ?_
      refine wp_seq ?_
      refine rg ?_
      refine pl_x HE191 HH187 (wt0 rfl) (x_assign rfl) rfl rfl fun a_192 HE193 => ?_
      refine wpList_nil ?_
      clear a_190 HE191
      refine nrm ?_
      refine wp_seq ?_
      refine rg ?_
      refine pl_x HE193 HH187 (wt0 rfl) (x_move rfl) rfl rfl fun a_194 HE195 => ?_
      refine pl_x HE195 HH187 (wt0 rfl) (x_move rfl) rfl rfl fun a_196 HE197 => ?_
      refine pl fun K_198 hK199 => ?_
      refine st_call HE197 (wt0 rfl) rfl rfl rfl en_52 rfl rfl (mark_SFraction_c _ _ a0 1 _ _ (so_of_o (HH187.get (i := 4) rfl)) (HH187.lt (i := 4) rfl) (by omega) (by omega)) fun e w' hr => ?_
      obtain ⟨rfl, hsr35, hcr35⟩ := hr
      have HH200 := HH187.mut (i := 4) rfl hcr35 (rSo eFraction Sr27 Ar27 cr27 (mk_SFraction a0 1)) (oSl hsr35) (fun b hb => .inl hb)
      clear hsr35 hcr35
      refine ⟨_, rfl, fun a_201 HE202 => hK199 _ _ ?_⟩
      refine pl_x HE202 HH200 (wt0 rfl) (x_assign rfl) rfl rfl fun a_203 HE204 => ?_
      refine wpList_nil ?_
      clear a_192 HE193 a_194 HE195 HH187 a_196 HE197 a_201 HE202 hK199 K_198
      refine nrm ?_
      refine wp_seq ?_
      refine rg ?_
      refine pl_x HE204 HH200 (wt0 rfl) (x_move rfl) rfl rfl fun a_205 HE206 => ?_
      refine pl_x HE206 HH200 (wt0 rfl) (x_move rfl) rfl rfl fun a_207 HE208 => ?_
      refine pl fun K_209 hK210 => ?_
      refine st_call HE208 (wt0 rfl) rfl rfl rfl en_34 rfl rfl (mark_L_c _ _ a1 (1 + (ct_SFraction a0 : Int)) _ _ (so_of_o (HH200.get (i := 3) rfl)) (HH200.lt (i := 3) rfl) (by omega) (by omega)) fun e w' hr => ?_
      obtain ⟨rfl, hsr36, hcr36⟩ := hr
      have HH211 := HH200.mut (i := 3) rfl hcr36 (rSo eInt Sr28 Ar28 cr28 (mk_L a1 (1 + (ct_SFraction a0 : Int)))) (oSl hsr36) (fun b hb => .inl hb)
      clear hsr36 hcr36
      refine ⟨_, rfl, fun a_212 HE213 => hK210 _ _ ?_⟩
      refine pl_x HE213 HH211 (wt0 rfl) (x_assign rfl) rfl rfl fun a_214 HE215 => ?_
      refine wpList_nil ?_
      clear a_203 HE204 a_205 HE206 HH200 a_207 HE208 a_212 HE213 hK210 K_209
      refine nrm ?_
      refine wp_seq ?_
      refine wp_seq ?_
      refine rg ?_
      refine pl_x HE215 HH211 (wt0 rfl) (x_move rfl) rfl rfl fun a_216 HE217 => ?_
      refine pl_x HE217 HH211 (wt0 rfl) (x_lss rfl rfl) rfl rfl fun a_218 HE219 => ?_
      refine pl_x HE219 HH211 (wt0 rfl) (x_move rfl) rfl rfl fun a_220 HE221 => ?_
      by_cases hc37 : ((1 + (ct_SFraction a0 : Int)) + (ct_L a1 : Int)) < 0
      · refine pl_no HE221 (wtF HE221 rfl rfl rfl (decide_eq_true hc37)) rfl rfl fun a_222 HE223 => ?_
        refine pl_no HE223 (wtF HE223 rfl rfl rfl (decide_eq_true hc37)) rfl rfl fun a_224 HE225 => ?_
        refine pl_no HE225 (wtF HE225 rfl rfl rfl (decide_eq_true hc37)) rfl rfl fun a_226 HE227 => ?_
        refine pl_no HE227 (wtF HE227 rfl rfl rfl (decide_eq_true hc37)) rfl rfl fun a_228 HE229 => ?_
        refine pl_x HE229 HH211 (wt0 rfl) (x_pickT rfl (decide_eq_true hc37) rfl) rfl rfl fun a_230 HE231 => ?_
        refine pl_x HE231 HH211 (wt0 rfl) (x_move rfl) rfl rfl fun a_232 HE233 => ?_
        refine pl_no HE233 (wtF HE233 rfl rfl rfl rfl) rfl rfl fun a_234 HE235 => ?_
        refine pl_no HE235 (wtF HE235 rfl rfl rfl rfl) rfl rfl fun a_236 HE237 => ?_
        refine pl_no HE237 (wtF HE237 rfl rfl rfl rfl) rfl rfl fun a_238 HE239 => ?_
        refine pl_x HE239 HH211 (wt0 rfl) (x_pickT rfl rfl rfl) rfl rfl fun a_240 HE241 => ?_
        refine pl_x HE241 HH211 (wt0 rfl) (x_move rfl) rfl rfl fun a_242 HE243 => ?_
        refine pl_no HE243 (wtF HE243 rfl rfl rfl rfl) rfl rfl fun a_244 HE245 => ?_
        refine pl_no HE245 (wtF HE245 rfl rfl rfl rfl) rfl rfl fun a_246 HE247 => ?_
        refine pl_no HE247 (wtF HE247 rfl rfl rfl rfl) rfl rfl fun a_248 HE249 => ?_
        refine pl_x HE249 HH211 (wt0 rfl) (x_pickT rfl rfl rfl) rfl rfl fun a_250 HE251 => ?_
        refine pl_x HE251 HH211 (wt0 rfl) (x_move rfl) rfl rfl fun a_252 HE253 => ?_
        refine pl_no HE253 (wtF HE253 rfl rfl rfl rfl) rfl rfl fun a_254 HE255 => ?_
        refine pl_no HE255 (wtF HE255 rfl rfl rfl rfl) rfl rfl fun a_256 HE257 => ?_
        refine pl_no HE257 (wtF HE257 rfl rfl rfl rfl) rfl rfl fun a_258 HE259 => ?_
        refine pl_x HE259 HH211 (wt0 rfl) (x_pickT rfl rfl rfl) rfl rfl fun a_260 HE261 => ?_
        refine wpList_nil ?_
        clear a_214 HE215 a_216 HE217 a_218 HE219 a_220 HE221 a_222 HE223 a_224 HE225 a_226 HE227 a_228 HE229 a_230 HE231 a_232 HE233 a_234 HE235 a_236 HE237 a_238 HE239 a_240 HE241 a_242 HE243 a_244 HE245 a_246 HE247 a_248 HE249 a_250 HE251 a_252 HE253 a_254 HE255 a_256 HE257 a_258 HE259
        refine nrm ?_
        refine cndT HE261 rfl rfl ?_
        refine wp_seq ?_
        refine rg ?_
        refine pl_x HE261 HH211 (wt0 rfl) (x_assign rfl) rfl rfl fun a_262 HE263 => ?_
        refine wpList_nil ?_
        clear a_260 HE261
        refine nrm ?_
        refine wp_ret ?_
        refine (thn_ret ?_)
        refine ret1 HE263 rfl (rv_tmp rfl) ?_
        have hF : true = false := by
          first | rfl | (exfalso; omega)
        exact ⟨by rw [hF] <;> rfl, HH211.below⟩
      · refine pl_x HE221 HH211 (wtT HE221 rfl rfl rfl (decide_eq_false hc37)) (x_move rfl) rfl rfl fun a_264 HE265 => ?_
        refine pl_x HE265 HH211 (wtT HE265 rfl rfl rfl (decide_eq_false hc37)) (x_move rfl) rfl rfl fun a_266 HE267 => ?_
        refine pl fun K_268 hK269 => ?_
        refine st_call HE267 (wtT HE267 rfl rfl rfl (decide_eq_false hc37)) rfl rfl rfl en_26 rfl rfl (eq_L_c _ _ _ _ ((runFracs a0 a1 a2).1) ((runFracs a0 a1 a2).1) _ (HH211.sl (i := 2) rfl) (HH211.sl (i := 5) rfl)) fun e w' hr => ?_
        obtain ⟨rfl, hbr38⟩ := hr
        have HH270 := HH211.on hbr38
        clear hbr38
        refine ⟨_, rfl, fun a_271 HE272 => hK269 _ _ ?_⟩
        refine pl_x HE272 HH270 (wtT HE272 rfl rfl rfl (decide_eq_false hc37)) (x_not rfl) rfl rfl fun a_273 HE274 => ?_
        refine pl_x HE274 HH270 (wt0 rfl) (x_pickF rfl (decide_eq_false hc37) rfl) rfl rfl fun a_275 HE276 => ?_
        refine pl_x HE276 HH270 (wt0 rfl) (x_move rfl) rfl rfl fun a_277 HE278 => ?_
        refine pl_x HE278 HH270 (wtT HE278 rfl rfl rfl (not_f (eq_L_refl _))) (x_move rfl) rfl rfl fun a_279 HE280 => ?_
        refine pl_x HE280 HH270 (wtT HE280 rfl rfl rfl (not_f (eq_L_refl _))) (x_move rfl) rfl rfl fun a_281 HE282 => ?_
        refine pl_x HE282 HH270 (wtT HE282 rfl rfl rfl (not_f (eq_L_refl _))) (x_neq rfl rfl) rfl rfl fun a_283 HE284 => ?_
        refine pl_x HE284 HH270 (wt0 rfl) (x_pickF rfl (not_f (eq_L_refl _)) rfl) rfl rfl fun a_285 HE286 => ?_
        refine pl_x HE286 HH270 (wt0 rfl) (x_move rfl) rfl rfl fun a_287 HE288 => ?_
        refine pl_x HE288 HH270 (wtT HE288 rfl rfl rfl (bne_f rfl)) (x_move rfl) rfl rfl fun a_289 HE290 => ?_
        refine pl_x HE290 HH270 (wtT HE290 rfl rfl rfl (bne_f rfl)) (x_move rfl) rfl rfl fun a_291 HE292 => ?_
        refine pl_x HE292 HH270 (wtT HE292 rfl rfl rfl (bne_f rfl)) (x_bneq Try.underlying4 rfl rfl) rfl rfl fun a_293 HE294 => ?_
        refine pl_x HE294 HH270 (wt0 rfl) (x_pickF rfl (bne_f rfl) rfl) rfl rfl fun a_295 HE296 => ?_
        refine pl_x HE296 HH270 (wt0 rfl) (x_move rfl) rfl rfl fun a_297 HE298 => ?_
        refine pl_x HE298 HH270 (wtT HE298 rfl rfl rfl (not_f (beq_self_eq_true _))) (x_move rfl) rfl rfl fun a_299 HE300 => ?_
        refine pl_x HE300 HH270 (wtT HE300 rfl rfl rfl (not_f (beq_self_eq_true _))) (x_move rfl) rfl rfl fun a_301 HE302 => ?_
        refine pl_x HE302 HH270 (wtT HE302 rfl rfl rfl (not_f (beq_self_eq_true _))) (x_neq rfl rfl) rfl rfl fun a_303 HE304 => ?_
        refine pl_x HE304 HH270 (wt0 rfl) (x_pickF rfl (not_f (beq_self_eq_true _)) rfl) rfl rfl fun a_305 HE306 => ?_
        refine wpList_nil ?_
        clear a_214 HE215 a_216 HE217 a_218 HE219 a_220 HE221 a_264 HE265 HH211 a_266 HE267 a_271 HE272 a_273 HE274 a_275 HE276 a_277 HE278 a_279 HE280 a_281 HE282 a_283 HE284 a_285 HE286 a_287 HE288 a_289 HE290 a_291 HE292 a_293 HE294 a_295 HE296 a_297 HE298 a_299 HE300 a_301 HE302 a_303 HE304 hK269 K_268
        refine nrm ?_
        refine cndF HE306 rfl (bne_f rfl) ?_
        refine wp_skip ?_
        refine nrm ?_
        refine wp_seq ?_
        refine rg ?_
        refine pl_x HE306 HH270 (wt0 rfl) (x_assign rfl) rfl rfl fun a_307 HE308 => ?_
        refine wpList_nil ?_
        clear a_305 HE306
        refine nrm ?_
        refine wp_seq ?_
        refine rg ?_
        refine pl_x HE308 HH270 (wt0 rfl) (x_move rfl) rfl rfl fun a_309 HE310 => ?_
        refine pl_x HE310 HH270 (wt0 rfl) (x_move rfl) rfl rfl fun a_311 HE312 => ?_
        refine pl fun K_313 hK314 => ?_
        refine st_call HE312 (wt0 rfl) rfl rfl rfl en_34 rfl rfl (mark_L_c _ _ ((runFracs a0 a1 a2).1) 1 _ _ (so_of_o (HH270.get (i := 2) rfl)) (HH270.lt (i := 2) rfl) (by omega) (by omega)) fun e w' hr => ?_
        obtain ⟨rfl, hsr39, hcr39⟩ := hr
        have HH315 := HH270.mut (i := 2) rfl hcr39 (rSo eInt Sr29 Ar29_0 cr29_0 (mk_L ((runFracs a0 a1 a2).1) 1)) (oSl hsr39) (fun b hb => .inl hb)
        clear hsr39 hcr39
        refine ⟨_, rfl, fun a_316 HE317 => hK314 _ _ ?_⟩
        refine pl_x HE317 HH315 (wt0 rfl) (x_assign rfl) rfl rfl fun a_318 HE319 => ?_
        refine wpList_nil ?_
        clear a_307 HE308 a_309 HE310 HH270 a_311 HE312 a_316 HE317 hK314 K_313
        refine nrm ?_
        refine wp_seq ?_
        refine rg ?_
        refine pl_x HE319 HH315 (wt0 rfl) (x_assign rfl) rfl rfl fun a_320 HE321 => ?_
        refine wpList_nil ?_
        clear a_318 HE319
        refine nrm ?_
        refine wp_seq ?_
        refine rg ?_
        refine pl_x HE321 HH315 (wt0 rfl) (x_move rfl) rfl rfl fun a_322 HE323 => ?_
        refine pl_x HE323 HH315 (wt0 rfl) (x_move rfl) rfl rfl fun a_324 HE325 => ?_
        refine pl fun K_326 hK327 => ?_
        refine st_call HE325 (wt0 rfl) rfl rfl rfl en_46 rfl rfl (held_L_c _ _ ((runFracs a0 a1 a2).1) 1 _ (HH315.sl (i := 2) rfl) (by omega) (by omega)) fun e w' hr => ?_
        obtain ⟨rfl, hbr40⟩ := hr
        have HH328 := HH315.on hbr40
        clear hbr40
        refine ⟨_, rfl, fun a_329 HE330 => hK327 _ _ ?_⟩
        refine pl_x HE330 HH328 (wt0 rfl) (x_assign rfl) rfl rfl fun a_331 HE332 => ?_
        refine wpList_nil ?_
        clear a_320 HE321 a_322 HE323 HH315 a_324 HE325 a_329 HE330 hK327 K_326
        refine nrm ?_
        refine wp_seq ?_
        refine wp_seq ?_
        refine rg ?_
        refine pl_x HE332 HH328 (wt0 rfl) (x_move rfl) rfl rfl fun a_333 HE334 => ?_
        refine pl_x HE334 HH328 (wt0 rfl) (x_lss rfl rfl) rfl rfl fun a_335 HE336 => ?_
        refine wpList_nil ?_
        clear a_331 HE332 a_333 HE334
        refine nrm ?_
        refine cnd_d HE336 rfl (fun hc41 => ?_) (fun hc41 => ?_)
        · refine wp_seq ?_
          refine rg ?_
          refine pl_x HE336 HH328 (wt0 rfl) (x_assign rfl) rfl rfl fun a_337 HE338 => ?_
          refine wpList_nil ?_
          clear a_335 HE336
          refine nrm ?_
          refine wp_ret ?_
          refine (thn_ret ?_)
          refine ret1 HE338 rfl (rv_tmp rfl) ?_
          have hF : true = false := by
            first | rfl | (exfalso; omega)
          exact ⟨by rw [hF] <;> rfl, HH328.below⟩
        · refine wp_skip ?_
          refine nrm ?_
          refine wp_seq ?_
          refine wp_seq ?_
          refine rg ?_
          refine pl_x HE336 HH328 (wt0 rfl) (x_move rfl) rfl rfl fun a_339 HE340 => ?_
          refine pl_x HE340 HH328 (wt0 rfl) (x_move rfl) rfl rfl fun a_341 HE342 => ?_
          refine pl_x HE342 HH328 (wt0 rfl) (x_neq rfl rfl) rfl rfl fun a_343 HE344 => ?_
          refine wpList_nil ?_
          clear a_335 HE336 a_339 HE340 a_341 HE342
          refine nrm ?_
          refine cndF HE344 rfl (bne_f rfl) ?_
          refine wp_skip ?_
          refine nrm ?_
          refine wp_seq ?_
          refine rg ?_
          refine pl_x HE344 HH328 (wt0 rfl) (x_move rfl) rfl rfl fun a_345 HE346 => ?_
          refine pl fun K_347 hK348 => ?_
          refine st_call HE346 (wt0 rfl) rfl rfl rfl en_49 rfl rfl (to_FractionS _ _ a0 _ (HH328.old h0) (by omega)) fun e w' hr => ?_
          obtain ⟨Ar42, cr42, rfl, hor42, hbr42⟩ := hr
          obtain ⟨Sr42, HH349⟩ := HH328.newS hbr42 hor42
          clear hbr42 hor42
          refine ⟨_, rfl, fun a_350 HE351 => hK348 _ _ ?_⟩
          refine pl_x HE351 HH349 (wt0 rfl) (x_move rfl) rfl rfl fun a_352 HE353 => ?_
          refine pl fun K_354 hK355 => ?_
          refine st_call HE353 (wt0 rfl) rfl rfl rfl en_23 rfl rfl (to_Int64S _ _ a1 _ (HH349.old h1) (by omega)) fun e w' hr => ?_
          obtain ⟨Ar43, cr43, rfl, hor43, hbr43⟩ := hr
          obtain ⟨Sr43, HH356⟩ := HH349.newS hbr43 hor43
          clear hbr43 hor43
          refine ⟨_, rfl, fun a_357 HE358 => hK355 _ _ ?_⟩
          refine pl_x HE358 HH356 (wt0 rfl) (x_move rfl) rfl rfl fun a_359 HE360 => ?_
          refine pl fun K_361 hK362 => ?_
          refine st_call HE360 (wt0 rfl) rfl rfl rfl en_62 rfl rfl (impl_RunFractions _ _ a0 _ _ a1 a2 _ (HH356.sl (i := 1) rfl) (HH356.sl (i := 0) rfl)) fun e w' hr => ?_
          obtain ⟨Ar44_0, cr44_0, rfl, hor44_0, hbr44⟩ := hr
          obtain ⟨Sr44, HH363⟩ := HH356.newS hbr44 hor44_0
          refine ⟨_, rfl, fun a_364 HE365 => hK362 _ _ ?_⟩
          refine pl_x HE365 HH363 (wt0 rfl) (x_move rfl) rfl rfl fun a_366 HE367 => ?_
          refine pl_x HE367 HH363 (wt0 rfl) (x_extract rfl rfl) rfl rfl fun a_368 HE369 => ?_
          refine pl_x HE369 HH363 (wt0 rfl) (x_extract rfl rfl) rfl rfl fun a_370 HE371 => ?_
          refine pl_x HE371 HH363 (wt0 rfl) (x_extract rfl rfl) rfl rfl fun a_372 HE373 => ?_
          refine pl_x HE373 HH363 (wt0 rfl) (x_extract rfl rfl) rfl rfl fun a_374 HE375 => ?_
          refine pl_x HE375 HH363 (wt0 rfl) (x_assign rfl) rfl rfl fun a_376 HE377 => ?_
          refine pl_x HE377 HH363 (wt0 rfl) (x_assign rfl) rfl rfl fun a_378 HE379 => ?_
          refine pl_x HE379 HH363 (wt0 rfl) (x_assign rfl) rfl rfl fun a_380 HE381 => ?_
          refine pl_x HE381 HH363 (wt0 rfl) (x_assign rfl) rfl rfl fun a_382 HE383 => ?_
          refine wpList_nil ?_
          clear a_343 HE344 HH328 a_345 HE346 a_350 HE351 K_347 hK348 HH349 a_352 HE353 a_357 HE358 K_354 hK355 HH356 a_359 HE360 a_364 HE365 a_366 HE367 a_368 HE369 a_370 HE371 a_372 HE373 a_374 HE375 a_376 HE377 a_378 HE379 a_380 HE381 hK362 K_361
          refine nrm ?_
          refine wp_seq ?_
          refine wp_seq ?_
          refine rg ?_
          refine pl_x HE383 HH363 (wt0 rfl) (x_move rfl) rfl rfl fun a_384 HE385 => ?_
          refine pl_x HE385 HH363 (wt0 rfl) (x_move rfl) rfl rfl fun a_386 HE387 => ?_
          refine pl fun K_388 hK389 => ?_
          refine st_call HE387 (wt0 rfl) rfl rfl rfl en_26 rfl rfl (eq_L_c _ _ _ _ ((runFracs a0 a1 a2).1) ((runFracs a0 a1 a2).1) _ (HH363.sl (i := 0) rfl) (HH363.sl (i := 8) rfl)) fun e w' hr => ?_
          obtain ⟨rfl, hbr45⟩ := hr
          have HH390 := HH363.on hbr45
          clear hbr45
          refine ⟨_, rfl, fun a_391 HE392 => hK389 _ _ ?_⟩
          refine pl_x HE392 HH390 (wt0 rfl) (x_not rfl) rfl rfl fun a_393 HE394 => ?_
          refine pl_x HE394 HH390 (wt0 rfl) (x_move rfl) rfl rfl fun a_395 HE396 => ?_
          refine pl_x HE396 HH390 (wtT HE396 rfl rfl rfl (not_f (eq_L_refl _))) (x_move rfl) rfl rfl fun a_397 HE398 => ?_
          refine pl_x HE398 HH390 (wtT HE398 rfl rfl rfl (not_f (eq_L_refl _))) (x_move rfl) rfl rfl fun a_399 HE400 => ?_
          refine pl_x HE400 HH390 (wtT HE400 rfl rfl rfl (not_f (eq_L_refl _))) (x_neq rfl rfl) rfl rfl fun a_401 HE402 => ?_
          refine pl_x HE402 HH390 (wt0 rfl) (x_pickF rfl (not_f (eq_L_refl _)) rfl) rfl rfl fun a_403 HE404 => ?_
          refine pl_x HE404 HH390 (wt0 rfl) (x_move rfl) rfl rfl fun a_405 HE406 => ?_
          refine pl_x HE406 HH390 (wtT HE406 rfl rfl rfl (bne_f rfl)) (x_move rfl) rfl rfl fun a_407 HE408 => ?_
          refine pl_x HE408 HH390 (wtT HE408 rfl rfl rfl (bne_f rfl)) (x_move rfl) rfl rfl fun a_409 HE410 => ?_
          refine pl_x HE410 HH390 (wtT HE410 rfl rfl rfl (bne_f rfl)) (x_bneq Try.underlying4 rfl rfl) rfl rfl fun a_411 HE412 => ?_
          refine pl_x HE412 HH390 (wt0 rfl) (x_pickF rfl (bne_f rfl) rfl) rfl rfl fun a_413 HE414 => ?_
          refine pl_x HE414 HH390 (wt0 rfl) (x_move rfl) rfl rfl fun a_415 HE416 => ?_
          refine pl_x HE416 HH390 (wtT HE416 rfl rfl rfl (not_f (beq_self_eq_true _))) (x_move rfl) rfl rfl fun a_417 HE418 => ?_
          refine pl_x HE418 HH390 (wtT HE418 rfl rfl rfl (not_f (beq_self_eq_true _))) (x_move rfl) rfl rfl fun a_419 HE420 => ?_
          refine pl_x HE420 HH390 (wtT HE420 rfl rfl rfl (not_f (beq_self_eq_true _))) (x_neq rfl rfl) rfl rfl fun a_421 HE422 => ?_
          refine pl_x HE422 HH390 (wt0 rfl) (x_pickF rfl (not_f (beq_self_eq_true _)) rfl) rfl rfl fun a_423 HE424 => ?_
          refine wpList_nil ?_
          clear a_382 HE383 a_384 HE385 HH363 a_386 HE387 a_391 HE392 a_393 HE394 a_395 HE396 a_397 HE398 a_399 HE400 a_401 HE402 a_403 HE404 a_405 HE406 a_407 HE408 a_409 HE410 a_411 HE412 a_413 HE414 a_415 HE416 a_417 HE418 a_419 HE420 a_421 HE422 hK389 K_388
          refine nrm ?_
          refine cndF HE424 rfl (bne_f rfl) ?_
          refine wp_skip ?_
          refine nrm ?_
          refine wp_seq ?_
          refine rg ?_
          refine pl_x HE424 HH390 (wt0 rfl) (x_assign rfl) rfl rfl fun a_425 HE426 => ?_
          refine wpList_nil ?_
          clear a_423 HE424
          refine nrm ?_
          refine wp_seq ?_
          refine rg ?_
          refine pl_x HE426 HH390 (wt0 rfl) (x_move rfl) rfl rfl fun a_427 HE428 => ?_
          refine pl_x HE428 HH390 (wt0 rfl) (x_move rfl) rfl rfl fun a_429 HE430 => ?_
          refine pl fun K_431 hK432 => ?_
          refine st_call HE430 (wt0 rfl) rfl rfl rfl en_46 rfl rfl (held_L_c _ _ ((runFracs a0 a1 a2).1) 1 _ (HH390.sl (i := 5) rfl) (by omega) (by omega)) fun e w' hr => ?_
          obtain ⟨rfl, hbr46⟩ := hr
          have HH433 := HH390.on hbr46
          clear hbr46
          refine ⟨_, rfl, fun a_434 HE435 => hK432 _ _ ?_⟩
          refine pl_x HE435 HH433 (wt0 rfl) (x_assign rfl) rfl rfl fun a_436 HE437 => ?_
          refine wpList_nil ?_
          clear a_425 HE426 a_427 HE428 HH390 a_429 HE430 a_434 HE435 hK432 K_431
          refine nrm ?_
          refine wp_seq ?_
          refine wp_seq ?_
          refine rg ?_
          refine pl_x HE437 HH433 (wt0 rfl) (x_move rfl) rfl rfl fun a_438 HE439 => ?_
          refine pl_x HE439 HH433 (wt0 rfl) (x_lss rfl rfl) rfl rfl fun a_440 HE441 => ?_
          refine wpList_nil ?_
          clear a_436 HE437 a_438 HE439
          refine nrm ?_
          refine cndF HE441 rfl (decide_eq_false hc41) ?_
          refine wp_skip ?_
          refine nrm ?_
          refine wp_seq ?_
          refine wp_seq ?_
          refine rg ?_
          refine pl_x HE441 HH433 (wt0 rfl) (x_move rfl) rfl rfl fun a_442 HE443 => ?_
          refine pl_x HE443 HH433 (wt0 rfl) (x_move rfl) rfl rfl fun a_444 HE445 => ?_
          refine pl_x HE445 HH433 (wt0 rfl) (x_neq rfl rfl) rfl rfl fun a_446 HE447 => ?_
          refine wpList_nil ?_
          clear a_440 HE441 a_442 HE443 a_444 HE445
          refine nrm ?_
          refine cndF HE447 rfl (bne_f rfl) ?_
          refine wp_skip ?_
          refine nrm ?_
          refine wp_seq ?_
          refine rg ?_
          refine pl_x HE447 HH433 (wt0 rfl) (x_assign rfl) rfl rfl fun a_448 HE449 => ?_
          refine wpList_nil ?_
          clear a_446 HE447
          refine nrm ?_
          refine wp_ret ?_
          refine ret1 HE449 rfl (rv_tmp rfl) ?_
          have hF : true = true := by
            first | rfl | (exfalso; omega)
          exact ⟨by rw [hF] <;> rfl, HH433.below⟩

end Go.Proofs.Ytfcajgbehecfbaa
