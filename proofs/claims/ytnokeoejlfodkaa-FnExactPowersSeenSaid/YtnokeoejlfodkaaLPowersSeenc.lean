/- What the proof of FnExactPowersSeen needs: contracts of the functions that it reaches, each once. -/
import Derived.Test.YtnokeoejlfodkaaProg
import Derived.Test.YtnokeoejlfodkaaQMem
import Derived.Test.YtnokeoejlfodkaaQOpen
import Derived.Test.YtnokeoejlfodkaaLPowersSeena
import Derived.Test.YtnokeoejlfodkaaLPowersSeenb
import Derived.WalkKit
import Derived.WalkSpells
import Derived.Below
import Derived.LoopTactic
import Derived.Outline
import Derived.Deep.QuietTactic
import Derived.BigQuiet
import Derived.Deep.LoopGhost
import Derived.Handy
import Derived.Lib.Hide
import Derived.Shelf.Abstract
import Derived.StillTailTactics
import Derived.OwnWalk
import Derived.Maps.AppendAt
import Derived.RegionTactic
import Derived.Deep.RegionHeld3
import Derived.IntWalk
import Derived.Deep.Upon
import Derived.Laws.OwnMore
import Derived.Maps.AppendAt
import Derived.Lib.SliceRun
import Derived.Lib.AppendZeros
namespace Go.Proofs.Ytnokeoejlfodkaa
open Go.RowKit

set_option maxRecDepth 100000 in
set_option maxHeartbeats 4000000 in
theorem impl_multiply (A0 : Option Addr) (c0 : Nat) (a0 : (List Int)) (A1 : Option Addr) (c1 : Nat) (a1 : (List Int)) (w : World) (h0 : Sl eInt w (Old w) A0 c0 a0) (h1 : Sl eInt w (Old w) A1 c1 a1) (s0 : limbs a0) (s1 : limbs a1) (s2 : a0.length ≤ 1000000000) (s3 : a1.length ≤ 1000000000) :
    Calls Try.prog 234 #[.slice A0 a0.length c0, .slice A1 a1.length c1] w fun e w' => ∃ (A0' : Option Addr) (c0' : Nat), e = .returned (.slice A0' (mulN a0 a1).length c0') ∧ So eInt w' (Fr w w') A0' c0' (mulN a0 a1) ∧ Below w.heap.size w w' := by
  have l0 := h0.len
  have l1 := h1.len
  have HH1 := Held.start Nob w
  refine enter (n := 65) Try.func234 rfl rfl rfl fun a_2 HE3 => ?_
  refine wp_seq ?_
  refine rg ?_
  refine pl_x HE3 HH1 (wt0 rfl) (x_assign rfl) rfl rfl fun a_4 HE5 => ?_
  refine wpList_nil ?_
  clear a_2 HE3
  refine nrm ?_
  refine wp_seq ?_
  refine rg ?_
  refine pl_x HE5 HH1 (wt0 rfl) (x_move rfl) rfl rfl fun a_6 HE7 => ?_
  refine pl_x HE7 HH1 (wt0 rfl) (x_len Try.underlying31 rfl) rfl rfl fun a_8 HE9 => ?_
  refine pl_x HE9 HH1 (wt0 rfl) (x_move rfl) rfl rfl fun a_10 HE11 => ?_
  refine pl_x HE11 HH1 (wt0 rfl) (x_len Try.underlying31 rfl) rfl rfl fun a_12 HE13 => ?_
  refine pl_x HE13 HH1 (wt0 rfl) (x_add rfl rfl (by exact ⟨by omega, by omega⟩)) rfl rfl fun a_14 HE15 => ?_
  refine pl fun K_16 hK17 => ?_
  refine st_make (E := eInt) (x := (0 : Int)) (k := (a0.length + a1.length)) HE15 HH1 ts_31 tv_2 rfl (fun _ => oI ⟨by omega, by omega⟩) rfl rfl (by omega) (by omega) (by omega) (by omega) (wt0 rfl) rfl fun q21 a_18 w' HE19 HH20 => hK17 _ _ ?_
  have hlq21 : (List.replicate (a0.length + a1.length) (0 : Int)).length = (a0.length + a1.length) := List.length_replicate
  refine pl_x HE19 HH20 (wt0 rfl) (x_assign rfl) rfl rfl fun a_21 HE22 => ?_
  refine wpList_nil ?_
  clear a_4 HE5 a_6 HE7 a_8 HE9 a_10 HE11 a_12 HE13 a_14 HE15 HH1 a_18 HE19 hK17 K_16
  refine nrm ?_
  refine wp_seq ?_
  refine wp_seq ?_
  refine rg ?_
  refine pl_x HE22 HH20 (wt0 rfl) (x_move rfl) rfl rfl fun a_23 HE24 => ?_
  refine pl_x HE24 HH20 (wt0 rfl) (x_len Try.underlying31 rfl) rfl rfl fun a_25 HE26 => ?_
  refine pl_x HE26 HH20 (wt0 rfl) (x_move rfl) rfl rfl fun a_27 HE28 => ?_
  refine wpList_nil ?_
  clear a_21 HE22 a_23 HE24 a_25 HE26
  refine nrm ?_
  refine wp_block ?_
  refine lp (fun m a w' => ∃ (i : Nat) (o : List Int), m = a0.length - i ∧ Env 65 [(18, .int .i64 (i : Int)), (1, .slice A1 (a1.length) c1), (5, .slice (some ⟨q21, 0, none⟩) ((List.replicate (a0.length + a1.length) (0 : Int)).length) (a0.length + a1.length)), (16, .slice A0 (a0.length) c0), (17, .int .i64 ((a0.length : Int)))] a ∧ Held Nob w [rSo eInt (fun b => b = q21) (some ⟨q21, 0, none⟩) (a0.length + a1.length) o] w' ∧ (i ≤ a0.length) ∧ (o.length = a0.length + a1.length) ∧ (limbs o) ∧ (val o = val (a0.take i) * val a1)) (a0.length - (0)) ?_ ?_
  · have E22 : (List.replicate (a0.length + a1.length) 0) = (List.replicate (a0.length + a1.length) (0 : Int)) := by
      first | rfl | simp
    exact ⟨0, List.replicate (a0.length + a1.length) 0, rfl, HE28.sub ⟨(lkI rfl (by first | rfl | omega | (simp []; done))), rfl, rfl, rfl, rfl, trivial⟩, ((HH20.sel [0] (by decide) rfl).to (by first | rfl | (rw [E22]; done) | (rw [E22]; rfl) | (simp only [E22]; done) | (simp only [E22]; rfl))), (by first | omega | assumption | (simp; done) | simp_all), (by simp), (by exact limbs_rep _), (by rw [val_rep]; simp [val])⟩
  · rintro m a_29 w' ⟨i, o, rfl, HE30, HH31, p23_0, p23_1, p23_2, p23_3⟩
    refine wp_seq ?_
    refine rg ?_
    refine pl_x HE30 HH31 (wt0 rfl) (x_lss rfl rfl) rfl rfl fun a_32 HE33 => ?_
    refine wpList_nil ?_
    clear a_27 HE28 HH20 a_29 HE30
    refine nrm ?_
    refine wp_seq ?_
    refine cnd_d HE33 rfl (fun hc24 => ?_) (fun hc24 => ?_)
    · refine wp_skip ?_
      refine nrm ?_
      refine wp_seq ?_
      refine wp_block ?_
      refine wp_seq ?_
      refine rg ?_
      refine pl_x HE33 HH31 (wt0 rfl) (x_move rfl) rfl rfl fun a_34 HE35 => ?_
      have ke25 : i < a0.length := by omega
      obtain ⟨be25, fe25, ese25, Ae25, Re25, De25⟩ := el_old h0 ke25
      obtain ⟨e25, xe25⟩ : ∃ x_, x_ = a0[i] := ⟨_, rfl⟩
      rw [← xe25] at Re25
      have Qe25 := Re25
      obtain ⟨rfl, ie25⟩ := Re25
      have je25 := ie25; unfold I64 at je25
      have be25 := s0 e25 (by rw [xe25]; exact List.getElem_mem _)
      have hx0 : a0[i]?.getD 0 = e25 := by rw [List.getElem?_eq_getElem ke25, xe25]; rfl
      have hm0 : ∀ y, 0 ≤ y ∧ y ≤ 999999 → 0 ≤ e25 * y ∧ e25 * y ≤ 999998000001 := fun y hy => mul_b6 be25 hy
      refine pl_x HE35 HH31 (wt0 rfl) (x_indexAddr ts_31 rfl rfl Ae25 rfl ke25) rfl rfl fun a_36 HE37 => ?_
      refine pl_x HE37 HH31 (wt0 rfl) (x_load1 tv_2 rfl (c_old (De25 0 _ rfl))) rfl rfl fun a_38 HE39 => ?_
      refine pl_x HE39 HH31 (wt0 rfl) (x_assign rfl) rfl rfl fun a_40 HE41 => ?_
      refine pl_x HE41 HH31 (wt0 rfl) (x_assign rfl) rfl rfl fun a_42 HE43 => ?_
      refine wpList_nil ?_
      clear a_32 HE33 a_34 HE35 a_36 HE37 a_38 HE39 a_40 HE41
      refine nrm ?_
      refine wp_seq ?_
      refine rg ?_
      refine pl_x HE43 HH31 (wt0 rfl) (x_assign rfl) rfl rfl fun a_44 HE45 => ?_
      refine wpList_nil ?_
      clear a_42 HE43
      refine nrm ?_
      refine wp_seq ?_
      refine rg ?_
      refine pl_x HE45 HH31 (wt0 rfl) (x_assign rfl) rfl rfl fun a_46 HE47 => ?_
      refine wpList_nil ?_
      clear a_44 HE45
      refine nrm ?_
      refine wp_block ?_
      refine lp (fun m a w' => ∃ (k : Nat) (u : List Int) (c : Int), m = (a0.length + a1.length) - (i + k) ∧ Env 65 [(8, .int .i64 c), (9, .int .i64 (k : Int)), (1, .slice A1 (a1.length) c1), (5, .slice (some ⟨q21, 0, none⟩) ((List.replicate (a0.length + a1.length) (0 : Int)).length) (a0.length + a1.length)), (6, .int .i64 ((i : Int))), (7, .int .i64 (e25)), (16, .slice A0 (a0.length) c0), (17, .int .i64 ((a0.length : Int))), (18, .int .i64 ((i : Int)))] a ∧ Held Nob w [rSo eInt (fun b => b = q21) (some ⟨q21, 0, none⟩) (a0.length + a1.length) u] w' ∧ (u.length = a0.length + a1.length) ∧ (limbs u) ∧ (0 ≤ c ∧ c ≤ 999999) ∧ (val u + c * 1000000 ^ (i + k) = val (a0.take i) * val a1 + a0[i]?.getD 0 * val (a1.take k) * 1000000 ^ i) ∧ (i + k ≤ a0.length + a1.length)) ((a0.length + a1.length) - (i + (0))) ?_ ?_
      · exact ⟨0, o, 0, rfl, HE47.sub ⟨rfl, (lkI rfl (by first | rfl | omega | (simp [p23_0, p23_1, p23_2, p23_3, hc24, xe25]; done))), rfl, rfl, rfl, rfl, rfl, rfl, rfl, trivial⟩, (HH31.sel [0] (by decide) rfl), (by exact p23_1), (by exact p23_2), (by first | omega | assumption | (simp; done) | simp_all), (by rw [p23_3]; simp [val]), (by first | omega | assumption | (simp; done) | simp_all)⟩
      · rintro m a_48 w' ⟨k, u, c, rfl, HE49, HH50, p26_0, p26_1, p26_2, p26_3, p26_4⟩
        refine wp_seq ?_
        refine wp_seq ?_
        refine rg ?_
        refine pl_x HE49 HH50 (wt0 rfl) (x_move rfl) rfl rfl fun a_51 HE52 => ?_
        refine pl_x HE52 HH50 (wt0 rfl) (x_move rfl) rfl rfl fun a_53 HE54 => ?_
        refine pl_x HE54 HH50 (wt0 rfl) (x_len Try.underlying31 rfl) rfl rfl fun a_55 HE56 => ?_
        refine pl_x HE56 HH50 (wt0 rfl) (x_lss rfl rfl) rfl rfl fun a_57 HE58 => ?_
        refine pl_x HE58 HH50 (wt0 rfl) (x_move rfl) rfl rfl fun a_59 HE60 => ?_
        by_cases hc27 : (k : Int) < (a1.length : Int)
        · refine pl_no HE60 (wtF HE60 rfl rfl rfl (decide_eq_true hc27)) rfl rfl fun a_61 HE62 => ?_
          refine pl_no HE62 (wtF HE62 rfl rfl rfl (decide_eq_true hc27)) rfl rfl fun a_63 HE64 => ?_
          refine pl_x HE64 HH50 (wt0 rfl) (x_pickT rfl (decide_eq_true hc27) rfl) rfl rfl fun a_65 HE66 => ?_
          refine wpList_nil ?_
          clear a_46 HE47 HH31 a_48 HE49 a_51 HE52 a_53 HE54 a_55 HE56 a_57 HE58 a_59 HE60 a_61 HE62 a_63 HE64
          refine nrm ?_
          refine cndT HE66 rfl rfl ?_
          refine wp_skip ?_
          refine nrm ?_
          refine wp_seq ?_
          refine wp_block ?_
          refine wp_seq ?_
          refine rg ?_
          refine pl_x HE66 HH50 (wt0 rfl) (x_move rfl) rfl rfl fun a_67 HE68 => ?_
          refine pl_x HE68 HH50 (wt0 rfl) (x_move rfl) rfl rfl fun a_69 HE70 => ?_
          refine pl_x HE70 HH50 (wt0 rfl) (x_move rfl) rfl rfl fun a_71 HE72 => ?_
          refine pl_x HE72 HH50 (wt0 rfl) (x_move rfl) rfl rfl fun a_73 HE74 => ?_
          refine pl_x HE74 HH50 (wt0 rfl) (x_add rfl rfl (by exact ⟨by omega, by omega⟩)) rfl rfl fun a_75 HE76 => ?_
          have ke28 : (i + k) < (List.replicate (a0.length + a1.length) (0 : Int)).length := by omega
          refine pl_x HE76 HH50 (wt0 rfl) (x_indexAddr ts_31 rfl rfl rfl (by omega) ke28) rfl rfl fun a_77 HE78 => ?_
          obtain ⟨y29, xy29⟩ : ∃ y_, y_ = u[(i + k)]'(by first | exact ke28 | (simp only [List.length_set]; exact ke28) | omega | (simp only [List.length_set]; omega) | (simp; omega)) := ⟨_, rfl⟩
          have iy29 : I64 y29 := by rw [xy29]; exact i_ownI HH50 0 rfl _
          have jy29 := iy29; unfold I64 at jy29
          have by29 := p26_1 y29 (by rw [xy29]; exact List.getElem_mem _)
          refine pl_x HE78 HH50 (wt0 rfl) (x_load1 tv_2 rfl (c_ownV 0 rfl (by first | exact ke28 | (simp only [List.length_set]; exact ke28) | omega | (simp only [List.length_set]; omega) | (simp; omega)) xy29.symm)) rfl rfl fun a_79 HE80 => ?_
          refine pl_x HE80 HH50 (wt0 rfl) (x_add rfl rfl (by exact ⟨by omega, by omega⟩)) rfl rfl fun a_81 HE82 => ?_
          refine pl_x HE82 HH50 (wt0 rfl) (x_assign rfl) rfl rfl fun a_83 HE84 => ?_
          refine wpList_nil ?_
          clear a_65 HE66 a_67 HE68 a_69 HE70 a_71 HE72 a_73 HE74 a_75 HE76 a_77 HE78 a_79 HE80 a_81 HE82
          refine nrm ?_
          refine wp_seq ?_
          refine wp_seq ?_
          refine rg ?_
          refine pl_x HE84 HH50 (wt0 rfl) (x_move rfl) rfl rfl fun a_85 HE86 => ?_
          refine pl_x HE86 HH50 (wt0 rfl) (x_move rfl) rfl rfl fun a_87 HE88 => ?_
          refine pl_x HE88 HH50 (wt0 rfl) (x_len Try.underlying31 rfl) rfl rfl fun a_89 HE90 => ?_
          refine pl_x HE90 HH50 (wt0 rfl) (x_lss rfl rfl) rfl rfl fun a_91 HE92 => ?_
          refine wpList_nil ?_
          clear a_83 HE84 a_85 HE86 a_87 HE88 a_89 HE90
          refine nrm ?_
          refine cndT HE92 rfl (decide_eq_true hc27) ?_
          refine rg ?_
          refine pl_x HE92 HH50 (wt0 rfl) (x_move rfl) rfl rfl fun a_93 HE94 => ?_
          refine pl_x HE94 HH50 (wt0 rfl) (x_move rfl) rfl rfl fun a_95 HE96 => ?_
          refine pl_x HE96 HH50 (wt0 rfl) (x_move rfl) rfl rfl fun a_97 HE98 => ?_
          refine pl_x HE98 HH50 (wt0 rfl) (x_move rfl) rfl rfl fun a_99 HE100 => ?_
          have ke30 : k < a1.length := by omega
          obtain ⟨be30, fe30, ese30, Ae30, Re30, De30⟩ := el_old h1 ke30
          obtain ⟨e30, xe30⟩ : ∃ x_, x_ = a1[k] := ⟨_, rfl⟩
          rw [← xe30] at Re30
          have Qe30 := Re30
          obtain ⟨rfl, ie30⟩ := Re30
          have je30 := ie30; unfold I64 at je30
          have be30 := s1 e30 (by rw [xe30]; exact List.getElem_mem _)
          have me30 := hm0 e30 be30
          refine pl_x HE100 HH50 (wt0 rfl) (x_indexAddr ts_31 rfl rfl Ae30 rfl ke30) rfl rfl fun a_101 HE102 => ?_
          refine pl_x HE102 HH50 (wt0 rfl) (x_load1 tv_2 rfl (c_old (De30 0 _ rfl))) rfl rfl fun a_103 HE104 => ?_
          refine pl_x HE104 HH50 (wt0 rfl) (x_mul rfl rfl (by exact ⟨by omega, by omega⟩)) rfl rfl fun a_105 HE106 => ?_
          refine pl_x HE106 HH50 (wt0 rfl) (x_add rfl rfl (by exact ⟨by omega, by omega⟩)) rfl rfl fun a_107 HE108 => ?_
          refine pl_x HE108 HH50 (wt0 rfl) (x_assign rfl) rfl rfl fun a_109 HE110 => ?_
          refine wpList_nil ?_
          clear a_91 HE92 a_93 HE94 a_95 HE96 a_97 HE98 a_99 HE100 a_101 HE102 a_103 HE104 a_105 HE106 a_107 HE108
          refine nrm ?_
          refine wp_seq ?_
          refine rg ?_
          refine pl_x HE110 HH50 (wt0 rfl) (x_move rfl) rfl rfl fun a_111 HE112 => ?_
          refine pl_x HE112 HH50 (wt0 rfl) (x_move rfl) rfl rfl fun a_113 HE114 => ?_
          refine pl_x HE114 HH50 (wt0 rfl) (x_move rfl) rfl rfl fun a_115 HE116 => ?_
          refine pl_x HE116 HH50 (wt0 rfl) (x_add rfl rfl (by exact ⟨by omega, by omega⟩)) rfl rfl fun a_117 HE118 => ?_
          refine pl_x HE118 HH50 (wt0 rfl) (x_move rfl) rfl rfl fun a_119 HE120 => ?_
          refine pl_x HE120 HH50 (wt0 rfl) (x_rem rfl rfl (by omega) (by omega)) rfl rfl fun a_121 HE122 => ?_
          have ke31 : (i + k) < (List.replicate (a0.length + a1.length) (0 : Int)).length := by omega
          refine pl_x HE122 HH50 (wt0 rfl) (x_indexAddr ts_31 rfl rfl rfl (by omega) ke31) rfl rfl fun a_123 HE124 => ?_
          refine pl fun K_125 hK126 => ?_
          refine st_storeI 0 HE124 HH50 tv_2 rfl rfl rfl (by first | exact ke31 | (simp only [List.length_set]; exact ke31) | omega | (simp only [List.length_set]; omega) | (simp; omega)) (by exact ⟨by omega, by omega⟩) (wt0 rfl) fun w' HH127 => hK126 _ _ ?_
          refine wpList_nil ?_
          clear a_109 HE110 a_111 HE112 a_113 HE114 a_115 HE116 a_117 HE118 a_119 HE120 a_121 HE122 HH50 hK126 K_125
          refine nrm ?_
          refine rg ?_
          refine pl_x HE124 HH127 (wt0 rfl) (x_move rfl) rfl rfl fun a_128 HE129 => ?_
          refine pl_x HE129 HH127 (wt0 rfl) (x_quo rfl rfl (by omega) (by omega) (by omega)) rfl rfl fun a_130 HE131 => ?_
          refine pl_x HE131 HH127 (wt0 rfl) (x_assign rfl) rfl rfl fun a_132 HE133 => ?_
          refine wpList_nil ?_
          clear a_123 HE124 a_128 HE129 a_130 HE131
          refine blk_n ?_
          refine nrm ?_
          refine rg ?_
          refine pl_x HE133 HH127 (wt0 rfl) (x_move rfl) rfl rfl fun a_134 HE135 => ?_
          refine pl_x HE135 HH127 (wt0 rfl) (x_add rfl rfl (by exact ⟨by omega, by omega⟩)) rfl rfl fun a_136 HE137 => ?_
          refine pl_x HE137 HH127 (wt0 rfl) (x_assign rfl) rfl rfl fun a_138 HE139 => ?_
          refine wpList_nil ?_
          clear a_132 HE133 a_134 HE135 a_136 HE137
          have E32 : ((u.set (i + k) (((c + y29) + (e25 * e30)) % 1000000))) = (u.set (i + k) (((c + y29) + (e25 * e30)) % 1000000)) := by
            first | rfl | simp
          exact nrm ⟨(a0.length + a1.length) - (i + (k + 1)), (by omega), k + 1, (u.set (i + k) (((c + y29) + (e25 * e30)) % 1000000)), (((c + y29) + (e25 * e30)) / 1000000), rfl, HE139.sub ⟨rfl, (lkI rfl (by first | rfl | omega | (simp [p23_0, p23_1, p23_2, p23_3, hc24, xe25, p26_0, p26_1, p26_2, p26_3, p26_4, hc27, xy29, xe30]; done))), rfl, rfl, rfl, rfl, rfl, rfl, rfl, trivial⟩, ((HH127.sel [0] (by decide) rfl).to (by first | rfl | (rw [E32]; done) | (rw [E32]; rfl) | (simp only [E32]; done) | (simp only [E32]; rfl))), (by rw [List.length_set]; exact p26_0), (by exact limbs_set p26_1 (by omega)), (by omega), (by first | exact mul_round1 (by omega) (by omega) p26_3 (by rw [hx0, ← xe30, ← xy29]; omega) | exact mul_round0 (by omega) (by omega) p26_3 (by rw [← xy29]; omega)), (by omega)⟩
        · refine pl_x HE60 HH50 (wtT HE60 rfl rfl rfl (decide_eq_false hc27)) (x_move rfl) rfl rfl fun a_140 HE141 => ?_
          refine pl_x HE141 HH50 (wtT HE141 rfl rfl rfl (decide_eq_false hc27)) (x_gtr rfl rfl) rfl rfl fun a_142 HE143 => ?_
          refine pl_x HE143 HH50 (wt0 rfl) (x_pickF rfl (decide_eq_false hc27) rfl) rfl rfl fun a_144 HE145 => ?_
          refine wpList_nil ?_
          clear a_46 HE47 HH31 a_48 HE49 a_51 HE52 a_53 HE54 a_55 HE56 a_57 HE58 a_59 HE60 a_140 HE141 a_142 HE143
          refine nrm ?_
          refine cnd_d HE145 rfl (fun hc33 => ?_) (fun hc33 => ?_)
          · have hroom := mul_room (N := a0.length + a1.length) s0 s1 p26_1 (by omega) p26_3 (by omega) hc33 (by omega)
            refine wp_skip ?_
            refine nrm ?_
            refine wp_seq ?_
            refine wp_block ?_
            refine wp_seq ?_
            refine rg ?_
            refine pl_x HE145 HH50 (wt0 rfl) (x_move rfl) rfl rfl fun a_146 HE147 => ?_
            refine pl_x HE147 HH50 (wt0 rfl) (x_move rfl) rfl rfl fun a_148 HE149 => ?_
            refine pl_x HE149 HH50 (wt0 rfl) (x_move rfl) rfl rfl fun a_150 HE151 => ?_
            refine pl_x HE151 HH50 (wt0 rfl) (x_move rfl) rfl rfl fun a_152 HE153 => ?_
            refine pl_x HE153 HH50 (wt0 rfl) (x_add rfl rfl (by exact ⟨by omega, by omega⟩)) rfl rfl fun a_154 HE155 => ?_
            have ke34 : (i + k) < (List.replicate (a0.length + a1.length) (0 : Int)).length := by omega
            refine pl_x HE155 HH50 (wt0 rfl) (x_indexAddr ts_31 rfl rfl rfl (by omega) ke34) rfl rfl fun a_156 HE157 => ?_
            obtain ⟨y35, xy35⟩ : ∃ y_, y_ = u[(i + k)]'(by first | exact ke34 | (simp only [List.length_set]; exact ke34) | omega | (simp only [List.length_set]; omega) | (simp; omega)) := ⟨_, rfl⟩
            have iy35 : I64 y35 := by rw [xy35]; exact i_ownI HH50 0 rfl _
            have jy35 := iy35; unfold I64 at jy35
            have by35 := p26_1 y35 (by rw [xy35]; exact List.getElem_mem _)
            refine pl_x HE157 HH50 (wt0 rfl) (x_load1 tv_2 rfl (c_ownV 0 rfl (by first | exact ke34 | (simp only [List.length_set]; exact ke34) | omega | (simp only [List.length_set]; omega) | (simp; omega)) xy35.symm)) rfl rfl fun a_158 HE159 => ?_
            refine pl_x HE159 HH50 (wt0 rfl) (x_add rfl rfl (by exact ⟨by omega, by omega⟩)) rfl rfl fun a_160 HE161 => ?_
            refine pl_x HE161 HH50 (wt0 rfl) (x_assign rfl) rfl rfl fun a_162 HE163 => ?_
            refine wpList_nil ?_
            clear a_144 HE145 a_146 HE147 a_148 HE149 a_150 HE151 a_152 HE153 a_154 HE155 a_156 HE157 a_158 HE159 a_160 HE161
            refine nrm ?_
            refine wp_seq ?_
            refine wp_seq ?_
            refine rg ?_
            refine pl_x HE163 HH50 (wt0 rfl) (x_move rfl) rfl rfl fun a_164 HE165 => ?_
            refine pl_x HE165 HH50 (wt0 rfl) (x_move rfl) rfl rfl fun a_166 HE167 => ?_
            refine pl_x HE167 HH50 (wt0 rfl) (x_len Try.underlying31 rfl) rfl rfl fun a_168 HE169 => ?_
            refine pl_x HE169 HH50 (wt0 rfl) (x_lss rfl rfl) rfl rfl fun a_170 HE171 => ?_
            refine wpList_nil ?_
            clear a_162 HE163 a_164 HE165 a_166 HE167 a_168 HE169
            refine nrm ?_
            refine cndF HE171 rfl (decide_eq_false hc27) ?_
            refine wp_skip ?_
            refine nrm ?_
            refine wp_seq ?_
            refine rg ?_
            refine pl_x HE171 HH50 (wt0 rfl) (x_move rfl) rfl rfl fun a_172 HE173 => ?_
            refine pl_x HE173 HH50 (wt0 rfl) (x_move rfl) rfl rfl fun a_174 HE175 => ?_
            refine pl_x HE175 HH50 (wt0 rfl) (x_move rfl) rfl rfl fun a_176 HE177 => ?_
            refine pl_x HE177 HH50 (wt0 rfl) (x_add rfl rfl (by exact ⟨by omega, by omega⟩)) rfl rfl fun a_178 HE179 => ?_
            refine pl_x HE179 HH50 (wt0 rfl) (x_move rfl) rfl rfl fun a_180 HE181 => ?_
            refine pl_x HE181 HH50 (wt0 rfl) (x_rem rfl rfl (by omega) (by omega)) rfl rfl fun a_182 HE183 => ?_
            have ke36 : (i + k) < (List.replicate (a0.length + a1.length) (0 : Int)).length := by omega
            refine pl_x HE183 HH50 (wt0 rfl) (x_indexAddr ts_31 rfl rfl rfl (by omega) ke36) rfl rfl fun a_184 HE185 => ?_
            refine pl fun K_186 hK187 => ?_
            refine st_storeI 0 HE185 HH50 tv_2 rfl rfl rfl (by first | exact ke36 | (simp only [List.length_set]; exact ke36) | omega | (simp only [List.length_set]; omega) | (simp; omega)) (by exact ⟨by omega, by omega⟩) (wt0 rfl) fun w' HH188 => hK187 _ _ ?_
            refine wpList_nil ?_
            clear a_170 HE171 a_172 HE173 a_174 HE175 a_176 HE177 a_178 HE179 a_180 HE181 a_182 HE183 HH50 hK187 K_186
            refine nrm ?_
            refine rg ?_
            refine pl_x HE185 HH188 (wt0 rfl) (x_move rfl) rfl rfl fun a_189 HE190 => ?_
            refine pl_x HE190 HH188 (wt0 rfl) (x_quo rfl rfl (by omega) (by omega) (by omega)) rfl rfl fun a_191 HE192 => ?_
            refine pl_x HE192 HH188 (wt0 rfl) (x_assign rfl) rfl rfl fun a_193 HE194 => ?_
            refine wpList_nil ?_
            clear a_184 HE185 a_189 HE190 a_191 HE192
            refine blk_n ?_
            refine nrm ?_
            refine rg ?_
            refine pl_x HE194 HH188 (wt0 rfl) (x_move rfl) rfl rfl fun a_195 HE196 => ?_
            refine pl_x HE196 HH188 (wt0 rfl) (x_add rfl rfl (by exact ⟨by omega, by omega⟩)) rfl rfl fun a_197 HE198 => ?_
            refine pl_x HE198 HH188 (wt0 rfl) (x_assign rfl) rfl rfl fun a_199 HE200 => ?_
            refine wpList_nil ?_
            clear a_193 HE194 a_195 HE196 a_197 HE198
            have E37 : ((u.set (i + k) ((c + y35) % 1000000))) = (u.set (i + k) ((c + y35) % 1000000)) := by
              first | rfl | simp
            exact nrm ⟨(a0.length + a1.length) - (i + (k + 1)), (by omega), k + 1, (u.set (i + k) ((c + y35) % 1000000)), ((c + y35) / 1000000), rfl, HE200.sub ⟨rfl, (lkI rfl (by first | rfl | omega | (simp [p23_0, p23_1, p23_2, p23_3, hc24, xe25, p26_0, p26_1, p26_2, p26_3, p26_4, hc27, hc33, xy35]; done))), rfl, rfl, rfl, rfl, rfl, rfl, rfl, trivial⟩, ((HH188.sel [0] (by decide) rfl).to (by first | rfl | (rw [E37]; done) | (rw [E37]; rfl) | (simp only [E37]; done) | (simp only [E37]; rfl))), (by rw [List.length_set]; exact p26_0), (by exact limbs_set p26_1 (by omega)), (by omega), (by first | exact mul_round1 (by omega) (by omega) p26_3 (by rw [hx0, ← xe25, ← xy35]; omega) | exact mul_round0 (by omega) (by omega) p26_3 (by rw [← xy35]; omega)), (by omega)⟩
          · refine wp_exit ?_
            refine (thn_exit (thn_exit (blk_hit ?_)))
            refine blk_n ?_
            refine nrm ?_
            refine rg ?_
            refine pl_x HE145 HH50 (wt0 rfl) (x_add rfl rfl (by exact ⟨by omega, by omega⟩)) rfl rfl fun a_201 HE202 => ?_
            refine pl_x HE202 HH50 (wt0 rfl) (x_move rfl) rfl rfl fun a_203 HE204 => ?_
            refine wpList_nil ?_
            clear a_144 HE145 a_201 HE202
            exact nrm ⟨a0.length - (i + 1), (by omega), i + 1, u, rfl, HE204.sub ⟨(lkI rfl (by first | rfl | omega | (simp [p23_0, p23_1, p23_2, p23_3, hc24, xe25, p26_0, p26_1, p26_2, p26_3, p26_4, hc27, hc33]; done))), rfl, rfl, rfl, rfl, trivial⟩, (HH50.sel [0] (by decide) rfl), (by first | omega | assumption | (simp; done) | simp_all), (by exact p26_0), (by exact p26_1), (by exact mul_end (by omega) p26_3 (by omega) (by omega))⟩
    · refine wp_exit ?_
      refine (thn_exit (thn_exit (blk_hit ?_)))
      refine nrm ?_
      refine wp_seq ?_
      refine rg ?_
      refine pl_x HE33 HH31 (wt0 rfl) (x_move rfl) rfl rfl fun a_205 HE206 => ?_
      refine pl fun K_207 hK208 => ?_
      have HE209 := HE206.castS (t := 63) (m' := List.length o) rfl (by first | omega | (simp; done) | (simp; omega))
      refine st_call HE209 (wt0 rfl) rfl rfl rfl en_151 rfl rfl (impl_trimmed _ _ o _ (HH31.sl (i := 0) rfl)) fun e w' hr => ?_
      obtain ⟨rfl, ⟨kt38, ht38⟩, rfl⟩ := hr
      have HH210 := HH31.turn (rSo eInt (fun b => b = q21) (some ⟨q21, 0, none⟩) (a0.length + a1.length) (trimZ o)) (fun h => oSl (by rw [ht38]; exact (so_of_o h).take kt38)) (fun _ h => h)
      refine ⟨_, rfl, fun a_211 HE212 => hK208 _ _ ?_⟩
      refine pl_x HE212 HH210 (wt0 rfl) (x_assign rfl) rfl rfl fun a_213 HE214 => ?_
      refine wpList_nil ?_
      clear a_32 HE33 HE206 HH31 a_205 HE209 a_211 HE212 hK208 K_207
      refine nrm ?_
      refine wp_ret ?_
      refine ret1 HE214 rfl (rv_tmp rfl) ?_
      have hF : (mulN a0 a1) = (trimZ o) := by
        exact mulN_of p23_2 (by have := p23_3; rwa [List.take_of_length_le (by omega)] at this)
      exact ⟨(some ⟨q21, 0, none⟩), (a0.length + a1.length), by first | (rw [hF] <;> rfl) | rfl | (rw [hF]; simp only [Ending.returned.injEq, Value.slice.injEq, true_and, and_true]; first | omega | (simp; done)), by rw [hF]; exact (HH210.so (i := 0) rfl), HH210.below⟩

set_option maxRecDepth 100000 in
set_option maxHeartbeats 4000000 in
theorem spec_l02Mul (A0 : Option Addr) (c0 : Nat) (a0 : (List Int)) (A1 : Option Addr) (c1 : Nat) (a1 : (List Int)) (w : World) (h0 : Sl eInt w (Old w) A0 c0 a0) (h1 : Sl eInt w (Old w) A1 c1 a1) (s0 : limbs a0) (s1 : limbs a1) (s2 : a0.length ≤ 1000000000) (s3 : a1.length ≤ 1000000000) :
    Calls Try.prog 194 #[.slice A0 a0.length c0, .slice A1 a1.length c1] w fun e w' => ∃ (A0' : Option Addr) (c0' : Nat), e = .returned (.slice A0' (mulN a0 a1).length c0') ∧ So eInt w' (Fr w w') A0' c0' (mulN a0 a1) ∧ Below w.heap.size w w' := by
  have l0 := h0.len
  have l1 := h1.len
  have HH1 := Held.start Nob w
  refine enter (n := 67) Try.func194 rfl rfl rfl fun a_2 HE3 => ?_
  refine wp_seq ?_
  refine rg ?_
  refine pl_x HE3 HH1 (wt0 rfl) (x_assign rfl) rfl rfl fun a_4 HE5 => ?_
  refine wpList_nil ?_
  clear a_2 HE3
  refine nrm ?_
  refine wp_seq ?_
  refine rg ?_
  refine pl_x HE5 HH1 (wt0 rfl) (x_move rfl) rfl rfl fun a_6 HE7 => ?_
  refine pl_x HE7 HH1 (wt0 rfl) (x_len Try.underlying31 rfl) rfl rfl fun a_8 HE9 => ?_
  refine pl_x HE9 HH1 (wt0 rfl) (x_move rfl) rfl rfl fun a_10 HE11 => ?_
  refine pl_x HE11 HH1 (wt0 rfl) (x_len Try.underlying31 rfl) rfl rfl fun a_12 HE13 => ?_
  refine pl_x HE13 HH1 (wt0 rfl) (x_add rfl rfl (by exact ⟨by omega, by omega⟩)) rfl rfl fun a_14 HE15 => ?_
  refine pl_x HE15 HH1 (wt0 rfl) (x_add rfl rfl (by exact ⟨by omega, by omega⟩)) rfl rfl fun a_16 HE17 => ?_
  refine pl fun K_18 hK19 => ?_
  refine st_make (E := eInt) (x := (0 : Int)) (k := (((((a0.length : Int) + (a1.length : Int)) + 1)).toNat)) HE17 HH1 ts_31 tv_2 rfl (fun _ => oI ⟨by omega, by omega⟩) rfl rfl (by omega) (by omega) (by omega) (by omega) (wt0 rfl) rfl fun q21 a_20 w' HE21 HH22 => hK19 _ _ ?_
  have hlq21 : (List.replicate (((((a0.length : Int) + (a1.length : Int)) + 1)).toNat) (0 : Int)).length = ((((a0.length : Int) + (a1.length : Int)) + 1)).toNat := List.length_replicate
  refine pl_x HE21 HH22 (wt0 rfl) (x_assign rfl) rfl rfl fun a_23 HE24 => ?_
  refine wpList_nil ?_
  clear a_4 HE5 a_6 HE7 a_8 HE9 a_10 HE11 a_12 HE13 a_14 HE15 a_16 HE17 HH1 a_20 HE21 hK19 K_18
  refine nrm ?_
  refine wp_seq ?_
  refine wp_seq ?_
  refine rg ?_
  refine pl_x HE24 HH22 (wt0 rfl) (x_assign rfl) rfl rfl fun a_25 HE26 => ?_
  refine wpList_nil ?_
  clear a_23 HE24
  refine nrm ?_
  refine wp_block ?_
  refine lp (fun m a w' => ∃ (i : Nat) (o : List Int), m = a0.length - i ∧ Env 67 [(6, .int .i64 (i : Int)), (0, .slice A0 (a0.length) c0), (1, .slice A1 (a1.length) c1), (5, .slice (some ⟨q21, 0, none⟩) ((List.replicate (((((a0.length : Int) + (a1.length : Int)) + 1)).toNat) (0 : Int)).length) (((((a0.length : Int) + (a1.length : Int)) + 1)).toNat))] a ∧ Held Nob w [rSo eInt (fun b => b = q21) (some ⟨q21, 0, none⟩) (((((a0.length : Int) + (a1.length : Int)) + 1)).toNat) o] w' ∧ (i ≤ a0.length) ∧ (o.length = a0.length + a1.length + 1) ∧ (limbs o) ∧ (val o = val (a0.take i) * val a1)) (a0.length - (0)) ?_ ?_
  · have E22 : (List.replicate (a0.length + a1.length + 1) 0) = (List.replicate (((((a0.length : Int) + (a1.length : Int)) + 1)).toNat) (0 : Int)) := by
      first | rfl | simp
    exact ⟨0, List.replicate (a0.length + a1.length + 1) 0, rfl, HE26.sub ⟨(lkI rfl (by first | rfl | omega | (simp []; done))), rfl, rfl, rfl, trivial⟩, ((HH22.sel [0] (by decide) rfl).to (by first | rfl | (rw [E22]; done) | (rw [E22]; rfl) | (simp only [E22]; done) | (simp only [E22]; rfl))), (by first | omega | assumption | (simp; done) | simp_all), (by simp), (by exact limbs_rep _), (by rw [val_rep]; simp [val])⟩
  · rintro m a_27 w' ⟨i, o, rfl, HE28, HH29, p23_0, p23_1, p23_2, p23_3⟩
    refine wp_seq ?_
    refine wp_seq ?_
    refine rg ?_
    refine pl_x HE28 HH29 (wt0 rfl) (x_move rfl) rfl rfl fun a_30 HE31 => ?_
    refine pl_x HE31 HH29 (wt0 rfl) (x_move rfl) rfl rfl fun a_32 HE33 => ?_
    refine pl_x HE33 HH29 (wt0 rfl) (x_len Try.underlying31 rfl) rfl rfl fun a_34 HE35 => ?_
    refine pl_x HE35 HH29 (wt0 rfl) (x_lss rfl rfl) rfl rfl fun a_36 HE37 => ?_
    refine wpList_nil ?_
    clear a_25 HE26 HH22 a_27 HE28 a_30 HE31 a_32 HE33 a_34 HE35
    refine nrm ?_
    refine cnd_d HE37 rfl (fun hc24 => ?_) (fun hc24 => ?_)
    · refine wp_skip ?_
      refine nrm ?_
      refine wp_seq ?_
      refine wp_block ?_
      refine wp_seq ?_
      refine rg ?_
      refine pl_x HE37 HH29 (wt0 rfl) (x_assign rfl) rfl rfl fun a_38 HE39 => ?_
      refine wpList_nil ?_
      clear a_36 HE37
      refine nrm ?_
      refine wp_seq ?_
      refine rg ?_
      refine pl_x HE39 HH29 (wt0 rfl) (x_assign rfl) rfl rfl fun a_40 HE41 => ?_
      refine wpList_nil ?_
      clear a_38 HE39
      refine nrm ?_
      refine wp_block ?_
      refine lp (fun m a w' => ∃ (k : Nat) (u : List Int) (c : Int), m = (a0.length + a1.length + 1) - (i + k) ∧ Env 67 [(7, .int .i64 c), (8, .int .i64 (k : Int)), (0, .slice A0 (a0.length) c0), (1, .slice A1 (a1.length) c1), (5, .slice (some ⟨q21, 0, none⟩) ((List.replicate (((((a0.length : Int) + (a1.length : Int)) + 1)).toNat) (0 : Int)).length) (((((a0.length : Int) + (a1.length : Int)) + 1)).toNat)), (6, .int .i64 ((i : Int)))] a ∧ Held Nob w [rSo eInt (fun b => b = q21) (some ⟨q21, 0, none⟩) (((((a0.length : Int) + (a1.length : Int)) + 1)).toNat) u] w' ∧ (u.length = a0.length + a1.length + 1) ∧ (limbs u) ∧ (0 ≤ c ∧ c ≤ 999999) ∧ (val u + c * 1000000 ^ (i + k) = val (a0.take i) * val a1 + a0[i]?.getD 0 * val (a1.take k) * 1000000 ^ i) ∧ (i + k ≤ a0.length + a1.length + 1)) ((a0.length + a1.length + 1) - (i + (0))) ?_ ?_
      · exact ⟨0, o, 0, rfl, HE41.sub ⟨rfl, (lkI rfl (by first | rfl | omega | (simp [p23_0, p23_1, p23_2, p23_3, hc24]; done))), rfl, rfl, rfl, rfl, trivial⟩, (HH29.sel [0] (by decide) rfl), (by exact p23_1), (by exact p23_2), (by first | omega | assumption | (simp; done) | simp_all), (by rw [p23_3]; simp [val]), (by first | omega | assumption | (simp; done) | simp_all)⟩
      · rintro m a_42 w' ⟨k, u, c, rfl, HE43, HH44, p25_0, p25_1, p25_2, p25_3, p25_4⟩
        refine wp_seq ?_
        refine wp_seq ?_
        refine rg ?_
        refine pl_x HE43 HH44 (wt0 rfl) (x_move rfl) rfl rfl fun a_45 HE46 => ?_
        refine pl_x HE46 HH44 (wt0 rfl) (x_move rfl) rfl rfl fun a_47 HE48 => ?_
        refine pl_x HE48 HH44 (wt0 rfl) (x_len Try.underlying31 rfl) rfl rfl fun a_49 HE50 => ?_
        refine pl_x HE50 HH44 (wt0 rfl) (x_lss rfl rfl) rfl rfl fun a_51 HE52 => ?_
        refine pl_x HE52 HH44 (wt0 rfl) (x_move rfl) rfl rfl fun a_53 HE54 => ?_
        by_cases hc26 : (k : Int) < (a1.length : Int)
        · refine pl_no HE54 (wtF HE54 rfl rfl rfl (decide_eq_true hc26)) rfl rfl fun a_55 HE56 => ?_
          refine pl_no HE56 (wtF HE56 rfl rfl rfl (decide_eq_true hc26)) rfl rfl fun a_57 HE58 => ?_
          refine pl_x HE58 HH44 (wt0 rfl) (x_pickT rfl (decide_eq_true hc26) rfl) rfl rfl fun a_59 HE60 => ?_
          refine wpList_nil ?_
          clear a_40 HE41 HH29 a_42 HE43 a_45 HE46 a_47 HE48 a_49 HE50 a_51 HE52 a_53 HE54 a_55 HE56 a_57 HE58
          refine nrm ?_
          refine cndT HE60 rfl rfl ?_
          refine wp_skip ?_
          refine nrm ?_
          refine wp_seq ?_
          refine wp_block ?_
          refine wp_seq ?_
          refine rg ?_
          refine pl_x HE60 HH44 (wt0 rfl) (x_move rfl) rfl rfl fun a_61 HE62 => ?_
          refine pl_x HE62 HH44 (wt0 rfl) (x_move rfl) rfl rfl fun a_63 HE64 => ?_
          refine pl_x HE64 HH44 (wt0 rfl) (x_move rfl) rfl rfl fun a_65 HE66 => ?_
          refine pl_x HE66 HH44 (wt0 rfl) (x_add rfl rfl (by exact ⟨by omega, by omega⟩)) rfl rfl fun a_67 HE68 => ?_
          have ke27 : (i + k) < (List.replicate (((((a0.length : Int) + (a1.length : Int)) + 1)).toNat) (0 : Int)).length := by omega
          refine pl_x HE68 HH44 (wt0 rfl) (x_indexAddr ts_31 rfl rfl rfl (by omega) ke27) rfl rfl fun a_69 HE70 => ?_
          obtain ⟨y28, xy28⟩ : ∃ y_, y_ = u[(i + k)]'(by first | exact ke27 | (simp only [List.length_set]; exact ke27) | omega | (simp only [List.length_set]; omega) | (simp; omega)) := ⟨_, rfl⟩
          have iy28 : I64 y28 := by rw [xy28]; exact i_ownI HH44 0 rfl _
          have jy28 := iy28; unfold I64 at jy28
          have by28 := p25_1 y28 (by rw [xy28]; exact List.getElem_mem _)
          refine pl_x HE70 HH44 (wt0 rfl) (x_load1 tv_2 rfl (c_ownV 0 rfl (by first | exact ke27 | (simp only [List.length_set]; exact ke27) | omega | (simp only [List.length_set]; omega) | (simp; omega)) xy28.symm)) rfl rfl fun a_71 HE72 => ?_
          refine pl_x HE72 HH44 (wt0 rfl) (x_move rfl) rfl rfl fun a_73 HE74 => ?_
          refine pl_x HE74 HH44 (wt0 rfl) (x_add rfl rfl (by exact ⟨by omega, by omega⟩)) rfl rfl fun a_75 HE76 => ?_
          refine pl_x HE76 HH44 (wt0 rfl) (x_assign rfl) rfl rfl fun a_77 HE78 => ?_
          refine wpList_nil ?_
          clear a_59 HE60 a_61 HE62 a_63 HE64 a_65 HE66 a_67 HE68 a_69 HE70 a_71 HE72 a_73 HE74 a_75 HE76
          refine nrm ?_
          refine wp_seq ?_
          refine wp_seq ?_
          refine rg ?_
          refine pl_x HE78 HH44 (wt0 rfl) (x_move rfl) rfl rfl fun a_79 HE80 => ?_
          refine pl_x HE80 HH44 (wt0 rfl) (x_move rfl) rfl rfl fun a_81 HE82 => ?_
          refine pl_x HE82 HH44 (wt0 rfl) (x_len Try.underlying31 rfl) rfl rfl fun a_83 HE84 => ?_
          refine pl_x HE84 HH44 (wt0 rfl) (x_lss rfl rfl) rfl rfl fun a_85 HE86 => ?_
          refine wpList_nil ?_
          clear a_77 HE78 a_79 HE80 a_81 HE82 a_83 HE84
          refine nrm ?_
          refine cndT HE86 rfl (decide_eq_true hc26) ?_
          refine dr_start (Held Nob w [rSo eInt (fun b => b = q21) (some ⟨q21, 0, none⟩) (((((a0.length : Int) + (a1.length : Int)) + 1)).toNat) u]) 12 #[false, false, false, false, false, false, false, false, false, false, false, false] hmix rfl rfl HH44 (fun _ h => h.sel [0] (by decide) rfl) fun w' HH87 => ?_
          have HS88 := HH87
          refine dr_take (i := 0) (ls' := #[true, false, false, false, false, false, false, false, false, false, false, false]) HE86 HS88 rfl (by kernel_rfl) (by kernel_rfl) (by kernel_rfl) (fun _ _ _ h => h) rfl (wt0 rfl) (x_move rfl) rfl rfl fun a_89 HE90 => ?_
          refine dr_take (i := 1) (ls' := #[true, true, false, false, false, false, false, false, false, false, false, false]) HE90 HS88 rfl (by kernel_rfl) (by kernel_rfl) (by kernel_rfl) (fun _ _ _ h => h) rfl (wt0 rfl) (x_move rfl) rfl rfl fun a_91 HE92 => ?_
          refine dr_take (i := 2) (ls' := #[true, true, true, false, false, false, false, false, false, false, false, false]) HE92 HS88 rfl (by kernel_rfl) (by kernel_rfl) (by kernel_rfl) (fun _ _ _ h => h) rfl (wt0 rfl) (x_move rfl) rfl rfl fun a_93 HE94 => ?_
          have ke29 : i < a0.length := by omega
          obtain ⟨be29, fe29, ese29, Ae29, Re29, De29⟩ := el_old h0 ke29
          obtain ⟨e29, xe29⟩ : ∃ x_, x_ = a0[i] := ⟨_, rfl⟩
          rw [← xe29] at Re29
          have Qe29 := Re29
          obtain ⟨rfl, ie29⟩ := Re29
          have je29 := ie29; unfold I64 at je29
          have be29 := s0 e29 (by rw [xe29]; exact List.getElem_mem _)
          have hx0 : a0[i]?.getD 0 = e29 := by rw [List.getElem?_eq_getElem ke29, xe29]; rfl
          have hm0 : ∀ y, 0 ≤ y ∧ y ≤ 999999 → 0 ≤ e29 * y ∧ e29 * y ≤ 999998000001 := fun y hy => mul_b6 be29 hy
          refine dr_take (i := 3) (ls' := #[true, true, true, true, false, false, false, false, false, false, false, false]) HE94 HS88 rfl (by kernel_rfl) (by kernel_rfl) (by kernel_rfl) (fun _ _ _ h => h) rfl (wt0 rfl) (x_indexAddr ts_31 rfl rfl Ae29 rfl ke29) rfl rfl fun a_95 HE96 => ?_
          refine dr_take (i := 4) (ls' := #[true, true, true, true, true, false, false, false, false, false, false, false]) HE96 HS88 rfl (by kernel_rfl) (by kernel_rfl) (by kernel_rfl) (fun _ _ _ h => h) rfl (wt0 rfl) (x_load1 tv_2 rfl (c_old (De29 0 _ rfl))) rfl rfl fun a_97 HE98 => ?_
          refine dr_take (i := 5) (ls' := #[true, true, true, true, true, true, false, false, false, false, false, false]) HE98 HS88 rfl (by kernel_rfl) (by kernel_rfl) (by kernel_rfl) (fun _ _ _ h => h) rfl (wt0 rfl) (x_move rfl) rfl rfl fun a_99 HE100 => ?_
          refine dr_take (i := 6) (ls' := #[true, true, true, true, true, true, true, false, false, false, false, false]) HE100 HS88 rfl (by kernel_rfl) (by kernel_rfl) (by kernel_rfl) (fun _ _ _ h => h) rfl (wt0 rfl) (x_move rfl) rfl rfl fun a_101 HE102 => ?_
          have ke30 : k < a1.length := by omega
          obtain ⟨be30, fe30, ese30, Ae30, Re30, De30⟩ := el_old h1 ke30
          obtain ⟨e30, xe30⟩ : ∃ x_, x_ = a1[k] := ⟨_, rfl⟩
          rw [← xe30] at Re30
          have Qe30 := Re30
          obtain ⟨rfl, ie30⟩ := Re30
          have je30 := ie30; unfold I64 at je30
          have be30 := s1 e30 (by rw [xe30]; exact List.getElem_mem _)
          have me30 := hm0 e30 be30
          refine dr_take (i := 7) (ls' := #[true, true, true, true, true, true, true, true, false, false, false, false]) HE102 HS88 rfl (by kernel_rfl) (by kernel_rfl) (by kernel_rfl) (fun _ _ _ h => h) rfl (wt0 rfl) (x_indexAddr ts_31 rfl rfl Ae30 rfl ke30) rfl rfl fun a_103 HE104 => ?_
          refine dr_take (i := 8) (ls' := #[true, true, true, true, true, true, true, true, true, false, false, false]) HE104 HS88 rfl (by kernel_rfl) (by kernel_rfl) (by kernel_rfl) (fun _ _ _ h => h) rfl (wt0 rfl) (x_load1 tv_2 rfl (c_old (De30 0 _ rfl))) rfl rfl fun a_105 HE106 => ?_
          refine dr_take (i := 9) (ls' := #[true, true, true, true, true, true, true, true, true, true, false, false]) HE106 HS88 rfl (by kernel_rfl) (by kernel_rfl) (by kernel_rfl) (fun _ _ _ h => h) rfl (wt0 rfl) (x_mul rfl rfl (by exact ⟨by omega, by omega⟩)) rfl rfl fun a_107 HE108 => ?_
          refine dr_take (i := 10) (ls' := #[true, true, true, true, true, true, true, true, true, true, true, false]) HE108 HS88 rfl (by kernel_rfl) (by kernel_rfl) (by kernel_rfl) (fun _ _ _ h => h) rfl (wt0 rfl) (x_add rfl rfl (by exact ⟨by omega, by omega⟩)) rfl rfl fun a_109 HE110 => ?_
          refine dr_take (i := 11) (ls' := #[true, true, true, true, true, true, true, true, true, true, true, true]) HE110 HS88 rfl (by kernel_rfl) (by kernel_rfl) (by kernel_rfl) (fun _ _ _ h => h) rfl (wt0 rfl) (x_assign rfl) rfl rfl fun a_111 HE112 => ?_
          refine dr_done (by kernel_rfl) ?_
          clear HH44 a_85 HE86 a_89 HE90 a_91 HE92 a_93 HE94 a_95 HE96 a_97 HE98 a_99 HE100 a_101 HE102 a_103 HE104 a_105 HE106 a_107 HE108 a_109 HE110
          refine nrm ?_
          refine wp_seq ?_
          refine rg ?_
          refine pl_x HE112 HH87 (wt0 rfl) (x_move rfl) rfl rfl fun a_113 HE114 => ?_
          refine pl_x HE114 HH87 (wt0 rfl) (x_move rfl) rfl rfl fun a_115 HE116 => ?_
          refine pl_x HE116 HH87 (wt0 rfl) (x_move rfl) rfl rfl fun a_117 HE118 => ?_
          refine pl_x HE118 HH87 (wt0 rfl) (x_add rfl rfl (by exact ⟨by omega, by omega⟩)) rfl rfl fun a_119 HE120 => ?_
          refine pl_x HE120 HH87 (wt0 rfl) (x_move rfl) rfl rfl fun a_121 HE122 => ?_
          refine pl_x HE122 HH87 (wt0 rfl) (x_rem rfl rfl (by omega) (by omega)) rfl rfl fun a_123 HE124 => ?_
          have ke31 : (i + k) < (List.replicate (((((a0.length : Int) + (a1.length : Int)) + 1)).toNat) (0 : Int)).length := by omega
          refine pl_x HE124 HH87 (wt0 rfl) (x_indexAddr ts_31 rfl rfl rfl (by omega) ke31) rfl rfl fun a_125 HE126 => ?_
          refine pl fun K_127 hK128 => ?_
          refine st_storeI 0 HE126 HH87 tv_2 rfl rfl rfl (by first | exact ke31 | (simp only [List.length_set]; exact ke31) | omega | (simp only [List.length_set]; omega) | (simp; omega)) (by exact ⟨by omega, by omega⟩) (wt0 rfl) fun w' HH129 => hK128 _ _ ?_
          refine wpList_nil ?_
          clear a_111 HE112 a_113 HE114 a_115 HE116 a_117 HE118 a_119 HE120 a_121 HE122 a_123 HE124 HH87 hK128 K_127
          refine nrm ?_
          refine rg ?_
          refine pl_x HE126 HH129 (wt0 rfl) (x_move rfl) rfl rfl fun a_130 HE131 => ?_
          refine pl_x HE131 HH129 (wt0 rfl) (x_quo rfl rfl (by omega) (by omega) (by omega)) rfl rfl fun a_132 HE133 => ?_
          refine pl_x HE133 HH129 (wt0 rfl) (x_assign rfl) rfl rfl fun a_134 HE135 => ?_
          refine wpList_nil ?_
          clear a_125 HE126 a_130 HE131 a_132 HE133
          refine blk_n ?_
          refine nrm ?_
          refine rg ?_
          refine pl_x HE135 HH129 (wt0 rfl) (x_move rfl) rfl rfl fun a_136 HE137 => ?_
          refine pl_x HE137 HH129 (wt0 rfl) (x_add rfl rfl (by exact ⟨by omega, by omega⟩)) rfl rfl fun a_138 HE139 => ?_
          refine pl_x HE139 HH129 (wt0 rfl) (x_assign rfl) rfl rfl fun a_140 HE141 => ?_
          refine wpList_nil ?_
          clear a_134 HE135 a_136 HE137 a_138 HE139
          have E32 : ((u.set (i + k) (((y28 + c) + (e29 * e30)) % 1000000))) = (u.set (i + k) (((y28 + c) + (e29 * e30)) % 1000000)) := by
            first | rfl | simp
          exact nrm ⟨(a0.length + a1.length + 1) - (i + (k + 1)), (by omega), k + 1, (u.set (i + k) (((y28 + c) + (e29 * e30)) % 1000000)), (((y28 + c) + (e29 * e30)) / 1000000), rfl, HE141.sub ⟨rfl, (lkI rfl (by first | rfl | omega | (simp [p23_0, p23_1, p23_2, p23_3, hc24, p25_0, p25_1, p25_2, p25_3, p25_4, hc26, xy28, xe29, xe30]; done))), rfl, rfl, rfl, rfl, trivial⟩, ((HH129.sel [0] (by decide) rfl).to (by first | rfl | (rw [E32]; done) | (rw [E32]; rfl) | (simp only [E32]; done) | (simp only [E32]; rfl))), (by rw [List.length_set]; exact p25_0), (by exact limbs_set p25_1 (by omega)), (by omega), (by first | exact mul_round1 (by omega) (by omega) p25_3 (by rw [hx0, ← xe30, ← xy28]; omega) | exact mul_round0 (by omega) (by omega) p25_3 (by rw [← xy28]; omega)), (by omega)⟩
        · refine pl_x HE54 HH44 (wtT HE54 rfl rfl rfl (decide_eq_false hc26)) (x_move rfl) rfl rfl fun a_142 HE143 => ?_
          refine pl_x HE143 HH44 (wtT HE143 rfl rfl rfl (decide_eq_false hc26)) (x_gtr rfl rfl) rfl rfl fun a_144 HE145 => ?_
          refine pl_x HE145 HH44 (wt0 rfl) (x_pickF rfl (decide_eq_false hc26) rfl) rfl rfl fun a_146 HE147 => ?_
          refine wpList_nil ?_
          clear a_40 HE41 HH29 a_42 HE43 a_45 HE46 a_47 HE48 a_49 HE50 a_51 HE52 a_53 HE54 a_142 HE143 a_144 HE145
          refine nrm ?_
          refine cnd_d HE147 rfl (fun hc33 => ?_) (fun hc33 => ?_)
          · have hroom := mul_room (N := a0.length + a1.length + 1) s0 s1 p25_1 (by omega) p25_3 (by omega) hc33 (by omega)
            refine wp_skip ?_
            refine nrm ?_
            refine wp_seq ?_
            refine wp_block ?_
            refine wp_seq ?_
            refine rg ?_
            refine pl_x HE147 HH44 (wt0 rfl) (x_move rfl) rfl rfl fun a_148 HE149 => ?_
            refine pl_x HE149 HH44 (wt0 rfl) (x_move rfl) rfl rfl fun a_150 HE151 => ?_
            refine pl_x HE151 HH44 (wt0 rfl) (x_move rfl) rfl rfl fun a_152 HE153 => ?_
            refine pl_x HE153 HH44 (wt0 rfl) (x_add rfl rfl (by exact ⟨by omega, by omega⟩)) rfl rfl fun a_154 HE155 => ?_
            have ke34 : (i + k) < (List.replicate (((((a0.length : Int) + (a1.length : Int)) + 1)).toNat) (0 : Int)).length := by omega
            refine pl_x HE155 HH44 (wt0 rfl) (x_indexAddr ts_31 rfl rfl rfl (by omega) ke34) rfl rfl fun a_156 HE157 => ?_
            obtain ⟨y35, xy35⟩ : ∃ y_, y_ = u[(i + k)]'(by first | exact ke34 | (simp only [List.length_set]; exact ke34) | omega | (simp only [List.length_set]; omega) | (simp; omega)) := ⟨_, rfl⟩
            have iy35 : I64 y35 := by rw [xy35]; exact i_ownI HH44 0 rfl _
            have jy35 := iy35; unfold I64 at jy35
            have by35 := p25_1 y35 (by rw [xy35]; exact List.getElem_mem _)
            refine pl_x HE157 HH44 (wt0 rfl) (x_load1 tv_2 rfl (c_ownV 0 rfl (by first | exact ke34 | (simp only [List.length_set]; exact ke34) | omega | (simp only [List.length_set]; omega) | (simp; omega)) xy35.symm)) rfl rfl fun a_158 HE159 => ?_
            refine pl_x HE159 HH44 (wt0 rfl) (x_move rfl) rfl rfl fun a_160 HE161 => ?_
            refine pl_x HE161 HH44 (wt0 rfl) (x_add rfl rfl (by exact ⟨by omega, by omega⟩)) rfl rfl fun a_162 HE163 => ?_
            refine pl_x HE163 HH44 (wt0 rfl) (x_assign rfl) rfl rfl fun a_164 HE165 => ?_
            refine wpList_nil ?_
            clear a_146 HE147 a_148 HE149 a_150 HE151 a_152 HE153 a_154 HE155 a_156 HE157 a_158 HE159 a_160 HE161 a_162 HE163
            refine nrm ?_
            refine wp_seq ?_
            refine wp_seq ?_
            refine rg ?_
            refine pl_x HE165 HH44 (wt0 rfl) (x_move rfl) rfl rfl fun a_166 HE167 => ?_
            refine pl_x HE167 HH44 (wt0 rfl) (x_move rfl) rfl rfl fun a_168 HE169 => ?_
            refine pl_x HE169 HH44 (wt0 rfl) (x_len Try.underlying31 rfl) rfl rfl fun a_170 HE171 => ?_
            refine pl_x HE171 HH44 (wt0 rfl) (x_lss rfl rfl) rfl rfl fun a_172 HE173 => ?_
            refine wpList_nil ?_
            clear a_164 HE165 a_166 HE167 a_168 HE169 a_170 HE171
            refine nrm ?_
            refine cndF HE173 rfl (decide_eq_false hc26) ?_
            refine wp_skip ?_
            refine nrm ?_
            refine wp_seq ?_
            refine rg ?_
            refine pl_x HE173 HH44 (wt0 rfl) (x_move rfl) rfl rfl fun a_174 HE175 => ?_
            refine pl_x HE175 HH44 (wt0 rfl) (x_move rfl) rfl rfl fun a_176 HE177 => ?_
            refine pl_x HE177 HH44 (wt0 rfl) (x_move rfl) rfl rfl fun a_178 HE179 => ?_
            refine pl_x HE179 HH44 (wt0 rfl) (x_add rfl rfl (by exact ⟨by omega, by omega⟩)) rfl rfl fun a_180 HE181 => ?_
            refine pl_x HE181 HH44 (wt0 rfl) (x_move rfl) rfl rfl fun a_182 HE183 => ?_
            refine pl_x HE183 HH44 (wt0 rfl) (x_rem rfl rfl (by omega) (by omega)) rfl rfl fun a_184 HE185 => ?_
            have ke36 : (i + k) < (List.replicate (((((a0.length : Int) + (a1.length : Int)) + 1)).toNat) (0 : Int)).length := by omega
            refine pl_x HE185 HH44 (wt0 rfl) (x_indexAddr ts_31 rfl rfl rfl (by omega) ke36) rfl rfl fun a_186 HE187 => ?_
            refine pl fun K_188 hK189 => ?_
            refine st_storeI 0 HE187 HH44 tv_2 rfl rfl rfl (by first | exact ke36 | (simp only [List.length_set]; exact ke36) | omega | (simp only [List.length_set]; omega) | (simp; omega)) (by exact ⟨by omega, by omega⟩) (wt0 rfl) fun w' HH190 => hK189 _ _ ?_
            refine wpList_nil ?_
            clear a_172 HE173 a_174 HE175 a_176 HE177 a_178 HE179 a_180 HE181 a_182 HE183 a_184 HE185 HH44 hK189 K_188
            refine nrm ?_
            refine rg ?_
            refine pl_x HE187 HH190 (wt0 rfl) (x_move rfl) rfl rfl fun a_191 HE192 => ?_
            refine pl_x HE192 HH190 (wt0 rfl) (x_quo rfl rfl (by omega) (by omega) (by omega)) rfl rfl fun a_193 HE194 => ?_
            refine pl_x HE194 HH190 (wt0 rfl) (x_assign rfl) rfl rfl fun a_195 HE196 => ?_
            refine wpList_nil ?_
            clear a_186 HE187 a_191 HE192 a_193 HE194
            refine blk_n ?_
            refine nrm ?_
            refine rg ?_
            refine pl_x HE196 HH190 (wt0 rfl) (x_move rfl) rfl rfl fun a_197 HE198 => ?_
            refine pl_x HE198 HH190 (wt0 rfl) (x_add rfl rfl (by exact ⟨by omega, by omega⟩)) rfl rfl fun a_199 HE200 => ?_
            refine pl_x HE200 HH190 (wt0 rfl) (x_assign rfl) rfl rfl fun a_201 HE202 => ?_
            refine wpList_nil ?_
            clear a_195 HE196 a_197 HE198 a_199 HE200
            have E37 : ((u.set (i + k) ((y35 + c) % 1000000))) = (u.set (i + k) ((y35 + c) % 1000000)) := by
              first | rfl | simp
            exact nrm ⟨(a0.length + a1.length + 1) - (i + (k + 1)), (by omega), k + 1, (u.set (i + k) ((y35 + c) % 1000000)), ((y35 + c) / 1000000), rfl, HE202.sub ⟨rfl, (lkI rfl (by first | rfl | omega | (simp [p23_0, p23_1, p23_2, p23_3, hc24, p25_0, p25_1, p25_2, p25_3, p25_4, hc26, hc33, xy35]; done))), rfl, rfl, rfl, rfl, trivial⟩, ((HH190.sel [0] (by decide) rfl).to (by first | rfl | (rw [E37]; done) | (rw [E37]; rfl) | (simp only [E37]; done) | (simp only [E37]; rfl))), (by rw [List.length_set]; exact p25_0), (by exact limbs_set p25_1 (by omega)), (by omega), (by first | exact mul_round1 (by omega) (by omega) p25_3 (by rw [hx0, ← xe0, ← xy35]; omega) | exact mul_round0 (by omega) (by omega) p25_3 (by rw [← xy35]; omega)), (by omega)⟩
          · refine wp_exit ?_
            refine (thn_exit (thn_exit (blk_hit ?_)))
            refine blk_n ?_
            refine nrm ?_
            refine rg ?_
            refine pl_x HE147 HH44 (wt0 rfl) (x_move rfl) rfl rfl fun a_203 HE204 => ?_
            refine pl_x HE204 HH44 (wt0 rfl) (x_add rfl rfl (by exact ⟨by omega, by omega⟩)) rfl rfl fun a_205 HE206 => ?_
            refine pl_x HE206 HH44 (wt0 rfl) (x_assign rfl) rfl rfl fun a_207 HE208 => ?_
            refine wpList_nil ?_
            clear a_146 HE147 a_203 HE204 a_205 HE206
            exact nrm ⟨a0.length - (i + 1), (by omega), i + 1, u, rfl, HE208.sub ⟨(lkI rfl (by first | rfl | omega | (simp [p23_0, p23_1, p23_2, p23_3, hc24, p25_0, p25_1, p25_2, p25_3, p25_4, hc26, hc33]; done))), rfl, rfl, rfl, trivial⟩, (HH44.sel [0] (by decide) rfl), (by first | omega | assumption | (simp; done) | simp_all), (by exact p25_0), (by exact p25_1), (by exact mul_end (by omega) p25_3 (by omega) (by omega))⟩
    · refine wp_exit ?_
      refine (thn_exit (thn_exit (blk_hit ?_)))
      refine nrm ?_
      refine wp_seq ?_
      refine rg ?_
      refine pl_x HE37 HH29 (wt0 rfl) (x_move rfl) rfl rfl fun a_209 HE210 => ?_
      refine pl fun K_211 hK212 => ?_
      have HE213 := HE210.castS (t := 65) (m' := List.length o) rfl (by first | omega | (simp; done) | (simp; omega))
      refine st_call HE213 (wt0 rfl) rfl rfl rfl en_218 rfl rfl (spec_l02Trim _ _ o _ (HH29.sl (i := 0) rfl)) fun e w' hr => ?_
      obtain ⟨rfl, ⟨kt38, ht38⟩, rfl⟩ := hr
      have HH214 := HH29.turn (rSo eInt (fun b => b = q21) (some ⟨q21, 0, none⟩) (((((a0.length : Int) + (a1.length : Int)) + 1)).toNat) (trimZ o)) (fun h => oSl (by rw [ht38]; exact (so_of_o h).take kt38)) (fun _ h => h)
      refine ⟨_, rfl, fun a_215 HE216 => hK212 _ _ ?_⟩
      refine pl_x HE216 HH214 (wt0 rfl) (x_assign rfl) rfl rfl fun a_217 HE218 => ?_
      refine wpList_nil ?_
      clear a_36 HE37 HE210 HH29 a_209 HE213 a_215 HE216 hK212 K_211
      refine nrm ?_
      refine wp_ret ?_
      refine ret1 HE218 rfl (rv_tmp rfl) ?_
      have hF : (mulN a0 a1) = (trimZ o) := by
        exact mulN_of p23_2 (by have := p23_3; rwa [List.take_of_length_le (by omega)] at this)
      exact ⟨(some ⟨q21, 0, none⟩), ((((a0.length : Int) + (a1.length : Int)) + 1)).toNat, by first | (rw [hF] <;> rfl) | rfl | (rw [hF]; simp only [Ending.returned.injEq, Value.slice.injEq, true_and, and_true]; first | omega | (simp; done)), by rw [hF]; exact (HH214.so (i := 0) rfl), HH214.below⟩

set_option maxRecDepth 100000 in
set_option maxHeartbeats 4000000 in
theorem impl_stepFractions (A0 : Option Addr) (c0 : Nat) (a0 : (List tFraction)) (A1 : Option Addr) (c1 : Nat) (a1 : (List Int)) (w : World) (h0 : Sl eFraction w (Old w) A0 c0 a0) (h1 : Sl eInt w (Old w) A1 c1 a1) (s0 : okFr a0) (s1 : limbs a1) (s2 : a1.length ≤ 40) (s3 : a0.length ≤ 100) :
    Calls Try.prog 199 #[.slice A0 a0.length c0, .slice A1 a1.length c1] w fun e w' => ∃ (A0' : Option Addr) (c0' : Nat) (S0' : Nat → Prop), e = .returned (.tuple #[.slice A0' (stepFI a0 a1).1.length c0', .int .i64 (stepFI a0 a1).2]) ∧ Held Nob w [rIf (0 ≤ (stepFI a0 a1).2) (rSo eInt S0' A0' c0' (stepFI a0 a1).1)] w' := by
  have l0 := h0.len
  have l1 := h1.len
  have HH1 := Held.start Nob w
  refine enter (n := 34) Try.func199 rfl rfl rfl fun a_2 HE3 => ?_
  refine wp_seq ?_
  refine rg ?_
  refine pl_x HE3 HH1 (wt0 rfl) (x_assign rfl) rfl rfl fun a_4 HE5 => ?_
  refine pl_x HE5 HH1 (wt0 rfl) (x_assign rfl) rfl rfl fun a_6 HE7 => ?_
  refine wpList_nil ?_
  clear a_2 HE3 a_4 HE5
  refine nrm ?_
  refine wp_seq ?_
  refine wp_seq ?_
  refine rg ?_
  refine pl_x HE7 HH1 (wt0 rfl) (x_move rfl) rfl rfl fun a_8 HE9 => ?_
  refine pl_x HE9 HH1 (wt0 rfl) (x_len Try.underlying66 rfl) rfl rfl fun a_10 HE11 => ?_
  refine pl_x HE11 HH1 (wt0 rfl) (x_move rfl) rfl rfl fun a_12 HE13 => ?_
  refine wpList_nil ?_
  clear a_6 HE7 a_8 HE9 a_10 HE11
  refine nrm ?_
  refine wp_block ?_
  refine lp (fun m a w' => ∃ (k : Nat), m = a0.length - k ∧ Env 34 [(12, .int .i64 (k : Int)), (1, .slice A1 (a1.length) c1), (10, .slice A0 (a0.length) c0), (11, .int .i64 ((a0.length : Int)))] a ∧ Held Nob w [] w' ∧ (k ≤ a0.length) ∧ (stepFr a0 a1 0 = stepFr (a0.drop k) a1 k)) (a0.length - (0)) ?_ ?_
  · exact ⟨0, rfl, HE13.sub ⟨(lkI rfl (by first | rfl | omega | (simp []; done))), rfl, rfl, rfl, trivial⟩, (HH1.sel [] (by decide) rfl), (by first | omega | assumption | (simp; done) | simp_all), (by rfl)⟩
  · rintro m a_14 w' ⟨k, rfl, HE15, HH16, p21_0, p21_1⟩
    refine wp_seq ?_
    refine rg ?_
    refine pl_x HE15 HH16 (wt0 rfl) (x_lss rfl rfl) rfl rfl fun a_17 HE18 => ?_
    refine wpList_nil ?_
    clear a_12 HE13 HH1 a_14 HE15
    refine nrm ?_
    refine wp_seq ?_
    refine cnd_d HE18 rfl (fun hc22 => ?_) (fun hc22 => ?_)
    · refine wp_skip ?_
      refine nrm ?_
      refine wp_seq ?_
      refine wp_block ?_
      refine wp_seq ?_
      refine rg ?_
      refine pl_x HE18 HH16 (wt0 rfl) (x_move rfl) rfl rfl fun a_19 HE20 => ?_
      have ke23 : k < a0.length := by omega
      obtain ⟨be23, fe23, ese23, Ae23, Re23, De23⟩ := el_old h0 ke23
      obtain ⟨e23, xe23⟩ : ∃ x_, x_ = a0[k] := ⟨_, rfl⟩
      rw [← xe23] at Re23
      have Qe23 := Re23
      obtain ⟨rfl, ge23_0, ge23_1⟩ := shape_Fraction Re23
      have je23_0 := ge23_0; unfold I64 at je23_0
      have je23_1 := ge23_1; unfold I64 at je23_1
      have fe23 := s0 e23 (by rw [xe23]; exact List.getElem_mem _)
      refine pl_x HE20 HH16 (wt0 rfl) (x_indexAddr ts_66 rfl rfl Ae23 rfl ke23) rfl rfl fun a_21 HE22 => ?_
      refine pl_x HE22 HH16 (wt0 rfl) (x_loadN (cs := [.int .i64 (e23.1), .int .i64 (e23.2)]) tv_159 rfl rfl (c_oldN De23)) rfl rfl fun a_23 HE24 => ?_
      refine pl fun K_25 hK26 => ?_
      refine st_alloc HE24 HH16 tv_159 (wt0 rfl) rfl fun q24 a_27 w' HE28 HH29 => hK26 _ _ ?_
      refine pl_x HE28 HH29 (wt0 rfl) (x_assign rfl) rfl rfl fun a_30 HE31 => ?_
      refine pl fun K_32 hK33 => ?_
      refine st_store (vs := [.int .i64 (e23.1), .int .i64 (e23.2)]) 0 HE31 HH29 tv_159 rfl rfl rfl rfl rfl rfl (by simp [Value.oneCell']) (wt0 rfl) fun w' HH34 => hK33 _ _ ?_
      refine wpList_nil ?_
      clear a_17 HE18 a_19 HE20 a_21 HE22 a_23 HE24 HH16 a_27 HE28 K_25 hK26 HH29 hK33 K_32
      refine nrm ?_
      refine wp_seq ?_
      refine dr_start (Held Nob w [rBlk q24 159 [.int .i64 (e23.1), .int .i64 (e23.2)]]) 13 #[false, false, false, false, false, false, false, false, false, false, false, false, false] hmix rfl rfl HH34 (fun _ h => h.sel [0] (by decide) rfl) fun w' HH35 => ?_
      have HS36 := HH35
      refine dr_take (i := 0) (ls' := #[true, false, false, false, false, false, false, false, false, false, false, false, false]) HE31 HS36 rfl (by kernel_rfl) (by kernel_rfl) (by kernel_rfl) (fun _ _ _ h => h) rfl (wt0 rfl) (x_move rfl) rfl rfl fun a_37 HE38 => ?_
      refine dr_take (i := 1) (ls' := #[true, true, false, false, false, false, false, false, false, false, false, false, false]) HE38 HS36 rfl (by kernel_rfl) (by kernel_rfl) (by kernel_rfl) (fun _ _ _ h => h) rfl (wt0 rfl) (x_fieldAddr fa_159_0 rfl) rfl rfl fun a_39 HE40 => ?_
      refine dr_take (i := 2) (ls' := #[true, true, true, false, false, false, false, false, false, false, false, false, false]) HE40 HS36 rfl (by kernel_rfl) (by kernel_rfl) (by kernel_rfl) (fun _ _ _ h => h) rfl (wt0 rfl) (x_load1 tv_2 rfl (c_blk 0 rfl rfl)) rfl rfl fun a_41 HE42 => ?_
      refine dr_take (i := 5) (ls' := #[true, true, true, false, false, true, false, false, false, false, false, false, false]) HE42 HS36 rfl (by kernel_rfl) (by kernel_rfl) (by kernel_rfl) (fun _ _ _ h => h) rfl (wt0 rfl) (x_fieldAddr fa_159_1 rfl) rfl rfl fun a_43 HE44 => ?_
      refine dr_take (i := 6) (ls' := #[true, true, true, false, false, true, true, false, false, false, false, false, false]) HE44 HS36 rfl (by kernel_rfl) (by kernel_rfl) (by kernel_rfl) (fun _ _ _ h => h) rfl (wt0 rfl) (x_load1 tv_2 rfl (c_blk 0 rfl rfl)) rfl rfl fun a_45 HE46 => ?_
      refine dr_one (i := 3) (ls' := #[true, true, true, true, false, true, true, false, false, false, false, false, false]) rfl (by kernel_rfl) rfl fun K_47 hK48 => ?_
      refine st_lit (m := 1) (cs := [.int .i64 (e23.1)]) (e := 2) HE46 HH35 (run_lit ts_31 HE46 (vs := [.int .i64 (e23.1)]) rfl rfl (by simp [Value.cells]) rfl (by decide)) (wt0 rfl) rfl rfl fun q25 a_49 w' HE50 HH51 => hK48 _ _ (by exact HH51.sel [1] (by decide) rfl) ?_
      have HS52 := HH51.sel [1] (by decide) rfl
      refine dr_one (i := 4) (ls' := #[true, true, true, true, true, true, true, false, false, false, false, false, false]) rfl (by kernel_rfl) rfl fun K_53 hK54 => ?_
      have HH55 := Held.vecFlat (E := eInt) (xs := [e23.1]) (css := [[.int .i64 (e23.1)]]) HH51 rfl (by unfold maxLen; simp) (fun i x hx => by match i with | 0 => exact ⟨_, rfl, fun _ => by simp at hx; subst hx; exact (oI (by exact ⟨by omega, by omega⟩))⟩ | i + 1 => simp at hx)
      refine st_call HE50 (wt0 rfl) rfl rfl rfl en_234 rfl rfl (impl_multiply _ _ a1 _ _ ([e23.1] : List Int) _ (HH55.old h1) (HH55.vecSl (i := 0) rfl) (by assumption) (by first | assumption | (intro x hx; simp at hx; omega)) (by first | omega | simp) (by first | omega | simp)) fun e w' hr => ?_
      obtain ⟨Ar26_0, cr26_0, rfl, hor26_0, hbr26⟩ := hr
      obtain ⟨Sr26, HH56⟩ := HH55.newS hbr26 hor26_0
      refine ⟨_, rfl, fun a_57 HE58 => hK54 _ _ (by exact HH56.sel [2] (by decide) rfl) ?_⟩
      have HS59 := HH56.sel [2] (by decide) rfl
      refine dr_one (i := 7) (ls' := #[true, true, true, true, true, true, true, true, false, false, false, false, false]) rfl (by kernel_rfl) rfl fun K_60 hK61 => ?_
      refine st_call HE58 (wt0 rfl) rfl rfl rfl en_201 rfl rfl (impl_divideSmall _ _ (mulN a1 ([e23.1] : List Int)) e23.2 _ (HH56.sl (i := 0) rfl) (by first | assumption | exact mulN_limbs _ _) (by omega) (by first | omega | exact Nat.le_trans (mulN_len (by assumption) (by intro x hx; simp at hx; omega)) (by simp; omega))) fun e w' hr => ?_
      obtain ⟨Ar27_0, cr27_0, rfl, hor27_0, hbr27⟩ := hr
      obtain ⟨Sr27, HH62⟩ := HH56.newS hbr27 hor27_0
      refine ⟨_, rfl, fun a_63 HE64 => hK61 _ _ (by exact HH62.sel [3] (by decide) rfl) ?_⟩
      have HS65 := HH62.sel [3] (by decide) rfl
      refine dr_take (i := 8) (ls' := #[true, true, true, true, true, true, true, true, true, false, false, false, false]) HE64 HS65 rfl (by kernel_rfl) (by kernel_rfl) (by kernel_rfl) (fun _ _ _ h => h) rfl (wt0 rfl) (x_move rfl) rfl rfl fun a_66 HE67 => ?_
      refine dr_take (i := 9) (ls' := #[true, true, true, true, true, true, true, true, true, true, false, false, false]) HE67 HS65 rfl (by kernel_rfl) (by kernel_rfl) (by kernel_rfl) (fun _ _ _ h => h) rfl (wt0 rfl) (x_extract rfl rfl) rfl rfl fun a_68 HE69 => ?_
      refine dr_take (i := 10) (ls' := #[true, true, true, true, true, true, true, true, true, true, true, false, false]) HE69 HS65 rfl (by kernel_rfl) (by kernel_rfl) (by kernel_rfl) (fun _ _ _ h => h) rfl (wt0 rfl) (x_extract rfl rfl) rfl rfl fun a_70 HE71 => ?_
      refine dr_take (i := 11) (ls' := #[true, true, true, true, true, true, true, true, true, true, true, true, false]) HE71 HS65 rfl (by kernel_rfl) (by kernel_rfl) (by kernel_rfl) (fun _ _ _ h => h) rfl (wt0 rfl) (x_assign rfl) rfl rfl fun a_72 HE73 => ?_
      refine dr_take (i := 12) (ls' := #[true, true, true, true, true, true, true, true, true, true, true, true, true]) HE73 HS65 rfl (by kernel_rfl) (by kernel_rfl) (by kernel_rfl) (fun _ _ _ h => h) rfl (wt0 rfl) (x_assign rfl) rfl rfl fun a_74 HE75 => ?_
      refine dr_done (by kernel_rfl) ?_
      clear HH34 a_30 HE31 a_37 HE38 a_39 HE40 a_41 HE42 a_43 HE44 a_45 HE46 HH35 HS36 K_47 hK48 HH51 HH55 a_49 HE50 HS52 K_53 hK54 HH56 a_57 HE58 HS59 a_63 HE64 a_66 HE67 a_68 HE69 a_70 HE71 a_72 HE73 hK61 K_60
      refine nrm ?_
      refine wp_seq ?_
      refine rg ?_
      refine pl_x HE75 HH62 (wt0 rfl) (x_move rfl) rfl rfl fun a_76 HE77 => ?_
      refine pl_x HE77 HH62 (wt0 rfl) (x_eql rfl rfl) rfl rfl fun a_78 HE79 => ?_
      refine wpList_nil ?_
      clear a_74 HE75 a_76 HE77
      refine nrm ?_
      refine cnd_e HE79 rfl (fun hc28 => ?_) (fun hc28 => ?_)
      · refine wp_seq ?_
        refine rg ?_
        refine pl_x HE79 HH62 (wt0 rfl) (x_move rfl) rfl rfl fun a_80 HE81 => ?_
        refine pl_x HE81 HH62 (wt0 rfl) (x_move rfl) rfl rfl fun a_82 HE83 => ?_
        refine pl_x HE83 HH62 (wt0 rfl) (x_assign rfl) rfl rfl fun a_84 HE85 => ?_
        refine pl_x HE85 HH62 (wt0 rfl) (x_assign rfl) rfl rfl fun a_86 HE87 => ?_
        refine wpList_nil ?_
        clear a_78 HE79 a_80 HE81 a_82 HE83 a_84 HE85
        refine nrm ?_
        refine wp_ret ?_
        refine (blk_ret (thn_ret (thn_ret (blk_ret (thn_ret ?_)))))
        refine ret2 HE87 rfl (rv_tmp rfl) (rv_tmp rfl) ?_
        have HH88 := HH62.toIf (0 ≤ (stepFI a0 a1).2)
        have hF : (stepFI a0 a1) = ((divN (mulN a1 ([e23.1] : List Int)) e23.2).1, (k : Int)) := by
          first | (subst xe23; unfold stepFI; rw [p21_1, stepFr_hit (by omega) hc28]; rfl) | (unfold stepFI; rw [p21_1, List.drop_of_length_le (by omega)]; rfl)
        rw [hF] at HH88
        exact ⟨_, _, _, by first | (rw [hF] <;> rfl) | rfl | (rw [hF]; simp only [Ending.returned.injEq, Value.slice.injEq, true_and, and_true]; first | omega | (simp; done)), by rw [hF]; exact HH88.sel [0] (by decide) rfl⟩
      · refine wp_skip ?_
        refine blk_n ?_
        refine nrm ?_
        refine rg ?_
        refine pl_x HE79 HH62 (wt0 rfl) (x_add rfl rfl (by exact ⟨by omega, by omega⟩)) rfl rfl fun a_89 HE90 => ?_
        refine pl_x HE90 HH62 (wt0 rfl) (x_move rfl) rfl rfl fun a_91 HE92 => ?_
        refine wpList_nil ?_
        clear a_78 HE79 a_89 HE90
        exact nrm ⟨a0.length - (k + 1), (by omega), k + 1, rfl, HE92.sub ⟨(lkI rfl (by first | rfl | omega | (simp [p21_0, p21_1, hc22, xe23, hc28]; done))), rfl, rfl, rfl, trivial⟩, (HH62.sel [] (by decide) rfl), (by first | omega | assumption | (simp; done) | simp_all), (by subst xe23; rw [p21_1, stepFr_miss (by omega) hc28])⟩
    · refine wp_exit ?_
      refine (thn_exit (thn_exit (blk_hit ?_)))
      refine nrm ?_
      refine wp_seq ?_
      refine rg ?_
      refine pl_x HE18 HH16 (wt0 rfl) (x_move rfl) rfl rfl fun a_93 HE94 => ?_
      refine pl_x HE94 HH16 (wt0 rfl) (x_assign rfl) rfl rfl fun a_95 HE96 => ?_
      refine pl_x HE96 HH16 (wt0 rfl) (x_assign rfl) rfl rfl fun a_97 HE98 => ?_
      refine wpList_nil ?_
      clear a_17 HE18 a_93 HE94 a_95 HE96
      refine nrm ?_
      refine wp_ret ?_
      refine ret2 HE98 rfl (rv_tmp rfl) (rv_tmp rfl) ?_
      have hN : ¬ (0 ≤ (stepFI a0 a1).2) := by unfold stepFI; rw [p21_1, List.drop_of_length_le (by omega)]; simp [stepFr]
      have HH99 := HH16.noIf (rSo eInt Nob A1 c1 a1) hN
      have hF : (stepFI a0 a1) = (a1, -1) := by
        first | (subst xe0; unfold stepFI; rw [p21_1, stepFr_hit (by omega) hc22]; rfl) | (unfold stepFI; rw [p21_1, List.drop_of_length_le (by omega)]; rfl)
      rw [hF] at HH99
      exact ⟨_, _, _, by first | (rw [hF] <;> rfl) | rfl | (rw [hF]; simp only [Ending.returned.injEq, Value.slice.injEq, true_and, and_true]; first | omega | (simp; done)), by rw [hF]; exact HH99.sel [0] (by decide) rfl⟩

set_option maxRecDepth 100000 in
set_option maxHeartbeats 4000000 in
theorem spec_l08Next (A0 : Option Addr) (c0 : Nat) (a0 : (List tFraction)) (A1 : Option Addr) (c1 : Nat) (a1 : (List Int)) (w : World) (h0 : Sl eFraction w (Old w) A0 c0 a0) (h1 : Sl eInt w (Old w) A1 c1 a1) (s0 : okFr a0) (s1 : limbs a1) (s2 : a1.length ≤ 40) (s3 : a0.length ≤ 100) :
    Calls Try.prog 121 #[.slice A0 a0.length c0, .slice A1 a1.length c1] w fun e w' => ∃ (A0' : Option Addr) (c0' : Nat), e = .returned (.tuple #[.slice A0' (stepFS a0 a1).1.length c0', .int .i64 (stepFS a0 a1).2]) ∧ So eInt w' (Fr w w') A0' c0' (stepFS a0 a1).1 ∧ Below w.heap.size w w' := by
  have l0 := h0.len
  have l1 := h1.len
  have HH1 := Held.start Nob w
  refine enter (n := 38) Try.func121 rfl rfl rfl fun a_2 HE3 => ?_
  refine wp_seq ?_
  refine rg ?_
  refine pl_x HE3 HH1 (wt0 rfl) (x_assign rfl) rfl rfl fun a_4 HE5 => ?_
  refine pl_x HE5 HH1 (wt0 rfl) (x_assign rfl) rfl rfl fun a_6 HE7 => ?_
  refine wpList_nil ?_
  clear a_2 HE3 a_4 HE5
  refine nrm ?_
  refine wp_seq ?_
  refine wp_seq ?_
  refine rg ?_
  refine pl_x HE7 HH1 (wt0 rfl) (x_assign rfl) rfl rfl fun a_8 HE9 => ?_
  refine wpList_nil ?_
  clear a_6 HE7
  refine nrm ?_
  refine wp_block ?_
  refine lp (fun m a w' => ∃ (k : Nat), m = a0.length - k ∧ Env 38 [(6, .int .i64 (k : Int)), (0, .slice A0 (a0.length) c0), (1, .slice A1 (a1.length) c1)] a ∧ Held Nob w [] w' ∧ (k ≤ a0.length) ∧ (stepFr a0 a1 0 = stepFr (a0.drop k) a1 k)) (a0.length - (0)) ?_ ?_
  · exact ⟨0, rfl, HE9.sub ⟨(lkI rfl (by first | rfl | omega | (simp []; done))), rfl, rfl, trivial⟩, (HH1.sel [] (by decide) rfl), (by first | omega | assumption | (simp; done) | simp_all), (by rfl)⟩
  · rintro m a_10 w' ⟨k, rfl, HE11, HH12, p21_0, p21_1⟩
    refine wp_seq ?_
    refine wp_seq ?_
    refine rg ?_
    refine pl_x HE11 HH12 (wt0 rfl) (x_move rfl) rfl rfl fun a_13 HE14 => ?_
    refine pl_x HE14 HH12 (wt0 rfl) (x_move rfl) rfl rfl fun a_15 HE16 => ?_
    refine pl_x HE16 HH12 (wt0 rfl) (x_len Try.underlying66 rfl) rfl rfl fun a_17 HE18 => ?_
    refine pl_x HE18 HH12 (wt0 rfl) (x_lss rfl rfl) rfl rfl fun a_19 HE20 => ?_
    refine wpList_nil ?_
    clear a_8 HE9 HH1 a_10 HE11 a_13 HE14 a_15 HE16 a_17 HE18
    refine nrm ?_
    refine cnd_d HE20 rfl (fun hc22 => ?_) (fun hc22 => ?_)
    · refine wp_skip ?_
      refine nrm ?_
      refine wp_seq ?_
      refine wp_block ?_
      refine wp_seq ?_
      refine rg ?_
      refine pl_x HE20 HH12 (wt0 rfl) (x_move rfl) rfl rfl fun a_21 HE22 => ?_
      refine pl_x HE22 HH12 (wt0 rfl) (x_move rfl) rfl rfl fun a_23 HE24 => ?_
      refine pl_x HE24 HH12 (wt0 rfl) (x_move rfl) rfl rfl fun a_25 HE26 => ?_
      have ke23 : k < a0.length := by omega
      obtain ⟨be23, fe23, ese23, Ae23, Re23, De23⟩ := el_old h0 ke23
      obtain ⟨e23, xe23⟩ : ∃ x_, x_ = a0[k] := ⟨_, rfl⟩
      rw [← xe23] at Re23
      have Qe23 := Re23
      obtain ⟨rfl, ge23_0, ge23_1⟩ := shape_Fraction Re23
      have je23_0 := ge23_0; unfold I64 at je23_0
      have je23_1 := ge23_1; unfold I64 at je23_1
      have fe23 := s0 e23 (by rw [xe23]; exact List.getElem_mem _)
      refine pl_x HE26 HH12 (wt0 rfl) (x_indexAddr ts_66 rfl rfl Ae23 rfl ke23) rfl rfl fun a_27 HE28 => ?_
      refine pl_x HE28 HH12 (wt0 rfl) (x_fieldAddr fa_159_0 rfl) rfl rfl fun a_29 HE30 => ?_
      refine pl_x HE30 HH12 (wt0 rfl) (x_load1 tv_2 rfl (c_old (De23 0 _ rfl))) rfl rfl fun a_31 HE32 => ?_
      refine pl fun K_33 hK34 => ?_
      refine st_lit (m := 1) (cs := [.int .i64 (e23.1)]) (e := 2) HE32 HH12 (run_lit ts_31 HE32 (vs := [.int .i64 (e23.1)]) rfl rfl (by simp [Value.cells]) rfl (by decide)) (wt0 rfl) rfl rfl fun q24 a_35 w' HE36 HH37 => hK34 _ _ ?_
      refine pl fun K_38 hK39 => ?_
      have HH40 := Held.vecFlat (E := eInt) (xs := [e23.1]) (css := [[.int .i64 (e23.1)]]) HH37 rfl (by unfold maxLen; simp) (fun i x hx => by match i with | 0 => exact ⟨_, rfl, fun _ => by simp at hx; subst hx; exact (oI (by exact ⟨by omega, by omega⟩))⟩ | i + 1 => simp at hx)
      refine st_call HE36 (wt0 rfl) rfl rfl rfl en_194 rfl rfl (spec_l02Mul _ _ a1 _ _ ([e23.1] : List Int) _ (HH40.old h1) (HH40.vecSl (i := 0) rfl) (by assumption) (by first | assumption | (intro x hx; simp at hx; omega)) (by first | omega | simp) (by first | omega | simp)) fun e w' hr => ?_
      obtain ⟨Ar25_0, cr25_0, rfl, hor25_0, hbr25⟩ := hr
      obtain ⟨Sr25, HH41⟩ := HH40.newS hbr25 hor25_0
      refine ⟨_, rfl, fun a_42 HE43 => hK39 _ _ ?_⟩
      refine pl_x HE43 HH41 (wt0 rfl) (x_assign rfl) rfl rfl fun a_44 HE45 => ?_
      refine wpList_nil ?_
      clear a_19 HE20 a_21 HE22 a_23 HE24 a_25 HE26 a_27 HE28 a_29 HE30 a_31 HE32 HH12 K_33 hK34 HH37 HH40 a_35 HE36 a_42 HE43 hK39 K_38
      refine nrm ?_
      refine wp_seq ?_
      refine rg ?_
      refine pl_x HE45 HH41 (wt0 rfl) (x_move rfl) rfl rfl fun a_46 HE47 => ?_
      refine pl_x HE47 HH41 (wt0 rfl) (x_move rfl) rfl rfl fun a_48 HE49 => ?_
      refine pl_x HE49 HH41 (wt0 rfl) (x_move rfl) rfl rfl fun a_50 HE51 => ?_
      refine pl_x HE51 HH41 (wt0 rfl) (x_indexAddr ts_66 rfl rfl Ae23 rfl ke23) rfl rfl fun a_52 HE53 => ?_
      refine pl_x HE53 HH41 (wt0 rfl) (x_fieldAddr fa_159_1 rfl) rfl rfl fun a_54 HE55 => ?_
      refine pl_x HE55 HH41 (wt0 rfl) (x_load1 tv_2 rfl (c_old (De23 1 _ rfl))) rfl rfl fun a_56 HE57 => ?_
      refine pl fun K_58 hK59 => ?_
      refine st_call HE57 (wt0 rfl) rfl rfl rfl en_193 rfl rfl (spec_l02By _ _ (mulN a1 ([e23.1] : List Int)) e23.2 _ (HH41.sl (i := 0) rfl) (by first | assumption | exact mulN_limbs _ _) (by omega) (by first | omega | exact Nat.le_trans (mulN_len (by assumption) (by intro x hx; simp at hx; omega)) (by simp; omega))) fun e w' hr => ?_
      obtain ⟨Ar26_0, cr26_0, rfl, hor26_0, hbr26⟩ := hr
      obtain ⟨Sr26, HH60⟩ := HH41.newS hbr26 hor26_0
      refine ⟨_, rfl, fun a_61 HE62 => hK59 _ _ ?_⟩
      refine pl_x HE62 HH60 (wt0 rfl) (x_move rfl) rfl rfl fun a_63 HE64 => ?_
      refine pl_x HE64 HH60 (wt0 rfl) (x_extract rfl rfl) rfl rfl fun a_65 HE66 => ?_
      refine pl_x HE66 HH60 (wt0 rfl) (x_extract rfl rfl) rfl rfl fun a_67 HE68 => ?_
      refine pl_x HE68 HH60 (wt0 rfl) (x_assign rfl) rfl rfl fun a_69 HE70 => ?_
      refine pl_x HE70 HH60 (wt0 rfl) (x_assign rfl) rfl rfl fun a_71 HE72 => ?_
      refine wpList_nil ?_
      clear a_44 HE45 a_46 HE47 a_48 HE49 a_50 HE51 a_52 HE53 a_54 HE55 HH41 a_56 HE57 a_61 HE62 a_63 HE64 a_65 HE66 a_67 HE68 a_69 HE70 hK59 K_58
      refine nrm ?_
      refine wp_seq ?_
      refine rg ?_
      refine pl_x HE72 HH60 (wt0 rfl) (x_move rfl) rfl rfl fun a_73 HE74 => ?_
      refine pl_x HE74 HH60 (wt0 rfl) (x_eql rfl rfl) rfl rfl fun a_75 HE76 => ?_
      refine wpList_nil ?_
      clear a_71 HE72 a_73 HE74
      refine nrm ?_
      refine cnd_e HE76 rfl (fun hc27 => ?_) (fun hc27 => ?_)
      · refine wp_seq ?_
        refine rg ?_
        refine pl_x HE76 HH60 (wt0 rfl) (x_move rfl) rfl rfl fun a_77 HE78 => ?_
        refine pl_x HE78 HH60 (wt0 rfl) (x_move rfl) rfl rfl fun a_79 HE80 => ?_
        refine pl_x HE80 HH60 (wt0 rfl) (x_assign rfl) rfl rfl fun a_81 HE82 => ?_
        refine pl_x HE82 HH60 (wt0 rfl) (x_assign rfl) rfl rfl fun a_83 HE84 => ?_
        refine wpList_nil ?_
        clear a_75 HE76 a_77 HE78 a_79 HE80 a_81 HE82
        refine nrm ?_
        refine wp_ret ?_
        refine (blk_ret (thn_ret (thn_ret (blk_ret (thn_ret ?_)))))
        refine ret2 HE84 rfl (rv_tmp rfl) (rv_tmp rfl) ?_
        have hF : (stepFS a0 a1) = ((divN (mulN a1 ([e23.1] : List Int)) e23.2).1, (k : Int)) := by
          first | (subst xe23; unfold stepFS; rw [p21_1, stepFr_hit (by omega) hc27]; rfl) | (unfold stepFS; rw [p21_1, List.drop_of_length_le (by omega)]; rfl)
        exact ⟨Ar26_0, cr26_0, by first | (rw [hF] <;> rfl) | rfl | (rw [hF]; simp only [Ending.returned.injEq, Value.slice.injEq, true_and, and_true]; first | omega | (simp; done)), by rw [hF]; exact (HH60.so (i := 0) rfl), HH60.below⟩
      · refine wp_skip ?_
        refine blk_n ?_
        refine nrm ?_
        refine rg ?_
        refine pl_x HE76 HH60 (wt0 rfl) (x_move rfl) rfl rfl fun a_85 HE86 => ?_
        refine pl_x HE86 HH60 (wt0 rfl) (x_add rfl rfl (by exact ⟨by omega, by omega⟩)) rfl rfl fun a_87 HE88 => ?_
        refine pl_x HE88 HH60 (wt0 rfl) (x_assign rfl) rfl rfl fun a_89 HE90 => ?_
        refine wpList_nil ?_
        clear a_75 HE76 a_85 HE86 a_87 HE88
        exact nrm ⟨a0.length - (k + 1), (by omega), k + 1, rfl, HE90.sub ⟨(lkI rfl (by first | rfl | omega | (simp [p21_0, p21_1, hc22, xe23, hc27]; done))), rfl, rfl, trivial⟩, (HH60.sel [] (by decide) rfl), (by first | omega | assumption | (simp; done) | simp_all), (by subst xe23; rw [p21_1, stepFr_miss (by omega) hc27])⟩
    · refine wp_exit ?_
      refine (thn_exit (thn_exit (blk_hit ?_)))
      refine nrm ?_
      refine wp_seq ?_
      refine rg ?_
      refine pl_x HE20 HH12 (wt0 rfl) (x_assign rfl) rfl rfl fun a_91 HE92 => ?_
      refine pl_x HE92 HH12 (wt0 rfl) (x_assign rfl) rfl rfl fun a_93 HE94 => ?_
      refine wpList_nil ?_
      clear a_19 HE20 a_91 HE92
      refine nrm ?_
      refine wp_ret ?_
      refine ret2 HE94 rfl (rv_tmp rfl) (rv_tmp rfl) ?_
      have hF : (stepFS a0 a1) = ([], -1) := by
        first | (subst xe0; unfold stepFS; rw [p21_1, stepFr_hit (by omega) hc22]; rfl) | (unfold stepFS; rw [p21_1, List.drop_of_length_le (by omega)]; rfl)
      exact ⟨none, 0, by first | (rw [hF] <;> rfl) | rfl | (rw [hF]; simp only [Ending.returned.injEq, Value.slice.injEq, true_and, and_true]; first | omega | (simp; done)), by rw [hF]; exact (So.nil (Nat.zero_le _)), HH12.below⟩

theorem trimZ_last : ∀ xs : List Int, trimZ xs = [] ∨ (trimZ xs)[(trimZ xs).length - 1]?.getD 0 ≠ 0
  | [] => .inl rfl
  | x :: xs => by
    rw [trimZ_cons]
    split
    · exact .inl rfl
    · rename_i h
      right
      rcases trimZ_last xs with h1 | h1
      · rw [h1]
        simp
        intro h2
        exact h ⟨h2, h1⟩
      · cases hq : trimZ xs with
        | nil => rw [hq] at h1; simp at h1
        | cons y ys => rw [hq] at h1; simpa using h1

theorem val_divW {d : Int} (hd : 0 < d) : ∀ xs : List Int, val (divW d xs).1 * d + (divW d xs).2 = val xs
  | [] => by simp [divW, val]
  | x :: xs => by
    have ih := val_divW hd xs
    rw [divW, val, val, ← ih]
    have h1 := Int.emod_def ((divW d xs).2 * 1000000 + x) d
    simp only
    generalize val (divW d xs).1 = q at *
    generalize (divW d xs).2 = r at *
    generalize (r * 1000000 + x) / d = u at *
    generalize (r * 1000000 + x) % d = v at *
    grind

theorem val_trimZ : ∀ xs : List Int, val (trimZ xs) = val xs
  | [] => rfl
  | x :: xs => by
    have ih := val_trimZ xs
    rw [trimZ_cons]
    split
    · rename_i h
      rw [h.2] at ih
      show val [] = x + 1000000 * val xs
      rw [← ih, h.1]; rfl
    · rw [val, val, ih]

theorem val_divN {d : Int} (hd : 0 < d) (a : List Int) : val (divN a d).1 * d + (divN a d).2 = val a := by
  show val (trimZ (divW d a).1) * d + (divW d a).2 = val a
  rw [val_trimZ]; exact val_divW hd a

theorem allW_of_limbs {xs : List Int} (h : limbs xs) : allW xs 0 999999 = true := allW_of h

theorem isNat_trim {xs : List Int} (h : limbs xs) (hl : xs.length ≤ 40) : isNat (trimZ xs) = true := by
  have h1 := trimZ_len xs
  unfold isNat
  rw [decide_eq_true (by omega), allW_of_limbs fun x hx => h x (trimZ_mem hx)]
  rcases trimZ_last xs with h2 | h2
  · rw [h2]; simp
  · rw [show ((trimZ xs)[(trimZ xs).length - 1]?.getD 0 != 0) = true from by simpa using h2]; simp

theorem val_pos : ∀ {xs : List Int}, limbs xs → xs ≠ [] → xs[xs.length - 1]?.getD 0 ≠ 0 → 0 < val xs
  | [x], h, _, hl => by
    have := h x (by simp)
    simp at hl
    simp [val]; omega
  | x :: y :: xs, h, _, hl => by
    have h1 := val_pos (xs := y :: xs) (fun z hz => h z (List.mem_cons_of_mem _ hz)) (by simp) (by simpa using hl)
    have h2 := h x (by simp)
    rw [val]; omega

def NatP (n : List Int) : Prop := limbs n ∧ n.length ≤ 40 ∧ 0 < val n ∧ isNat n = true

theorem isPos_NatP {n : List Int} (h : isPos n = true) : NatP n := by
  obtain ⟨h1, h2, h3⟩ := isPos_facts h
  have h4 : isNat n = true := by unfold isPos at h; simp at h; exact h.1
  refine ⟨h1, h2, ?_, h4⟩
  unfold isNat at h4
  simp only [Bool.and_eq_true, Bool.or_eq_true, beq_iff_eq, bne_iff_ne] at h4
  exact val_pos h1 (by intro e; subst e; simp at h3) (by rcases h4.2 with h5 | h5
                                                         · omega
                                                         · exact h5)

theorem NatP_pos {n : List Int} (h : NatP n) : 0 < n.length := by
  refine Nat.pos_of_ne_zero fun e => ?_
  have : n = [] := List.length_eq_zero_iff.1 e
  subst this
  exact absurd h.2.2.1 (by simp [val])

theorem pow6_two : ∀ n : Nat, (1000000 : Int) ^ n ≤ 2 ^ (20 * n)
  | 0 => by simp
  | n + 1 => by
    have ih := pow6_two n
    have h1 := pow_pos6 n
    have e1 : (1000000 : Int) ^ (n + 1) = 1000000 ^ n * 1000000 := Int.pow_succ _ _
    have e2 : (2 : Int) ^ (20 * (n + 1)) = 2 ^ (20 * n) * 1048576 := by
      rw [show 20 * (n + 1) = 20 * n + 20 from by omega, Int.pow_add]; rfl
    rw [e1, e2]
    generalize (1000000 : Int) ^ n = a at *
    generalize (2 : Int) ^ (20 * n) = b at *
    omega

theorem two_mono {m n : Nat} (h : m ≤ n) : (2 : Int) ^ m ≤ 2 ^ n := by
  obtain ⟨d, rfl⟩ := Nat.le.dest h
  rw [Int.pow_add]
  have h1 : (0 : Int) < 2 ^ m := Int.pow_pos (by decide)
  have h2 : (0 : Int) < 2 ^ d := Int.pow_pos (by decide)
  have : (2 : Int) ^ m * 1 ≤ 2 ^ m * 2 ^ d := Int.mul_le_mul_of_nonneg_left (by omega) (by omega)
  omega

theorem NatP_lt {n : List Int} (h : NatP n) : val n < 2 ^ (800 - 0) := by
  have h1 := (val_lt h.1).2
  have h2 := pow6_two n.length
  have h3 : (2 : Int) ^ (20 * n.length) ≤ 2 ^ (800 - 0) := two_mono (by have := h.2.1; omega)
  exact Int.lt_of_lt_of_le h1 (Int.le_trans h2 h3)

def valF : Nat → List Int → Int → Int
  | 0, _, _ => 0
  | g + 1, n, p => if (divN n p).2 = 0 then 1 + valF g (divN n p).1 p else 0

def valP (n : List Int) (p : Int) : Int := valF 800 n p

theorem valF_step {k : Nat} {y : List Int} {p : Int} (hk : k < 800) (h : (divN y p).2 = 0) : valF (800 - k) y p = 1 + valF (800 - (k + 1)) (divN y p).1 p := by
  rw [show 800 - k = (800 - (k + 1)) + 1 from by omega, valF, if_pos h]

theorem valF_stop {g : Nat} {y : List Int} {p : Int} (h : ¬ (divN y p).2 = 0) : valF g y p = 0 := by
  cases g with
  | zero => rfl
  | succ g => rw [valF, if_neg h]

theorem NatP_div {y : List Int} {p : Int} (hp : 2 ≤ p ∧ p ≤ 999999) (h : NatP y) (hr : (divN y p).2 = 0) : NatP (divN y p).1 ∧ 2 * val (divN y p).1 ≤ val y := by
  have h1 := val_divN (by omega : 0 < p) y
  rw [hr] at h1
  have h2 := divN_limbs (by omega : 0 < p) h.1
  have h3 := divN_len y p
  have h4 := val_lt h2
  have h5 : 0 < val (divN y p).1 := by
    refine Classical.byContradiction fun hn => ?_
    have h0 : val (divN y p).1 = 0 := by omega
    rw [h0] at h1
    have := h.2.2.1
    omega
  refine ⟨⟨h2, by have := h.2.1; omega, h5, isNat_trim (divW_limbs (by omega) h.1) (by rw [divW_len]; exact h.2.1)⟩, ?_⟩
  have : val (divN y p).1 * 2 ≤ val (divN y p).1 * p := Int.mul_le_mul_of_nonneg_left hp.1 (by omega)
  omega

theorem val_step {k : Nat} {y : List Int} {p : Int} (hp : 2 ≤ p ∧ p ≤ 999999) (h : NatP y) (hv : val y < 2 ^ (800 - k)) (hr : (divN y p).2 = 0) : k < 800 ∧ NatP (divN y p).1 ∧ val (divN y p).1 < 2 ^ (800 - (k + 1)) := by
  have h1 := NatP_div hp h hr
  have hk : k < 800 := by
    refine Classical.byContradiction fun hn => ?_
    rw [show 800 - k = 0 from by omega] at hv
    have := h.2.2.1
    simp at hv; omega
  refine ⟨hk, h1.1, ?_⟩
  rw [show 800 - k = (800 - (k + 1)) + 1 from by omega, Int.pow_succ] at hv
  omega

def valuationOf (n : List Int) (p : Int) : Int × Int := if isNat n = true then (if 0 < n.length ∧ 2 ≤ p ∧ p ≤ 999999 then (valP n p, 0) else (0, 2)) else (0, 1)

/-- No divisor from d on. -/
def noDiv (n d : Int) : Nat → Bool
  | 0 => true
  | g + 1 => if d * d ≤ n then (if n % d = 0 then false else noDiv n (d + 1) g) else true

def primeB (n : Int) : Bool := noDiv n 2 2000 && decide (2 ≤ n)

theorem sq_le {d n : Int} (hd : 0 ≤ d) (hn : n ≤ 999999) (h : d * d ≤ n) : d ≤ 999 := by
  refine Classical.byContradiction fun hc => ?_
  have : 1000 * 1000 ≤ d * d := Int.mul_le_mul (by omega) (by omega) (by omega) hd
  omega

theorem sq_bd {d : Int} (hd : 0 ≤ d ∧ d ≤ 2000) : 0 ≤ d * d ∧ d * d ≤ 4000000 :=
  ⟨Int.mul_nonneg hd.1 hd.1, Int.mul_le_mul hd.2 hd.2 hd.1 (by omega)⟩

theorem noDiv_eq (n d : Int) {f g : Nat} (hf : f = g + 1) : noDiv n d f = if d * d ≤ n then (if n % d = 0 then false else noDiv n (d + 1) g) else true := by subst hf; rfl

set_option maxRecDepth 100000 in
set_option maxHeartbeats 4000000 in
theorem impl_ValuationOf (A0 : Option Addr) (c0 : Nat) (a0 : (List Int)) (a1 : Int) (w : World) (h0 : Sl eInt w (Old w) A0 c0 a0) :
    Calls Try.prog 200 #[.slice A0 a0.length c0, .int .i64 a1] w fun e w' => e = .returned (.tuple #[.int .i64 (valuationOf a0 a1).1, .int .i64 (valuationOf a0 a1).2]) ∧ Below w.heap.size w w' := by
  have l0 := h0.len
  have HH1 := Held.start Nob w
  refine enter (n := 32) Try.func200 rfl rfl rfl fun a_2 HE3 => ?_
  refine wp_seq ?_
  refine rg ?_
  refine pl_x HE3 HH1 (wt0 rfl) (x_assign rfl) rfl rfl fun a_4 HE5 => ?_
  refine pl_x HE5 HH1 (wt0 rfl) (x_assign rfl) rfl rfl fun a_6 HE7 => ?_
  refine wpList_nil ?_
  clear a_2 HE3 a_4 HE5
  refine nrm ?_
  refine wp_seq ?_
  refine wp_seq ?_
  refine rg ?_
  refine pl_x HE7 HH1 (wt0 rfl) (x_move rfl) rfl rfl fun a_8 HE9 => ?_
  refine pl fun K_10 hK11 => ?_
  refine st_call HE9 (wt0 rfl) rfl rfl rfl en_198 rfl rfl (impl_IsNatural _ _ a0 _ (HH1.old h0)) fun e w' hr => ?_
  obtain ⟨rfl, rfl⟩ := hr
  refine ⟨_, rfl, fun a_12 HE13 => hK11 _ _ ?_⟩
  refine pl_x HE13 HH1 (wt0 rfl) (x_not rfl) rfl rfl fun a_14 HE15 => ?_
  refine wpList_nil ?_
  clear a_6 HE7 a_8 HE9 a_12 HE13 hK11 K_10
  refine nrm ?_
  refine cnd_nb HE15 rfl (fun hc22 => ?_) (fun hc22 => ?_)
  · refine wp_seq ?_
    refine rg ?_
    refine pl_x HE15 HH1 (wt0 rfl) (x_assign rfl) rfl rfl fun a_16 HE17 => ?_
    refine pl_x HE17 HH1 (wt0 rfl) (x_assign rfl) rfl rfl fun a_18 HE19 => ?_
    refine wpList_nil ?_
    clear a_14 HE15 a_16 HE17
    refine nrm ?_
    refine wp_ret ?_
    refine (thn_ret ?_)
    refine ret2 HE19 rfl (rv_tmp rfl) (rv_tmp rfl) ?_
    have hF : (valuationOf a0 a1) = (0, 1) := by
      first | (simp [valuationOf, hc22]; done) | (unfold valuationOf; rw [if_pos ‹_›, if_neg (by grind [withinB])]; done) | (unfold valuationOf; rw [if_pos ‹_›, if_pos (by omega), p0_3, valF_stop (by omega)]; simp)
    exact ⟨by first | (rw [hF] <;> rfl) | rfl | (rw [hF]; simp only [Ending.returned.injEq, Value.slice.injEq, true_and, and_true]; first | omega | (simp; done)), HH1.below⟩
  · refine wp_skip ?_
    refine nrm ?_
    refine wp_seq ?_
    refine wp_seq ?_
    refine rg ?_
    refine pl_x HE15 HH1 (wt0 rfl) (x_move rfl) rfl rfl fun a_20 HE21 => ?_
    refine pl_x HE21 HH1 (wt0 rfl) (x_len Try.underlying31 rfl) rfl rfl fun a_22 HE23 => ?_
    refine pl_x HE23 HH1 (wt0 rfl) (x_eql rfl rfl) rfl rfl fun a_24 HE25 => ?_
    refine pl_x HE25 HH1 (wt0 rfl) (x_move rfl) rfl rfl fun a_26 HE27 => ?_
    by_cases hc23 : (a0.length : Int) = 0
    · refine pl_no HE27 (wtF HE27 rfl rfl rfl (beq_t hc23)) rfl rfl fun a_28 HE29 => ?_
      refine pl_no HE29 (wtF HE29 rfl rfl rfl (beq_t hc23)) rfl rfl fun a_30 HE31 => ?_
      refine pl_no HE31 (wtF HE31 rfl rfl rfl (beq_t hc23)) rfl rfl fun a_32 HE33 => ?_
      refine pl_x HE33 HH1 (wt0 rfl) (x_pickT rfl (beq_t hc23) rfl) rfl rfl fun a_34 HE35 => ?_
      refine wpList_nil ?_
      clear a_14 HE15 a_20 HE21 a_22 HE23 a_24 HE25 a_26 HE27 a_28 HE29 a_30 HE31 a_32 HE33
      refine nrm ?_
      refine cndT HE35 rfl rfl ?_
      refine wp_seq ?_
      refine rg ?_
      refine pl_x HE35 HH1 (wt0 rfl) (x_assign rfl) rfl rfl fun a_36 HE37 => ?_
      refine pl_x HE37 HH1 (wt0 rfl) (x_assign rfl) rfl rfl fun a_38 HE39 => ?_
      refine wpList_nil ?_
      clear a_34 HE35 a_36 HE37
      refine nrm ?_
      refine wp_ret ?_
      refine (thn_ret ?_)
      refine ret2 HE39 rfl (rv_tmp rfl) (rv_tmp rfl) ?_
      have hF : (valuationOf a0 a1) = (0, 2) := by
        first | (simp [valuationOf, hc22, hc23]; done) | (unfold valuationOf; rw [if_pos ‹_›, if_neg (by grind [withinB])]; done) | (unfold valuationOf; rw [if_pos ‹_›, if_pos (by omega), p0_3, valF_stop (by omega)]; simp)
      exact ⟨by first | (rw [hF] <;> rfl) | rfl | (rw [hF]; simp only [Ending.returned.injEq, Value.slice.injEq, true_and, and_true]; first | omega | (simp; done)), HH1.below⟩
    · refine pl_x HE27 HH1 (wtT HE27 rfl rfl rfl (beq_f hc23)) (x_move rfl) rfl rfl fun a_40 HE41 => ?_
      refine pl fun K_42 hK43 => ?_
      refine st_call HE41 (wtT HE41 rfl rfl rfl (beq_f hc23)) rfl rfl rfl en_112 rfl rfl (impl_within a1 2 999999 _ ) fun e w' hr => ?_
      obtain ⟨rfl, rfl⟩ := hr
      refine ⟨_, rfl, fun a_44 HE45 => hK43 _ _ ?_⟩
      refine pl_x HE45 HH1 (wtT HE45 rfl rfl rfl (beq_f hc23)) (x_not rfl) rfl rfl fun a_46 HE47 => ?_
      refine pl_x HE47 HH1 (wt0 rfl) (x_pickF rfl (beq_f hc23) rfl) rfl rfl fun a_48 HE49 => ?_
      refine wpList_nil ?_
      clear a_14 HE15 a_20 HE21 a_22 HE23 a_24 HE25 a_26 HE27 a_40 HE41 a_44 HE45 a_46 HE47 hK43 K_42
      refine nrm ?_
      refine cnd_nb HE49 rfl (fun hc25 => ?_) (fun hc25 => ?_)
      · refine wp_seq ?_
        refine rg ?_
        refine pl_x HE49 HH1 (wt0 rfl) (x_assign rfl) rfl rfl fun a_50 HE51 => ?_
        refine pl_x HE51 HH1 (wt0 rfl) (x_assign rfl) rfl rfl fun a_52 HE53 => ?_
        refine wpList_nil ?_
        clear a_48 HE49 a_50 HE51
        refine nrm ?_
        refine wp_ret ?_
        refine (thn_ret ?_)
        refine ret2 HE53 rfl (rv_tmp rfl) (rv_tmp rfl) ?_
        have hF : (valuationOf a0 a1) = (0, 2) := by
          first | (simp [valuationOf, hc22, hc23, hc25]; done) | (unfold valuationOf; rw [if_pos ‹_›, if_neg (by grind [withinB])]; done) | (unfold valuationOf; rw [if_pos ‹_›, if_pos (by omega), p0_3, valF_stop (by omega)]; simp)
        exact ⟨by first | (rw [hF] <;> rfl) | rfl | (rw [hF]; simp only [Ending.returned.injEq, Value.slice.injEq, true_and, and_true]; first | omega | (simp; done)), HH1.below⟩
      · have hp := withinB_true.1 hc25
        have hN := isPos_NatP (n := a0) (by unfold isPos; simp [*]; omega)
        refine wp_skip ?_
        refine nrm ?_
        refine wp_seq ?_
        refine rg ?_
        refine pl_x HE49 HH1 (wt0 rfl) (x_assign rfl) rfl rfl fun a_54 HE55 => ?_
        refine wpList_nil ?_
        clear a_48 HE49
        refine nrm ?_
        refine wp_block ?_
        have HH56 := HH1.noIf (p := False) (rSo eInt Nob A0 c0 a0) id
        refine lp (fun m a w' => ∃ (k : Nat) (y : List Int) (A_0 : Option Addr) (c_0 : Nat) (S_0 : Nat → Prop) (P_0 : Prop), m = 800 - k ∧ Env 32 [(0, .slice A_0 (List.length y) c_0), (6, .int .i64 (k : Int)), (1, .int .i64 (a1))] a ∧ Held Nob w [rIf (P_0) (rSo eInt S_0 A_0 c_0 y)] w' ∧ (k ≤ 800) ∧ (NatP y) ∧ (val y < 2 ^ (800 - k)) ∧ (valP a0 a1 = k + valF (800 - k) y a1) ∧ (P_0 ∨ Sl eInt w (Old w) A_0 c_0 y)) (800 - (0)) ?_ ?_
        · exact ⟨0, a0, A0, c0, Nob, False, rfl, HE55.sub ⟨rfl, (lkI rfl (by first | rfl | omega | (simp [hc22, hc23, hc25]; done))), rfl, trivial⟩, (HH56.sel [0] (by decide) rfl), (by first | omega | assumption | (simp; done) | simp_all), (by exact hN), (by exact NatP_lt hN), (by unfold valP; simp), (.inr h0)⟩
        · rintro m a_57 w' ⟨k, y, A_0, c_0, S_0, P_0, rfl, HE58, HH59, p26_0, p26_1, p26_2, p26_3, ho_0⟩
          rcases ho_0 with ho_0 | ho_0
          · have HH60 := HH59.ofIf ho_0
            have hy := p26_1
            obtain ⟨hy1, hy2, hy3, hy4⟩ := hy
            refine wp_seq ?_
            refine wp_block ?_
            refine wp_seq ?_
            refine rg ?_
            refine pl_x HE58 HH60 (wt0 rfl) (x_move rfl) rfl rfl fun a_61 HE62 => ?_
            refine pl_x HE62 HH60 (wt0 rfl) (x_move rfl) rfl rfl fun a_63 HE64 => ?_
            refine pl fun K_65 hK66 => ?_
            refine st_call HE64 (wt0 rfl) rfl rfl rfl en_201 rfl rfl (impl_divideSmall _ _ y a1 _ (HH60.sl (i := 0) rfl) (by first | assumption | exact mulN_limbs _ _) (by omega) (by first | omega | exact Nat.le_trans (mulN_len (by assumption) (by intro x hx; simp at hx; omega)) (by simp; omega))) fun e w' hr => ?_
            obtain ⟨Ar27_0, cr27_0, rfl, hor27_0, hbr27⟩ := hr
            obtain ⟨Sr27, HH67⟩ := HH60.newS hbr27 hor27_0
            refine ⟨_, rfl, fun a_68 HE69 => hK66 _ _ ?_⟩
            refine pl_x HE69 HH67 (wt0 rfl) (x_move rfl) rfl rfl fun a_70 HE71 => ?_
            refine pl_x HE71 HH67 (wt0 rfl) (x_extract rfl rfl) rfl rfl fun a_72 HE73 => ?_
            refine pl_x HE73 HH67 (wt0 rfl) (x_extract rfl rfl) rfl rfl fun a_74 HE75 => ?_
            refine pl_x HE75 HH67 (wt0 rfl) (x_assign rfl) rfl rfl fun a_76 HE77 => ?_
            refine pl_x HE77 HH67 (wt0 rfl) (x_assign rfl) rfl rfl fun a_78 HE79 => ?_
            refine wpList_nil ?_
            clear HH1 a_54 HE55 HH56 HH59 a_57 HE58 a_61 HE62 HH60 a_63 HE64 a_68 HE69 a_70 HE71 a_72 HE73 a_74 HE75 a_76 HE77 hK66 K_65
            refine nrm ?_
            refine wp_seq ?_
            refine wp_seq ?_
            refine rg ?_
            refine pl_x HE79 HH67 (wt0 rfl) (x_move rfl) rfl rfl fun a_80 HE81 => ?_
            refine pl_x HE81 HH67 (wt0 rfl) (x_neq rfl rfl) rfl rfl fun a_82 HE83 => ?_
            refine wpList_nil ?_
            clear a_78 HE79 a_80 HE81
            refine nrm ?_
            refine cnd_ne HE83 rfl (fun hc28 => ?_) (fun hc28 => ?_)
            · refine wp_seq ?_
              refine rg ?_
              refine pl_x HE83 HH67 (wt0 rfl) (x_move rfl) rfl rfl fun a_84 HE85 => ?_
              refine pl_x HE85 HH67 (wt0 rfl) (x_assign rfl) rfl rfl fun a_86 HE87 => ?_
              refine pl_x HE87 HH67 (wt0 rfl) (x_assign rfl) rfl rfl fun a_88 HE89 => ?_
              refine wpList_nil ?_
              clear a_82 HE83 a_84 HE85 a_86 HE87
              refine nrm ?_
              refine wp_ret ?_
              refine (thn_ret (blk_ret (thn_ret (thn_ret (blk_ret ?_)))))
              refine ret2 HE89 rfl (rv_tmp rfl) (rv_tmp rfl) ?_
              have hF : (valuationOf a0 a1) = ((k : Int), 0) := by
                first | (simp [valuationOf, hc22, hc23, hc25, p26_0, p26_1, p26_2, p26_3, hc28]; done) | (unfold valuationOf; rw [if_pos ‹_›, if_neg (by grind [withinB])]; done) | (unfold valuationOf; rw [if_pos ‹_›, if_pos (by omega), p26_3, valF_stop (by omega)]; simp)
              exact ⟨by first | (rw [hF] <;> rfl) | rfl | (rw [hF]; simp only [Ending.returned.injEq, Value.slice.injEq, true_and, and_true]; first | omega | (simp; done)), HH67.below⟩
            · refine wp_skip ?_
              refine nrm ?_
              refine rg ?_
              refine pl_x HE83 HH67 (wt0 rfl) (x_move rfl) rfl rfl fun a_90 HE91 => ?_
              refine pl_x HE91 HH67 (wt0 rfl) (x_assign rfl) rfl rfl fun a_92 HE93 => ?_
              refine wpList_nil ?_
              clear a_82 HE83 a_90 HE91
              refine blk_n ?_
              refine nrm ?_
              refine rg ?_
              refine pl_x HE93 HH67 (wt0 rfl) (x_move rfl) rfl rfl fun a_94 HE95 => ?_
              refine pl_x HE95 HH67 (wt0 rfl) (x_add rfl rfl (by exact ⟨by omega, by omega⟩)) rfl rfl fun a_96 HE97 => ?_
              refine pl_x HE97 HH67 (wt0 rfl) (x_assign rfl) rfl rfl fun a_98 HE99 => ?_
              refine wpList_nil ?_
              clear a_92 HE93 a_94 HE95 a_96 HE97
              have HH100 := HH67.toIf True
              have E29 : ((divN y a1).1) = (divN y a1).1 := by
                first | rfl | simp
              exact nrm ⟨800 - (k + 1), (by have := val_step hp p26_1 p26_2 (by omega); omega), k + 1, (divN y a1).1, Ar27_0, cr27_0, Sr27, True, rfl, HE99.sub ⟨(by rw [E29]; rfl), (lkI rfl (by first | rfl | omega | (simp [hc22, hc23, hc25, p26_0, p26_1, p26_2, p26_3, hc28]; done))), rfl, trivial⟩, ((HH100.sel [0] (by decide) rfl).to (by first | rfl | (rw [E29]; done) | (rw [E29]; rfl) | (simp only [E29]; done) | (simp only [E29]; rfl))), (by have := val_step hp p26_1 p26_2 (by omega); omega), (by exact (val_step hp p26_1 p26_2 (by omega)).2.1), (by exact (val_step hp p26_1 p26_2 (by omega)).2.2), (by rw [p26_3, valF_step (val_step hp p26_1 p26_2 (by omega)).1 (by omega)]; omega), (by first | exact .inl trivial | (rw [E29]; exact .inl trivial))⟩
          · have HH101 := HH59.sel [] (by decide) rfl
            have hy := p26_1
            obtain ⟨hy1, hy2, hy3, hy4⟩ := hy
            refine wp_seq ?_
            refine wp_block ?_
            refine wp_seq ?_
            refine rg ?_
            refine pl_x HE58 HH101 (wt0 rfl) (x_move rfl) rfl rfl fun a_102 HE103 => ?_
            refine pl_x HE103 HH101 (wt0 rfl) (x_move rfl) rfl rfl fun a_104 HE105 => ?_
            refine pl fun K_106 hK107 => ?_
            refine st_call HE105 (wt0 rfl) rfl rfl rfl en_201 rfl rfl (impl_divideSmall _ _ y a1 _ (HH101.old ho_0) (by first | assumption | exact mulN_limbs _ _) (by omega) (by first | omega | exact Nat.le_trans (mulN_len (by assumption) (by intro x hx; simp at hx; omega)) (by simp; omega))) fun e w' hr => ?_
            obtain ⟨Ar30_0, cr30_0, rfl, hor30_0, hbr30⟩ := hr
            obtain ⟨Sr30, HH108⟩ := HH101.newS hbr30 hor30_0
            refine ⟨_, rfl, fun a_109 HE110 => hK107 _ _ ?_⟩
            refine pl_x HE110 HH108 (wt0 rfl) (x_move rfl) rfl rfl fun a_111 HE112 => ?_
            refine pl_x HE112 HH108 (wt0 rfl) (x_extract rfl rfl) rfl rfl fun a_113 HE114 => ?_
            refine pl_x HE114 HH108 (wt0 rfl) (x_extract rfl rfl) rfl rfl fun a_115 HE116 => ?_
            refine pl_x HE116 HH108 (wt0 rfl) (x_assign rfl) rfl rfl fun a_117 HE118 => ?_
            refine pl_x HE118 HH108 (wt0 rfl) (x_assign rfl) rfl rfl fun a_119 HE120 => ?_
            refine wpList_nil ?_
            clear HH1 a_54 HE55 HH56 HH59 a_57 HE58 a_102 HE103 HH101 a_104 HE105 a_109 HE110 a_111 HE112 a_113 HE114 a_115 HE116 a_117 HE118 hK107 K_106
            refine nrm ?_
            refine wp_seq ?_
            refine wp_seq ?_
            refine rg ?_
            refine pl_x HE120 HH108 (wt0 rfl) (x_move rfl) rfl rfl fun a_121 HE122 => ?_
            refine pl_x HE122 HH108 (wt0 rfl) (x_neq rfl rfl) rfl rfl fun a_123 HE124 => ?_
            refine wpList_nil ?_
            clear a_119 HE120 a_121 HE122
            refine nrm ?_
            refine cnd_ne HE124 rfl (fun hc31 => ?_) (fun hc31 => ?_)
            · refine wp_seq ?_
              refine rg ?_
              refine pl_x HE124 HH108 (wt0 rfl) (x_move rfl) rfl rfl fun a_125 HE126 => ?_
              refine pl_x HE126 HH108 (wt0 rfl) (x_assign rfl) rfl rfl fun a_127 HE128 => ?_
              refine pl_x HE128 HH108 (wt0 rfl) (x_assign rfl) rfl rfl fun a_129 HE130 => ?_
              refine wpList_nil ?_
              clear a_123 HE124 a_125 HE126 a_127 HE128
              refine nrm ?_
              refine wp_ret ?_
              refine (thn_ret (blk_ret (thn_ret (thn_ret (blk_ret ?_)))))
              refine ret2 HE130 rfl (rv_tmp rfl) (rv_tmp rfl) ?_
              have hF : (valuationOf a0 a1) = ((k : Int), 0) := by
                first | (simp [valuationOf, hc22, hc23, hc25, p26_0, p26_1, p26_2, p26_3, hc31]; done) | (unfold valuationOf; rw [if_pos ‹_›, if_neg (by grind [withinB])]; done) | (unfold valuationOf; rw [if_pos ‹_›, if_pos (by omega), p26_3, valF_stop (by omega)]; simp)
              exact ⟨by first | (rw [hF] <;> rfl) | rfl | (rw [hF]; simp only [Ending.returned.injEq, Value.slice.injEq, true_and, and_true]; first | omega | (simp; done)), HH108.below⟩
            · refine wp_skip ?_
              refine nrm ?_
              refine rg ?_
              refine pl_x HE124 HH108 (wt0 rfl) (x_move rfl) rfl rfl fun a_131 HE132 => ?_
              refine pl_x HE132 HH108 (wt0 rfl) (x_assign rfl) rfl rfl fun a_133 HE134 => ?_
              refine wpList_nil ?_
              clear a_123 HE124 a_131 HE132
              refine blk_n ?_
              refine nrm ?_
              refine rg ?_
              refine pl_x HE134 HH108 (wt0 rfl) (x_move rfl) rfl rfl fun a_135 HE136 => ?_
              refine pl_x HE136 HH108 (wt0 rfl) (x_add rfl rfl (by exact ⟨by omega, by omega⟩)) rfl rfl fun a_137 HE138 => ?_
              refine pl_x HE138 HH108 (wt0 rfl) (x_assign rfl) rfl rfl fun a_139 HE140 => ?_
              refine wpList_nil ?_
              clear a_133 HE134 a_135 HE136 a_137 HE138
              have HH141 := HH108.toIf True
              have E32 : ((divN y a1).1) = (divN y a1).1 := by
                first | rfl | simp
              exact nrm ⟨800 - (k + 1), (by have := val_step hp p26_1 p26_2 (by omega); omega), k + 1, (divN y a1).1, Ar30_0, cr30_0, Sr30, True, rfl, HE140.sub ⟨(by rw [E32]; rfl), (lkI rfl (by first | rfl | omega | (simp [hc22, hc23, hc25, p26_0, p26_1, p26_2, p26_3, hc31]; done))), rfl, trivial⟩, ((HH141.sel [0] (by decide) rfl).to (by first | rfl | (rw [E32]; done) | (rw [E32]; rfl) | (simp only [E32]; done) | (simp only [E32]; rfl))), (by have := val_step hp p26_1 p26_2 (by omega); omega), (by exact (val_step hp p26_1 p26_2 (by omega)).2.1), (by exact (val_step hp p26_1 p26_2 (by omega)).2.2), (by rw [p26_3, valF_step (val_step hp p26_1 p26_2 (by omega)).1 (by omega)]; omega), (by first | exact .inl trivial | (rw [E32]; exact .inl trivial))⟩

set_option maxRecDepth 100000 in
set_option maxHeartbeats 4000000 in
theorem impl_isPrime (a0 : Int) (w : World) (s0 : -9223372036854775808 ≤ a0 ∧ a0 ≤ 999999) :
    Calls Try.prog 125 #[.int .i64 a0] w fun e w' => e = .returned (.bool (primeB a0)) ∧ Below w.heap.size w w' := by
  have HH1 := Held.start Nob w
  refine enter (n := 17) Try.func125 rfl rfl rfl fun a_2 HE3 => ?_
  refine wp_seq ?_
  refine rg ?_
  refine pl_x HE3 HH1 (wt0 rfl) (x_assign rfl) rfl rfl fun a_4 HE5 => ?_
  refine wpList_nil ?_
  clear a_2 HE3
  refine nrm ?_
  refine wp_seq ?_
  refine wp_seq ?_
  refine rg ?_
  refine pl_x HE5 HH1 (wt0 rfl) (x_assign rfl) rfl rfl fun a_6 HE7 => ?_
  refine wpList_nil ?_
  clear a_4 HE5
  refine nrm ?_
  refine wp_block ?_
  refine lp (fun m a w' => ∃ (k : Nat), m = 1000 - k ∧ Env 17 [(3, .int .i64 ((k : Int) + 2)), (0, .int .i64 (a0))] a ∧ Held Nob w [] w' ∧ ((k : Int) ≤ 999) ∧ (noDiv a0 2 2000 = noDiv a0 ((k : Int) + 2) (2000 - k))) (1000 - (0)) ?_ ?_
  · exact ⟨0, rfl, HE7.sub ⟨(lkI rfl (by first | rfl | omega | (simp []; done))), rfl, trivial⟩, (HH1.sel [] (by decide) rfl), (by first | omega | assumption | (simp; done) | simp_all), (by rfl)⟩
  · rintro m a_8 w' ⟨k, rfl, HE9, HH10, p21_0, p21_1⟩
    have hsq := sq_bd (d := (k : Int) + 2) (by omega)
    have heq := noDiv_eq a0 ((k : Int) + 2) (f := 2000 - k) (g := 2000 - (k + 1)) (by omega)
    refine wp_seq ?_
    refine wp_seq ?_
    refine rg ?_
    refine pl_x HE9 HH10 (wt0 rfl) (x_move rfl) rfl rfl fun a_11 HE12 => ?_
    refine pl_x HE12 HH10 (wt0 rfl) (x_move rfl) rfl rfl fun a_13 HE14 => ?_
    refine pl_x HE14 HH10 (wt0 rfl) (x_mul rfl rfl (by exact ⟨by omega, by omega⟩)) rfl rfl fun a_15 HE16 => ?_
    refine pl_x HE16 HH10 (wt0 rfl) (x_move rfl) rfl rfl fun a_17 HE18 => ?_
    refine pl_x HE18 HH10 (wt0 rfl) (x_leq rfl rfl) rfl rfl fun a_19 HE20 => ?_
    refine wpList_nil ?_
    clear a_6 HE7 HH1 a_8 HE9 a_11 HE12 a_13 HE14 a_15 HE16 a_17 HE18
    refine nrm ?_
    refine cnd_d HE20 rfl (fun hc22 => ?_) (fun hc22 => ?_)
    · refine wp_skip ?_
      refine nrm ?_
      refine wp_seq ?_
      refine wp_block ?_
      refine wp_seq ?_
      refine rg ?_
      refine pl_x HE20 HH10 (wt0 rfl) (x_move rfl) rfl rfl fun a_21 HE22 => ?_
      refine pl_x HE22 HH10 (wt0 rfl) (x_move rfl) rfl rfl fun a_23 HE24 => ?_
      refine pl_x HE24 HH10 (wt0 rfl) (x_rem rfl rfl (by omega) (by omega)) rfl rfl fun a_25 HE26 => ?_
      refine pl_x HE26 HH10 (wt0 rfl) (x_eql rfl rfl) rfl rfl fun a_27 HE28 => ?_
      refine wpList_nil ?_
      clear a_19 HE20 a_21 HE22 a_23 HE24 a_25 HE26
      refine nrm ?_
      refine cnd_e HE28 rfl (fun hc23 => ?_) (fun hc23 => ?_)
      · refine wp_seq ?_
        refine rg ?_
        refine pl_x HE28 HH10 (wt0 rfl) (x_assign rfl) rfl rfl fun a_29 HE30 => ?_
        refine wpList_nil ?_
        clear a_27 HE28
        refine nrm ?_
        refine wp_ret ?_
        refine (blk_ret (thn_ret (thn_ret (blk_ret (thn_ret ?_)))))
        refine ret1 HE30 rfl (rv_tmp rfl) ?_
        have hF : (primeB a0) = false := by
          first | (unfold primeB; rw [p21_1, heq, if_pos (by omega), if_pos (by omega)]; rfl) | (unfold primeB; rw [p21_1, heq, if_neg (by omega)]; simp; done) | (unfold primeB; rw [p21_1, heq, if_neg (by omega)]; simp; omega) | (unfold primeB; rw [decide_eq_false (by omega)]; simp)
        exact ⟨by first | (rw [hF] <;> rfl) | rfl | (rw [hF]; simp only [Ending.returned.injEq, Value.slice.injEq, true_and, and_true]; first | omega | (simp; done)), HH10.below⟩
      · refine wp_skip ?_
        refine blk_n ?_
        refine nrm ?_
        refine rg ?_
        refine pl_x HE28 HH10 (wt0 rfl) (x_move rfl) rfl rfl fun a_31 HE32 => ?_
        refine pl_x HE32 HH10 (wt0 rfl) (x_add rfl rfl (by exact ⟨by omega, by omega⟩)) rfl rfl fun a_33 HE34 => ?_
        refine pl_x HE34 HH10 (wt0 rfl) (x_assign rfl) rfl rfl fun a_35 HE36 => ?_
        refine wpList_nil ?_
        clear a_27 HE28 a_31 HE32 a_33 HE34
        exact nrm ⟨1000 - (k + 1), (by omega), k + 1, rfl, HE36.sub ⟨(lkI rfl (by first | rfl | omega | (simp [p21_0, p21_1, hc22, hc23]; done))), rfl, trivial⟩, (HH10.sel [] (by decide) rfl), (by have := sq_le (d := (k : Int) + 2) (n := a0) (by omega) (by omega) (by omega); omega), (by rw [p21_1, heq, if_pos (by omega), if_neg (by omega), show (((k + 1 : Nat) : Int) + 2) = (k : Int) + 2 + 1 from by omega])⟩
    · refine wp_exit ?_
      refine (thn_exit (thn_exit (blk_hit ?_)))
      refine nrm ?_
      refine wp_seq ?_
      refine rg ?_
      refine pl_x HE20 HH10 (wt0 rfl) (x_move rfl) rfl rfl fun a_37 HE38 => ?_
      refine pl_x HE38 HH10 (wt0 rfl) (x_geq rfl rfl) rfl rfl fun a_39 HE40 => ?_
      refine pl_x HE40 HH10 (wt0 rfl) (x_assign rfl) rfl rfl fun a_41 HE42 => ?_
      refine wpList_nil ?_
      clear a_19 HE20 a_37 HE38 a_39 HE40
      refine nrm ?_
      refine wp_ret ?_
      refine ret1 HE42 rfl (rv_tmp rfl) ?_
      have hF : (primeB a0) = decide (2 ≤ a0) := by
        first | (unfold primeB; rw [p21_1, heq, if_pos (by omega), if_pos (by omega)]; rfl) | (unfold primeB; rw [p21_1, heq, if_neg (by omega)]; simp; done) | (unfold primeB; rw [p21_1, heq, if_neg (by omega)]; simp; omega) | (unfold primeB; rw [decide_eq_false (by omega)]; simp)
      exact ⟨by first | (rw [hF] <;> rfl) | rfl | (rw [hF]; simp only [Ending.returned.injEq, Value.slice.injEq, true_and, and_true]; first | omega | (simp; done)), HH10.below⟩

set_option maxRecDepth 100000 in
set_option maxHeartbeats 4000000 in
theorem spec_l01Prime (a0 : Int) (w : World) (s0 : -9223372036854775808 ≤ a0 ∧ a0 ≤ 999999) :
    Calls Try.prog 118 #[.int .i64 a0] w fun e w' => e = .returned (.bool (primeB a0)) ∧ Below w.heap.size w w' := by
  have HH1 := Held.start Nob w
  refine enter (n := 17) Try.func118 rfl rfl rfl fun a_2 HE3 => ?_
  refine wp_seq ?_
  refine rg ?_
  refine pl_x HE3 HH1 (wt0 rfl) (x_assign rfl) rfl rfl fun a_4 HE5 => ?_
  refine wpList_nil ?_
  clear a_2 HE3
  refine nrm ?_
  refine wp_seq ?_
  refine wp_seq ?_
  refine rg ?_
  refine pl_x HE5 HH1 (wt0 rfl) (x_move rfl) rfl rfl fun a_6 HE7 => ?_
  refine pl_x HE7 HH1 (wt0 rfl) (x_lss rfl rfl) rfl rfl fun a_8 HE9 => ?_
  refine wpList_nil ?_
  clear a_4 HE5 a_6 HE7
  refine nrm ?_
  refine cnd_d HE9 rfl (fun hc21 => ?_) (fun hc21 => ?_)
  · refine wp_seq ?_
    refine rg ?_
    refine pl_x HE9 HH1 (wt0 rfl) (x_assign rfl) rfl rfl fun a_10 HE11 => ?_
    refine wpList_nil ?_
    clear a_8 HE9
    refine nrm ?_
    refine wp_ret ?_
    refine (thn_ret ?_)
    refine ret1 HE11 rfl (rv_tmp rfl) ?_
    have hF : (primeB a0) = false := by
      first | (unfold primeB; rw [p0_1, heq, if_pos (by omega), if_pos (by omega)]; rfl) | (unfold primeB; rw [p0_1, heq, if_neg (by omega)]; simp; done) | (unfold primeB; rw [p0_1, heq, if_neg (by omega)]; simp; omega) | (unfold primeB; rw [decide_eq_false (by omega)]; simp)
    exact ⟨by first | (rw [hF] <;> rfl) | rfl | (rw [hF]; simp only [Ending.returned.injEq, Value.slice.injEq, true_and, and_true]; first | omega | (simp; done)), HH1.below⟩
  · refine wp_skip ?_
    refine nrm ?_
    refine wp_seq ?_
    refine wp_seq ?_
    refine rg ?_
    refine pl_x HE9 HH1 (wt0 rfl) (x_assign rfl) rfl rfl fun a_12 HE13 => ?_
    refine wpList_nil ?_
    clear a_8 HE9
    refine nrm ?_
    refine wp_block ?_
    refine lp (fun m a w' => ∃ (k : Nat), m = 1000 - k ∧ Env 17 [(3, .int .i64 ((k : Int) + 2)), (0, .int .i64 (a0))] a ∧ Held Nob w [] w' ∧ ((k : Int) ≤ 999) ∧ (noDiv a0 2 2000 = noDiv a0 ((k : Int) + 2) (2000 - k))) (1000 - (0)) ?_ ?_
    · exact ⟨0, rfl, HE13.sub ⟨(lkI rfl (by first | rfl | omega | (simp [hc21]; done))), rfl, trivial⟩, (HH1.sel [] (by decide) rfl), (by first | omega | assumption | (simp; done) | simp_all), (by rfl)⟩
    · rintro m a_14 w' ⟨k, rfl, HE15, HH16, p22_0, p22_1⟩
      have hsq := sq_bd (d := (k : Int) + 2) (by omega)
      have heq := noDiv_eq a0 ((k : Int) + 2) (f := 2000 - k) (g := 2000 - (k + 1)) (by omega)
      refine wp_seq ?_
      refine wp_seq ?_
      refine rg ?_
      refine pl_x HE15 HH16 (wt0 rfl) (x_move rfl) rfl rfl fun a_17 HE18 => ?_
      refine pl_x HE18 HH16 (wt0 rfl) (x_move rfl) rfl rfl fun a_19 HE20 => ?_
      refine pl_x HE20 HH16 (wt0 rfl) (x_mul rfl rfl (by exact ⟨by omega, by omega⟩)) rfl rfl fun a_21 HE22 => ?_
      refine pl_x HE22 HH16 (wt0 rfl) (x_move rfl) rfl rfl fun a_23 HE24 => ?_
      refine pl_x HE24 HH16 (wt0 rfl) (x_leq rfl rfl) rfl rfl fun a_25 HE26 => ?_
      refine wpList_nil ?_
      clear a_12 HE13 HH1 a_14 HE15 a_17 HE18 a_19 HE20 a_21 HE22 a_23 HE24
      refine nrm ?_
      refine cnd_d HE26 rfl (fun hc23 => ?_) (fun hc23 => ?_)
      · refine wp_skip ?_
        refine nrm ?_
        refine wp_seq ?_
        refine wp_block ?_
        refine wp_seq ?_
        refine rg ?_
        refine pl_x HE26 HH16 (wt0 rfl) (x_move rfl) rfl rfl fun a_27 HE28 => ?_
        refine pl_x HE28 HH16 (wt0 rfl) (x_move rfl) rfl rfl fun a_29 HE30 => ?_
        refine pl_x HE30 HH16 (wt0 rfl) (x_rem rfl rfl (by omega) (by omega)) rfl rfl fun a_31 HE32 => ?_
        refine pl_x HE32 HH16 (wt0 rfl) (x_eql rfl rfl) rfl rfl fun a_33 HE34 => ?_
        refine wpList_nil ?_
        clear a_25 HE26 a_27 HE28 a_29 HE30 a_31 HE32
        refine nrm ?_
        refine cnd_e HE34 rfl (fun hc24 => ?_) (fun hc24 => ?_)
        · refine wp_seq ?_
          refine rg ?_
          refine pl_x HE34 HH16 (wt0 rfl) (x_assign rfl) rfl rfl fun a_35 HE36 => ?_
          refine wpList_nil ?_
          clear a_33 HE34
          refine nrm ?_
          refine wp_ret ?_
          refine (blk_ret (thn_ret (thn_ret (blk_ret (thn_ret ?_)))))
          refine ret1 HE36 rfl (rv_tmp rfl) ?_
          have hF : (primeB a0) = false := by
            first | (unfold primeB; rw [p22_1, heq, if_pos (by omega), if_pos (by omega)]; rfl) | (unfold primeB; rw [p22_1, heq, if_neg (by omega)]; simp; done) | (unfold primeB; rw [p22_1, heq, if_neg (by omega)]; simp; omega) | (unfold primeB; rw [decide_eq_false (by omega)]; simp)
          exact ⟨by first | (rw [hF] <;> rfl) | rfl | (rw [hF]; simp only [Ending.returned.injEq, Value.slice.injEq, true_and, and_true]; first | omega | (simp; done)), HH16.below⟩
        · refine wp_skip ?_
          refine blk_n ?_
          refine nrm ?_
          refine rg ?_
          refine pl_x HE34 HH16 (wt0 rfl) (x_move rfl) rfl rfl fun a_37 HE38 => ?_
          refine pl_x HE38 HH16 (wt0 rfl) (x_add rfl rfl (by exact ⟨by omega, by omega⟩)) rfl rfl fun a_39 HE40 => ?_
          refine pl_x HE40 HH16 (wt0 rfl) (x_assign rfl) rfl rfl fun a_41 HE42 => ?_
          refine wpList_nil ?_
          clear a_33 HE34 a_37 HE38 a_39 HE40
          exact nrm ⟨1000 - (k + 1), (by omega), k + 1, rfl, HE42.sub ⟨(lkI rfl (by first | rfl | omega | (simp [hc21, p22_0, p22_1, hc23, hc24]; done))), rfl, trivial⟩, (HH16.sel [] (by decide) rfl), (by have := sq_le (d := (k : Int) + 2) (n := a0) (by omega) (by omega) (by omega); omega), (by rw [p22_1, heq, if_pos (by omega), if_neg (by omega), show (((k + 1 : Nat) : Int) + 2) = (k : Int) + 2 + 1 from by omega])⟩
      · refine wp_exit ?_
        refine (thn_exit (thn_exit (blk_hit ?_)))
        refine nrm ?_
        refine wp_seq ?_
        refine rg ?_
        refine pl_x HE26 HH16 (wt0 rfl) (x_assign rfl) rfl rfl fun a_43 HE44 => ?_
        refine wpList_nil ?_
        clear a_25 HE26
        refine nrm ?_
        refine wp_ret ?_
        refine ret1 HE44 rfl (rv_tmp rfl) ?_
        have hF : (primeB a0) = true := by
          first | (unfold primeB; rw [p22_1, heq, if_pos (by omega), if_pos (by omega)]; rfl) | (unfold primeB; rw [p22_1, heq, if_neg (by omega)]; simp; done) | (unfold primeB; rw [p22_1, heq, if_neg (by omega)]; simp; omega) | (unfold primeB; rw [decide_eq_false (by omega)]; simp)
        exact ⟨by first | (rw [hF] <;> rfl) | rfl | (rw [hF]; simp only [Ending.returned.injEq, Value.slice.injEq, true_and, and_true]; first | omega | (simp; done)), HH16.below⟩

def valPc (n : List Int) (p : Int) : Int × Int := (valP n p, 0)

theorem impl_ValuationOfN (A : Option Addr) (c : Nat) (n : List Int) (p : Int) (w : World) (h : Sl eInt w (Old w) A c n) (hN : NatP n) (hp : 2 ≤ p ∧ p ≤ 999999) :
    Calls Try.prog 200 #[.slice A n.length c, .int .i64 p] w fun e w' => e = .returned (.tuple #[.int .i64 (valPc n p).1, .int .i64 (valPc n p).2]) ∧ Below w.heap.size w w' := by
  have h1 := impl_ValuationOf A c n p w h
  have h2 : valuationOf n p = valPc n p := by
    unfold valuationOf valPc
    rw [if_pos hN.2.2.2, if_pos ⟨NatP_pos hN, hp⟩]
  rwa [h2] at h1

def divE (p : Int) : Nat → List Int → List Int
  | 0, n => n
  | e + 1, n => divE p e (divN n p).1

theorem divE_snoc (p : Int) : ∀ (e : Nat) (n : List Int), divE p (e + 1) n = (divN (divE p e n) p).1
  | 0, _ => rfl
  | e + 1, n => by rw [divE, divE_snoc p e, divE]

theorem NatP_divE {p : Int} (hp : 2 ≤ p ∧ p ≤ 999999) : ∀ (g : Nat) (y : List Int) (j : Nat), NatP y → (j : Int) ≤ valF g y p → NatP (divE p j y)
  | _, y, 0, h, _ => h
  | 0, y, j + 1, h, hj => by rw [valF] at hj; omega
  | g + 1, y, j + 1, h, hj => by
    rw [valF] at hj
    split at hj
    · rename_i hr
      rw [divE]
      exact NatP_divE hp g _ j (NatP_div hp h hr).1 (by omega)
    · omega

theorem valF_bd (p : Int) : ∀ (g : Nat) (y : List Int), 0 ≤ valF g y p ∧ valF g y p ≤ g
  | 0, _ => by simp [valF]
  | g + 1, y => by
    have := valF_bd p g (divN y p).1
    rw [valF]
    split <;> omega

def oneL : List Int := [1]

def powF (g : Nat) (y : List Int) (p e : Int) : Int := if eq_L (divE p (valF g y p).toNat y) oneL = true then e + valF g y p else -1

def powP (n : List Int) (p : Int) : Int := powF 800 n p 0

theorem divN_one {p : Int} (hp : 2 ≤ p) : ¬ (divN [1] p).2 = 0 := by
  show ¬ ((0 * 1000000 + 1) % p = 0)
  have h1 : (0 * 1000000 + 1 : Int) % p = 1 := Int.emod_eq_of_lt (by decide) (by omega)
  omega

theorem powF_one {g : Nat} {y : List Int} {p e : Int} (hp : 2 ≤ p) (hy : y = [1]) : powF g y p e = e := by
  subst hy
  unfold powF
  rw [valF_stop (divN_one hp)]
  simp [divE, oneL, eq_L_refl]

theorem powF_miss {g : Nat} {y : List Int} {p e : Int} (h : ¬ (divN y p).2 = 0) (hy : eq_L y oneL = false) : powF g y p e = -1 := by
  unfold powF
  rw [valF_stop h]
  simp [divE, hy]

theorem powF_step {k : Nat} {y : List Int} {p e : Int} (hk : k < 800) (h : (divN y p).2 = 0) : powF (800 - k) y p e = powF (800 - (k + 1)) (divN y p).1 p (e + 1) := by
  unfold powF
  have hb := (valF_bd p (800 - (k + 1)) (divN y p).1).1
  rw [valF_step hk h, show (1 + valF (800 - (k + 1)) (divN y p).1 p).toNat = (valF (800 - (k + 1)) (divN y p).1 p).toNat + 1 from by omega, divE, show e + (1 + valF (800 - (k + 1)) (divN y p).1 p) = e + 1 + valF (800 - (k + 1)) (divN y p).1 p from by omega]

theorem one_of {y : List Int} {e : Int} {q : 0 < y.length} (h1 : (y.length : Int) = 1) (h2 : e = y[0]) (h3 : e = 1) : y = [1] := by
  match y with
  | [x] => simp at h2; rw [← h2, h3]
  | [] => simp at q
  | _ :: _ :: _ => simp at h1; omega

theorem eq_L_eq {x y : List Int} (h : eq_L x y = true) : x = y := eqL_eq (fun a b hab => by simpa [eq_i] using hab) x y h

theorem not_one {y : List Int} (h : ¬ y = [1]) : eq_L y oneL = false := by
  cases hq : eq_L y oneL with
  | false => rfl
  | true => exact absurd (eq_L_eq hq) h

theorem not_one1 {y : List Int} (h : ¬ (y.length : Int) = 1) : eq_L y oneL = false := not_one (by rintro rfl; simp at h)

theorem not_one2 {y : List Int} {e : Int} {q : 0 < y.length} (h2 : e = y[0]) (h3 : ¬ e = 1) : eq_L y oneL = false := not_one (by rintro rfl; simp at h2; omega)

def powSeen (n : List Int) (p : Int) (l : List Int) : Bool × List Int := (decide (((if 0 ≤ powP n p then l ++ [powP n p] else l).length : Int) < 20), if 0 ≤ powP n p then l ++ [powP n p] else l)

def runPw (l : List tFraction) (p : Int) : Nat → List Int → Int → List Int → List Int × Int × Bool × Int × List Int
  | 0, y, k, s => (y, k, decide ((stepFI l y).2 < 0), 0, (powSeen y p s).2)
  | f + 1, y, k, s => if (powSeen y p s).1 = false ∨ (stepFI l y).2 < 0 then (y, k, decide ((stepFI l y).2 < 0), 0, (powSeen y p s).2) else if 40 < ((stepFI l y).1.length : Int) then ([], 0, false, 5, (powSeen y p s).2) else runPw l p f (stepFI l y).1 (k + 1) (powSeen y p s).2

theorem runPw_eq (l : List tFraction) (p : Int) (f : Nat) (y : List Int) (k : Int) (s : List Int) : runPw l p f y k s = if (powSeen y p s).1 = false ∨ (stepFI l y).2 < 0 ∨ f = 0 then (y, k, decide ((stepFI l y).2 < 0), 0, (powSeen y p s).2) else if 40 < ((stepFI l y).1.length : Int) then ([], 0, false, 5, (powSeen y p s).2) else runPw l p (f - 1) (stepFI l y).1 (k + 1) (powSeen y p s).2 := by
  cases f with
  | zero => simp [runPw]
  | succ f => simp [runPw]

theorem runPw_step {l : List tFraction} {p : Int} {f g : Nat} {y : List Int} {k : Int} {s : List Int} (hf : f = g + 1) (h0 : (powSeen y p s).1 = true) (h1 : ¬ (stepFI l y).2 < 0) (h2 : ¬ 40 < ((stepFI l y).1.length : Int)) : runPw l p f y k s = runPw l p g (stepFI l y).1 (k + 1) (powSeen y p s).2 := by
  subst hf; rw [runPw, if_neg (by simp [h0]; omega), if_neg h2]

def runFP (l : List tFraction) (n : List Int) (m p : Int) (s : List Int) : List Int × Int × Bool × Int × List Int := runPw l p m.toNat n 0 s

def powersSeen (l : List tFraction) (n : List Int) (p m : Int) : List Int × Int :=
  if validFrac l && isPos n then (if p ≤ 999999 ∧ primeB p = true ∧ budgetB m = true then (if (runFP l n m p []).2.2.2.1 = 0 then ((runFP l n m p []).2.2.2.2, 0) else ([], (runFP l n m p []).2.2.2.1)) else ([], 2)) else ([], 1)

theorem val_digs (n : Nat) : val (digs n) = n := by
  induction n using Nat.strongRecOn with
  | ind n ih =>
    rw [digs]
    split
    · rename_i h; subst h; rfl
    · rename_i h
      rw [val, ih (n / 1000000) (by omega)]
      omega

theorem isNat_trim2 {xs : List Int} (h : limbs xs) (hl : (trimZ xs).length ≤ 40) : isNat (trimZ xs) = true := by
  unfold isNat
  rw [decide_eq_true (by omega), allW_of_limbs fun x hx => h x (trimZ_mem hx)]
  rcases trimZ_last xs with h2 | h2
  · rw [h2]; simp
  · rw [show ((trimZ xs)[(trimZ xs).length - 1]?.getD 0 != 0) = true from by simpa using h2]; simp

theorem NatP_frac {n : List Int} {u d : Int} (hn : NatP n) (hu : 1 ≤ u ∧ u ≤ 999999) (hd : 1 ≤ d ∧ d ≤ 999999) (hr : (divN (mulN n [u]) d).2 = 0) (hl : (divN (mulN n [u]) d).1.length ≤ 40) : NatP (divN (mulN n [u]) d).1 := by
  have h1 := val_divN (by omega : 0 < d) (mulN n [u])
  have h2 := mulN_limbs n [u]
  have h3 : val (mulN n [u]) = val n * u := by
    unfold mulN
    rw [val_digs]
    have : val [u] = u := by simp [val]
    rw [this]
    have := Int.mul_pos hn.2.2.1 (by omega : 0 < u)
    omega
  have h4 := Int.mul_pos hn.2.2.1 (by omega : 0 < u)
  have h5 := val_lt (divN_limbs (by omega : 0 < d) h2)
  refine ⟨divN_limbs (by omega) h2, hl, ?_, isNat_trim2 (divW_limbs (by omega) h2) hl⟩
  refine Classical.byContradiction fun hc => ?_
  have h0 : val (divN (mulN n [u]) d).1 = 0 := by omega
  rw [h0, hr, h3] at h1
  omega

theorem NatP_stepFr : ∀ (l : List tFraction) (n : List Int) (k : Int) (r : List Int × Int), okFr l → NatP n → stepFr l n k = some r → r.1.length ≤ 40 → NatP r.1
  | [], _, _, _, _, _, h, _ => by cases h
  | f :: fs, n, k, r, ho, hn, h, hl => by
    rw [stepFr] at h
    have hf := ho f (by simp)
    split at h
    · rename_i hr
      cases h
      exact NatP_frac hn hf.1 hf.2 hr hl
    · exact NatP_stepFr fs n (k + 1) r (fun x hx => ho x (by simp [hx])) hn h hl

theorem NatP_step {l : List tFraction} {n : List Int} (ho : okFr l) (hn : NatP n) (h : ¬ (stepFI l n).2 < 0) (hl : ¬ 40 < ((stepFI l n).1.length : Int)) : NatP (stepFI l n).1 := by
  unfold stepFI at h hl ⊢
  cases hq : stepFr l n 0 with
  | none => rw [hq] at h; simp at h
  | some r => rw [hq] at hl; simp at hl; exact NatP_stepFr l n 0 r ho hn hq (by omega)

theorem powSeen_len (n : List Int) (p : Int) (l : List Int) : l.length ≤ (powSeen n p l).2.length ∧ (powSeen n p l).2.length ≤ l.length + 1 := by
  unfold powSeen
  split <;> simp

theorem powSeen_fst (n : List Int) (p : Int) (l : List Int) : (powSeen n p l).1 = decide (((powSeen n p l).2.length : Int) < 20) := by unfold powSeen; simp only

theorem powSeen_snd (n : List Int) (p : Int) (l : List Int) : (powSeen n p l).2 = if 0 ≤ powP n p then l ++ [powP n p] else l := by unfold powSeen; simp only

theorem powP_bd (n : List Int) (p : Int) : -1 ≤ powP n p ∧ powP n p ≤ 800 := by
  have := valF_bd p 800 n
  unfold powP powF
  split <;> omega

theorem runPw_len (l : List tFraction) (p : Int) : ∀ (f : Nat) (y : List Int) (k : Int) (s : List Int), (runPw l p f y k s).2.2.2.2.length ≤ s.length + f + 1
  | 0, y, k, s => by have := powSeen_len y p s; simp only [runPw]; omega
  | f + 1, y, k, s => by
    have h1 := powSeen_len y p s
    rw [runPw]
    split
    · simp only; omega
    · split
      · simp only; omega
      · have := runPw_len l p f (stepFI l y).1 (k + 1) (powSeen y p s).2
        omega

theorem powersSeen_ct (l : List tFraction) (n : List Int) (p m : Int) : (ct_L (powersSeen l n p m).1 : Int) ≤ 1000000000 := by
  rw [ct_L_len]
  unfold powersSeen
  split
  · split
    · rename_i h
      have h1 := budgetB_le h.2.2
      split
      · have h2 := runPw_len l p m.toNat n 0 []
        have h3 : (runFP l n m p []).2.2.2.2.length ≤ 0 + m.toNat + 1 := h2
        simp only; omega
      · simp
    · simp
  · simp

set_option maxRecDepth 100000 in
set_option maxHeartbeats 4000000 in
theorem impl_one  (w : World)  :
    Calls Try.prog 202 #[] w fun e w' => ∃ (A0' : Option Addr) (c0' : Nat), e = .returned (.slice A0' oneL.length c0') ∧ So eInt w' (Fr w w') A0' c0' oneL ∧ Below w.heap.size w w' := by
  have HH1 := Held.start Nob w
  refine enter (n := 2) Try.func202 rfl rfl rfl fun a_2 HE3 => ?_
  refine wp_seq ?_
  refine rg ?_
  refine pl_x HE3 HH1 (wt0 rfl) (x_assign rfl) rfl rfl fun a_4 HE5 => ?_
  refine wpList_nil ?_
  clear a_2 HE3
  refine nrm ?_
  refine wp_seq ?_
  refine rg ?_
  refine pl fun K_6 hK7 => ?_
  refine st_lit (m := 1) (cs := [.int .i64 (1)]) (e := 2) HE5 HH1 (run_lit ts_31 HE5 (vs := [.int .i64 (1)]) rfl rfl (by simp [Value.cells]) rfl (by decide)) (wt0 rfl) rfl rfl fun q21 a_8 w' HE9 HH10 => hK7 _ _ ?_
  refine pl_x HE9 HH10 (wt0 rfl) (x_assign rfl) rfl rfl fun a_11 HE12 => ?_
  refine wpList_nil ?_
  clear a_4 HE5 HH1 a_8 HE9 hK7 K_6
  refine nrm ?_
  refine wp_ret ?_
  refine ret1 HE12 rfl (rv_tmp rfl) ?_
  have HH13 := Held.vecFlat (E := eInt) (xs := [1]) (css := [[.int .i64 (1)]]) HH10 rfl (by unfold maxLen; simp) (fun i x hx => by match i with | 0 => exact ⟨_, rfl, fun _ => by simp at hx; subst hx; exact (oI (by exact ⟨by omega, by omega⟩))⟩ | i + 1 => simp at hx)
  have HH14 := HH13.vecSo
  have hF : oneL = ([1] : List Int) := by
    rfl
  exact ⟨(some ⟨q21, 0, none⟩), 1, by first | (rw [hF] <;> rfl) | rfl | (rw [hF]; simp only [Ending.returned.injEq, Value.slice.injEq, true_and, and_true]; first | omega | (simp; done)), by rw [hF]; exact (HH14.so (i := 0) rfl), HH14.below⟩

set_option maxRecDepth 100000 in
set_option maxHeartbeats 4000000 in
theorem impl_powerOf (A0 : Option Addr) (c0 : Nat) (a0 : (List Int)) (a1 : Int) (w : World) (h0 : Sl eInt w (Old w) A0 c0 a0) (hN : NatP a0) (hp : 2 ≤ a1 ∧ a1 ≤ 999999) :
    Calls Try.prog 129 #[.slice A0 a0.length c0, .int .i64 a1] w fun e w' => e = .returned (.int .i64 (powP a0 a1)) ∧ Below w.heap.size w w' := by
  have l0 := h0.len
  have hN2 := hN.2.1
  have hN1 := hN.1
  have hvb := valF_bd a1 800 a0
  have hvb2 : valP a0 a1 = valF 800 a0 a1 := rfl
  have hvc : (valPc a0 a1).1 = valP a0 a1 := rfl
  have hpw : powP a0 a1 = if eq_L (divE a1 (valP a0 a1).toNat a0) oneL = true then valP a0 a1 else -1 := by unfold powP powF valP; simp
  have HH1 := Held.start Nob w
  refine enter (n := 28) Try.func129 rfl rfl rfl fun a_2 HE3 => ?_
  refine wp_seq ?_
  refine rg ?_
  refine pl_x HE3 HH1 (wt0 rfl) (x_assign rfl) rfl rfl fun a_4 HE5 => ?_
  refine wpList_nil ?_
  clear a_2 HE3
  refine nrm ?_
  refine wp_seq ?_
  refine rg ?_
  refine pl_x HE5 HH1 (wt0 rfl) (x_move rfl) rfl rfl fun a_6 HE7 => ?_
  refine pl_x HE7 HH1 (wt0 rfl) (x_move rfl) rfl rfl fun a_8 HE9 => ?_
  refine pl fun K_10 hK11 => ?_
  refine st_call HE9 (wt0 rfl) rfl rfl rfl en_200 rfl rfl (impl_ValuationOfN _ _ a0 a1 _ (HH1.old h0) (by assumption) (by omega)) fun e w' hr => ?_
  obtain ⟨rfl, hbr21⟩ := hr
  have HH12 := HH1.on hbr21
  refine ⟨_, rfl, fun a_13 HE14 => hK11 _ _ ?_⟩
  refine pl_x HE14 HH12 (wt0 rfl) (x_move rfl) rfl rfl fun a_15 HE16 => ?_
  refine pl_x HE16 HH12 (wt0 rfl) (x_extract rfl rfl) rfl rfl fun a_17 HE18 => ?_
  refine pl_x HE18 HH12 (wt0 rfl) (x_extract rfl rfl) rfl rfl fun a_19 HE20 => ?_
  refine pl_x HE20 HH12 (wt0 rfl) (x_assign rfl) rfl rfl fun a_21 HE22 => ?_
  refine pl_x HE22 HH12 (wt0 rfl) (x_assign rfl) rfl rfl fun a_23 HE24 => ?_
  refine wpList_nil ?_
  clear a_4 HE5 a_6 HE7 HH1 a_8 HE9 a_13 HE14 a_15 HE16 a_17 HE18 a_19 HE20 a_21 HE22 hK11 K_10
  refine nrm ?_
  refine wp_seq ?_
  refine wp_seq ?_
  refine rg ?_
  refine pl_x HE24 HH12 (wt0 rfl) (x_move rfl) rfl rfl fun a_25 HE26 => ?_
  refine pl_x HE26 HH12 (wt0 rfl) (x_move rfl) rfl rfl fun a_27 HE28 => ?_
  refine wpList_nil ?_
  clear a_23 HE24 a_25 HE26
  refine nrm ?_
  refine wp_block ?_
  have HH29 := HH12.noIf (p := False) (rSo eInt Nob A0 c0 a0) id
  refine lp (fun m a w' => ∃ (j : Nat) (A_0 : Option Addr) (c_0 : Nat) (S_0 : Nat → Prop) (P_0 : Prop), m = (valP a0 a1 - (j : Int)).toNat ∧ Env 28 [(0, .slice A_0 (List.length (divE a1 j a0)) c_0), (14, .int .i64 (j : Int)), (1, .int .i64 (a1)), (5, .int .i64 ((valPc a0 a1).1)), (13, .int .i64 ((valPc a0 a1).1))] a ∧ Held Nob w [rIf (P_0) (rSo eInt S_0 A_0 c_0 (divE a1 j a0))] w' ∧ ((j : Int) ≤ valP a0 a1) ∧ (P_0 ∨ Sl eInt w (Old w) A_0 c_0 (divE a1 j a0))) ((valP a0 a1 - ((0) : Int)).toNat) ?_ ?_
  · have E22 : divE a1 0 a0 = a0 := by
      first | rfl | simp
    exact ⟨0, A0, c0, Nob, False, rfl, HE28.sub ⟨(by rw [E22]; rfl), (lkI rfl (by first | rfl | omega | (simp []; done))), rfl, rfl, rfl, trivial⟩, ((HH29.sel [0] (by decide) rfl).to (by first | rfl | (rw [E22]; done) | (rw [E22]; rfl) | (simp only [E22]; done) | (simp only [E22]; rfl))), (by first | omega | assumption | (simp; done) | simp_all), (by first | exact .inr h0 | (rw [E22]; exact .inr h0))⟩
  · rintro m a_30 w' ⟨j, A_0, c_0, S_0, P_0, rfl, HE31, HH32, p23_0, ho_0⟩
    rcases ho_0 with ho_0 | ho_0
    · have HH33 := HH32.ofIf ho_0
      have hD := NatP_divE hp 800 a0 j hN p23_0
      have hD2 := hD.2.1
      have hD1 := hD.1
      refine wp_seq ?_
      refine rg ?_
      refine pl_x HE31 HH33 (wt0 rfl) (x_lss rfl rfl) rfl rfl fun a_34 HE35 => ?_
      refine wpList_nil ?_
      clear HH12 a_27 HE28 HH29 HH32 a_30 HE31
      refine nrm ?_
      refine wp_seq ?_
      refine cnd_d HE35 rfl (fun hc24 => ?_) (fun hc24 => ?_)
      · refine wp_skip ?_
        refine nrm ?_
        refine wp_seq ?_
        refine wp_block ?_
        refine rg ?_
        refine pl_x HE35 HH33 (wt0 rfl) (x_move rfl) rfl rfl fun a_36 HE37 => ?_
        refine pl_x HE37 HH33 (wt0 rfl) (x_move rfl) rfl rfl fun a_38 HE39 => ?_
        refine pl fun K_40 hK41 => ?_
        refine st_call HE39 (wt0 rfl) rfl rfl rfl en_201 rfl rfl (impl_divideSmall _ _ (divE a1 j a0) a1 _ (HH33.sl (i := 0) rfl) (by first | assumption | exact mulN_limbs _ _) (by omega) (by first | omega | exact Nat.le_trans (mulN_len (by assumption) (by intro x hx; simp at hx; omega)) (by simp; omega))) fun e w' hr => ?_
        obtain ⟨Ar25_0, cr25_0, rfl, hor25_0, hbr25⟩ := hr
        obtain ⟨Sr25, HH42⟩ := HH33.newS hbr25 hor25_0
        refine ⟨_, rfl, fun a_43 HE44 => hK41 _ _ ?_⟩
        refine pl_x HE44 HH42 (wt0 rfl) (x_move rfl) rfl rfl fun a_45 HE46 => ?_
        refine pl_x HE46 HH42 (wt0 rfl) (x_extract rfl rfl) rfl rfl fun a_47 HE48 => ?_
        refine pl_x HE48 HH42 (wt0 rfl) (x_extract rfl rfl) rfl rfl fun a_49 HE50 => ?_
        refine pl_x HE50 HH42 (wt0 rfl) (x_assign rfl) rfl rfl fun a_51 HE52 => ?_
        refine wpList_nil ?_
        clear a_34 HE35 a_36 HE37 HH33 a_38 HE39 a_43 HE44 a_45 HE46 a_47 HE48 a_49 HE50 hK41 K_40
        refine blk_n ?_
        refine nrm ?_
        refine rg ?_
        refine pl_x HE52 HH42 (wt0 rfl) (x_add rfl rfl (by exact ⟨by omega, by omega⟩)) rfl rfl fun a_53 HE54 => ?_
        refine pl_x HE54 HH42 (wt0 rfl) (x_move rfl) rfl rfl fun a_55 HE56 => ?_
        refine wpList_nil ?_
        clear a_51 HE52 a_53 HE54
        have HH57 := HH42.toIf True
        have E26 : divE a1 (j + 1) a0 = (divN (divE a1 j a0) a1).1 := by
          rw [divE_snoc]
        exact nrm ⟨(valP a0 a1 - ((j + 1) : Int)).toNat, (by omega), j + 1, Ar25_0, cr25_0, Sr25, True, rfl, HE56.sub ⟨(by rw [E26]; rfl), (lkI rfl (by first | rfl | omega | (simp [p23_0, hc24]; done))), rfl, rfl, rfl, trivial⟩, ((HH57.sel [0] (by decide) rfl).to (by first | rfl | (rw [E26]; done) | (rw [E26]; rfl) | (simp only [E26]; done) | (simp only [E26]; rfl))), (by first | omega | assumption | (simp; done) | simp_all), (by first | exact .inl trivial | (rw [E26]; exact .inl trivial))⟩
      · refine wp_exit ?_
        refine (thn_exit (thn_exit (blk_hit ?_)))
        refine nrm ?_
        refine wp_seq ?_
        refine wp_seq ?_
        refine rg ?_
        refine pl_x HE35 HH33 (wt0 rfl) (x_move rfl) rfl rfl fun a_58 HE59 => ?_
        refine pl fun K_60 hK61 => ?_
        refine st_call HE59 (wt0 rfl) rfl rfl rfl en_202 rfl rfl (impl_one  _ ) fun e w' hr => ?_
        obtain ⟨Ar27_0, cr27_0, rfl, hor27_0, hbr27⟩ := hr
        obtain ⟨Sr27, HH62⟩ := HH33.newS hbr27 hor27_0
        refine ⟨_, rfl, fun a_63 HE64 => hK61 _ _ ?_⟩
        refine pl fun K_65 hK66 => ?_
        refine st_call HE64 (wt0 rfl) rfl rfl rfl en_185 rfl rfl (slices_Equal _ _ _ _ (divE a1 j a0) oneL _ (HH62.sl (i := 1) rfl) (HH62.sl (i := 0) rfl)) fun e w' hr => ?_
        obtain ⟨rfl, hbr28⟩ := hr
        have HH67 := HH62.on hbr28.below
        refine ⟨_, rfl, fun a_68 HE69 => hK66 _ _ ?_⟩
        refine pl_x HE69 HH67 (wt0 rfl) (x_not rfl) rfl rfl fun a_70 HE71 => ?_
        refine wpList_nil ?_
        clear a_34 HE35 HH33 a_58 HE59 K_60 hK61 HH62 a_63 HE64 a_68 HE69 hK66 K_65
        refine nrm ?_
        refine cnd_nb HE71 rfl (fun hc29 => ?_) (fun hc29 => ?_)
        · refine wp_seq ?_
          refine rg ?_
          refine pl_x HE71 HH67 (wt0 rfl) (x_assign rfl) rfl rfl fun a_72 HE73 => ?_
          refine wpList_nil ?_
          clear a_70 HE71
          refine nrm ?_
          refine wp_ret ?_
          refine (thn_ret ?_)
          refine ret1 HE73 rfl (rv_tmp rfl) ?_
          have hF : (powP a0 a1) = -1 := by
            rw [hpw, show (valP a0 a1).toNat = j from by omega]; first | (rw [if_pos (by assumption), hvc]) | (rw [if_neg (by simp [p23_0, hc24, hc29])])
          exact ⟨by first | (rw [hF] <;> rfl) | rfl | (rw [hF]; simp only [Ending.returned.injEq, Value.slice.injEq, true_and, and_true]; first | omega | (simp; done)), HH67.below⟩
        · refine wp_skip ?_
          refine nrm ?_
          refine wp_seq ?_
          refine rg ?_
          refine pl_x HE71 HH67 (wt0 rfl) (x_move rfl) rfl rfl fun a_74 HE75 => ?_
          refine pl_x HE75 HH67 (wt0 rfl) (x_assign rfl) rfl rfl fun a_76 HE77 => ?_
          refine wpList_nil ?_
          clear a_70 HE71 a_74 HE75
          refine nrm ?_
          refine wp_ret ?_
          refine ret1 HE77 rfl (rv_tmp rfl) ?_
          have hF : (powP a0 a1) = (valPc a0 a1).1 := by
            rw [hpw, show (valP a0 a1).toNat = j from by omega]; first | (rw [if_pos (by assumption), hvc]) | (rw [if_neg (by simp [p23_0, hc24, hc29])])
          exact ⟨by first | (rw [hF] <;> rfl) | rfl | (rw [hF]; simp only [Ending.returned.injEq, Value.slice.injEq, true_and, and_true]; first | omega | (simp; done)), HH67.below⟩
    · have HH78 := HH32.sel [] (by decide) rfl
      have hD := NatP_divE hp 800 a0 j hN p23_0
      have hD2 := hD.2.1
      have hD1 := hD.1
      refine wp_seq ?_
      refine rg ?_
      refine pl_x HE31 HH78 (wt0 rfl) (x_lss rfl rfl) rfl rfl fun a_79 HE80 => ?_
      refine wpList_nil ?_
      clear HH12 a_27 HE28 HH29 HH32 a_30 HE31
      refine nrm ?_
      refine wp_seq ?_
      refine cnd_d HE80 rfl (fun hc30 => ?_) (fun hc30 => ?_)
      · refine wp_skip ?_
        refine nrm ?_
        refine wp_seq ?_
        refine wp_block ?_
        refine rg ?_
        refine pl_x HE80 HH78 (wt0 rfl) (x_move rfl) rfl rfl fun a_81 HE82 => ?_
        refine pl_x HE82 HH78 (wt0 rfl) (x_move rfl) rfl rfl fun a_83 HE84 => ?_
        refine pl fun K_85 hK86 => ?_
        refine st_call HE84 (wt0 rfl) rfl rfl rfl en_201 rfl rfl (impl_divideSmall _ _ (divE a1 j a0) a1 _ (HH78.old ho_0) (by first | assumption | exact mulN_limbs _ _) (by omega) (by first | omega | exact Nat.le_trans (mulN_len (by assumption) (by intro x hx; simp at hx; omega)) (by simp; omega))) fun e w' hr => ?_
        obtain ⟨Ar31_0, cr31_0, rfl, hor31_0, hbr31⟩ := hr
        obtain ⟨Sr31, HH87⟩ := HH78.newS hbr31 hor31_0
        refine ⟨_, rfl, fun a_88 HE89 => hK86 _ _ ?_⟩
        refine pl_x HE89 HH87 (wt0 rfl) (x_move rfl) rfl rfl fun a_90 HE91 => ?_
        refine pl_x HE91 HH87 (wt0 rfl) (x_extract rfl rfl) rfl rfl fun a_92 HE93 => ?_
        refine pl_x HE93 HH87 (wt0 rfl) (x_extract rfl rfl) rfl rfl fun a_94 HE95 => ?_
        refine pl_x HE95 HH87 (wt0 rfl) (x_assign rfl) rfl rfl fun a_96 HE97 => ?_
        refine wpList_nil ?_
        clear a_79 HE80 a_81 HE82 HH78 a_83 HE84 a_88 HE89 a_90 HE91 a_92 HE93 a_94 HE95 hK86 K_85
        refine blk_n ?_
        refine nrm ?_
        refine rg ?_
        refine pl_x HE97 HH87 (wt0 rfl) (x_add rfl rfl (by exact ⟨by omega, by omega⟩)) rfl rfl fun a_98 HE99 => ?_
        refine pl_x HE99 HH87 (wt0 rfl) (x_move rfl) rfl rfl fun a_100 HE101 => ?_
        refine wpList_nil ?_
        clear a_96 HE97 a_98 HE99
        have HH102 := HH87.toIf True
        have E32 : divE a1 (j + 1) a0 = (divN (divE a1 j a0) a1).1 := by
          rw [divE_snoc]
        exact nrm ⟨(valP a0 a1 - ((j + 1) : Int)).toNat, (by omega), j + 1, Ar31_0, cr31_0, Sr31, True, rfl, HE101.sub ⟨(by rw [E32]; rfl), (lkI rfl (by first | rfl | omega | (simp [p23_0, hc30]; done))), rfl, rfl, rfl, trivial⟩, ((HH102.sel [0] (by decide) rfl).to (by first | rfl | (rw [E32]; done) | (rw [E32]; rfl) | (simp only [E32]; done) | (simp only [E32]; rfl))), (by first | omega | assumption | (simp; done) | simp_all), (by first | exact .inl trivial | (rw [E32]; exact .inl trivial))⟩
      · refine wp_exit ?_
        refine (thn_exit (thn_exit (blk_hit ?_)))
        refine nrm ?_
        refine wp_seq ?_
        refine wp_seq ?_
        refine rg ?_
        refine pl_x HE80 HH78 (wt0 rfl) (x_move rfl) rfl rfl fun a_103 HE104 => ?_
        refine pl fun K_105 hK106 => ?_
        refine st_call HE104 (wt0 rfl) rfl rfl rfl en_202 rfl rfl (impl_one  _ ) fun e w' hr => ?_
        obtain ⟨Ar33_0, cr33_0, rfl, hor33_0, hbr33⟩ := hr
        obtain ⟨Sr33, HH107⟩ := HH78.newS hbr33 hor33_0
        refine ⟨_, rfl, fun a_108 HE109 => hK106 _ _ ?_⟩
        refine pl fun K_110 hK111 => ?_
        refine st_call HE109 (wt0 rfl) rfl rfl rfl en_185 rfl rfl (slices_Equal _ _ _ _ (divE a1 j a0) oneL _ (HH107.old ho_0) (HH107.sl (i := 0) rfl)) fun e w' hr => ?_
        obtain ⟨rfl, hbr34⟩ := hr
        have HH112 := HH107.on hbr34.below
        refine ⟨_, rfl, fun a_113 HE114 => hK111 _ _ ?_⟩
        refine pl_x HE114 HH112 (wt0 rfl) (x_not rfl) rfl rfl fun a_115 HE116 => ?_
        refine wpList_nil ?_
        clear a_79 HE80 HH78 a_103 HE104 K_105 hK106 HH107 a_108 HE109 a_113 HE114 hK111 K_110
        refine nrm ?_
        refine cnd_nb HE116 rfl (fun hc35 => ?_) (fun hc35 => ?_)
        · refine wp_seq ?_
          refine rg ?_
          refine pl_x HE116 HH112 (wt0 rfl) (x_assign rfl) rfl rfl fun a_117 HE118 => ?_
          refine wpList_nil ?_
          clear a_115 HE116
          refine nrm ?_
          refine wp_ret ?_
          refine (thn_ret ?_)
          refine ret1 HE118 rfl (rv_tmp rfl) ?_
          have hF : (powP a0 a1) = -1 := by
            rw [hpw, show (valP a0 a1).toNat = j from by omega]; first | (rw [if_pos (by assumption), hvc]) | (rw [if_neg (by simp [p23_0, hc30, hc35])])
          exact ⟨by first | (rw [hF] <;> rfl) | rfl | (rw [hF]; simp only [Ending.returned.injEq, Value.slice.injEq, true_and, and_true]; first | omega | (simp; done)), HH112.below⟩
        · refine wp_skip ?_
          refine nrm ?_
          refine wp_seq ?_
          refine rg ?_
          refine pl_x HE116 HH112 (wt0 rfl) (x_move rfl) rfl rfl fun a_119 HE120 => ?_
          refine pl_x HE120 HH112 (wt0 rfl) (x_assign rfl) rfl rfl fun a_121 HE122 => ?_
          refine wpList_nil ?_
          clear a_115 HE116 a_119 HE120
          refine nrm ?_
          refine wp_ret ?_
          refine ret1 HE122 rfl (rv_tmp rfl) ?_
          have hF : (powP a0 a1) = (valPc a0 a1).1 := by
            rw [hpw, show (valP a0 a1).toNat = j from by omega]; first | (rw [if_pos (by assumption), hvc]) | (rw [if_neg (by simp [p23_0, hc30, hc35])])
          exact ⟨by first | (rw [hF] <;> rfl) | rfl | (rw [hF]; simp only [Ending.returned.injEq, Value.slice.injEq, true_and, and_true]; first | omega | (simp; done)), HH112.below⟩

end Go.Proofs.Ytnokeoejlfodkaa
