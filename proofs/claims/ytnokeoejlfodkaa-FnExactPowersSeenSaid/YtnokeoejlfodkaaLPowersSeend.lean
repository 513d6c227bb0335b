/- What the proof of FnExactPowersSeen needs: contracts of the functions that it reaches, each once. -/
import Derived.Test.YtnokeoejlfodkaaProg
import Derived.Test.YtnokeoejlfodkaaQMem
import Derived.Test.YtnokeoejlfodkaaQOpen
import Derived.Test.YtnokeoejlfodkaaLPowersSeena
import Derived.Test.YtnokeoejlfodkaaLPowersSeenb
import Derived.Test.YtnokeoejlfodkaaLPowersSeenc
import Derived.WalkKit
import Derived.WalkSpells
import Derived.Below
import Derived.LoopTactic
import Derived.Outline
import Derived.Deep.QuietTactic
import Derived.BigQuiet
import Derived.Deep.LoopGhost
import Derived.Handy
import Derived.Lib.Hide
import Derived.Shelf.Abstract
import Derived.StillTailTactics
import Derived.OwnWalk
import Derived.Maps.AppendAt
import Derived.RegionTactic
import Derived.Deep.RegionHeld3
import Derived.IntWalk
import Derived.Deep.Upon
import Derived.Laws.OwnMore
import Derived.Maps.AppendAt
import Derived.Lib.SliceRun
import Derived.Lib.AppendZeros
namespace Go.Proofs.Ytnokeoejlfodkaa
open Go.RowKit

set_option maxRecDepth 100000 in
set_option maxHeartbeats 4000000 in
theorem spec_l08Power (A0 : Option Addr) (c0 : Nat) (a0 : (List Int)) (a1 : Int) (w : World) (h0 : Sl eInt w (Old w) A0 c0 a0) (hN : NatP a0) (hp : 2 ≤ a1 ∧ a1 ≤ 999999) :
    Calls Try.prog 120 #[.slice A0 a0.length c0, .int .i64 a1] w fun e w' => e = .returned (.int .i64 (powP a0 a1)) ∧ Below w.heap.size w w' := by
  have l0 := h0.len
  have HH1 := Held.start Nob w
  refine enter (n := 29) Try.func120 rfl rfl rfl fun a_2 HE3 => ?_
  refine wp_seq ?_
  refine rg ?_
  refine pl_x HE3 HH1 (wt0 rfl) (x_assign rfl) rfl rfl fun a_4 HE5 => ?_
  refine wpList_nil ?_
  clear a_2 HE3
  refine nrm ?_
  refine wp_seq ?_
  refine rg ?_
  refine pl_x HE5 HH1 (wt0 rfl) (x_assign rfl) rfl rfl fun a_6 HE7 => ?_
  refine wpList_nil ?_
  clear a_4 HE5
  refine nrm ?_
  refine wp_block ?_
  have HH8 := HH1.noIf (p := False) (rSo eInt Nob A0 c0 a0) id
  refine lp (fun m a w' => ∃ (k : Nat) (y : List Int) (A_0 : Option Addr) (c_0 : Nat) (S_0 : Nat → Prop) (P_0 : Prop), m = 800 - k ∧ Env 29 [(0, .slice A_0 (List.length y) c_0), (5, .int .i64 (k : Int)), (1, .int .i64 (a1))] a ∧ Held Nob w [rIf (P_0) (rSo eInt S_0 A_0 c_0 y)] w' ∧ (k ≤ 800) ∧ (NatP y) ∧ (val y < 2 ^ (800 - k)) ∧ (powP a0 a1 = powF (800 - k) y a1 (k : Int)) ∧ (P_0 ∨ Sl eInt w (Old w) A_0 c_0 y)) (800 - (0)) ?_ ?_
  · exact ⟨0, a0, A0, c0, Nob, False, rfl, HE7.sub ⟨rfl, (lkI rfl (by first | rfl | omega | (simp []; done))), rfl, trivial⟩, (HH8.sel [0] (by decide) rfl), (by first | omega | assumption | (simp; done) | simp_all), (by exact hN), (by exact NatP_lt hN), (by rfl), (.inr h0)⟩
  · rintro m a_9 w' ⟨k, y, A_0, c_0, S_0, P_0, rfl, HE10, HH11, p21_0, p21_1, p21_2, p21_3, ho_0⟩
    rcases ho_0 with ho_0 | ho_0
    · have HH12 := HH11.ofIf ho_0
      have hy := p21_1
      obtain ⟨hy1, hy2, hy3, hy4⟩ := hy
      refine wp_block ?_
      refine wp_seq ?_
      refine wp_seq ?_
      refine rg ?_
      refine pl_x HE10 HH12 (wt0 rfl) (x_move rfl) rfl rfl fun a_13 HE14 => ?_
      refine pl_x HE14 HH12 (wt0 rfl) (x_len Try.underlying31 rfl) rfl rfl fun a_15 HE16 => ?_
      refine pl_x HE16 HH12 (wt0 rfl) (x_eql rfl rfl) rfl rfl fun a_17 HE18 => ?_
      refine pl_x HE18 HH12 (wt0 rfl) (x_move rfl) rfl rfl fun a_19 HE20 => ?_
      by_cases hc22 : ((List.length y) : Int) = 1
      · refine pl_x HE20 HH12 (wtT HE20 rfl rfl rfl (beq_t hc22)) (x_move rfl) rfl rfl fun a_21 HE22 => ?_
        have ke23 : 0 < (List.length y) := by omega
        obtain ⟨be23, fe23, rfl⟩ := el_own HH12 (i := 0) rfl ke23
        refine pl_x HE22 HH12 (wtT HE22 rfl rfl rfl (beq_t hc22)) (x_indexAddr ts_31 rfl rfl rfl rfl ke23) rfl rfl fun a_23 HE24 => ?_
        obtain ⟨y24, xy24⟩ : ∃ y_, y_ = y[0]'(by first | exact ke23 | (simp only [List.length_set]; exact ke23) | omega | (simp only [List.length_set]; omega) | (simp; omega)) := ⟨_, rfl⟩
        have iy24 : I64 y24 := by rw [xy24]; exact i_ownI HH12 0 rfl _
        have jy24 := iy24; unfold I64 at jy24
        refine pl_x HE24 HH12 (wtT HE24 rfl rfl rfl (beq_t hc22)) (x_load1 tv_2 rfl (c_ownV 0 rfl (by first | exact ke23 | (simp only [List.length_set]; exact ke23) | omega | (simp only [List.length_set]; omega) | (simp; omega)) xy24.symm)) rfl rfl fun a_25 HE26 => ?_
        refine pl_x HE26 HH12 (wtT HE26 rfl rfl rfl (beq_t hc22)) (x_eql rfl rfl) rfl rfl fun a_27 HE28 => ?_
        refine pl_x HE28 HH12 (wt0 rfl) (x_pickT rfl (beq_t hc22) rfl) rfl rfl fun a_29 HE30 => ?_
        refine wpList_nil ?_
        clear HH1 a_6 HE7 HH8 HH11 a_9 HE10 a_13 HE14 a_15 HE16 a_17 HE18 a_19 HE20 a_21 HE22 a_23 HE24 a_25 HE26 a_27 HE28
        refine nrm ?_
        refine cnd_e HE30 rfl (fun hc25 => ?_) (fun hc25 => ?_)
        · refine wp_seq ?_
          refine rg ?_
          refine pl_x HE30 HH12 (wt0 rfl) (x_move rfl) rfl rfl fun a_31 HE32 => ?_
          refine pl_x HE32 HH12 (wt0 rfl) (x_assign rfl) rfl rfl fun a_33 HE34 => ?_
          refine wpList_nil ?_
          clear a_29 HE30 a_31 HE32
          refine nrm ?_
          refine wp_ret ?_
          refine (thn_ret (blk_ret (thn_ret (blk_ret ?_))))
          refine ret1 HE34 rfl (rv_tmp rfl) ?_
          have hF : (powP a0 a1) = (k : Int) := by
            rw [p21_3]; first | exact powF_one (by omega) (one_of (by omega) xe0 (by omega)) | exact powF_one (by omega) (one_of (by omega) xy24 (by omega)) | exact powF_miss hc25 (not_one1 (by omega)) | exact powF_miss hc25 (not_one2 xe0 (by omega)) | exact powF_miss hc25 (not_one2 xy24 (by omega))
          exact ⟨by first | (rw [hF] <;> rfl) | rfl | (rw [hF]; simp only [Ending.returned.injEq, Value.slice.injEq, true_and, and_true]; first | omega | (simp; done)), HH12.below⟩
        · refine wp_skip ?_
          refine nrm ?_
          refine wp_seq ?_
          refine rg ?_
          refine pl_x HE30 HH12 (wt0 rfl) (x_move rfl) rfl rfl fun a_35 HE36 => ?_
          refine pl_x HE36 HH12 (wt0 rfl) (x_move rfl) rfl rfl fun a_37 HE38 => ?_
          refine pl fun K_39 hK40 => ?_
          refine st_call HE38 (wt0 rfl) rfl rfl rfl en_193 rfl rfl (spec_l02By _ _ y a1 _ (HH12.sl (i := 0) rfl) (by first | assumption | exact mulN_limbs _ _) (by omega) (by first | omega | exact Nat.le_trans (mulN_len (by assumption) (by intro x hx; simp at hx; omega)) (by simp; omega))) fun e w' hr => ?_
          obtain ⟨Ar26_0, cr26_0, rfl, hor26_0, hbr26⟩ := hr
          obtain ⟨Sr26, HH41⟩ := HH12.newS hbr26 hor26_0
          refine ⟨_, rfl, fun a_42 HE43 => hK40 _ _ ?_⟩
          refine pl_x HE43 HH41 (wt0 rfl) (x_move rfl) rfl rfl fun a_44 HE45 => ?_
          refine pl_x HE45 HH41 (wt0 rfl) (x_extract rfl rfl) rfl rfl fun a_46 HE47 => ?_
          refine pl_x HE47 HH41 (wt0 rfl) (x_extract rfl rfl) rfl rfl fun a_48 HE49 => ?_
          refine pl_x HE49 HH41 (wt0 rfl) (x_assign rfl) rfl rfl fun a_50 HE51 => ?_
          refine pl_x HE51 HH41 (wt0 rfl) (x_assign rfl) rfl rfl fun a_52 HE53 => ?_
          refine wpList_nil ?_
          clear a_29 HE30 a_35 HE36 HH12 a_37 HE38 a_42 HE43 a_44 HE45 a_46 HE47 a_48 HE49 a_50 HE51 hK40 K_39
          refine nrm ?_
          refine wp_seq ?_
          refine wp_seq ?_
          refine rg ?_
          refine pl_x HE53 HH41 (wt0 rfl) (x_move rfl) rfl rfl fun a_54 HE55 => ?_
          refine pl_x HE55 HH41 (wt0 rfl) (x_neq rfl rfl) rfl rfl fun a_56 HE57 => ?_
          refine wpList_nil ?_
          clear a_52 HE53 a_54 HE55
          refine nrm ?_
          refine cnd_ne HE57 rfl (fun hc27 => ?_) (fun hc27 => ?_)
          · refine wp_seq ?_
            refine rg ?_
            refine pl_x HE57 HH41 (wt0 rfl) (x_assign rfl) rfl rfl fun a_58 HE59 => ?_
            refine wpList_nil ?_
            clear a_56 HE57
            refine nrm ?_
            refine wp_ret ?_
            refine (thn_ret (blk_ret (thn_ret (blk_ret ?_))))
            refine ret1 HE59 rfl (rv_tmp rfl) ?_
            have hF : (powP a0 a1) = -1 := by
              rw [p21_3]; first | exact powF_one (by omega) (one_of (by omega) xe0 (by omega)) | exact powF_one (by omega) (one_of (by omega) xy24 (by omega)) | exact powF_miss hc27 (not_one1 (by omega)) | exact powF_miss hc27 (not_one2 xe0 (by omega)) | exact powF_miss hc27 (not_one2 xy24 (by omega))
            exact ⟨by first | (rw [hF] <;> rfl) | rfl | (rw [hF]; simp only [Ending.returned.injEq, Value.slice.injEq, true_and, and_true]; first | omega | (simp; done)), HH41.below⟩
          · refine wp_skip ?_
            refine nrm ?_
            refine wp_seq ?_
            refine rg ?_
            refine pl_x HE57 HH41 (wt0 rfl) (x_move rfl) rfl rfl fun a_60 HE61 => ?_
            refine pl_x HE61 HH41 (wt0 rfl) (x_assign rfl) rfl rfl fun a_62 HE63 => ?_
            refine wpList_nil ?_
            clear a_56 HE57 a_60 HE61
            refine nrm ?_
            refine rg ?_
            refine pl_x HE63 HH41 (wt0 rfl) (x_move rfl) rfl rfl fun a_64 HE65 => ?_
            refine pl_x HE65 HH41 (wt0 rfl) (x_add rfl rfl (by exact ⟨by omega, by omega⟩)) rfl rfl fun a_66 HE67 => ?_
            refine pl_x HE67 HH41 (wt0 rfl) (x_assign rfl) rfl rfl fun a_68 HE69 => ?_
            refine wpList_nil ?_
            clear a_62 HE63 a_64 HE65 a_66 HE67
            refine blk_n ?_
            have HH70 := HH41.toIf True
            have E28 : ((divN y a1).1) = (divN y a1).1 := by
              first | rfl | simp
            exact nrm ⟨800 - (k + 1), (by have := val_step hp p21_1 p21_2 hc27; omega), k + 1, (divN y a1).1, Ar26_0, cr26_0, Sr26, True, rfl, HE69.sub ⟨(by rw [E28]; rfl), (lkI rfl (by first | rfl | omega | (simp [p21_0, p21_1, p21_2, p21_3, hc22, xy24, hc25, hc27]; done))), rfl, trivial⟩, ((HH70.sel [0] (by decide) rfl).to (by first | rfl | (rw [E28]; done) | (rw [E28]; rfl) | (simp only [E28]; done) | (simp only [E28]; rfl))), (by have := val_step hp p21_1 p21_2 hc27; omega), (by exact (val_step hp p21_1 p21_2 hc27).2.1), (by exact (val_step hp p21_1 p21_2 hc27).2.2), (by rw [p21_3, powF_step (val_step hp p21_1 p21_2 hc27).1 hc27]; rfl), (by first | exact .inl trivial | (rw [E28]; exact .inl trivial))⟩
      · refine pl_no HE20 (wtF HE20 rfl rfl rfl (beq_f hc22)) rfl rfl fun a_71 HE72 => ?_
        refine pl_no HE72 (wtF HE72 rfl rfl rfl (beq_f hc22)) rfl rfl fun a_73 HE74 => ?_
        refine pl_no HE74 (wtF HE74 rfl rfl rfl (beq_f hc22)) rfl rfl fun a_75 HE76 => ?_
        refine pl_no HE76 (wtF HE76 rfl rfl rfl (beq_f hc22)) rfl rfl fun a_77 HE78 => ?_
        refine pl_x HE78 HH12 (wt0 rfl) (x_pickF rfl (beq_f hc22) rfl) rfl rfl fun a_79 HE80 => ?_
        refine wpList_nil ?_
        clear HH1 a_6 HE7 HH8 HH11 a_9 HE10 a_13 HE14 a_15 HE16 a_17 HE18 a_19 HE20 a_71 HE72 a_73 HE74 a_75 HE76 a_77 HE78
        refine nrm ?_
        refine cndF HE80 rfl rfl ?_
        refine wp_skip ?_
        refine nrm ?_
        refine wp_seq ?_
        refine rg ?_
        refine pl_x HE80 HH12 (wt0 rfl) (x_move rfl) rfl rfl fun a_81 HE82 => ?_
        refine pl_x HE82 HH12 (wt0 rfl) (x_move rfl) rfl rfl fun a_83 HE84 => ?_
        refine pl fun K_85 hK86 => ?_
        refine st_call HE84 (wt0 rfl) rfl rfl rfl en_193 rfl rfl (spec_l02By _ _ y a1 _ (HH12.sl (i := 0) rfl) (by first | assumption | exact mulN_limbs _ _) (by omega) (by first | omega | exact Nat.le_trans (mulN_len (by assumption) (by intro x hx; simp at hx; omega)) (by simp; omega))) fun e w' hr => ?_
        obtain ⟨Ar29_0, cr29_0, rfl, hor29_0, hbr29⟩ := hr
        obtain ⟨Sr29, HH87⟩ := HH12.newS hbr29 hor29_0
        refine ⟨_, rfl, fun a_88 HE89 => hK86 _ _ ?_⟩
        refine pl_x HE89 HH87 (wt0 rfl) (x_move rfl) rfl rfl fun a_90 HE91 => ?_
        refine pl_x HE91 HH87 (wt0 rfl) (x_extract rfl rfl) rfl rfl fun a_92 HE93 => ?_
        refine pl_x HE93 HH87 (wt0 rfl) (x_extract rfl rfl) rfl rfl fun a_94 HE95 => ?_
        refine pl_x HE95 HH87 (wt0 rfl) (x_assign rfl) rfl rfl fun a_96 HE97 => ?_
        refine pl_x HE97 HH87 (wt0 rfl) (x_assign rfl) rfl rfl fun a_98 HE99 => ?_
        refine wpList_nil ?_
        clear a_79 HE80 a_81 HE82 HH12 a_83 HE84 a_88 HE89 a_90 HE91 a_92 HE93 a_94 HE95 a_96 HE97 hK86 K_85
        refine nrm ?_
        refine wp_seq ?_
        refine wp_seq ?_
        refine rg ?_
        refine pl_x HE99 HH87 (wt0 rfl) (x_move rfl) rfl rfl fun a_100 HE101 => ?_
        refine pl_x HE101 HH87 (wt0 rfl) (x_neq rfl rfl) rfl rfl fun a_102 HE103 => ?_
        refine wpList_nil ?_
        clear a_98 HE99 a_100 HE101
        refine nrm ?_
        refine cnd_ne HE103 rfl (fun hc30 => ?_) (fun hc30 => ?_)
        · refine wp_seq ?_
          refine rg ?_
          refine pl_x HE103 HH87 (wt0 rfl) (x_assign rfl) rfl rfl fun a_104 HE105 => ?_
          refine wpList_nil ?_
          clear a_102 HE103
          refine nrm ?_
          refine wp_ret ?_
          refine (thn_ret (blk_ret (thn_ret (blk_ret ?_))))
          refine ret1 HE105 rfl (rv_tmp rfl) ?_
          have hF : (powP a0 a1) = -1 := by
            rw [p21_3]; first | exact powF_one (by omega) (one_of (by omega) xe0 (by omega)) | exact powF_one (by omega) (one_of (by omega) xy0 (by omega)) | exact powF_miss hc30 (not_one1 (by omega)) | exact powF_miss hc30 (not_one2 xe0 (by omega)) | exact powF_miss hc30 (not_one2 xy0 (by omega))
          exact ⟨by first | (rw [hF] <;> rfl) | rfl | (rw [hF]; simp only [Ending.returned.injEq, Value.slice.injEq, true_and, and_true]; first | omega | (simp; done)), HH87.below⟩
        · refine wp_skip ?_
          refine nrm ?_
          refine wp_seq ?_
          refine rg ?_
          refine pl_x HE103 HH87 (wt0 rfl) (x_move rfl) rfl rfl fun a_106 HE107 => ?_
          refine pl_x HE107 HH87 (wt0 rfl) (x_assign rfl) rfl rfl fun a_108 HE109 => ?_
          refine wpList_nil ?_
          clear a_102 HE103 a_106 HE107
          refine nrm ?_
          refine rg ?_
          refine pl_x HE109 HH87 (wt0 rfl) (x_move rfl) rfl rfl fun a_110 HE111 => ?_
          refine pl_x HE111 HH87 (wt0 rfl) (x_add rfl rfl (by exact ⟨by omega, by omega⟩)) rfl rfl fun a_112 HE113 => ?_
          refine pl_x HE113 HH87 (wt0 rfl) (x_assign rfl) rfl rfl fun a_114 HE115 => ?_
          refine wpList_nil ?_
          clear a_108 HE109 a_110 HE111 a_112 HE113
          refine blk_n ?_
          have HH116 := HH87.toIf True
          have E31 : ((divN y a1).1) = (divN y a1).1 := by
            first | rfl | simp
          exact nrm ⟨800 - (k + 1), (by have := val_step hp p21_1 p21_2 hc30; omega), k + 1, (divN y a1).1, Ar29_0, cr29_0, Sr29, True, rfl, HE115.sub ⟨(by rw [E31]; rfl), (lkI rfl (by first | rfl | omega | (simp [p21_0, p21_1, p21_2, p21_3, hc22, hc30]; done))), rfl, trivial⟩, ((HH116.sel [0] (by decide) rfl).to (by first | rfl | (rw [E31]; done) | (rw [E31]; rfl) | (simp only [E31]; done) | (simp only [E31]; rfl))), (by have := val_step hp p21_1 p21_2 hc30; omega), (by exact (val_step hp p21_1 p21_2 hc30).2.1), (by exact (val_step hp p21_1 p21_2 hc30).2.2), (by rw [p21_3, powF_step (val_step hp p21_1 p21_2 hc30).1 hc30]; rfl), (by first | exact .inl trivial | (rw [E31]; exact .inl trivial))⟩
    · have HH117 := HH11.sel [] (by decide) rfl
      have hy := p21_1
      obtain ⟨hy1, hy2, hy3, hy4⟩ := hy
      refine wp_block ?_
      refine wp_seq ?_
      refine wp_seq ?_
      refine rg ?_
      refine pl_x HE10 HH117 (wt0 rfl) (x_move rfl) rfl rfl fun a_118 HE119 => ?_
      refine pl_x HE119 HH117 (wt0 rfl) (x_len Try.underlying31 rfl) rfl rfl fun a_120 HE121 => ?_
      refine pl_x HE121 HH117 (wt0 rfl) (x_eql rfl rfl) rfl rfl fun a_122 HE123 => ?_
      refine pl_x HE123 HH117 (wt0 rfl) (x_move rfl) rfl rfl fun a_124 HE125 => ?_
      by_cases hc32 : ((List.length y) : Int) = 1
      · refine pl_x HE125 HH117 (wtT HE125 rfl rfl rfl (beq_t hc32)) (x_move rfl) rfl rfl fun a_126 HE127 => ?_
        have ke33 : 0 < (List.length y) := by omega
        obtain ⟨be33, fe33, ese33, Ae33, Re33, De33⟩ := el_old ho_0 ke33
        obtain ⟨e33, xe33⟩ : ∃ x_, x_ = y[0] := ⟨_, rfl⟩
        rw [← xe33] at Re33
        have Qe33 := Re33
        obtain ⟨rfl, ie33⟩ := Re33
        have je33 := ie33; unfold I64 at je33
        refine pl_x HE127 HH117 (wtT HE127 rfl rfl rfl (beq_t hc32)) (x_indexAddr ts_31 rfl rfl Ae33 rfl ke33) rfl rfl fun a_128 HE129 => ?_
        refine pl_x HE129 HH117 (wtT HE129 rfl rfl rfl (beq_t hc32)) (x_load1 tv_2 rfl (c_old (De33 0 _ rfl))) rfl rfl fun a_130 HE131 => ?_
        refine pl_x HE131 HH117 (wtT HE131 rfl rfl rfl (beq_t hc32)) (x_eql rfl rfl) rfl rfl fun a_132 HE133 => ?_
        refine pl_x HE133 HH117 (wt0 rfl) (x_pickT rfl (beq_t hc32) rfl) rfl rfl fun a_134 HE135 => ?_
        refine wpList_nil ?_
        clear HH1 a_6 HE7 HH8 HH11 a_9 HE10 a_118 HE119 a_120 HE121 a_122 HE123 a_124 HE125 a_126 HE127 a_128 HE129 a_130 HE131 a_132 HE133
        refine nrm ?_
        refine cnd_e HE135 rfl (fun hc34 => ?_) (fun hc34 => ?_)
        · refine wp_seq ?_
          refine rg ?_
          refine pl_x HE135 HH117 (wt0 rfl) (x_move rfl) rfl rfl fun a_136 HE137 => ?_
          refine pl_x HE137 HH117 (wt0 rfl) (x_assign rfl) rfl rfl fun a_138 HE139 => ?_
          refine wpList_nil ?_
          clear a_134 HE135 a_136 HE137
          refine nrm ?_
          refine wp_ret ?_
          refine (thn_ret (blk_ret (thn_ret (blk_ret ?_))))
          refine ret1 HE139 rfl (rv_tmp rfl) ?_
          have hF : (powP a0 a1) = (k : Int) := by
            rw [p21_3]; first | exact powF_one (by omega) (one_of (by omega) xe33 (by omega)) | exact powF_one (by omega) (one_of (by omega) xy0 (by omega)) | exact powF_miss hc34 (not_one1 (by omega)) | exact powF_miss hc34 (not_one2 xe33 (by omega)) | exact powF_miss hc34 (not_one2 xy0 (by omega))
          exact ⟨by first | (rw [hF] <;> rfl) | rfl | (rw [hF]; simp only [Ending.returned.injEq, Value.slice.injEq, true_and, and_true]; first | omega | (simp; done)), HH117.below⟩
        · refine wp_skip ?_
          refine nrm ?_
          refine wp_seq ?_
          refine rg ?_
          refine pl_x HE135 HH117 (wt0 rfl) (x_move rfl) rfl rfl fun a_140 HE141 => ?_
          refine pl_x HE141 HH117 (wt0 rfl) (x_move rfl) rfl rfl fun a_142 HE143 => ?_
          refine pl fun K_144 hK145 => ?_
          refine st_call HE143 (wt0 rfl) rfl rfl rfl en_193 rfl rfl (spec_l02By _ _ y a1 _ (HH117.old ho_0) (by first | assumption | exact mulN_limbs _ _) (by omega) (by first | omega | exact Nat.le_trans (mulN_len (by assumption) (by intro x hx; simp at hx; omega)) (by simp; omega))) fun e w' hr => ?_
          obtain ⟨Ar35_0, cr35_0, rfl, hor35_0, hbr35⟩ := hr
          obtain ⟨Sr35, HH146⟩ := HH117.newS hbr35 hor35_0
          refine ⟨_, rfl, fun a_147 HE148 => hK145 _ _ ?_⟩
          refine pl_x HE148 HH146 (wt0 rfl) (x_move rfl) rfl rfl fun a_149 HE150 => ?_
          refine pl_x HE150 HH146 (wt0 rfl) (x_extract rfl rfl) rfl rfl fun a_151 HE152 => ?_
          refine pl_x HE152 HH146 (wt0 rfl) (x_extract rfl rfl) rfl rfl fun a_153 HE154 => ?_
          refine pl_x HE154 HH146 (wt0 rfl) (x_assign rfl) rfl rfl fun a_155 HE156 => ?_
          refine pl_x HE156 HH146 (wt0 rfl) (x_assign rfl) rfl rfl fun a_157 HE158 => ?_
          refine wpList_nil ?_
          clear a_134 HE135 a_140 HE141 HH117 a_142 HE143 a_147 HE148 a_149 HE150 a_151 HE152 a_153 HE154 a_155 HE156 hK145 K_144
          refine nrm ?_
          refine wp_seq ?_
          refine wp_seq ?_
          refine rg ?_
          refine pl_x HE158 HH146 (wt0 rfl) (x_move rfl) rfl rfl fun a_159 HE160 => ?_
          refine pl_x HE160 HH146 (wt0 rfl) (x_neq rfl rfl) rfl rfl fun a_161 HE162 => ?_
          refine wpList_nil ?_
          clear a_157 HE158 a_159 HE160
          refine nrm ?_
          refine cnd_ne HE162 rfl (fun hc36 => ?_) (fun hc36 => ?_)
          · refine wp_seq ?_
            refine rg ?_
            refine pl_x HE162 HH146 (wt0 rfl) (x_assign rfl) rfl rfl fun a_163 HE164 => ?_
            refine wpList_nil ?_
            clear a_161 HE162
            refine nrm ?_
            refine wp_ret ?_
            refine (thn_ret (blk_ret (thn_ret (blk_ret ?_))))
            refine ret1 HE164 rfl (rv_tmp rfl) ?_
            have hF : (powP a0 a1) = -1 := by
              rw [p21_3]; first | exact powF_one (by omega) (one_of (by omega) xe33 (by omega)) | exact powF_one (by omega) (one_of (by omega) xy0 (by omega)) | exact powF_miss hc36 (not_one1 (by omega)) | exact powF_miss hc36 (not_one2 xe33 (by omega)) | exact powF_miss hc36 (not_one2 xy0 (by omega))
            exact ⟨by first | (rw [hF] <;> rfl) | rfl | (rw [hF]; simp only [Ending.returned.injEq, Value.slice.injEq, true_and, and_true]; first | omega | (simp; done)), HH146.below⟩
          · refine wp_skip ?_
            refine nrm ?_
            refine wp_seq ?_
            refine rg ?_
            refine pl_x HE162 HH146 (wt0 rfl) (x_move rfl) rfl rfl fun a_165 HE166 => ?_
            refine pl_x HE166 HH146 (wt0 rfl) (x_assign rfl) rfl rfl fun a_167 HE168 => ?_
            refine wpList_nil ?_
            clear a_161 HE162 a_165 HE166
            refine nrm ?_
            refine rg ?_
            refine pl_x HE168 HH146 (wt0 rfl) (x_move rfl) rfl rfl fun a_169 HE170 => ?_
            refine pl_x HE170 HH146 (wt0 rfl) (x_add rfl rfl (by exact ⟨by omega, by omega⟩)) rfl rfl fun a_171 HE172 => ?_
            refine pl_x HE172 HH146 (wt0 rfl) (x_assign rfl) rfl rfl fun a_173 HE174 => ?_
            refine wpList_nil ?_
            clear a_167 HE168 a_169 HE170 a_171 HE172
            refine blk_n ?_
            have HH175 := HH146.toIf True
            have E37 : ((divN y a1).1) = (divN y a1).1 := by
              first | rfl | simp
            exact nrm ⟨800 - (k + 1), (by have := val_step hp p21_1 p21_2 hc36; omega), k + 1, (divN y a1).1, Ar35_0, cr35_0, Sr35, True, rfl, HE174.sub ⟨(by rw [E37]; rfl), (lkI rfl (by first | rfl | omega | (simp [p21_0, p21_1, p21_2, p21_3, hc32, xe33, hc34, hc36]; done))), rfl, trivial⟩, ((HH175.sel [0] (by decide) rfl).to (by first | rfl | (rw [E37]; done) | (rw [E37]; rfl) | (simp only [E37]; done) | (simp only [E37]; rfl))), (by have := val_step hp p21_1 p21_2 hc36; omega), (by exact (val_step hp p21_1 p21_2 hc36).2.1), (by exact (val_step hp p21_1 p21_2 hc36).2.2), (by rw [p21_3, powF_step (val_step hp p21_1 p21_2 hc36).1 hc36]; rfl), (by first | exact .inl trivial | (rw [E37]; exact .inl trivial))⟩
      · refine pl_no HE125 (wtF HE125 rfl rfl rfl (beq_f hc32)) rfl rfl fun a_176 HE177 => ?_
        refine pl_no HE177 (wtF HE177 rfl rfl rfl (beq_f hc32)) rfl rfl fun a_178 HE179 => ?_
        refine pl_no HE179 (wtF HE179 rfl rfl rfl (beq_f hc32)) rfl rfl fun a_180 HE181 => ?_
        refine pl_no HE181 (wtF HE181 rfl rfl rfl (beq_f hc32)) rfl rfl fun a_182 HE183 => ?_
        refine pl_x HE183 HH117 (wt0 rfl) (x_pickF rfl (beq_f hc32) rfl) rfl rfl fun a_184 HE185 => ?_
        refine wpList_nil ?_
        clear HH1 a_6 HE7 HH8 HH11 a_9 HE10 a_118 HE119 a_120 HE121 a_122 HE123 a_124 HE125 a_176 HE177 a_178 HE179 a_180 HE181 a_182 HE183
        refine nrm ?_
        refine cndF HE185 rfl rfl ?_
        refine wp_skip ?_
        refine nrm ?_
        refine wp_seq ?_
        refine rg ?_
        refine pl_x HE185 HH117 (wt0 rfl) (x_move rfl) rfl rfl fun a_186 HE187 => ?_
        refine pl_x HE187 HH117 (wt0 rfl) (x_move rfl) rfl rfl fun a_188 HE189 => ?_
        refine pl fun K_190 hK191 => ?_
        refine st_call HE189 (wt0 rfl) rfl rfl rfl en_193 rfl rfl (spec_l02By _ _ y a1 _ (HH117.old ho_0) (by first | assumption | exact mulN_limbs _ _) (by omega) (by first | omega | exact Nat.le_trans (mulN_len (by assumption) (by intro x hx; simp at hx; omega)) (by simp; omega))) fun e w' hr => ?_
        obtain ⟨Ar38_0, cr38_0, rfl, hor38_0, hbr38⟩ := hr
        obtain ⟨Sr38, HH192⟩ := HH117.newS hbr38 hor38_0
        refine ⟨_, rfl, fun a_193 HE194 => hK191 _ _ ?_⟩
        refine pl_x HE194 HH192 (wt0 rfl) (x_move rfl) rfl rfl fun a_195 HE196 => ?_
        refine pl_x HE196 HH192 (wt0 rfl) (x_extract rfl rfl) rfl rfl fun a_197 HE198 => ?_
        refine pl_x HE198 HH192 (wt0 rfl) (x_extract rfl rfl) rfl rfl fun a_199 HE200 => ?_
        refine pl_x HE200 HH192 (wt0 rfl) (x_assign rfl) rfl rfl fun a_201 HE202 => ?_
        refine pl_x HE202 HH192 (wt0 rfl) (x_assign rfl) rfl rfl fun a_203 HE204 => ?_
        refine wpList_nil ?_
        clear a_184 HE185 a_186 HE187 HH117 a_188 HE189 a_193 HE194 a_195 HE196 a_197 HE198 a_199 HE200 a_201 HE202 hK191 K_190
        refine nrm ?_
        refine wp_seq ?_
        refine wp_seq ?_
        refine rg ?_
        refine pl_x HE204 HH192 (wt0 rfl) (x_move rfl) rfl rfl fun a_205 HE206 => ?_
        refine pl_x HE206 HH192 (wt0 rfl) (x_neq rfl rfl) rfl rfl fun a_207 HE208 => ?_
        refine wpList_nil ?_
        clear a_203 HE204 a_205 HE206
        refine nrm ?_
        refine cnd_ne HE208 rfl (fun hc39 => ?_) (fun hc39 => ?_)
        · refine wp_seq ?_
          refine rg ?_
          refine pl_x HE208 HH192 (wt0 rfl) (x_assign rfl) rfl rfl fun a_209 HE210 => ?_
          refine wpList_nil ?_
          clear a_207 HE208
          refine nrm ?_
          refine wp_ret ?_
          refine (thn_ret (blk_ret (thn_ret (blk_ret ?_))))
          refine ret1 HE210 rfl (rv_tmp rfl) ?_
          have hF : (powP a0 a1) = -1 := by
            rw [p21_3]; first | exact powF_one (by omega) (one_of (by omega) xe0 (by omega)) | exact powF_one (by omega) (one_of (by omega) xy0 (by omega)) | exact powF_miss hc39 (not_one1 (by omega)) | exact powF_miss hc39 (not_one2 xe0 (by omega)) | exact powF_miss hc39 (not_one2 xy0 (by omega))
          exact ⟨by first | (rw [hF] <;> rfl) | rfl | (rw [hF]; simp only [Ending.returned.injEq, Value.slice.injEq, true_and, and_true]; first | omega | (simp; done)), HH192.below⟩
        · refine wp_skip ?_
          refine nrm ?_
          refine wp_seq ?_
          refine rg ?_
          refine pl_x HE208 HH192 (wt0 rfl) (x_move rfl) rfl rfl fun a_211 HE212 => ?_
          refine pl_x HE212 HH192 (wt0 rfl) (x_assign rfl) rfl rfl fun a_213 HE214 => ?_
          refine wpList_nil ?_
          clear a_207 HE208 a_211 HE212
          refine nrm ?_
          refine rg ?_
          refine pl_x HE214 HH192 (wt0 rfl) (x_move rfl) rfl rfl fun a_215 HE216 => ?_
          refine pl_x HE216 HH192 (wt0 rfl) (x_add rfl rfl (by exact ⟨by omega, by omega⟩)) rfl rfl fun a_217 HE218 => ?_
          refine pl_x HE218 HH192 (wt0 rfl) (x_assign rfl) rfl rfl fun a_219 HE220 => ?_
          refine wpList_nil ?_
          clear a_213 HE214 a_215 HE216 a_217 HE218
          refine blk_n ?_
          have HH221 := HH192.toIf True
          have E40 : ((divN y a1).1) = (divN y a1).1 := by
            first | rfl | simp
          exact nrm ⟨800 - (k + 1), (by have := val_step hp p21_1 p21_2 hc39; omega), k + 1, (divN y a1).1, Ar38_0, cr38_0, Sr38, True, rfl, HE220.sub ⟨(by rw [E40]; rfl), (lkI rfl (by first | rfl | omega | (simp [p21_0, p21_1, p21_2, p21_3, hc32, hc39]; done))), rfl, trivial⟩, ((HH221.sel [0] (by decide) rfl).to (by first | rfl | (rw [E40]; done) | (rw [E40]; rfl) | (simp only [E40]; done) | (simp only [E40]; rfl))), (by have := val_step hp p21_1 p21_2 hc39; omega), (by exact (val_step hp p21_1 p21_2 hc39).2.1), (by exact (val_step hp p21_1 p21_2 hc39).2.2), (by rw [p21_3, powF_step (val_step hp p21_1 p21_2 hc39).1 hc39]; rfl), (by first | exact .inl trivial | (rw [E40]; exact .inl trivial))⟩

set_option maxRecDepth 100000 in
set_option maxHeartbeats 4000000 in
theorem impl_PowersSeen1 (M : Nat → Prop) (A0 : Option Addr) (c0 : Nat) (a0 : (List Int)) (p1 : Nat) (es1 : List Value) (a1 : Int) (p2 : Nat) (A2 : Option Addr) (c2 : Nat) (a2 : (List Int)) (S2 : Nat → Prop) (w : World) (HM : Held M w [rBlk p2 31 [.slice A2 a2.length c2], rVec eInt 2 S2 A2 c2 a2] w) (h0 : Sl eInt w (Out M w) A0 c0 a0) (h1 : eInt.R w (Out M w) es1 a1) (hq1 : ∀ j v, es1[j]? = some v → w.cell? ⟨p1, 0 + j, none⟩ = some v) (Nhq1 : ¬ M p1) (hN : NatP a0) (hp : 2 ≤ a1 ∧ a1 ≤ 999999) (s1 : a2.length ≤ 1000000) :
    Calls Try.prog 128 #[.slice A0 a0.length c0, .pointer (some ⟨p1, 0, none⟩), .pointer (some ⟨p2, 0, none⟩)] w fun e w' => ∃ (A2' : Option Addr) (c2' : Nat) (S2' : Nat → Prop), e = .returned (.bool (powSeen a0 a1 a2).1) ∧ Held M w [rBlk p2 31 [.slice A2' (List.length ((powSeen a0 a1 a2).2)) c2'], rVec eInt 2 S2' A2' c2' ((powSeen a0 a1 a2).2)] w' := by
  have l0 := h0.len
  have H1 := h1
  obtain ⟨rfl, iz1⟩ := h1
  have jz1 := iz1; unfold I64 at jz1
  have HH1 := HM
  have lv2 := (HH1.vecSl (i := 1) rfl).len
  have hpb := powP_bd a0 a1
  refine enter (n := 18) Try.func128 rfl rfl rfl fun a_2 HE3 => ?_
  refine wp_seq ?_
  refine rg ?_
  refine pl_x HE3 HH1 (wt0 rfl) (x_assign rfl) rfl rfl fun a_4 HE5 => ?_
  refine wpList_nil ?_
  clear a_2 HE3
  refine nrm ?_
  refine wp_seq ?_
  refine wp_seq ?_
  refine rg ?_
  refine pl_x HE5 HH1 (wt0 rfl) (x_move rfl) rfl rfl fun a_6 HE7 => ?_
  refine pl_x HE7 HH1 (wt0 rfl) (x_load1 tv_2 rfl (c_oldM Nhq1 (hq1 0 _ rfl))) rfl rfl fun a_8 HE9 => ?_
  refine pl fun K_10 hK11 => ?_
  refine st_call HE9 (wt0 rfl) rfl rfl rfl en_129 rfl rfl (impl_powerOf _ _ a0 a1 _ (HH1.oldM h0) (by assumption) (by omega)) fun e w' hr => ?_
  obtain ⟨rfl, hbr21⟩ := hr
  have HH12 := HH1.on hbr21
  refine ⟨_, rfl, fun a_13 HE14 => hK11 _ _ ?_⟩
  refine pl_x HE14 HH12 (wt0 rfl) (x_assign rfl) rfl rfl fun a_15 HE16 => ?_
  refine wpList_nil ?_
  clear a_4 HE5 a_6 HE7 HH1 a_8 HE9 a_13 HE14 hK11 K_10
  refine nrm ?_
  refine wp_seq ?_
  refine rg ?_
  refine pl_x HE16 HH12 (wt0 rfl) (x_move rfl) rfl rfl fun a_17 HE18 => ?_
  refine pl_x HE18 HH12 (wt0 rfl) (x_geq rfl rfl) rfl rfl fun a_19 HE20 => ?_
  refine wpList_nil ?_
  clear a_15 HE16 a_17 HE18
  refine nrm ?_
  refine cnd_d HE20 rfl (fun hc22 => ?_) (fun hc22 => ?_)
  · refine rg ?_
    refine pl_x HE20 HH12 (wt0 rfl) (x_load1 tv_31 rfl (c_blk 0 rfl rfl)) rfl rfl fun a_21 HE22 => ?_
    refine pl_x HE22 HH12 (wt0 rfl) (x_move rfl) rfl rfl fun a_23 HE24 => ?_
    refine pl fun K_25 hK26 => ?_
    refine st_lit (m := 1) (cs := [.int .i64 ((powP a0 a1))]) (e := 2) HE24 HH12 (run_lit ts_31 HE24 (vs := [.int .i64 ((powP a0 a1))]) rfl rfl (by simp [Value.cells]) rfl (by decide)) (wt0 rfl) rfl rfl fun q23 a_27 w' HE28 HH29 => hK26 _ _ ?_
    refine pl fun K_30 hK31 => ?_
    refine st_app1F (powP a0 a1) HE28 HH29 ts_31 [2, 0, 1] (by decide) rfl (fun _ => (oI (by exact ⟨by omega, by omega⟩))) rfl rfl (by simp [Value.oneCell']) (by unfold maxLen; first | omega | (simp; done) | (simp; omega)) (by first | omega | (simp; done) | (simp; omega)) (wt0 rfl) rfl fun A24 c25 S26 a_32 w' HE33 HH34 => hK31 _ _ ?_
    refine pl fun K_35 hK36 => ?_
    refine st_store (vs := [.slice A24 ((a2 ++ [(powP a0 a1)]).length) c25]) 1 HE33 HH34 tv_31 rfl rfl rfl rfl rfl rfl (by simp [Value.oneCell']) (wt0 rfl) fun w' HH37 => hK36 _ _ ?_
    refine wpList_nil ?_
    clear a_19 HE20 a_21 HE22 a_23 HE24 HH12 K_25 hK26 a_27 HE28 HH29 K_30 hK31 HH34 hK36 K_35
    refine nrm ?_
    refine wp_seq ?_
    refine rg ?_
    refine pl_x HE33 HH37 (wt0 rfl) (x_load1 tv_31 rfl (c_blk 1 rfl rfl)) rfl rfl fun a_38 HE39 => ?_
    refine pl_x HE39 HH37 (wt0 rfl) (x_len Try.underlying31 rfl) rfl rfl fun a_40 HE41 => ?_
    refine pl_x HE41 HH37 (wt0 rfl) (x_lss rfl rfl) rfl rfl fun a_42 HE43 => ?_
    refine pl_x HE43 HH37 (wt0 rfl) (x_assign rfl) rfl rfl fun a_44 HE45 => ?_
    refine wpList_nil ?_
    clear a_32 HE33 a_38 HE39 a_40 HE41 a_42 HE43
    refine nrm ?_
    refine wp_ret ?_
    refine ret1 HE45 rfl (rv_tmp rfl) ?_
    have hF : (powSeen a0 a1 a2) = (decide (((a2 ++ [(powP a0 a1)]).length : Int) < 20), (a2 ++ [(powP a0 a1)])) := by
      unfold powSeen; grind
    exact ⟨_, _, _, by first | (rw [hF] <;> rfl) | rfl | (rw [hF]; simp only [Ending.returned.injEq, Value.slice.injEq, true_and, and_true]; first | omega | (simp; done)), by rw [hF]; exact HH37.sel [1, 0] (by decide) rfl⟩
  · refine wp_skip ?_
    refine nrm ?_
    refine wp_seq ?_
    refine rg ?_
    refine pl_x HE20 HH12 (wt0 rfl) (x_load1 tv_31 rfl (c_blk 0 rfl rfl)) rfl rfl fun a_46 HE47 => ?_
    refine pl_x HE47 HH12 (wt0 rfl) (x_len Try.underlying31 rfl) rfl rfl fun a_48 HE49 => ?_
    refine pl_x HE49 HH12 (wt0 rfl) (x_lss rfl rfl) rfl rfl fun a_50 HE51 => ?_
    refine pl_x HE51 HH12 (wt0 rfl) (x_assign rfl) rfl rfl fun a_52 HE53 => ?_
    refine wpList_nil ?_
    clear a_19 HE20 a_46 HE47 a_48 HE49 a_50 HE51
    refine nrm ?_
    refine wp_ret ?_
    refine ret1 HE53 rfl (rv_tmp rfl) ?_
    have hF : (powSeen a0 a1 a2) = (decide ((a2.length : Int) < 20), a2) := by
      unfold powSeen; grind
    exact ⟨_, _, _, by first | (rw [hF] <;> rfl) | rfl | (rw [hF]; simp only [Ending.returned.injEq, Value.slice.injEq, true_and, and_true]; first | omega | (simp; done)), by rw [hF]; exact HH12.sel [0, 1] (by decide) rfl⟩

set_option maxRecDepth 100000 in
set_option maxHeartbeats 4000000 in
theorem impl_runFractionsP (M : Nat → Prop) (A0 : Option Addr) (c0 : Nat) (a0 : (List tFraction)) (A1 : Option Addr) (c1 : Nat) (a1 : (List Int)) (a2 : Int) (p4 : Nat) (es4 : List Value) (a4 : Int) (p5 : Nat) (A5 : Option Addr) (c5 : Nat) (a5 : (List Int)) (S5 : Nat → Prop) (w : World) (HM : Held M w [rBlk p5 31 [.slice A5 a5.length c5], rVec eInt 2 S5 A5 c5 a5] w) (h0 : Sl eFraction w (Out M w) A0 c0 a0) (h1 : Sl eInt w (Out M w) A1 c1 a1) (h4 : eInt.R w (Out M w) es4 a4) (hq4 : ∀ j v, es4[j]? = some v → w.cell? ⟨p4, 0 + j, none⟩ = some v) (Nhq4 : ¬ M p4) (s0 : okFr a0) (hN : NatP a1) (s3 : a0.length ≤ 100) (s4 : 0 ≤ a2 ∧ a2 ≤ 20000) (hp : 2 ≤ a4 ∧ a4 ≤ 999999) (s5 : a5.length ≤ 1000) :
    Calls Try.prog 127 #[.slice A0 a0.length c0, .slice A1 a1.length c1, .int .i64 a2, .func (.func 128) #[] #[.pointer (some ⟨p4, 0, none⟩), .pointer (some ⟨p5, 0, none⟩)]] w fun e w' => ∃ (AR0' : Option Addr) (cR0' : Nat) (SR0' : Nat → Prop) (A5' : Option Addr) (c5' : Nat) (S5' : Nat → Prop), e = .returned (.tuple #[.slice AR0' (runFP a0 a1 a2 a4 a5).1.length cR0', .int .i64 (runFP a0 a1 a2 a4 a5).2.1, .bool (runFP a0 a1 a2 a4 a5).2.2.1, .int .i64 (runFP a0 a1 a2 a4 a5).2.2.2.1]) ∧ Held M w [rSo eInt SR0' AR0' cR0' ((runFP a0 a1 a2 a4 a5).1), rBlk p5 31 [.slice A5' (List.length ((runFP a0 a1 a2 a4 a5).2.2.2.2)) c5'], rVec eInt 2 S5' A5' c5' ((runFP a0 a1 a2 a4 a5).2.2.2.2)] w' := by
  have l0 := h0.len
  have l1 := h1.len
  have H4 := h4
  obtain ⟨rfl, iz4⟩ := h4
  have jz4 := iz4; unfold I64 at jz4
  have HH1 := HM
  have lv5 := (HH1.vecSl (i := 1) rfl).len
  have hN1 := hN.1
  have hN2 := hN.2.1
  refine enter (n := 46) Try.func127 rfl rfl rfl fun a_2 HE3 => ?_
  refine wp_seq ?_
  refine rg ?_
  refine pl_x HE3 HH1 (wt0 rfl) (x_assign rfl) rfl rfl fun a_4 HE5 => ?_
  refine pl_x HE5 HH1 (wt0 rfl) (x_assign rfl) rfl rfl fun a_6 HE7 => ?_
  refine pl_x HE7 HH1 (wt0 rfl) (x_assign rfl) rfl rfl fun a_8 HE9 => ?_
  refine pl_x HE9 HH1 (wt0 rfl) (x_assign rfl) rfl rfl fun a_10 HE11 => ?_
  refine wpList_nil ?_
  clear a_2 HE3 a_4 HE5 a_6 HE7 a_8 HE9
  refine nrm ?_
  refine wp_seq ?_
  refine rg ?_
  refine pl_x HE11 HH1 (wt0 rfl) (x_move rfl) rfl rfl fun a_12 HE13 => ?_
  refine pl fun K_14 hK15 => ?_
  refine st_call HE13 (wt0 rfl) rfl rfl rfl en_152 rfl rfl (Clone_Int64 _ _ a1 _ (HH1.oldM h1) (by omega)) fun e w' hr => ?_
  obtain ⟨Ar21_0, cr21_0, rfl, hor21_0, hbr21⟩ := hr
  obtain ⟨Sr21, HH16⟩ := HH1.newS hbr21 hor21_0
  refine ⟨_, rfl, fun a_17 HE18 => hK15 _ _ ?_⟩
  refine pl_x HE18 HH16 (wt0 rfl) (x_assign rfl) rfl rfl fun a_19 HE20 => ?_
  refine wpList_nil ?_
  clear a_10 HE11 HH1 a_12 HE13 a_17 HE18 hK15 K_14
  refine nrm ?_
  refine wp_seq ?_
  refine rg ?_
  refine pl_x HE20 HH16 (wt0 rfl) (x_assign rfl) rfl rfl fun a_21 HE22 => ?_
  refine wpList_nil ?_
  clear a_19 HE20
  refine nrm ?_
  refine wp_block ?_
  refine lp (fun m a w' => ∃ (k : Nat) (y : List Int) (l : List Int) (A_1 : Option Addr) (c_1 : Nat) (S_1 : Nat → Prop) (A_1005_0 : Option Addr) (c_1005_0 : Nat) (S_1005_0 : Nat → Prop), m = (a2 - (k : Int)).toNat ∧ Env 46 [(1, .slice A_1 (List.length y) c_1), (12, .int .i64 (k : Int)), (0, .slice A0 (a0.length) c0), (2, .int .i64 (a2)), (3, .func (.func 128) #[] #[.pointer (some ⟨p4, 0, none⟩), .pointer (some ⟨p5, 0, none⟩)])] a ∧ Held M w [rSo eInt S_1 A_1 c_1 y, rVec eInt 2 S_1005_0 A_1005_0 c_1005_0 l, rBlk p5 31 [.slice A_1005_0 (List.length l) c_1005_0]] w' ∧ ((k : Int) ≤ a2) ∧ (NatP y) ∧ (runFP a0 a1 a2 a4 a5 = runPw a0 a4 (a2 - k).toNat y k l) ∧ (l.length ≤ 1000 + k)) ((a2 - ((0) : Int)).toNat) ?_ ?_
  · exact ⟨0, a1, a5, Ar21_0, cr21_0, Sr21, A5, c5, S5, rfl, HE22.sub ⟨rfl, (lkI rfl (by first | rfl | omega | (simp []; done))), rfl, rfl, rfl, trivial⟩, (HH16.sel [0, 2, 1] (by decide) rfl), (by first | omega | assumption | (simp; done) | simp_all), (by exact hN), (by unfold runFP; simp), (by first | omega | assumption | (simp; done) | simp_all)⟩
  · rintro m a_23 w' ⟨k, y, l, A_1, c_1, S_1, A_1005_0, c_1005_0, S_1005_0, rfl, HE24, HH25, p22_0, p22_1, p22_2, p22_3⟩
    have hy := p22_1
    obtain ⟨hy1, hy2, hy3, hy4⟩ := hy
    have hpl := powSeen_len y a4 l
    refine wp_seq ?_
    refine wp_block ?_
    refine wp_seq ?_
    refine rg ?_
    refine pl_x HE24 HH25 (wt0 rfl) (x_move rfl) rfl rfl fun a_26 HE27 => ?_
    refine pl_x HE27 HH25 (wt0 rfl) (x_move rfl) rfl rfl fun a_28 HE29 => ?_
    refine pl fun K_30 hK31 => ?_
    refine st_call HE29 (wt0 rfl) rfl rfl rfl en_199 rfl rfl (impl_stepFractions _ _ a0 _ _ y _ (HH25.oldM h0) (HH25.sl (i := 0) rfl) (by first | assumption | exact hV.2) (by first | assumption | exact hP.1) (by omega) (by omega)) fun e w' hr => ?_
    obtain ⟨Ar23_0, cr23_0, Sr23_0, rfl, hbr23⟩ := hr
    have HH32 := HH25.app hbr23
    clear hbr23
    have HH33 : Held M w ([rIf (0 ≤ (stepFI a0 y).2) (rSo eInt Sr23_0 Ar23_0 cr23_0 ((stepFI a0 y).1)), rSo eInt S_1 A_1 c_1 y, rVec eInt 2 S_1005_0 A_1005_0 c_1005_0 l, rBlk p5 31 [.slice A_1005_0 ((List.length l)) c_1005_0]]) _ := HH32
    refine ⟨_, rfl, fun a_34 HE35 => hK31 _ _ ?_⟩
    refine pl_x HE35 HH33 (wt0 rfl) (x_move rfl) rfl rfl fun a_36 HE37 => ?_
    refine pl_x HE37 HH33 (wt0 rfl) (x_extract rfl rfl) rfl rfl fun a_38 HE39 => ?_
    refine pl_x HE39 HH33 (wt0 rfl) (x_extract rfl rfl) rfl rfl fun a_40 HE41 => ?_
    refine pl_x HE41 HH33 (wt0 rfl) (x_assign rfl) rfl rfl fun a_42 HE43 => ?_
    refine pl_x HE43 HH33 (wt0 rfl) (x_assign rfl) rfl rfl fun a_44 HE45 => ?_
    refine wpList_nil ?_
    clear a_21 HE22 HH16 a_23 HE24 a_26 HE27 HH25 HH32 a_28 HE29 a_34 HE35 a_36 HE37 a_38 HE39 a_40 HE41 a_42 HE43 hK31 K_30
    refine nrm ?_
    refine wp_seq ?_
    refine wp_seq ?_
    refine rg ?_
    refine pl_x HE45 HH33 (wt0 rfl) (x_move rfl) rfl rfl fun a_46 HE47 => ?_
    refine pl_x HE47 HH33 (wt0 rfl) (x_move rfl) rfl rfl fun a_48 HE49 => ?_
    refine pl fun K_50 hK51 => ?_
    have HH52 := HH33.sel [3, 2, 0, 1] (by decide) rfl
    have HH53 : Held M w ([rBlk p5 31 [.slice A_1005_0 ((List.length l)) c_1005_0], rVec eInt 2 S_1005_0 A_1005_0 c_1005_0 l] ++ [rIf (0 ≤ (stepFI a0 y).2) (rSo eInt Sr23_0 Ar23_0 cr23_0 ((stepFI a0 y).1)), rSo eInt S_1 A_1 c_1 y]) _ := HH52
    refine st_callD HE49 (wt0 rfl) rfl rfl rfl en_128 rfl rfl (impl_PowersSeen1 (Foot [rBlk p5 31 [.slice A_1005_0 ((List.length l)) c_1005_0], rVec eInt 2 S_1005_0 A_1005_0 c_1005_0 l]) _ _ y _ [.int .i64 (a4)] a4 _ _ _ l _ _ HH53.focus (sl_of_r (HH53.lendR (i := 1) rfl)) (HH53.lendOM H4) (c_oldNM Nhq4 hq4 _ HH53) (HH53.nfOM Nhq4 (hq4 0 _ rfl)) (by assumption) (by omega) (by omega)) fun e w' hr => ?_
    obtain ⟨Ar24_0, cr24_0, Sr24_0, rfl, hbr24⟩ := hr
    have HH54 := HH53.back hbr24
    clear hbr24
    have HH55 : Held M w ([rBlk p5 31 [.slice Ar24_0 ((List.length ((powSeen y a4 l).2))) cr24_0], rVec eInt 2 Sr24_0 Ar24_0 cr24_0 ((powSeen y a4 l).2)] ++ [rIf (0 ≤ (stepFI a0 y).2) (rSo eInt Sr23_0 Ar23_0 cr23_0 ((stepFI a0 y).1)), rSo eInt S_1 A_1 c_1 y]) _ := HH54
    refine ⟨_, rfl, fun a_56 HE57 => hK51 _ _ ?_⟩
    refine pl_x HE57 HH55 (wt0 rfl) (x_not rfl) rfl rfl fun a_58 HE59 => ?_
    refine pl_x HE59 HH55 (wt0 rfl) (x_move rfl) rfl rfl fun a_60 HE61 => ?_
    rcases Bool.eq_false_or_eq_true ((powSeen y a4 l).1) with hc25 | hc25
    · refine pl_x HE61 HH55 (wtT HE61 rfl rfl rfl (not_f hc25)) (x_move rfl) rfl rfl fun a_62 HE63 => ?_
      refine pl_x HE63 HH55 (wtT HE63 rfl rfl rfl (not_f hc25)) (x_lss rfl rfl) rfl rfl fun a_64 HE65 => ?_
      refine pl_x HE65 HH55 (wt0 rfl) (x_pickF rfl (not_f hc25) rfl) rfl rfl fun a_66 HE67 => ?_
      refine pl_x HE67 HH55 (wt0 rfl) (x_move rfl) rfl rfl fun a_68 HE69 => ?_
      by_cases hc26 : (stepFI a0 y).2 < 0
      · refine pl_no HE69 (wtF HE69 rfl rfl rfl (decide_eq_true hc26)) rfl rfl fun a_70 HE71 => ?_
        refine pl_no HE71 (wtF HE71 rfl rfl rfl (decide_eq_true hc26)) rfl rfl fun a_72 HE73 => ?_
        refine pl_no HE73 (wtF HE73 rfl rfl rfl (decide_eq_true hc26)) rfl rfl fun a_74 HE75 => ?_
        refine pl_x HE75 HH55 (wt0 rfl) (x_pickT rfl (decide_eq_true hc26) rfl) rfl rfl fun a_76 HE77 => ?_
        refine wpList_nil ?_
        clear a_44 HE45 a_46 HE47 HH33 HH52 HH53 HH54 a_48 HE49 a_56 HE57 a_58 HE59 a_60 HE61 a_62 HE63 a_64 HE65 a_66 HE67 a_68 HE69 a_70 HE71 a_72 HE73 a_74 HE75 hK51 K_50
        refine nrm ?_
        refine cndT HE77 rfl rfl ?_
        refine wp_seq ?_
        refine rg ?_
        refine pl_x HE77 HH55 (wt0 rfl) (x_move rfl) rfl rfl fun a_78 HE79 => ?_
        refine pl_x HE79 HH55 (wt0 rfl) (x_move rfl) rfl rfl fun a_80 HE81 => ?_
        refine pl_x HE81 HH55 (wt0 rfl) (x_move rfl) rfl rfl fun a_82 HE83 => ?_
        refine pl_x HE83 HH55 (wt0 rfl) (x_lss rfl rfl) rfl rfl fun a_84 HE85 => ?_
        refine pl_x HE85 HH55 (wt0 rfl) (x_assign rfl) rfl rfl fun a_86 HE87 => ?_
        refine pl_x HE87 HH55 (wt0 rfl) (x_assign rfl) rfl rfl fun a_88 HE89 => ?_
        refine pl_x HE89 HH55 (wt0 rfl) (x_assign rfl) rfl rfl fun a_90 HE91 => ?_
        refine pl_x HE91 HH55 (wt0 rfl) (x_assign rfl) rfl rfl fun a_92 HE93 => ?_
        refine wpList_nil ?_
        clear a_76 HE77 a_78 HE79 a_80 HE81 a_82 HE83 a_84 HE85 a_86 HE87 a_88 HE89 a_90 HE91
        refine nrm ?_
        refine wp_ret ?_
        refine (thn_ret (blk_ret (thn_ret (thn_ret (blk_ret ?_)))))
        refine ret4 HE93 rfl (rv_tmp rfl) (rv_tmp rfl) (rv_tmp rfl) (rv_tmp rfl) ?_
        have hF : (runFP a0 a1 a2 a4 a5) = (y, (k : Int), decide ((stepFI a0 y).2 < 0), 0, (powSeen y a4 l).2) := by
          rw [p22_2, runPw_eq]; grind
        exact ⟨_, _, _, _, _, _, by first | (rw [hF] <;> rfl) | rfl | (rw [hF]; simp only [Ending.returned.injEq, Value.slice.injEq, true_and, and_true]; first | omega | (simp; done)), by rw [hF]; exact HH55.sel [3, 0, 1] (by decide) rfl⟩
      · refine pl_x HE69 HH55 (wtT HE69 rfl rfl rfl (decide_eq_false hc26)) (x_move rfl) rfl rfl fun a_94 HE95 => ?_
        refine pl_x HE95 HH55 (wtT HE95 rfl rfl rfl (decide_eq_false hc26)) (x_move rfl) rfl rfl fun a_96 HE97 => ?_
        refine pl_x HE97 HH55 (wtT HE97 rfl rfl rfl (decide_eq_false hc26)) (x_eql rfl rfl) rfl rfl fun a_98 HE99 => ?_
        refine pl_x HE99 HH55 (wt0 rfl) (x_pickF rfl (decide_eq_false hc26) rfl) rfl rfl fun a_100 HE101 => ?_
        refine wpList_nil ?_
        clear a_44 HE45 a_46 HE47 HH33 HH52 HH53 HH54 a_48 HE49 a_56 HE57 a_58 HE59 a_60 HE61 a_62 HE63 a_64 HE65 a_66 HE67 a_68 HE69 a_94 HE95 a_96 HE97 a_98 HE99 hK51 K_50
        refine nrm ?_
        refine cnd_e HE101 rfl (fun hc27 => ?_) (fun hc27 => ?_)
        · refine wp_seq ?_
          refine rg ?_
          refine pl_x HE101 HH55 (wt0 rfl) (x_move rfl) rfl rfl fun a_102 HE103 => ?_
          refine pl_x HE103 HH55 (wt0 rfl) (x_move rfl) rfl rfl fun a_104 HE105 => ?_
          refine pl_x HE105 HH55 (wt0 rfl) (x_move rfl) rfl rfl fun a_106 HE107 => ?_
          refine pl_x HE107 HH55 (wt0 rfl) (x_lss rfl rfl) rfl rfl fun a_108 HE109 => ?_
          refine pl_x HE109 HH55 (wt0 rfl) (x_assign rfl) rfl rfl fun a_110 HE111 => ?_
          refine pl_x HE111 HH55 (wt0 rfl) (x_assign rfl) rfl rfl fun a_112 HE113 => ?_
          refine pl_x HE113 HH55 (wt0 rfl) (x_assign rfl) rfl rfl fun a_114 HE115 => ?_
          refine pl_x HE115 HH55 (wt0 rfl) (x_assign rfl) rfl rfl fun a_116 HE117 => ?_
          refine wpList_nil ?_
          clear a_100 HE101 a_102 HE103 a_104 HE105 a_106 HE107 a_108 HE109 a_110 HE111 a_112 HE113 a_114 HE115
          refine nrm ?_
          refine wp_ret ?_
          refine (thn_ret (blk_ret (thn_ret (thn_ret (blk_ret ?_)))))
          refine ret4 HE117 rfl (rv_tmp rfl) (rv_tmp rfl) (rv_tmp rfl) (rv_tmp rfl) ?_
          have hF : (runFP a0 a1 a2 a4 a5) = (y, (k : Int), decide ((stepFI a0 y).2 < 0), 0, (powSeen y a4 l).2) := by
            rw [p22_2, runPw_eq]; grind
          exact ⟨_, _, _, _, _, _, by first | (rw [hF] <;> rfl) | rfl | (rw [hF]; simp only [Ending.returned.injEq, Value.slice.injEq, true_and, and_true]; first | omega | (simp; done)), by rw [hF]; exact HH55.sel [3, 0, 1] (by decide) rfl⟩
        · refine wp_skip ?_
          refine nrm ?_
          refine wp_seq ?_
          refine wp_seq ?_
          refine rg ?_
          refine pl_x HE101 HH55 (wt0 rfl) (x_move rfl) rfl rfl fun a_118 HE119 => ?_
          refine pl_x HE119 HH55 (wt0 rfl) (x_len Try.underlying31 rfl) rfl rfl fun a_120 HE121 => ?_
          refine pl_x HE121 HH55 (wt0 rfl) (x_gtr rfl rfl) rfl rfl fun a_122 HE123 => ?_
          refine wpList_nil ?_
          clear a_100 HE101 a_118 HE119 a_120 HE121
          refine nrm ?_
          refine cnd_d HE123 rfl (fun hc28 => ?_) (fun hc28 => ?_)
          · refine wp_seq ?_
            refine rg ?_
            refine pl_x HE123 HH55 (wt0 rfl) (x_assign rfl) rfl rfl fun a_124 HE125 => ?_
            refine pl_x HE125 HH55 (wt0 rfl) (x_assign rfl) rfl rfl fun a_126 HE127 => ?_
            refine pl_x HE127 HH55 (wt0 rfl) (x_assign rfl) rfl rfl fun a_128 HE129 => ?_
            refine pl_x HE129 HH55 (wt0 rfl) (x_assign rfl) rfl rfl fun a_130 HE131 => ?_
            refine wpList_nil ?_
            clear a_122 HE123 a_124 HE125 a_126 HE127 a_128 HE129
            refine nrm ?_
            refine wp_ret ?_
            refine (thn_ret (blk_ret (thn_ret (thn_ret (blk_ret ?_)))))
            refine ret4 HE131 rfl (rv_tmp rfl) (rv_tmp rfl) (rv_tmp rfl) (rv_tmp rfl) ?_
            have HH132 := HH55.vecNil eInt 2
            have HH133 := HH132.vecSo
            have hF : (runFP a0 a1 a2 a4 a5) = ([], 0, false, 5, (powSeen y a4 l).2) := by
              rw [p22_2, runPw_eq]; grind
            exact ⟨_, _, _, _, _, _, by first | (rw [hF] <;> rfl) | rfl | (rw [hF]; simp only [Ending.returned.injEq, Value.slice.injEq, true_and, and_true]; first | omega | (simp; done)), by rw [hF]; exact HH133.sel [0, 1, 2] (by decide) rfl⟩
          · refine wp_skip ?_
            refine nrm ?_
            refine rg ?_
            refine pl_x HE123 HH55 (wt0 rfl) (x_move rfl) rfl rfl fun a_134 HE135 => ?_
            refine pl_x HE135 HH55 (wt0 rfl) (x_assign rfl) rfl rfl fun a_136 HE137 => ?_
            refine wpList_nil ?_
            clear a_122 HE123 a_134 HE135
            refine blk_n ?_
            refine nrm ?_
            refine rg ?_
            refine pl_x HE137 HH55 (wt0 rfl) (x_move rfl) rfl rfl fun a_138 HE139 => ?_
            refine pl_x HE139 HH55 (wt0 rfl) (x_add rfl rfl (by exact ⟨by omega, by omega⟩)) rfl rfl fun a_140 HE141 => ?_
            refine pl_x HE141 HH55 (wt0 rfl) (x_assign rfl) rfl rfl fun a_142 HE143 => ?_
            refine wpList_nil ?_
            clear a_136 HE137 a_138 HE139 a_140 HE141
            have HH144 := HH55.sel [2, 0, 1, 3] (by decide) rfl
            have HH145 := HH144.ofIf (by first | assumption | omega | (simp [p22_0, p22_1, p22_2, p22_3, hc25, hc26, hc27, hc28]; done))
            have E29 : ((stepFI a0 y).1) = (stepFI a0 y).1 := by
              first | rfl | simp
            have E30 : ((powSeen y a4 l).2) = (powSeen y a4 l).2 := by
              first | rfl | simp
            exact nrm ⟨(a2 - ((k + 1) : Int)).toNat, (by omega), k + 1, (stepFI a0 y).1, (powSeen y a4 l).2, Ar23_0, cr23_0, Sr23_0, Ar24_0, cr24_0, Sr24_0, rfl, HE143.sub ⟨(by rw [E29]; rfl), (lkI rfl (by first | rfl | omega | (simp [p22_0, p22_1, p22_2, p22_3, hc25, hc26, hc27, hc28]; done))), rfl, rfl, rfl, trivial⟩, ((HH145.sel [0, 2, 1] (by decide) rfl).to (by first | rfl | (rw [E29, E30]; done) | (rw [E29, E30]; rfl) | (simp only [E29, E30]; done) | (simp only [E29, E30]; rfl))), (by first | omega | assumption | (simp; done) | simp_all), (by exact NatP_step s0 p22_1 (by omega) (by omega)), (by rw [p22_2, runPw_step (g := (a2 - ((k + 1 : Nat) : Int)).toNat) (by omega) (by assumption) (by omega) (by omega)]; rfl), (by omega)⟩
    · refine pl_no HE61 (wtF HE61 rfl rfl rfl (not_t hc25)) rfl rfl fun a_146 HE147 => ?_
      refine pl_no HE147 (wtF HE147 rfl rfl rfl (not_t hc25)) rfl rfl fun a_148 HE149 => ?_
      refine pl_x HE149 HH55 (wt0 rfl) (x_pickT rfl (not_t hc25) rfl) rfl rfl fun a_150 HE151 => ?_
      refine pl_x HE151 HH55 (wt0 rfl) (x_move rfl) rfl rfl fun a_152 HE153 => ?_
      refine pl_no HE153 (wtF HE153 rfl rfl rfl rfl) rfl rfl fun a_154 HE155 => ?_
      refine pl_no HE155 (wtF HE155 rfl rfl rfl rfl) rfl rfl fun a_156 HE157 => ?_
      refine pl_no HE157 (wtF HE157 rfl rfl rfl rfl) rfl rfl fun a_158 HE159 => ?_
      refine pl_x HE159 HH55 (wt0 rfl) (x_pickT rfl rfl rfl) rfl rfl fun a_160 HE161 => ?_
      refine wpList_nil ?_
      clear a_44 HE45 a_46 HE47 HH33 HH52 HH53 HH54 a_48 HE49 a_56 HE57 a_58 HE59 a_60 HE61 a_146 HE147 a_148 HE149 a_150 HE151 a_152 HE153 a_154 HE155 a_156 HE157 a_158 HE159 hK51 K_50
      refine nrm ?_
      refine cndT HE161 rfl rfl ?_
      refine wp_seq ?_
      refine rg ?_
      refine pl_x HE161 HH55 (wt0 rfl) (x_move rfl) rfl rfl fun a_162 HE163 => ?_
      refine pl_x HE163 HH55 (wt0 rfl) (x_move rfl) rfl rfl fun a_164 HE165 => ?_
      refine pl_x HE165 HH55 (wt0 rfl) (x_move rfl) rfl rfl fun a_166 HE167 => ?_
      refine pl_x HE167 HH55 (wt0 rfl) (x_lss rfl rfl) rfl rfl fun a_168 HE169 => ?_
      refine pl_x HE169 HH55 (wt0 rfl) (x_assign rfl) rfl rfl fun a_170 HE171 => ?_
      refine pl_x HE171 HH55 (wt0 rfl) (x_assign rfl) rfl rfl fun a_172 HE173 => ?_
      refine pl_x HE173 HH55 (wt0 rfl) (x_assign rfl) rfl rfl fun a_174 HE175 => ?_
      refine pl_x HE175 HH55 (wt0 rfl) (x_assign rfl) rfl rfl fun a_176 HE177 => ?_
      refine wpList_nil ?_
      clear a_160 HE161 a_162 HE163 a_164 HE165 a_166 HE167 a_168 HE169 a_170 HE171 a_172 HE173 a_174 HE175
      refine nrm ?_
      refine wp_ret ?_
      refine (thn_ret (blk_ret (thn_ret (thn_ret (blk_ret ?_)))))
      refine ret4 HE177 rfl (rv_tmp rfl) (rv_tmp rfl) (rv_tmp rfl) (rv_tmp rfl) ?_
      have hF : (runFP a0 a1 a2 a4 a5) = (y, (k : Int), decide ((stepFI a0 y).2 < 0), 0, (powSeen y a4 l).2) := by
        rw [p22_2, runPw_eq]; grind
      exact ⟨_, _, _, _, _, _, by first | (rw [hF] <;> rfl) | rfl | (rw [hF]; simp only [Ending.returned.injEq, Value.slice.injEq, true_and, and_true]; first | omega | (simp; done)), by rw [hF]; exact HH55.sel [3, 0, 1] (by decide) rfl⟩

set_option maxRecDepth 100000 in
set_option maxHeartbeats 4000000 in
theorem impl_PowersSeen (A0 : Option Addr) (c0 : Nat) (a0 : (List tFraction)) (A1 : Option Addr) (c1 : Nat) (a1 : (List Int)) (a2 : Int) (a3 : Int) (w : World) (h0 : Sl eFraction w (Old w) A0 c0 a0) (h1 : Sl eInt w (Old w) A1 c1 a1) (q0 : -9223372036854775808 ≤ a2 ∧ a2 ≤ 9223372036854775807) :
    Calls Try.prog 49 #[.slice A0 a0.length c0, .slice A1 a1.length c1, .int .i64 a2, .int .i64 a3] w fun e w' => ∃ (A0' : Option Addr) (c0' : Nat), e = .returned (.tuple #[.slice A0' (powersSeen a0 a1 a2 a3).1.length c0', .int .i64 (powersSeen a0 a1 a2 a3).2]) ∧ So eInt w' (Fr w w') A0' c0' (powersSeen a0 a1 a2 a3).1 ∧ Below w.heap.size w w' := by
  have l0 := h0.len
  have l1 := h1.len
  have HH1 := Held.start Nob w
  refine enter (n := 50) Try.func49 rfl rfl rfl fun a_2 HE3 => ?_
  refine wp_seq ?_
  refine rg ?_
  refine pl fun K_4 hK5 => ?_
  refine st_box (cs := [.int .i64 (a2)]) HE3 HH1 rfl rfl (wt0 rfl) rfl fun q21 a_6 w' HE7 HH8 => hK5 _ _ ?_
  refine pl_x HE7 HH8 (wt0 rfl) (x_assign rfl) rfl rfl fun a_9 HE10 => ?_
  refine pl_x HE10 HH8 (wt0 rfl) (x_assign rfl) rfl rfl fun a_11 HE12 => ?_
  refine wpList_nil ?_
  clear a_2 HE3 HH1 a_6 HE7 a_9 HE10 hK5 K_4
  refine nrm ?_
  refine wp_seq ?_
  refine wp_seq ?_
  refine rg ?_
  refine pl_x HE12 HH8 (wt0 rfl) (x_move rfl) rfl rfl fun a_13 HE14 => ?_
  refine pl fun K_15 hK16 => ?_
  refine st_call HE14 (wt0 rfl) rfl rfl rfl en_123 rfl rfl (impl_ValidFractions _ _ a0 _ (HH8.old h0)) fun e w' hr => ?_
  obtain ⟨rfl, hbr22⟩ := hr
  have HH17 := HH8.on hbr22
  refine ⟨_, rfl, fun a_18 HE19 => hK16 _ _ ?_⟩
  refine pl_x HE19 HH17 (wt0 rfl) (x_not rfl) rfl rfl fun a_20 HE21 => ?_
  refine pl_x HE21 HH17 (wt0 rfl) (x_move rfl) rfl rfl fun a_22 HE23 => ?_
  rcases Bool.eq_false_or_eq_true ((validFrac a0)) with hc23 | hc23
  · have hV := validFrac_facts hc23
    refine pl_x HE23 HH17 (wtT HE23 rfl rfl rfl (not_f hc23)) (x_move rfl) rfl rfl fun a_24 HE25 => ?_
    refine pl fun K_26 hK27 => ?_
    refine st_call HE25 (wtT HE25 rfl rfl rfl (not_f hc23)) rfl rfl rfl en_124 rfl rfl (impl_isPositive _ _ a1 _ (HH17.old h1)) fun e w' hr => ?_
    obtain ⟨rfl, rfl⟩ := hr
    refine ⟨_, rfl, fun a_28 HE29 => hK27 _ _ ?_⟩
    refine pl_x HE29 HH17 (wtT HE29 rfl rfl rfl (not_f hc23)) (x_not rfl) rfl rfl fun a_30 HE31 => ?_
    refine pl_x HE31 HH17 (wt0 rfl) (x_pickF rfl (not_f hc23) rfl) rfl rfl fun a_32 HE33 => ?_
    refine wpList_nil ?_
    clear a_11 HE12 HH8 a_13 HE14 a_18 HE19 a_20 HE21 a_22 HE23 K_15 hK16 a_24 HE25 a_28 HE29 a_30 HE31 hK27 K_26
    refine nrm ?_
    refine cnd_nb HE33 rfl (fun hc25 => ?_) (fun hc25 => ?_)
    · refine wp_seq ?_
      refine rg ?_
      refine pl_x HE33 HH17 (wt0 rfl) (x_assign rfl) rfl rfl fun a_34 HE35 => ?_
      refine pl_x HE35 HH17 (wt0 rfl) (x_assign rfl) rfl rfl fun a_36 HE37 => ?_
      refine wpList_nil ?_
      clear a_32 HE33 a_34 HE35
      refine nrm ?_
      refine wp_ret ?_
      refine (thn_ret ?_)
      refine ret2 HE37 rfl (rv_tmp rfl) (rv_tmp rfl) ?_
      have hF : (powersSeen a0 a1 a2 a3) = ([], 1) := by
        grind [powersSeen]
      exact ⟨none, 0, by first | (rw [hF] <;> rfl) | rfl | (rw [hF]; simp only [Ending.returned.injEq, Value.slice.injEq, true_and, and_true]; first | omega | (simp; done)), by rw [hF]; exact (So.nil (Nat.zero_le _)), HH17.below⟩
    · have hP := isPos_facts hc25
      refine wp_skip ?_
      refine nrm ?_
      refine wp_seq ?_
      refine wp_seq ?_
      refine rg ?_
      refine pl_x HE33 HH17 (wt0 rfl) (x_load1 tv_2 rfl (c_blk 0 rfl rfl)) rfl rfl fun a_38 HE39 => ?_
      refine pl_x HE39 HH17 (wt0 rfl) (x_gtr rfl rfl) rfl rfl fun a_40 HE41 => ?_
      refine pl_x HE41 HH17 (wt0 rfl) (x_move rfl) rfl rfl fun a_42 HE43 => ?_
      by_cases hc26 : 999999 < a2
      · refine pl_no HE43 (wtF HE43 rfl rfl rfl (decide_eq_true hc26)) rfl rfl fun a_44 HE45 => ?_
        refine pl_no HE45 (wtF HE45 rfl rfl rfl (decide_eq_true hc26)) rfl rfl fun a_46 HE47 => ?_
        refine pl_no HE47 (wtF HE47 rfl rfl rfl (decide_eq_true hc26)) rfl rfl fun a_48 HE49 => ?_
        refine pl_x HE49 HH17 (wt0 rfl) (x_pickT rfl (decide_eq_true hc26) rfl) rfl rfl fun a_50 HE51 => ?_
        refine pl_x HE51 HH17 (wt0 rfl) (x_move rfl) rfl rfl fun a_52 HE53 => ?_
        refine pl_no HE53 (wtF HE53 rfl rfl rfl rfl) rfl rfl fun a_54 HE55 => ?_
        refine pl_no HE55 (wtF HE55 rfl rfl rfl rfl) rfl rfl fun a_56 HE57 => ?_
        refine pl_no HE57 (wtF HE57 rfl rfl rfl rfl) rfl rfl fun a_58 HE59 => ?_
        refine pl_x HE59 HH17 (wt0 rfl) (x_pickT rfl rfl rfl) rfl rfl fun a_60 HE61 => ?_
        refine wpList_nil ?_
        clear a_32 HE33 a_38 HE39 a_40 HE41 a_42 HE43 a_44 HE45 a_46 HE47 a_48 HE49 a_50 HE51 a_52 HE53 a_54 HE55 a_56 HE57 a_58 HE59
        refine nrm ?_
        refine cndT HE61 rfl rfl ?_
        refine wp_seq ?_
        refine rg ?_
        refine pl_x HE61 HH17 (wt0 rfl) (x_assign rfl) rfl rfl fun a_62 HE63 => ?_
        refine pl_x HE63 HH17 (wt0 rfl) (x_assign rfl) rfl rfl fun a_64 HE65 => ?_
        refine wpList_nil ?_
        clear a_60 HE61 a_62 HE63
        refine nrm ?_
        refine wp_ret ?_
        refine (thn_ret ?_)
        refine ret2 HE65 rfl (rv_tmp rfl) (rv_tmp rfl) ?_
        have hF : (powersSeen a0 a1 a2 a3) = ([], 2) := by
          grind [powersSeen]
        exact ⟨none, 0, by first | (rw [hF] <;> rfl) | rfl | (rw [hF]; simp only [Ending.returned.injEq, Value.slice.injEq, true_and, and_true]; first | omega | (simp; done)), by rw [hF]; exact (So.nil (Nat.zero_le _)), HH17.below⟩
      · refine pl_x HE43 HH17 (wtT HE43 rfl rfl rfl (decide_eq_false hc26)) (x_load1 tv_2 rfl (c_blk 0 rfl rfl)) rfl rfl fun a_66 HE67 => ?_
        refine pl fun K_68 hK69 => ?_
        refine st_call HE67 (wtT HE67 rfl rfl rfl (decide_eq_false hc26)) rfl rfl rfl en_125 rfl rfl (impl_isPrime a2 _ (by omega)) fun e w' hr => ?_
        obtain ⟨rfl, hbr27⟩ := hr
        have HH70 := HH17.on hbr27
        refine ⟨_, rfl, fun a_71 HE72 => hK69 _ _ ?_⟩
        refine pl_x HE72 HH70 (wtT HE72 rfl rfl rfl (decide_eq_false hc26)) (x_not rfl) rfl rfl fun a_73 HE74 => ?_
        refine pl_x HE74 HH70 (wt0 rfl) (x_pickF rfl (decide_eq_false hc26) rfl) rfl rfl fun a_75 HE76 => ?_
        refine pl_x HE76 HH70 (wt0 rfl) (x_move rfl) rfl rfl fun a_77 HE78 => ?_
        rcases Bool.eq_false_or_eq_true ((primeB a2)) with hc28 | hc28
        · have hp2 : 2 ≤ a2 := by unfold primeB at hc28; simp at hc28; omega
          refine pl_x HE78 HH70 (wtT HE78 rfl rfl rfl (not_f hc28)) (x_move rfl) rfl rfl fun a_79 HE80 => ?_
          refine pl fun K_81 hK82 => ?_
          refine st_call HE80 (wtT HE80 rfl rfl rfl (not_f hc28)) rfl rfl rfl en_126 rfl rfl (impl_budgetOk a3 _ ) fun e w' hr => ?_
          obtain ⟨rfl, rfl⟩ := hr
          refine ⟨_, rfl, fun a_83 HE84 => hK82 _ _ ?_⟩
          refine pl_x HE84 HH70 (wtT HE84 rfl rfl rfl (not_f hc28)) (x_not rfl) rfl rfl fun a_85 HE86 => ?_
          refine pl_x HE86 HH70 (wt0 rfl) (x_pickF rfl (not_f hc28) rfl) rfl rfl fun a_87 HE88 => ?_
          refine wpList_nil ?_
          clear a_32 HE33 a_38 HE39 a_40 HE41 a_42 HE43 HH17 a_66 HE67 a_71 HE72 a_73 HE74 a_75 HE76 a_77 HE78 K_68 hK69 a_79 HE80 a_83 HE84 a_85 HE86 hK82 K_81
          refine nrm ?_
          refine cnd_nb HE88 rfl (fun hc30 => ?_) (fun hc30 => ?_)
          · refine wp_seq ?_
            refine rg ?_
            refine pl_x HE88 HH70 (wt0 rfl) (x_assign rfl) rfl rfl fun a_89 HE90 => ?_
            refine pl_x HE90 HH70 (wt0 rfl) (x_assign rfl) rfl rfl fun a_91 HE92 => ?_
            refine wpList_nil ?_
            clear a_87 HE88 a_89 HE90
            refine nrm ?_
            refine wp_ret ?_
            refine (thn_ret ?_)
            refine ret2 HE92 rfl (rv_tmp rfl) (rv_tmp rfl) ?_
            have hF : (powersSeen a0 a1 a2 a3) = ([], 2) := by
              grind [powersSeen]
            exact ⟨none, 0, by first | (rw [hF] <;> rfl) | rfl | (rw [hF]; simp only [Ending.returned.injEq, Value.slice.injEq, true_and, and_true]; first | omega | (simp; done)), by rw [hF]; exact (So.nil (Nat.zero_le _)), HH70.below⟩
          · have hBu := budgetB_le hc30
            refine wp_skip ?_
            refine nrm ?_
            refine wp_seq ?_
            refine rg ?_
            refine pl fun K_93 hK94 => ?_
            refine st_lit (m := 0) (cs := []) (e := 2) HE88 HH70 (run_lit ts_31 HE88 (vs := []) rfl rfl (by simp [Value.cells]) rfl (by decide)) (wt0 rfl) rfl rfl fun q31 a_95 w' HE96 HH97 => hK94 _ _ ?_
            refine pl fun K_98 hK99 => ?_
            refine st_alloc HE96 HH97 tv_31 (wt0 rfl) rfl fun q32 a_100 w' HE101 HH102 => hK99 _ _ ?_
            refine pl fun K_103 hK104 => ?_
            refine st_store (vs := [.slice (some ⟨q31, 0, none⟩) (0) 0]) 0 HE101 HH102 tv_31 rfl rfl rfl rfl rfl rfl (by simp [Value.oneCell']) (wt0 rfl) fun w' HH105 => hK104 _ _ ?_
            refine wpList_nil ?_
            clear a_87 HE88 HH70 K_93 hK94 a_95 HE96 HH97 K_98 hK99 HH102 hK104 K_103
            refine nrm ?_
            refine wp_seq ?_
            refine rg ?_
            refine pl_x HE101 HH105 (wt0 rfl) (x_move rfl) rfl rfl fun a_106 HE107 => ?_
            refine pl_x HE107 HH105 (wt0 rfl) (x_move rfl) rfl rfl fun a_108 HE109 => ?_
            refine pl_x HE109 HH105 (wt0 rfl) (x_move rfl) rfl rfl fun a_110 HE111 => ?_
            refine pl_x HE111 HH105 (wt0 rfl) (x_makeFunc rfl rfl) rfl rfl fun a_112 HE113 => ?_
            refine pl fun K_114 hK115 => ?_
            have HH116 := HH105.sel [1, 0, 2] (by decide) rfl
            have HH117 := Held.vecFlat (E := eInt) (xs := []) (css := []) HH116 rfl (Nat.zero_le _) (fun i x hx => by simp at hx)
            have HH118 := HH117.sel [1, 0, 2] (by decide) rfl
            have HH119 : Held Nob w ([rBlk q32 31 [.slice (some ⟨q31, 0, none⟩) (0) 0], rVec eInt 2 (fun b => b = q31) (some ⟨q31, 0, none⟩) (List.length (α := Int) []) ([] : List Int)] ++ [rBlk q21 2 [.int .i64 (a2)]]) _ := HH118
            refine st_call HE113 (wt0 rfl) rfl rfl rfl en_127 rfl rfl (impl_runFractionsP (Foot [rBlk q32 31 [.slice (some ⟨q31, 0, none⟩) (0) 0], rVec eInt 2 (fun b => b = q31) (some ⟨q31, 0, none⟩) (List.length (α := Int) []) ([] : List Int)]) _ _ a0 _ _ a1 a3 _ [.int .i64 (a2)] a2 _ _ _ ([] : List Int) _ _ HH119.focus (HH119.lend h0) (HH119.lend h1) ⟨rfl, by exact ⟨by omega, by omega⟩⟩ (c_blkN 2 rfl _ HH119) (HH119.nfB (i := 0) rfl) (by exact hV.2) (by exact isPos_NatP ‹_›) (by omega) (by omega) (by omega) (by first | omega | (simp; done))) fun e w' hr => ?_
            obtain ⟨Ar33_90, cr33_90, Sr33_90, Ar33_0, cr33_0, Sr33_0, rfl, hbr33⟩ := hr
            have HH120 := HH119.back hbr33
            clear hbr33
            have HH121 : Held Nob w ([rSo eInt Sr33_90 Ar33_90 cr33_90 ((runFP a0 a1 a3 a2 ([] : List Int)).1), rBlk q32 31 [.slice Ar33_0 ((List.length ((runFP a0 a1 a3 a2 ([] : List Int)).2.2.2.2))) cr33_0], rVec eInt 2 Sr33_0 Ar33_0 cr33_0 ((runFP a0 a1 a3 a2 ([] : List Int)).2.2.2.2)] ++ [rBlk q21 2 [.int .i64 (a2)]]) _ := HH120
            refine ⟨_, rfl, fun a_122 HE123 => hK115 _ _ ?_⟩
            refine pl_x HE123 HH121 (wt0 rfl) (x_move rfl) rfl rfl fun a_124 HE125 => ?_
            refine pl_x HE125 HH121 (wt0 rfl) (x_extract rfl rfl) rfl rfl fun a_126 HE127 => ?_
            refine pl_x HE127 HH121 (wt0 rfl) (x_extract rfl rfl) rfl rfl fun a_128 HE129 => ?_
            refine pl_x HE129 HH121 (wt0 rfl) (x_extract rfl rfl) rfl rfl fun a_130 HE131 => ?_
            refine pl_x HE131 HH121 (wt0 rfl) (x_extract rfl rfl) rfl rfl fun a_132 HE133 => ?_
            refine pl_x HE133 HH121 (wt0 rfl) (x_assign rfl) rfl rfl fun a_134 HE135 => ?_
            refine pl_x HE135 HH121 (wt0 rfl) (x_assign rfl) rfl rfl fun a_136 HE137 => ?_
            refine pl_x HE137 HH121 (wt0 rfl) (x_assign rfl) rfl rfl fun a_138 HE139 => ?_
            refine pl_x HE139 HH121 (wt0 rfl) (x_assign rfl) rfl rfl fun a_140 HE141 => ?_
            refine wpList_nil ?_
            clear a_100 HE101 a_106 HE107 a_108 HE109 a_110 HE111 HH105 HH116 HH117 HH118 HH119 HH120 a_112 HE113 a_122 HE123 a_124 HE125 a_126 HE127 a_128 HE129 a_130 HE131 a_132 HE133 a_134 HE135 a_136 HE137 a_138 HE139 hK115 K_114
            refine nrm ?_
            refine wp_seq ?_
            refine wp_seq ?_
            refine rg ?_
            refine pl_x HE141 HH121 (wt0 rfl) (x_move rfl) rfl rfl fun a_142 HE143 => ?_
            refine pl_x HE143 HH121 (wt0 rfl) (x_neq rfl rfl) rfl rfl fun a_144 HE145 => ?_
            refine wpList_nil ?_
            clear a_140 HE141 a_142 HE143
            refine nrm ?_
            refine cnd_ne HE145 rfl (fun hc34 => ?_) (fun hc34 => ?_)
            · refine wp_seq ?_
              refine rg ?_
              refine pl_x HE145 HH121 (wt0 rfl) (x_move rfl) rfl rfl fun a_146 HE147 => ?_
              refine pl_x HE147 HH121 (wt0 rfl) (x_assign rfl) rfl rfl fun a_148 HE149 => ?_
              refine pl_x HE149 HH121 (wt0 rfl) (x_assign rfl) rfl rfl fun a_150 HE151 => ?_
              refine wpList_nil ?_
              clear a_144 HE145 a_146 HE147 a_148 HE149
              refine nrm ?_
              refine wp_ret ?_
              refine (thn_ret ?_)
              refine ret2 HE151 rfl (rv_tmp rfl) (rv_tmp rfl) ?_
              have hF : (powersSeen a0 a1 a2 a3) = ([], (runFP a0 a1 a3 a2 ([] : List Int)).2.2.2.1) := by
                grind [powersSeen]
              exact ⟨none, 0, by first | (rw [hF] <;> rfl) | rfl | (rw [hF]; simp only [Ending.returned.injEq, Value.slice.injEq, true_and, and_true]; first | omega | (simp; done)), by rw [hF]; exact (So.nil (Nat.zero_le _)), HH121.below⟩
            · refine wp_skip ?_
              refine nrm ?_
              refine wp_seq ?_
              refine rg ?_
              refine pl_x HE145 HH121 (wt0 rfl) (x_load1 tv_31 rfl (c_blk 1 rfl rfl)) rfl rfl fun a_152 HE153 => ?_
              refine pl_x HE153 HH121 (wt0 rfl) (x_assign rfl) rfl rfl fun a_154 HE155 => ?_
              refine pl_x HE155 HH121 (wt0 rfl) (x_assign rfl) rfl rfl fun a_156 HE157 => ?_
              refine wpList_nil ?_
              clear a_144 HE145 a_152 HE153 a_154 HE155
              refine nrm ?_
              refine wp_ret ?_
              refine ret2 HE157 rfl (rv_tmp rfl) (rv_tmp rfl) ?_
              have HH158 := HH121.sel [2, 0, 1, 3] (by decide) rfl
              have HH159 := HH158.vecSo
              have hF : (powersSeen a0 a1 a2 a3) = ((runFP a0 a1 a3 a2 ([] : List Int)).2.2.2.2, 0) := by
                grind [powersSeen]
              exact ⟨Ar33_0, cr33_0, by first | (rw [hF] <;> rfl) | rfl | (rw [hF]; simp only [Ending.returned.injEq, Value.slice.injEq, true_and, and_true]; first | omega | (simp; done)), by rw [hF]; exact (HH159.so (i := 0) rfl), HH159.below⟩
        · refine pl_no HE78 (wtF HE78 rfl rfl rfl (not_t hc28)) rfl rfl fun a_160 HE161 => ?_
          refine pl_no HE161 (wtF HE161 rfl rfl rfl (not_t hc28)) rfl rfl fun a_162 HE163 => ?_
          refine pl_no HE163 (wtF HE163 rfl rfl rfl (not_t hc28)) rfl rfl fun a_164 HE165 => ?_
          refine pl_x HE165 HH70 (wt0 rfl) (x_pickT rfl (not_t hc28) rfl) rfl rfl fun a_166 HE167 => ?_
          refine wpList_nil ?_
          clear a_32 HE33 a_38 HE39 a_40 HE41 a_42 HE43 HH17 a_66 HE67 a_71 HE72 a_73 HE74 a_75 HE76 a_77 HE78 a_160 HE161 a_162 HE163 a_164 HE165 hK69 K_68
          refine nrm ?_
          refine cndT HE167 rfl rfl ?_
          refine wp_seq ?_
          refine rg ?_
          refine pl_x HE167 HH70 (wt0 rfl) (x_assign rfl) rfl rfl fun a_168 HE169 => ?_
          refine pl_x HE169 HH70 (wt0 rfl) (x_assign rfl) rfl rfl fun a_170 HE171 => ?_
          refine wpList_nil ?_
          clear a_166 HE167 a_168 HE169
          refine nrm ?_
          refine wp_ret ?_
          refine (thn_ret ?_)
          refine ret2 HE171 rfl (rv_tmp rfl) (rv_tmp rfl) ?_
          have hF : (powersSeen a0 a1 a2 a3) = ([], 2) := by
            grind [powersSeen]
          exact ⟨none, 0, by first | (rw [hF] <;> rfl) | rfl | (rw [hF]; simp only [Ending.returned.injEq, Value.slice.injEq, true_and, and_true]; first | omega | (simp; done)), by rw [hF]; exact (So.nil (Nat.zero_le _)), HH70.below⟩
  · refine pl_no HE23 (wtF HE23 rfl rfl rfl (not_t hc23)) rfl rfl fun a_172 HE173 => ?_
    refine pl_no HE173 (wtF HE173 rfl rfl rfl (not_t hc23)) rfl rfl fun a_174 HE175 => ?_
    refine pl_no HE175 (wtF HE175 rfl rfl rfl (not_t hc23)) rfl rfl fun a_176 HE177 => ?_
    refine pl_x HE177 HH17 (wt0 rfl) (x_pickT rfl (not_t hc23) rfl) rfl rfl fun a_178 HE179 => ?_
    refine wpList_nil ?_
    clear a_11 HE12 HH8 a_13 HE14 a_18 HE19 a_20 HE21 a_22 HE23 a_172 HE173 a_174 HE175 a_176 HE177 hK16 K_15
    refine nrm ?_
    refine cndT HE179 rfl rfl ?_
    refine wp_seq ?_
    refine rg ?_
    refine pl_x HE179 HH17 (wt0 rfl) (x_assign rfl) rfl rfl fun a_180 HE181 => ?_
    refine pl_x HE181 HH17 (wt0 rfl) (x_assign rfl) rfl rfl fun a_182 HE183 => ?_
    refine wpList_nil ?_
    clear a_178 HE179 a_180 HE181
    refine nrm ?_
    refine wp_ret ?_
    refine (thn_ret ?_)
    refine ret2 HE183 rfl (rv_tmp rfl) (rv_tmp rfl) ?_
    have hF : (powersSeen a0 a1 a2 a3) = ([], 1) := by
      grind [powersSeen]
    exact ⟨none, 0, by first | (rw [hF] <;> rfl) | rfl | (rw [hF]; simp only [Ending.returned.injEq, Value.slice.injEq, true_and, and_true]; first | omega | (simp; done)), by rw [hF]; exact (So.nil (Nat.zero_le _)), HH17.below⟩

set_option maxRecDepth 100000 in
set_option maxHeartbeats 4000000 in
theorem spec_PowersSeen (A0 : Option Addr) (c0 : Nat) (a0 : (List tFraction)) (A1 : Option Addr) (c1 : Nat) (a1 : (List Int)) (a2 : Int) (a3 : Int) (w : World) (h0 : Sl eFraction w (Old w) A0 c0 a0) (h1 : Sl eInt w (Old w) A1 c1 a1) (q0 : -9223372036854775808 ≤ a2 ∧ a2 ≤ 9223372036854775807) :
    Calls Try.prog 46 #[.slice A0 a0.length c0, .slice A1 a1.length c1, .int .i64 a2, .int .i64 a3] w fun e w' => ∃ (A0' : Option Addr) (c0' : Nat), e = .returned (.tuple #[.slice A0' (powersSeen a0 a1 a2 a3).1.length c0', .int .i64 (powersSeen a0 a1 a2 a3).2]) ∧ So eInt w' (Fr w w') A0' c0' (powersSeen a0 a1 a2 a3).1 ∧ Below w.heap.size w w' := by
  have l0 := h0.len
  have l1 := h1.len
  have HH1 := Held.start Nob w
  refine enter (n := 71) Try.func46 rfl rfl rfl fun a_2 HE3 => ?_
  refine wp_seq ?_
  refine rg ?_
  refine pl_x HE3 HH1 (wt0 rfl) (x_assign rfl) rfl rfl fun a_4 HE5 => ?_
  refine pl_x HE5 HH1 (wt0 rfl) (x_assign rfl) rfl rfl fun a_6 HE7 => ?_
  refine wpList_nil ?_
  clear a_2 HE3 a_4 HE5
  refine nrm ?_
  refine wp_seq ?_
  refine wp_seq ?_
  refine rg ?_
  refine pl_x HE7 HH1 (wt0 rfl) (x_move rfl) rfl rfl fun a_8 HE9 => ?_
  refine pl fun K_10 hK11 => ?_
  refine st_call HE9 (wt0 rfl) rfl rfl rfl en_116 rfl rfl (spec_l08Is _ _ a0 _ (HH1.old h0)) fun e w' hr => ?_
  obtain ⟨rfl, rfl⟩ := hr
  refine ⟨_, rfl, fun a_12 HE13 => hK11 _ _ ?_⟩
  refine pl_x HE13 HH1 (wt0 rfl) (x_not rfl) rfl rfl fun a_14 HE15 => ?_
  refine pl_x HE15 HH1 (wt0 rfl) (x_move rfl) rfl rfl fun a_16 HE17 => ?_
  rcases Bool.eq_false_or_eq_true ((validFrac a0)) with hc22 | hc22
  · have hV := validFrac_facts hc22
    refine pl_x HE17 HH1 (wtT HE17 rfl rfl rfl (not_f hc22)) (x_move rfl) rfl rfl fun a_18 HE19 => ?_
    refine pl fun K_20 hK21 => ?_
    refine st_call HE19 (wtT HE19 rfl rfl rfl (not_f hc22)) rfl rfl rfl en_117 rfl rfl (spec_l08Number _ _ a1 _ (HH1.old h1)) fun e w' hr => ?_
    obtain ⟨rfl, hbr23⟩ := hr
    have HH22 := HH1.on hbr23
    refine ⟨_, rfl, fun a_23 HE24 => hK21 _ _ ?_⟩
    refine pl_x HE24 HH22 (wtT HE24 rfl rfl rfl (not_f hc22)) (x_not rfl) rfl rfl fun a_25 HE26 => ?_
    refine pl_x HE26 HH22 (wt0 rfl) (x_pickF rfl (not_f hc22) rfl) rfl rfl fun a_27 HE28 => ?_
    refine wpList_nil ?_
    clear a_6 HE7 a_8 HE9 a_12 HE13 a_14 HE15 a_16 HE17 K_10 hK11 HH1 a_18 HE19 a_23 HE24 a_25 HE26 hK21 K_20
    refine nrm ?_
    refine cnd_nb HE28 rfl (fun hc24 => ?_) (fun hc24 => ?_)
    · refine wp_seq ?_
      refine rg ?_
      refine pl_x HE28 HH22 (wt0 rfl) (x_assign rfl) rfl rfl fun a_29 HE30 => ?_
      refine pl_x HE30 HH22 (wt0 rfl) (x_assign rfl) rfl rfl fun a_31 HE32 => ?_
      refine wpList_nil ?_
      clear a_27 HE28 a_29 HE30
      refine nrm ?_
      refine wp_ret ?_
      refine (thn_ret ?_)
      refine ret2 HE32 rfl (rv_tmp rfl) (rv_tmp rfl) ?_
      have hF : (powersSeen a0 a1 a2 a3) = ([], 1) := by
        first | grind [powersSeen] | (have hq := p0_2; rw [runPw_eq] at hq; unfold powersSeen; grind [powSeen])
      exact ⟨none, 0, by first | (rw [hF] <;> rfl) | rfl | (rw [hF]; simp only [Ending.returned.injEq, Value.slice.injEq, true_and, and_true]; first | omega | (simp; done)), by rw [hF]; exact (So.nil (Nat.zero_le _)), HH22.below⟩
    · have hP := isPos_facts hc24
      refine wp_skip ?_
      refine nrm ?_
      refine wp_seq ?_
      refine wp_seq ?_
      refine rg ?_
      refine pl_x HE28 HH22 (wt0 rfl) (x_move rfl) rfl rfl fun a_33 HE34 => ?_
      refine pl_x HE34 HH22 (wt0 rfl) (x_gtr rfl rfl) rfl rfl fun a_35 HE36 => ?_
      refine pl_x HE36 HH22 (wt0 rfl) (x_move rfl) rfl rfl fun a_37 HE38 => ?_
      by_cases hc25 : 999999 < a2
      · refine pl_no HE38 (wtF HE38 rfl rfl rfl (decide_eq_true hc25)) rfl rfl fun a_39 HE40 => ?_
        refine pl_no HE40 (wtF HE40 rfl rfl rfl (decide_eq_true hc25)) rfl rfl fun a_41 HE42 => ?_
        refine pl_no HE42 (wtF HE42 rfl rfl rfl (decide_eq_true hc25)) rfl rfl fun a_43 HE44 => ?_
        refine pl_x HE44 HH22 (wt0 rfl) (x_pickT rfl (decide_eq_true hc25) rfl) rfl rfl fun a_45 HE46 => ?_
        refine pl_x HE46 HH22 (wt0 rfl) (x_move rfl) rfl rfl fun a_47 HE48 => ?_
        refine pl_no HE48 (wtF HE48 rfl rfl rfl rfl) rfl rfl fun a_49 HE50 => ?_
        refine pl_no HE50 (wtF HE50 rfl rfl rfl rfl) rfl rfl fun a_51 HE52 => ?_
        refine pl_no HE52 (wtF HE52 rfl rfl rfl rfl) rfl rfl fun a_53 HE54 => ?_
        refine pl_x HE54 HH22 (wt0 rfl) (x_pickT rfl rfl rfl) rfl rfl fun a_55 HE56 => ?_
        refine wpList_nil ?_
        clear a_27 HE28 a_33 HE34 a_35 HE36 a_37 HE38 a_39 HE40 a_41 HE42 a_43 HE44 a_45 HE46 a_47 HE48 a_49 HE50 a_51 HE52 a_53 HE54
        refine nrm ?_
        refine cndT HE56 rfl rfl ?_
        refine wp_seq ?_
        refine rg ?_
        refine pl_x HE56 HH22 (wt0 rfl) (x_assign rfl) rfl rfl fun a_57 HE58 => ?_
        refine pl_x HE58 HH22 (wt0 rfl) (x_assign rfl) rfl rfl fun a_59 HE60 => ?_
        refine wpList_nil ?_
        clear a_55 HE56 a_57 HE58
        refine nrm ?_
        refine wp_ret ?_
        refine (thn_ret ?_)
        refine ret2 HE60 rfl (rv_tmp rfl) (rv_tmp rfl) ?_
        have hF : (powersSeen a0 a1 a2 a3) = ([], 2) := by
          first | grind [powersSeen] | (have hq := p0_2; rw [runPw_eq] at hq; unfold powersSeen; grind [powSeen])
        exact ⟨none, 0, by first | (rw [hF] <;> rfl) | rfl | (rw [hF]; simp only [Ending.returned.injEq, Value.slice.injEq, true_and, and_true]; first | omega | (simp; done)), by rw [hF]; exact (So.nil (Nat.zero_le _)), HH22.below⟩
      · refine pl_x HE38 HH22 (wtT HE38 rfl rfl rfl (decide_eq_false hc25)) (x_move rfl) rfl rfl fun a_61 HE62 => ?_
        refine pl fun K_63 hK64 => ?_
        refine st_call HE62 (wtT HE62 rfl rfl rfl (decide_eq_false hc25)) rfl rfl rfl en_118 rfl rfl (spec_l01Prime a2 _ (by omega)) fun e w' hr => ?_
        obtain ⟨rfl, hbr26⟩ := hr
        have HH65 := HH22.on hbr26
        refine ⟨_, rfl, fun a_66 HE67 => hK64 _ _ ?_⟩
        refine pl_x HE67 HH65 (wtT HE67 rfl rfl rfl (decide_eq_false hc25)) (x_not rfl) rfl rfl fun a_68 HE69 => ?_
        refine pl_x HE69 HH65 (wt0 rfl) (x_pickF rfl (decide_eq_false hc25) rfl) rfl rfl fun a_70 HE71 => ?_
        refine pl_x HE71 HH65 (wt0 rfl) (x_move rfl) rfl rfl fun a_72 HE73 => ?_
        rcases Bool.eq_false_or_eq_true ((primeB a2)) with hc27 | hc27
        · have hp2 : 2 ≤ a2 := by unfold primeB at hc27; simp at hc27; omega
          refine pl_x HE73 HH65 (wtT HE73 rfl rfl rfl (not_f hc27)) (x_move rfl) rfl rfl fun a_74 HE75 => ?_
          refine pl fun K_76 hK77 => ?_
          refine st_call HE75 (wtT HE75 rfl rfl rfl (not_f hc27)) rfl rfl rfl en_119 rfl rfl (spec_l05Budget a3 _ ) fun e w' hr => ?_
          obtain ⟨rfl, rfl⟩ := hr
          refine ⟨_, rfl, fun a_78 HE79 => hK77 _ _ ?_⟩
          refine pl_x HE79 HH65 (wtT HE79 rfl rfl rfl (not_f hc27)) (x_not rfl) rfl rfl fun a_80 HE81 => ?_
          refine pl_x HE81 HH65 (wt0 rfl) (x_pickF rfl (not_f hc27) rfl) rfl rfl fun a_82 HE83 => ?_
          refine wpList_nil ?_
          clear a_27 HE28 a_33 HE34 a_35 HE36 a_37 HE38 HH22 a_61 HE62 a_66 HE67 a_68 HE69 a_70 HE71 a_72 HE73 K_63 hK64 a_74 HE75 a_78 HE79 a_80 HE81 hK77 K_76
          refine nrm ?_
          refine cnd_nb HE83 rfl (fun hc29 => ?_) (fun hc29 => ?_)
          · refine wp_seq ?_
            refine rg ?_
            refine pl_x HE83 HH65 (wt0 rfl) (x_assign rfl) rfl rfl fun a_84 HE85 => ?_
            refine pl_x HE85 HH65 (wt0 rfl) (x_assign rfl) rfl rfl fun a_86 HE87 => ?_
            refine wpList_nil ?_
            clear a_82 HE83 a_84 HE85
            refine nrm ?_
            refine wp_ret ?_
            refine (thn_ret ?_)
            refine ret2 HE87 rfl (rv_tmp rfl) (rv_tmp rfl) ?_
            have hF : (powersSeen a0 a1 a2 a3) = ([], 2) := by
              first | grind [powersSeen] | (have hq := p0_2; rw [runPw_eq] at hq; unfold powersSeen; grind [powSeen])
            exact ⟨none, 0, by first | (rw [hF] <;> rfl) | rfl | (rw [hF]; simp only [Ending.returned.injEq, Value.slice.injEq, true_and, and_true]; first | omega | (simp; done)), by rw [hF]; exact (So.nil (Nat.zero_le _)), HH65.below⟩
          · have hBu := budgetB_le hc29
            refine wp_skip ?_
            refine nrm ?_
            refine wp_seq ?_
            refine rg ?_
            refine pl fun K_88 hK89 => ?_
            refine st_lit (m := 0) (cs := []) (e := 2) HE83 HH65 (run_lit ts_31 HE83 (vs := []) rfl rfl (by simp [Value.cells]) rfl (by decide)) (wt0 rfl) rfl rfl fun q30 a_90 w' HE91 HH92 => hK89 _ _ ?_
            refine pl_x HE91 HH92 (wt0 rfl) (x_assign rfl) rfl rfl fun a_93 HE94 => ?_
            refine wpList_nil ?_
            clear a_82 HE83 HH65 a_90 HE91 hK89 K_88
            refine nrm ?_
            refine wp_seq ?_
            refine rg ?_
            refine pl_x HE94 HH92 (wt0 rfl) (x_move rfl) rfl rfl fun a_95 HE96 => ?_
            refine pl_x HE96 HH92 (wt0 rfl) (x_assign rfl) rfl rfl fun a_97 HE98 => ?_
            refine wpList_nil ?_
            clear a_93 HE94 a_95 HE96
            refine nrm ?_
            refine wp_seq ?_
            refine rg ?_
            refine pl_x HE98 HH92 (wt0 rfl) (x_assign rfl) rfl rfl fun a_99 HE100 => ?_
            refine wpList_nil ?_
            clear a_97 HE98
            refine nrm ?_
            refine wp_block ?_
            have HH101 := Held.vecFlat (E := eInt) (xs := []) (css := []) HH92 rfl (Nat.zero_le _) (fun i x hx => by simp at hx)
            have HH102 := HH101.noIf (p := False) (rSo eInt Nob A1 c1 a1) id
            refine lp (fun m a w' => ∃ (k : Nat) (y : List Int) (l : List Int) (A_10 : Option Addr) (c_10 : Nat) (S_10 : Nat → Prop) (A_11 : Option Addr) (c_11 : Nat) (S_11 : Nat → Prop) (P_11 : Prop), m = (a3 - (k : Int)).toNat ∧ Env 71 [(10, .slice A_10 (List.length l) c_10), (11, .slice A_11 (List.length y) c_11), (12, .int .i64 (k : Int)), (0, .slice A0 (a0.length) c0), (2, .int .i64 (a2)), (3, .int .i64 (a3))] a ∧ Held Nob w [rVec eInt 2 S_10 A_10 c_10 l, rIf (P_11) (rSo eInt S_11 A_11 c_11 y)] w' ∧ ((k : Int) ≤ a3) ∧ (NatP y) ∧ (runFP a0 a1 a3 a2 [] = runPw a0 a2 (a3 - k).toNat y k l) ∧ ((l.length : Int) ≤ 19) ∧ (P_11 ∨ Sl eInt w (Old w) A_11 c_11 y)) ((a3 - ((0) : Int)).toNat) ?_ ?_
            · have E31 : ([]) = ([] : List Int) := by
                first | rfl | simp
              exact ⟨0, a1, [], (some ⟨q30, 0, none⟩), (List.length (α := Int) []), (fun b => b = q30), A1, c1, Nob, False, rfl, HE100.sub ⟨(by rw [E31]; rfl), rfl, (lkI rfl (by first | rfl | omega | (simp [hc22, hc24, hc25, hc27, hc29]; done))), rfl, rfl, rfl, trivial⟩, ((HH102.sel [1, 0] (by decide) rfl).to (by first | rfl | (rw [E31]; done) | (rw [E31]; rfl) | (simp only [E31]; done) | (simp only [E31]; rfl))), (by first | omega | assumption | (simp; done) | simp_all), (by exact isPos_NatP ‹_›), (by unfold runFP; simp), (by first | omega | assumption | (simp; done) | simp_all), (by first | exact .inr h1 | (rw [E31]; exact .inr h1))⟩
            · rintro m a_103 w' ⟨k, y, l, A_10, c_10, S_10, A_11, c_11, S_11, P_11, rfl, HE104, HH105, p32_0, p32_1, p32_2, p32_3, ho_11⟩
              rcases ho_11 with ho_11 | ho_11
              · have HH106 := HH105.sel [1, 0] (by decide) rfl
                have HH107 := HH106.ofIf ho_11
                have hy := p32_1
                obtain ⟨hy1, hy2, hy3, hy4⟩ := hy
                have hpl := powSeen_len y a2 l
                have hs := stepFS_eq a0 y
                have hpf := powSeen_fst y a2 l
                have hps := powSeen_snd y a2 l
                have hpb := powP_bd y a2
                refine wp_seq ?_
                refine wp_block ?_
                refine wp_seq ?_
                refine rg ?_
                refine pl_x HE104 HH107 (wt0 rfl) (x_move rfl) rfl rfl fun a_108 HE109 => ?_
                refine pl_x HE109 HH107 (wt0 rfl) (x_move rfl) rfl rfl fun a_110 HE111 => ?_
                refine pl fun K_112 hK113 => ?_
                refine st_call HE111 (wt0 rfl) rfl rfl rfl en_120 rfl rfl (spec_l08Power _ _ y a2 _ (HH107.sl (i := 0) rfl) (by assumption) (by omega)) fun e w' hr => ?_
                obtain ⟨rfl, hbr33⟩ := hr
                have HH114 := HH107.on hbr33
                refine ⟨_, rfl, fun a_115 HE116 => hK113 _ _ ?_⟩
                refine pl_x HE116 HH114 (wt0 rfl) (x_assign rfl) rfl rfl fun a_117 HE118 => ?_
                refine wpList_nil ?_
                clear HH92 HH101 a_99 HE100 HH102 HH105 HH106 a_103 HE104 a_108 HE109 HH107 a_110 HE111 a_115 HE116 hK113 K_112
                refine nrm ?_
                refine wp_seq ?_
                refine wp_seq ?_
                refine rg ?_
                refine pl_x HE118 HH114 (wt0 rfl) (x_move rfl) rfl rfl fun a_119 HE120 => ?_
                refine pl_x HE120 HH114 (wt0 rfl) (x_geq rfl rfl) rfl rfl fun a_121 HE122 => ?_
                refine wpList_nil ?_
                clear a_117 HE118 a_119 HE120
                refine nrm ?_
                refine cnd_d HE122 rfl (fun hc34 => ?_) (fun hc34 => ?_)
                · refine rg ?_
                  refine pl_x HE122 HH114 (wt0 rfl) (x_move rfl) rfl rfl fun a_123 HE124 => ?_
                  refine pl_x HE124 HH114 (wt0 rfl) (x_move rfl) rfl rfl fun a_125 HE126 => ?_
                  refine pl fun K_127 hK128 => ?_
                  refine st_lit (m := 1) (cs := [.int .i64 ((powP y a2))]) (e := 2) HE126 HH114 (run_lit ts_31 HE126 (vs := [.int .i64 ((powP y a2))]) rfl rfl (by simp [Value.cells]) rfl (by decide)) (wt0 rfl) rfl rfl fun q35 a_129 w' HE130 HH131 => hK128 _ _ ?_
                  refine pl fun K_132 hK133 => ?_
                  refine st_app1F (powP y a2) HE130 HH131 ts_31 [2, 0, 1] (by decide) rfl (fun _ => (oI (by exact ⟨by omega, by omega⟩))) rfl rfl (by simp [Value.oneCell']) (by unfold maxLen; first | omega | (simp; done) | (simp; omega)) (by first | omega | (simp; done) | (simp; omega)) (wt0 rfl) rfl fun A36 c37 S38 a_134 w' HE135 HH136 => hK133 _ _ ?_
                  refine pl_x HE135 HH136 (wt0 rfl) (x_assign rfl) rfl rfl fun a_137 HE138 => ?_
                  refine wpList_nil ?_
                  clear a_121 HE122 a_123 HE124 a_125 HE126 HH114 K_127 hK128 a_129 HE130 HH131 a_134 HE135 hK133 K_132
                  refine nrm ?_
                  refine wp_seq ?_
                  refine wp_seq ?_
                  refine rg ?_
                  refine pl_x HE138 HH136 (wt0 rfl) (x_move rfl) rfl rfl fun a_139 HE140 => ?_
                  refine pl_x HE140 HH136 (wt0 rfl) (x_move rfl) rfl rfl fun a_141 HE142 => ?_
                  refine pl_x HE142 HH136 (wt0 rfl) (x_eql rfl rfl) rfl rfl fun a_143 HE144 => ?_
                  refine pl_x HE144 HH136 (wt0 rfl) (x_move rfl) rfl rfl fun a_145 HE146 => ?_
                  by_cases hc39 : (k : Int) = a3
                  · refine pl_no HE146 (wtF HE146 rfl rfl rfl (beq_t hc39)) rfl rfl fun a_147 HE148 => ?_
                    refine pl_no HE148 (wtF HE148 rfl rfl rfl (beq_t hc39)) rfl rfl fun a_149 HE150 => ?_
                    refine pl_no HE150 (wtF HE150 rfl rfl rfl (beq_t hc39)) rfl rfl fun a_151 HE152 => ?_
                    refine pl_x HE152 HH136 (wt0 rfl) (x_pickT rfl (beq_t hc39) rfl) rfl rfl fun a_153 HE154 => ?_
                    refine wpList_nil ?_
                    clear a_137 HE138 a_139 HE140 a_141 HE142 a_143 HE144 a_145 HE146 a_147 HE148 a_149 HE150 a_151 HE152
                    refine nrm ?_
                    refine cndT HE154 rfl rfl ?_
                    refine wp_seq ?_
                    refine rg ?_
                    refine pl_x HE154 HH136 (wt0 rfl) (x_move rfl) rfl rfl fun a_155 HE156 => ?_
                    refine pl_x HE156 HH136 (wt0 rfl) (x_assign rfl) rfl rfl fun a_157 HE158 => ?_
                    refine pl_x HE158 HH136 (wt0 rfl) (x_assign rfl) rfl rfl fun a_159 HE160 => ?_
                    refine wpList_nil ?_
                    clear a_153 HE154 a_155 HE156 a_157 HE158
                    refine nrm ?_
                    refine wp_ret ?_
                    refine (thn_ret (blk_ret (thn_ret (thn_ret (blk_ret ?_)))))
                    refine ret2 HE160 rfl (rv_tmp rfl) (rv_tmp rfl) ?_
                    have HH161 := HH136.vecSo
                    have hF : (powersSeen a0 a1 a2 a3) = ((l ++ [(powP y a2)]), 0) := by
                      first | grind [powersSeen] | (have hq := p32_2; rw [runPw_eq] at hq; unfold powersSeen; grind [powSeen])
                    exact ⟨A36, c37, by first | (rw [hF] <;> rfl) | rfl | (rw [hF]; simp only [Ending.returned.injEq, Value.slice.injEq, true_and, and_true]; first | omega | (simp; done)), by rw [hF]; exact (HH161.so (i := 0) rfl), HH161.below⟩
                  · refine pl_x HE146 HH136 (wtT HE146 rfl rfl rfl (beq_f hc39)) (x_move rfl) rfl rfl fun a_162 HE163 => ?_
                    refine pl_x HE163 HH136 (wtT HE163 rfl rfl rfl (beq_f hc39)) (x_len Try.underlying31 rfl) rfl rfl fun a_164 HE165 => ?_
                    refine pl_x HE165 HH136 (wtT HE165 rfl rfl rfl (beq_f hc39)) (x_eql rfl rfl) rfl rfl fun a_166 HE167 => ?_
                    refine pl_x HE167 HH136 (wt0 rfl) (x_pickF rfl (beq_f hc39) rfl) rfl rfl fun a_168 HE169 => ?_
                    refine wpList_nil ?_
                    clear a_137 HE138 a_139 HE140 a_141 HE142 a_143 HE144 a_145 HE146 a_162 HE163 a_164 HE165 a_166 HE167
                    refine nrm ?_
                    refine cnd_e HE169 rfl (fun hc40 => ?_) (fun hc40 => ?_)
                    · refine wp_seq ?_
                      refine rg ?_
                      refine pl_x HE169 HH136 (wt0 rfl) (x_move rfl) rfl rfl fun a_170 HE171 => ?_
                      refine pl_x HE171 HH136 (wt0 rfl) (x_assign rfl) rfl rfl fun a_172 HE173 => ?_
                      refine pl_x HE173 HH136 (wt0 rfl) (x_assign rfl) rfl rfl fun a_174 HE175 => ?_
                      refine wpList_nil ?_
                      clear a_168 HE169 a_170 HE171 a_172 HE173
                      refine nrm ?_
                      refine wp_ret ?_
                      refine (thn_ret (blk_ret (thn_ret (thn_ret (blk_ret ?_)))))
                      refine ret2 HE175 rfl (rv_tmp rfl) (rv_tmp rfl) ?_
                      have HH176 := HH136.vecSo
                      have hF : (powersSeen a0 a1 a2 a3) = ((l ++ [(powP y a2)]), 0) := by
                        first | grind [powersSeen] | (have hq := p32_2; rw [runPw_eq] at hq; unfold powersSeen; grind [powSeen])
                      exact ⟨A36, c37, by first | (rw [hF] <;> rfl) | rfl | (rw [hF]; simp only [Ending.returned.injEq, Value.slice.injEq, true_and, and_true]; first | omega | (simp; done)), by rw [hF]; exact (HH176.so (i := 0) rfl), HH176.below⟩
                    · refine wp_skip ?_
                      refine nrm ?_
                      refine wp_seq ?_
                      refine rg ?_
                      refine pl_x HE169 HH136 (wt0 rfl) (x_move rfl) rfl rfl fun a_177 HE178 => ?_
                      refine pl_x HE178 HH136 (wt0 rfl) (x_move rfl) rfl rfl fun a_179 HE180 => ?_
                      refine pl fun K_181 hK182 => ?_
                      refine st_call HE180 (wt0 rfl) rfl rfl rfl en_121 rfl rfl (spec_l08Next _ _ a0 _ _ y _ (HH136.old h0) (HH136.sl (i := 1) rfl) (by first | assumption | exact hV.2) (by first | assumption | exact hP.1) (by omega) (by omega)) fun e w' hr => ?_
                      obtain ⟨Ar41_0, cr41_0, rfl, hor41_0, hbr41⟩ := hr
                      obtain ⟨Sr41, HH183⟩ := HH136.newS hbr41 hor41_0
                      refine ⟨_, rfl, fun a_184 HE185 => hK182 _ _ ?_⟩
                      refine pl_x HE185 HH183 (wt0 rfl) (x_move rfl) rfl rfl fun a_186 HE187 => ?_
                      refine pl_x HE187 HH183 (wt0 rfl) (x_extract rfl rfl) rfl rfl fun a_188 HE189 => ?_
                      refine pl_x HE189 HH183 (wt0 rfl) (x_extract rfl rfl) rfl rfl fun a_190 HE191 => ?_
                      refine pl_x HE191 HH183 (wt0 rfl) (x_assign rfl) rfl rfl fun a_192 HE193 => ?_
                      refine pl_x HE193 HH183 (wt0 rfl) (x_assign rfl) rfl rfl fun a_194 HE195 => ?_
                      refine wpList_nil ?_
                      clear a_168 HE169 a_177 HE178 HH136 a_179 HE180 a_184 HE185 a_186 HE187 a_188 HE189 a_190 HE191 a_192 HE193 hK182 K_181
                      refine nrm ?_
                      refine wp_seq ?_
                      refine wp_seq ?_
                      refine rg ?_
                      refine pl_x HE195 HH183 (wt0 rfl) (x_move rfl) rfl rfl fun a_196 HE197 => ?_
                      refine pl_x HE197 HH183 (wt0 rfl) (x_lss rfl rfl) rfl rfl fun a_198 HE199 => ?_
                      refine wpList_nil ?_
                      clear a_194 HE195 a_196 HE197
                      refine nrm ?_
                      refine cnd_d HE199 rfl (fun hc42 => ?_) (fun hc42 => ?_)
                      · refine wp_seq ?_
                        refine rg ?_
                        refine pl_x HE199 HH183 (wt0 rfl) (x_move rfl) rfl rfl fun a_200 HE201 => ?_
                        refine pl_x HE201 HH183 (wt0 rfl) (x_assign rfl) rfl rfl fun a_202 HE203 => ?_
                        refine pl_x HE203 HH183 (wt0 rfl) (x_assign rfl) rfl rfl fun a_204 HE205 => ?_
                        refine wpList_nil ?_
                        clear a_198 HE199 a_200 HE201 a_202 HE203
                        refine nrm ?_
                        refine wp_ret ?_
                        refine (thn_ret (blk_ret (thn_ret (thn_ret (blk_ret ?_)))))
                        refine ret2 HE205 rfl (rv_tmp rfl) (rv_tmp rfl) ?_
                        have HH206 := HH183.sel [1, 0, 2] (by decide) rfl
                        have HH207 := HH206.vecSo
                        have hF : (powersSeen a0 a1 a2 a3) = ((l ++ [(powP y a2)]), 0) := by
                          first | grind [powersSeen] | (have hq := p32_2; rw [runPw_eq] at hq; unfold powersSeen; grind [powSeen])
                        exact ⟨A36, c37, by first | (rw [hF] <;> rfl) | rfl | (rw [hF]; simp only [Ending.returned.injEq, Value.slice.injEq, true_and, and_true]; first | omega | (simp; done)), by rw [hF]; exact (HH207.so (i := 0) rfl), HH207.below⟩
                      · have hs3 := hs.2 (by omega)
                        have hs4 : (stepFS a0 y).1.length = (stepFI a0 y).1.length := by rw [hs3]
                        refine wp_skip ?_
                        refine nrm ?_
                        refine wp_seq ?_
                        refine wp_seq ?_
                        refine rg ?_
                        refine pl_x HE199 HH183 (wt0 rfl) (x_move rfl) rfl rfl fun a_208 HE209 => ?_
                        refine pl_x HE209 HH183 (wt0 rfl) (x_len Try.underlying31 rfl) rfl rfl fun a_210 HE211 => ?_
                        refine pl_x HE211 HH183 (wt0 rfl) (x_gtr rfl rfl) rfl rfl fun a_212 HE213 => ?_
                        refine wpList_nil ?_
                        clear a_198 HE199 a_208 HE209 a_210 HE211
                        refine nrm ?_
                        refine cnd_d HE213 rfl (fun hc43 => ?_) (fun hc43 => ?_)
                        · refine wp_seq ?_
                          refine rg ?_
                          refine pl_x HE213 HH183 (wt0 rfl) (x_assign rfl) rfl rfl fun a_214 HE215 => ?_
                          refine pl_x HE215 HH183 (wt0 rfl) (x_assign rfl) rfl rfl fun a_216 HE217 => ?_
                          refine wpList_nil ?_
                          clear a_212 HE213 a_214 HE215
                          refine nrm ?_
                          refine wp_ret ?_
                          refine (thn_ret (blk_ret (thn_ret (thn_ret (blk_ret ?_)))))
                          refine ret2 HE217 rfl (rv_tmp rfl) (rv_tmp rfl) ?_
                          have hF : (powersSeen a0 a1 a2 a3) = ([], 5) := by
                            first | grind [powersSeen] | (have hq := p32_2; rw [runPw_eq] at hq; unfold powersSeen; grind [powSeen])
                          exact ⟨none, 0, by first | (rw [hF] <;> rfl) | rfl | (rw [hF]; simp only [Ending.returned.injEq, Value.slice.injEq, true_and, and_true]; first | omega | (simp; done)), by rw [hF]; exact (So.nil (Nat.zero_le _)), HH183.below⟩
                        · refine wp_skip ?_
                          refine nrm ?_
                          refine rg ?_
                          refine pl_x HE213 HH183 (wt0 rfl) (x_move rfl) rfl rfl fun a_218 HE219 => ?_
                          refine pl_x HE219 HH183 (wt0 rfl) (x_assign rfl) rfl rfl fun a_220 HE221 => ?_
                          refine wpList_nil ?_
                          clear a_212 HE213 a_218 HE219
                          refine blk_n ?_
                          refine nrm ?_
                          refine rg ?_
                          refine pl_x HE221 HH183 (wt0 rfl) (x_move rfl) rfl rfl fun a_222 HE223 => ?_
                          refine pl_x HE223 HH183 (wt0 rfl) (x_add rfl rfl (by exact ⟨by omega, by omega⟩)) rfl rfl fun a_224 HE225 => ?_
                          refine pl_x HE225 HH183 (wt0 rfl) (x_assign rfl) rfl rfl fun a_226 HE227 => ?_
                          refine wpList_nil ?_
                          clear a_220 HE221 a_222 HE223 a_224 HE225
                          have E44 : ((powSeen y a2 l).2) = (l ++ [(powP y a2)]) := by
                            rw [hps]; first | (rw [if_pos (by assumption)]) | (rw [if_neg (by assumption)])
                          have HH228 := HH183.toIf True
                          have E45 : ((stepFI a0 y).1) = (stepFS a0 y).1 := by
                            exact hs3.symm
                          exact nrm ⟨(a3 - ((k + 1) : Int)).toNat, (by omega), k + 1, (stepFI a0 y).1, (powSeen y a2 l).2, A36, c37, S38, Ar41_0, cr41_0, Sr41, True, rfl, HE227.sub ⟨(by rw [E44]; rfl), (by rw [E45]; rfl), (lkI rfl (by first | rfl | omega | (simp [hc22, hc24, hc25, hc27, hc29, p32_0, p32_1, p32_2, p32_3, hc34, hc39, hc40, hc42, hc43]; done))), rfl, rfl, rfl, trivial⟩, ((HH228.sel [1, 0] (by decide) rfl).to (by first | rfl | (rw [E44, E45]; done) | (rw [E44, E45]; rfl) | (simp only [E44, E45]; done) | (simp only [E44, E45]; rfl))), (by first | omega | assumption | (simp; done) | simp_all), (by exact NatP_step hV.2 p32_1 (by omega) (by omega)), (by rw [p32_2, runPw_step (g := (a3 - ((k + 1 : Nat) : Int)).toNat) (by omega) (by rw [hpf, hps]; first | (rw [if_pos (by assumption)]; simp at *; omega) | (rw [if_neg (by assumption)]; simp at *; omega)) (by omega) (by omega)]; rfl), (by rw [hps]; first | (rw [if_pos (by assumption)]; simp at *; omega) | (rw [if_neg (by assumption)]; simp at *; omega)), (by first | exact .inl trivial | (rw [E44, E45]; exact .inl trivial))⟩
                · refine wp_skip ?_
                  refine nrm ?_
                  refine wp_seq ?_
                  refine wp_seq ?_
                  refine rg ?_
                  refine pl_x HE122 HH114 (wt0 rfl) (x_move rfl) rfl rfl fun a_229 HE230 => ?_
                  refine pl_x HE230 HH114 (wt0 rfl) (x_move rfl) rfl rfl fun a_231 HE232 => ?_
                  refine pl_x HE232 HH114 (wt0 rfl) (x_eql rfl rfl) rfl rfl fun a_233 HE234 => ?_
                  refine pl_x HE234 HH114 (wt0 rfl) (x_move rfl) rfl rfl fun a_235 HE236 => ?_
                  by_cases hc46 : (k : Int) = a3
                  · refine pl_no HE236 (wtF HE236 rfl rfl rfl (beq_t hc46)) rfl rfl fun a_237 HE238 => ?_
                    refine pl_no HE238 (wtF HE238 rfl rfl rfl (beq_t hc46)) rfl rfl fun a_239 HE240 => ?_
                    refine pl_no HE240 (wtF HE240 rfl rfl rfl (beq_t hc46)) rfl rfl fun a_241 HE242 => ?_
                    refine pl_x HE242 HH114 (wt0 rfl) (x_pickT rfl (beq_t hc46) rfl) rfl rfl fun a_243 HE244 => ?_
                    refine wpList_nil ?_
                    clear a_121 HE122 a_229 HE230 a_231 HE232 a_233 HE234 a_235 HE236 a_237 HE238 a_239 HE240 a_241 HE242
                    refine nrm ?_
                    refine cndT HE244 rfl rfl ?_
                    refine wp_seq ?_
                    refine rg ?_
                    refine pl_x HE244 HH114 (wt0 rfl) (x_move rfl) rfl rfl fun a_245 HE246 => ?_
                    refine pl_x HE246 HH114 (wt0 rfl) (x_assign rfl) rfl rfl fun a_247 HE248 => ?_
                    refine pl_x HE248 HH114 (wt0 rfl) (x_assign rfl) rfl rfl fun a_249 HE250 => ?_
                    refine wpList_nil ?_
                    clear a_243 HE244 a_245 HE246 a_247 HE248
                    refine nrm ?_
                    refine wp_ret ?_
                    refine (thn_ret (blk_ret (thn_ret (thn_ret (blk_ret ?_)))))
                    refine ret2 HE250 rfl (rv_tmp rfl) (rv_tmp rfl) ?_
                    have HH251 := HH114.sel [1, 0] (by decide) rfl
                    have HH252 := HH251.vecSo
                    have hF : (powersSeen a0 a1 a2 a3) = (l, 0) := by
                      first | grind [powersSeen] | (have hq := p32_2; rw [runPw_eq] at hq; unfold powersSeen; grind [powSeen])
                    exact ⟨A_10, c_10, by first | (rw [hF] <;> rfl) | rfl | (rw [hF]; simp only [Ending.returned.injEq, Value.slice.injEq, true_and, and_true]; first | omega | (simp; done)), by rw [hF]; exact (HH252.so (i := 0) rfl), HH252.below⟩
                  · refine pl_x HE236 HH114 (wtT HE236 rfl rfl rfl (beq_f hc46)) (x_move rfl) rfl rfl fun a_253 HE254 => ?_
                    refine pl_x HE254 HH114 (wtT HE254 rfl rfl rfl (beq_f hc46)) (x_len Try.underlying31 rfl) rfl rfl fun a_255 HE256 => ?_
                    refine pl_x HE256 HH114 (wtT HE256 rfl rfl rfl (beq_f hc46)) (x_eql rfl rfl) rfl rfl fun a_257 HE258 => ?_
                    refine pl_x HE258 HH114 (wt0 rfl) (x_pickF rfl (beq_f hc46) rfl) rfl rfl fun a_259 HE260 => ?_
                    refine wpList_nil ?_
                    clear a_121 HE122 a_229 HE230 a_231 HE232 a_233 HE234 a_235 HE236 a_253 HE254 a_255 HE256 a_257 HE258
                    refine nrm ?_
                    refine cnd_e HE260 rfl (fun hc47 => ?_) (fun hc47 => ?_)
                    · refine wp_seq ?_
                      refine rg ?_
                      refine pl_x HE260 HH114 (wt0 rfl) (x_move rfl) rfl rfl fun a_261 HE262 => ?_
                      refine pl_x HE262 HH114 (wt0 rfl) (x_assign rfl) rfl rfl fun a_263 HE264 => ?_
                      refine pl_x HE264 HH114 (wt0 rfl) (x_assign rfl) rfl rfl fun a_265 HE266 => ?_
                      refine wpList_nil ?_
                      clear a_259 HE260 a_261 HE262 a_263 HE264
                      refine nrm ?_
                      refine wp_ret ?_
                      refine (thn_ret (blk_ret (thn_ret (thn_ret (blk_ret ?_)))))
                      refine ret2 HE266 rfl (rv_tmp rfl) (rv_tmp rfl) ?_
                      have HH267 := HH114.sel [1, 0] (by decide) rfl
                      have HH268 := HH267.vecSo
                      have hF : (powersSeen a0 a1 a2 a3) = (l, 0) := by
                        first | grind [powersSeen] | (have hq := p32_2; rw [runPw_eq] at hq; unfold powersSeen; grind [powSeen])
                      exact ⟨A_10, c_10, by first | (rw [hF] <;> rfl) | rfl | (rw [hF]; simp only [Ending.returned.injEq, Value.slice.injEq, true_and, and_true]; first | omega | (simp; done)), by rw [hF]; exact (HH268.so (i := 0) rfl), HH268.below⟩
                    · refine wp_skip ?_
                      refine nrm ?_
                      refine wp_seq ?_
                      refine rg ?_
                      refine pl_x HE260 HH114 (wt0 rfl) (x_move rfl) rfl rfl fun a_269 HE270 => ?_
                      refine pl_x HE270 HH114 (wt0 rfl) (x_move rfl) rfl rfl fun a_271 HE272 => ?_
                      refine pl fun K_273 hK274 => ?_
                      refine st_call HE272 (wt0 rfl) rfl rfl rfl en_121 rfl rfl (spec_l08Next _ _ a0 _ _ y _ (HH114.old h0) (HH114.sl (i := 0) rfl) (by first | assumption | exact hV.2) (by first | assumption | exact hP.1) (by omega) (by omega)) fun e w' hr => ?_
                      obtain ⟨Ar48_0, cr48_0, rfl, hor48_0, hbr48⟩ := hr
                      obtain ⟨Sr48, HH275⟩ := HH114.newS hbr48 hor48_0
                      refine ⟨_, rfl, fun a_276 HE277 => hK274 _ _ ?_⟩
                      refine pl_x HE277 HH275 (wt0 rfl) (x_move rfl) rfl rfl fun a_278 HE279 => ?_
                      refine pl_x HE279 HH275 (wt0 rfl) (x_extract rfl rfl) rfl rfl fun a_280 HE281 => ?_
                      refine pl_x HE281 HH275 (wt0 rfl) (x_extract rfl rfl) rfl rfl fun a_282 HE283 => ?_
                      refine pl_x HE283 HH275 (wt0 rfl) (x_assign rfl) rfl rfl fun a_284 HE285 => ?_
                      refine pl_x HE285 HH275 (wt0 rfl) (x_assign rfl) rfl rfl fun a_286 HE287 => ?_
                      refine wpList_nil ?_
                      clear a_259 HE260 a_269 HE270 HH114 a_271 HE272 a_276 HE277 a_278 HE279 a_280 HE281 a_282 HE283 a_284 HE285 hK274 K_273
                      refine nrm ?_
                      refine wp_seq ?_
                      refine wp_seq ?_
                      refine rg ?_
                      refine pl_x HE287 HH275 (wt0 rfl) (x_move rfl) rfl rfl fun a_288 HE289 => ?_
                      refine pl_x HE289 HH275 (wt0 rfl) (x_lss rfl rfl) rfl rfl fun a_290 HE291 => ?_
                      refine wpList_nil ?_
                      clear a_286 HE287 a_288 HE289
                      refine nrm ?_
                      refine cnd_d HE291 rfl (fun hc49 => ?_) (fun hc49 => ?_)
                      · refine wp_seq ?_
                        refine rg ?_
                        refine pl_x HE291 HH275 (wt0 rfl) (x_move rfl) rfl rfl fun a_292 HE293 => ?_
                        refine pl_x HE293 HH275 (wt0 rfl) (x_assign rfl) rfl rfl fun a_294 HE295 => ?_
                        refine pl_x HE295 HH275 (wt0 rfl) (x_assign rfl) rfl rfl fun a_296 HE297 => ?_
                        refine wpList_nil ?_
                        clear a_290 HE291 a_292 HE293 a_294 HE295
                        refine nrm ?_
                        refine wp_ret ?_
                        refine (thn_ret (blk_ret (thn_ret (thn_ret (blk_ret ?_)))))
                        refine ret2 HE297 rfl (rv_tmp rfl) (rv_tmp rfl) ?_
                        have HH298 := HH275.sel [2, 0, 1] (by decide) rfl
                        have HH299 := HH298.vecSo
                        have hF : (powersSeen a0 a1 a2 a3) = (l, 0) := by
                          first | grind [powersSeen] | (have hq := p32_2; rw [runPw_eq] at hq; unfold powersSeen; grind [powSeen])
                        exact ⟨A_10, c_10, by first | (rw [hF] <;> rfl) | rfl | (rw [hF]; simp only [Ending.returned.injEq, Value.slice.injEq, true_and, and_true]; first | omega | (simp; done)), by rw [hF]; exact (HH299.so (i := 0) rfl), HH299.below⟩
                      · have hs3 := hs.2 (by omega)
                        have hs4 : (stepFS a0 y).1.length = (stepFI a0 y).1.length := by rw [hs3]
                        refine wp_skip ?_
                        refine nrm ?_
                        refine wp_seq ?_
                        refine wp_seq ?_
                        refine rg ?_
                        refine pl_x HE291 HH275 (wt0 rfl) (x_move rfl) rfl rfl fun a_300 HE301 => ?_
                        refine pl_x HE301 HH275 (wt0 rfl) (x_len Try.underlying31 rfl) rfl rfl fun a_302 HE303 => ?_
                        refine pl_x HE303 HH275 (wt0 rfl) (x_gtr rfl rfl) rfl rfl fun a_304 HE305 => ?_
                        refine wpList_nil ?_
                        clear a_290 HE291 a_300 HE301 a_302 HE303
                        refine nrm ?_
                        refine cnd_d HE305 rfl (fun hc50 => ?_) (fun hc50 => ?_)
                        · refine wp_seq ?_
                          refine rg ?_
                          refine pl_x HE305 HH275 (wt0 rfl) (x_assign rfl) rfl rfl fun a_306 HE307 => ?_
                          refine pl_x HE307 HH275 (wt0 rfl) (x_assign rfl) rfl rfl fun a_308 HE309 => ?_
                          refine wpList_nil ?_
                          clear a_304 HE305 a_306 HE307
                          refine nrm ?_
                          refine wp_ret ?_
                          refine (thn_ret (blk_ret (thn_ret (thn_ret (blk_ret ?_)))))
                          refine ret2 HE309 rfl (rv_tmp rfl) (rv_tmp rfl) ?_
                          have hF : (powersSeen a0 a1 a2 a3) = ([], 5) := by
                            first | grind [powersSeen] | (have hq := p32_2; rw [runPw_eq] at hq; unfold powersSeen; grind [powSeen])
                          exact ⟨none, 0, by first | (rw [hF] <;> rfl) | rfl | (rw [hF]; simp only [Ending.returned.injEq, Value.slice.injEq, true_and, and_true]; first | omega | (simp; done)), by rw [hF]; exact (So.nil (Nat.zero_le _)), HH275.below⟩
                        · refine wp_skip ?_
                          refine nrm ?_
                          refine rg ?_
                          refine pl_x HE305 HH275 (wt0 rfl) (x_move rfl) rfl rfl fun a_310 HE311 => ?_
                          refine pl_x HE311 HH275 (wt0 rfl) (x_assign rfl) rfl rfl fun a_312 HE313 => ?_
                          refine wpList_nil ?_
                          clear a_304 HE305 a_310 HE311
                          refine blk_n ?_
                          refine nrm ?_
                          refine rg ?_
                          refine pl_x HE313 HH275 (wt0 rfl) (x_move rfl) rfl rfl fun a_314 HE315 => ?_
                          refine pl_x HE315 HH275 (wt0 rfl) (x_add rfl rfl (by exact ⟨by omega, by omega⟩)) rfl rfl fun a_316 HE317 => ?_
                          refine pl_x HE317 HH275 (wt0 rfl) (x_assign rfl) rfl rfl fun a_318 HE319 => ?_
                          refine wpList_nil ?_
                          clear a_312 HE313 a_314 HE315 a_316 HE317
                          have E51 : ((powSeen y a2 l).2) = l := by
                            rw [hps]; first | (rw [if_pos (by assumption)]) | (rw [if_neg (by assumption)])
                          have HH320 := HH275.toIf True
                          have E52 : ((stepFI a0 y).1) = (stepFS a0 y).1 := by
                            exact hs3.symm
                          exact nrm ⟨(a3 - ((k + 1) : Int)).toNat, (by omega), k + 1, (stepFI a0 y).1, (powSeen y a2 l).2, A_10, c_10, S_10, Ar48_0, cr48_0, Sr48, True, rfl, HE319.sub ⟨(by rw [E51]; rfl), (by rw [E52]; rfl), (lkI rfl (by first | rfl | omega | (simp [hc22, hc24, hc25, hc27, hc29, p32_0, p32_1, p32_2, p32_3, hc34, hc46, hc47, hc49, hc50]; done))), rfl, rfl, rfl, trivial⟩, ((HH320.sel [2, 0] (by decide) rfl).to (by first | rfl | (rw [E51, E52]; done) | (rw [E51, E52]; rfl) | (simp only [E51, E52]; done) | (simp only [E51, E52]; rfl))), (by first | omega | assumption | (simp; done) | simp_all), (by exact NatP_step hV.2 p32_1 (by omega) (by omega)), (by rw [p32_2, runPw_step (g := (a3 - ((k + 1 : Nat) : Int)).toNat) (by omega) (by rw [hpf, hps]; first | (rw [if_pos (by assumption)]; simp at *; omega) | (rw [if_neg (by assumption)]; simp at *; omega)) (by omega) (by omega)]; rfl), (by rw [hps]; first | (rw [if_pos (by assumption)]; simp at *; omega) | (rw [if_neg (by assumption)]; simp at *; omega)), (by first | exact .inl trivial | (rw [E51, E52]; exact .inl trivial))⟩
              · have HH321 := HH105.sel [1, 0] (by decide) rfl
                have HH322 := HH321.sel [1] (by decide) rfl
                have hy := p32_1
                obtain ⟨hy1, hy2, hy3, hy4⟩ := hy
                have hpl := powSeen_len y a2 l
                have hs := stepFS_eq a0 y
                have hpf := powSeen_fst y a2 l
                have hps := powSeen_snd y a2 l
                have hpb := powP_bd y a2
                refine wp_seq ?_
                refine wp_block ?_
                refine wp_seq ?_
                refine rg ?_
                refine pl_x HE104 HH322 (wt0 rfl) (x_move rfl) rfl rfl fun a_323 HE324 => ?_
                refine pl_x HE324 HH322 (wt0 rfl) (x_move rfl) rfl rfl fun a_325 HE326 => ?_
                refine pl fun K_327 hK328 => ?_
                refine st_call HE326 (wt0 rfl) rfl rfl rfl en_120 rfl rfl (spec_l08Power _ _ y a2 _ (HH322.old ho_11) (by assumption) (by omega)) fun e w' hr => ?_
                obtain ⟨rfl, hbr53⟩ := hr
                have HH329 := HH322.on hbr53
                refine ⟨_, rfl, fun a_330 HE331 => hK328 _ _ ?_⟩
                refine pl_x HE331 HH329 (wt0 rfl) (x_assign rfl) rfl rfl fun a_332 HE333 => ?_
                refine wpList_nil ?_
                clear HH92 HH101 a_99 HE100 HH102 HH105 HH321 a_103 HE104 a_323 HE324 HH322 a_325 HE326 a_330 HE331 hK328 K_327
                refine nrm ?_
                refine wp_seq ?_
                refine wp_seq ?_
                refine rg ?_
                refine pl_x HE333 HH329 (wt0 rfl) (x_move rfl) rfl rfl fun a_334 HE335 => ?_
                refine pl_x HE335 HH329 (wt0 rfl) (x_geq rfl rfl) rfl rfl fun a_336 HE337 => ?_
                refine wpList_nil ?_
                clear a_332 HE333 a_334 HE335
                refine nrm ?_
                refine cnd_d HE337 rfl (fun hc54 => ?_) (fun hc54 => ?_)
                · refine rg ?_
                  refine pl_x HE337 HH329 (wt0 rfl) (x_move rfl) rfl rfl fun a_338 HE339 => ?_
                  refine pl_x HE339 HH329 (wt0 rfl) (x_move rfl) rfl rfl fun a_340 HE341 => ?_
                  refine pl fun K_342 hK343 => ?_
                  refine st_lit (m := 1) (cs := [.int .i64 ((powP y a2))]) (e := 2) HE341 HH329 (run_lit ts_31 HE341 (vs := [.int .i64 ((powP y a2))]) rfl rfl (by simp [Value.cells]) rfl (by decide)) (wt0 rfl) rfl rfl fun q55 a_344 w' HE345 HH346 => hK343 _ _ ?_
                  refine pl fun K_347 hK348 => ?_
                  refine st_app1F (powP y a2) HE345 HH346 ts_31 [1, 0] (by decide) rfl (fun _ => (oI (by exact ⟨by omega, by omega⟩))) rfl rfl (by simp [Value.oneCell']) (by unfold maxLen; first | omega | (simp; done) | (simp; omega)) (by first | omega | (simp; done) | (simp; omega)) (wt0 rfl) rfl fun A56 c57 S58 a_349 w' HE350 HH351 => hK348 _ _ ?_
                  refine pl_x HE350 HH351 (wt0 rfl) (x_assign rfl) rfl rfl fun a_352 HE353 => ?_
                  refine wpList_nil ?_
                  clear a_336 HE337 a_338 HE339 a_340 HE341 HH329 K_342 hK343 a_344 HE345 HH346 a_349 HE350 hK348 K_347
                  refine nrm ?_
                  refine wp_seq ?_
                  refine wp_seq ?_
                  refine rg ?_
                  refine pl_x HE353 HH351 (wt0 rfl) (x_move rfl) rfl rfl fun a_354 HE355 => ?_
                  refine pl_x HE355 HH351 (wt0 rfl) (x_move rfl) rfl rfl fun a_356 HE357 => ?_
                  refine pl_x HE357 HH351 (wt0 rfl) (x_eql rfl rfl) rfl rfl fun a_358 HE359 => ?_
                  refine pl_x HE359 HH351 (wt0 rfl) (x_move rfl) rfl rfl fun a_360 HE361 => ?_
                  by_cases hc59 : (k : Int) = a3
                  · refine pl_no HE361 (wtF HE361 rfl rfl rfl (beq_t hc59)) rfl rfl fun a_362 HE363 => ?_
                    refine pl_no HE363 (wtF HE363 rfl rfl rfl (beq_t hc59)) rfl rfl fun a_364 HE365 => ?_
                    refine pl_no HE365 (wtF HE365 rfl rfl rfl (beq_t hc59)) rfl rfl fun a_366 HE367 => ?_
                    refine pl_x HE367 HH351 (wt0 rfl) (x_pickT rfl (beq_t hc59) rfl) rfl rfl fun a_368 HE369 => ?_
                    refine wpList_nil ?_
                    clear a_352 HE353 a_354 HE355 a_356 HE357 a_358 HE359 a_360 HE361 a_362 HE363 a_364 HE365 a_366 HE367
                    refine nrm ?_
                    refine cndT HE369 rfl rfl ?_
                    refine wp_seq ?_
                    refine rg ?_
                    refine pl_x HE369 HH351 (wt0 rfl) (x_move rfl) rfl rfl fun a_370 HE371 => ?_
                    refine pl_x HE371 HH351 (wt0 rfl) (x_assign rfl) rfl rfl fun a_372 HE373 => ?_
                    refine pl_x HE373 HH351 (wt0 rfl) (x_assign rfl) rfl rfl fun a_374 HE375 => ?_
                    refine wpList_nil ?_
                    clear a_368 HE369 a_370 HE371 a_372 HE373
                    refine nrm ?_
                    refine wp_ret ?_
                    refine (thn_ret (blk_ret (thn_ret (thn_ret (blk_ret ?_)))))
                    refine ret2 HE375 rfl (rv_tmp rfl) (rv_tmp rfl) ?_
                    have HH376 := HH351.vecSo
                    have hF : (powersSeen a0 a1 a2 a3) = ((l ++ [(powP y a2)]), 0) := by
                      first | grind [powersSeen] | (have hq := p32_2; rw [runPw_eq] at hq; unfold powersSeen; grind [powSeen])
                    exact ⟨A56, c57, by first | (rw [hF] <;> rfl) | rfl | (rw [hF]; simp only [Ending.returned.injEq, Value.slice.injEq, true_and, and_true]; first | omega | (simp; done)), by rw [hF]; exact (HH376.so (i := 0) rfl), HH376.below⟩
                  · refine pl_x HE361 HH351 (wtT HE361 rfl rfl rfl (beq_f hc59)) (x_move rfl) rfl rfl fun a_377 HE378 => ?_
                    refine pl_x HE378 HH351 (wtT HE378 rfl rfl rfl (beq_f hc59)) (x_len Try.underlying31 rfl) rfl rfl fun a_379 HE380 => ?_
                    refine pl_x HE380 HH351 (wtT HE380 rfl rfl rfl (beq_f hc59)) (x_eql rfl rfl) rfl rfl fun a_381 HE382 => ?_
                    refine pl_x HE382 HH351 (wt0 rfl) (x_pickF rfl (beq_f hc59) rfl) rfl rfl fun a_383 HE384 => ?_
                    refine wpList_nil ?_
                    clear a_352 HE353 a_354 HE355 a_356 HE357 a_358 HE359 a_360 HE361 a_377 HE378 a_379 HE380 a_381 HE382
                    refine nrm ?_
                    refine cnd_e HE384 rfl (fun hc60 => ?_) (fun hc60 => ?_)
                    · refine wp_seq ?_
                      refine rg ?_
                      refine pl_x HE384 HH351 (wt0 rfl) (x_move rfl) rfl rfl fun a_385 HE386 => ?_
                      refine pl_x HE386 HH351 (wt0 rfl) (x_assign rfl) rfl rfl fun a_387 HE388 => ?_
                      refine pl_x HE388 HH351 (wt0 rfl) (x_assign rfl) rfl rfl fun a_389 HE390 => ?_
                      refine wpList_nil ?_
                      clear a_383 HE384 a_385 HE386 a_387 HE388
                      refine nrm ?_
                      refine wp_ret ?_
                      refine (thn_ret (blk_ret (thn_ret (thn_ret (blk_ret ?_)))))
                      refine ret2 HE390 rfl (rv_tmp rfl) (rv_tmp rfl) ?_
                      have HH391 := HH351.vecSo
                      have hF : (powersSeen a0 a1 a2 a3) = ((l ++ [(powP y a2)]), 0) := by
                        first | grind [powersSeen] | (have hq := p32_2; rw [runPw_eq] at hq; unfold powersSeen; grind [powSeen])
                      exact ⟨A56, c57, by first | (rw [hF] <;> rfl) | rfl | (rw [hF]; simp only [Ending.returned.injEq, Value.slice.injEq, true_and, and_true]; first | omega | (simp; done)), by rw [hF]; exact (HH391.so (i := 0) rfl), HH391.below⟩
                    · refine wp_skip ?_
                      refine nrm ?_
                      refine wp_seq ?_
                      refine rg ?_
                      refine pl_x HE384 HH351 (wt0 rfl) (x_move rfl) rfl rfl fun a_392 HE393 => ?_
                      refine pl_x HE393 HH351 (wt0 rfl) (x_move rfl) rfl rfl fun a_394 HE395 => ?_
                      refine pl fun K_396 hK397 => ?_
                      refine st_call HE395 (wt0 rfl) rfl rfl rfl en_121 rfl rfl (spec_l08Next _ _ a0 _ _ y _ (HH351.old h0) (HH351.old ho_11) (by first | assumption | exact hV.2) (by first | assumption | exact hP.1) (by omega) (by omega)) fun e w' hr => ?_
                      obtain ⟨Ar61_0, cr61_0, rfl, hor61_0, hbr61⟩ := hr
                      obtain ⟨Sr61, HH398⟩ := HH351.newS hbr61 hor61_0
                      refine ⟨_, rfl, fun a_399 HE400 => hK397 _ _ ?_⟩
                      refine pl_x HE400 HH398 (wt0 rfl) (x_move rfl) rfl rfl fun a_401 HE402 => ?_
                      refine pl_x HE402 HH398 (wt0 rfl) (x_extract rfl rfl) rfl rfl fun a_403 HE404 => ?_
                      refine pl_x HE404 HH398 (wt0 rfl) (x_extract rfl rfl) rfl rfl fun a_405 HE406 => ?_
                      refine pl_x HE406 HH398 (wt0 rfl) (x_assign rfl) rfl rfl fun a_407 HE408 => ?_
                      refine pl_x HE408 HH398 (wt0 rfl) (x_assign rfl) rfl rfl fun a_409 HE410 => ?_
                      refine wpList_nil ?_
                      clear a_383 HE384 a_392 HE393 HH351 a_394 HE395 a_399 HE400 a_401 HE402 a_403 HE404 a_405 HE406 a_407 HE408 hK397 K_396
                      refine nrm ?_
                      refine wp_seq ?_
                      refine wp_seq ?_
                      refine rg ?_
                      refine pl_x HE410 HH398 (wt0 rfl) (x_move rfl) rfl rfl fun a_411 HE412 => ?_
                      refine pl_x HE412 HH398 (wt0 rfl) (x_lss rfl rfl) rfl rfl fun a_413 HE414 => ?_
                      refine wpList_nil ?_
                      clear a_409 HE410 a_411 HE412
                      refine nrm ?_
                      refine cnd_d HE414 rfl (fun hc62 => ?_) (fun hc62 => ?_)
                      · refine wp_seq ?_
                        refine rg ?_
                        refine pl_x HE414 HH398 (wt0 rfl) (x_move rfl) rfl rfl fun a_415 HE416 => ?_
                        refine pl_x HE416 HH398 (wt0 rfl) (x_assign rfl) rfl rfl fun a_417 HE418 => ?_
                        refine pl_x HE418 HH398 (wt0 rfl) (x_assign rfl) rfl rfl fun a_419 HE420 => ?_
                        refine wpList_nil ?_
                        clear a_413 HE414 a_415 HE416 a_417 HE418
                        refine nrm ?_
                        refine wp_ret ?_
                        refine (thn_ret (blk_ret (thn_ret (thn_ret (blk_ret ?_)))))
                        refine ret2 HE420 rfl (rv_tmp rfl) (rv_tmp rfl) ?_
                        have HH421 := HH398.sel [1, 0] (by decide) rfl
                        have HH422 := HH421.vecSo
                        have hF : (powersSeen a0 a1 a2 a3) = ((l ++ [(powP y a2)]), 0) := by
                          first | grind [powersSeen] | (have hq := p32_2; rw [runPw_eq] at hq; unfold powersSeen; grind [powSeen])
                        exact ⟨A56, c57, by first | (rw [hF] <;> rfl) | rfl | (rw [hF]; simp only [Ending.returned.injEq, Value.slice.injEq, true_and, and_true]; first | omega | (simp; done)), by rw [hF]; exact (HH422.so (i := 0) rfl), HH422.below⟩
                      · have hs3 := hs.2 (by omega)
                        have hs4 : (stepFS a0 y).1.length = (stepFI a0 y).1.length := by rw [hs3]
                        refine wp_skip ?_
                        refine nrm ?_
                        refine wp_seq ?_
                        refine wp_seq ?_
                        refine rg ?_
                        refine pl_x HE414 HH398 (wt0 rfl) (x_move rfl) rfl rfl fun a_423 HE424 => ?_
                        refine pl_x HE424 HH398 (wt0 rfl) (x_len Try.underlying31 rfl) rfl rfl fun a_425 HE426 => ?_
                        refine pl_x HE426 HH398 (wt0 rfl) (x_gtr rfl rfl) rfl rfl fun a_427 HE428 => ?_
                        refine wpList_nil ?_
                        clear a_413 HE414 a_423 HE424 a_425 HE426
                        refine nrm ?_
                        refine cnd_d HE428 rfl (fun hc63 => ?_) (fun hc63 => ?_)
                        · refine wp_seq ?_
                          refine rg ?_
                          refine pl_x HE428 HH398 (wt0 rfl) (x_assign rfl) rfl rfl fun a_429 HE430 => ?_
                          refine pl_x HE430 HH398 (wt0 rfl) (x_assign rfl) rfl rfl fun a_431 HE432 => ?_
                          refine wpList_nil ?_
                          clear a_427 HE428 a_429 HE430
                          refine nrm ?_
                          refine wp_ret ?_
                          refine (thn_ret (blk_ret (thn_ret (thn_ret (blk_ret ?_)))))
                          refine ret2 HE432 rfl (rv_tmp rfl) (rv_tmp rfl) ?_
                          have hF : (powersSeen a0 a1 a2 a3) = ([], 5) := by
                            first | grind [powersSeen] | (have hq := p32_2; rw [runPw_eq] at hq; unfold powersSeen; grind [powSeen])
                          exact ⟨none, 0, by first | (rw [hF] <;> rfl) | rfl | (rw [hF]; simp only [Ending.returned.injEq, Value.slice.injEq, true_and, and_true]; first | omega | (simp; done)), by rw [hF]; exact (So.nil (Nat.zero_le _)), HH398.below⟩
                        · refine wp_skip ?_
                          refine nrm ?_
                          refine rg ?_
                          refine pl_x HE428 HH398 (wt0 rfl) (x_move rfl) rfl rfl fun a_433 HE434 => ?_
                          refine pl_x HE434 HH398 (wt0 rfl) (x_assign rfl) rfl rfl fun a_435 HE436 => ?_
                          refine wpList_nil ?_
                          clear a_427 HE428 a_433 HE434
                          refine blk_n ?_
                          refine nrm ?_
                          refine rg ?_
                          refine pl_x HE436 HH398 (wt0 rfl) (x_move rfl) rfl rfl fun a_437 HE438 => ?_
                          refine pl_x HE438 HH398 (wt0 rfl) (x_add rfl rfl (by exact ⟨by omega, by omega⟩)) rfl rfl fun a_439 HE440 => ?_
                          refine pl_x HE440 HH398 (wt0 rfl) (x_assign rfl) rfl rfl fun a_441 HE442 => ?_
                          refine wpList_nil ?_
                          clear a_435 HE436 a_437 HE438 a_439 HE440
                          have E64 : ((powSeen y a2 l).2) = (l ++ [(powP y a2)]) := by
                            rw [hps]; first | (rw [if_pos (by assumption)]) | (rw [if_neg (by assumption)])
                          have HH443 := HH398.toIf True
                          have E65 : ((stepFI a0 y).1) = (stepFS a0 y).1 := by
                            exact hs3.symm
                          exact nrm ⟨(a3 - ((k + 1) : Int)).toNat, (by omega), k + 1, (stepFI a0 y).1, (powSeen y a2 l).2, A56, c57, S58, Ar61_0, cr61_0, Sr61, True, rfl, HE442.sub ⟨(by rw [E64]; rfl), (by rw [E65]; rfl), (lkI rfl (by first | rfl | omega | (simp [hc22, hc24, hc25, hc27, hc29, p32_0, p32_1, p32_2, p32_3, hc54, hc59, hc60, hc62, hc63]; done))), rfl, rfl, rfl, trivial⟩, ((HH443.sel [1, 0] (by decide) rfl).to (by first | rfl | (rw [E64, E65]; done) | (rw [E64, E65]; rfl) | (simp only [E64, E65]; done) | (simp only [E64, E65]; rfl))), (by first | omega | assumption | (simp; done) | simp_all), (by exact NatP_step hV.2 p32_1 (by omega) (by omega)), (by rw [p32_2, runPw_step (g := (a3 - ((k + 1 : Nat) : Int)).toNat) (by omega) (by rw [hpf, hps]; first | (rw [if_pos (by assumption)]; simp at *; omega) | (rw [if_neg (by assumption)]; simp at *; omega)) (by omega) (by omega)]; rfl), (by rw [hps]; first | (rw [if_pos (by assumption)]; simp at *; omega) | (rw [if_neg (by assumption)]; simp at *; omega)), (by first | exact .inl trivial | (rw [E64, E65]; exact .inl trivial))⟩
                · refine wp_skip ?_
                  refine nrm ?_
                  refine wp_seq ?_
                  refine wp_seq ?_
                  refine rg ?_
                  refine pl_x HE337 HH329 (wt0 rfl) (x_move rfl) rfl rfl fun a_444 HE445 => ?_
                  refine pl_x HE445 HH329 (wt0 rfl) (x_move rfl) rfl rfl fun a_446 HE447 => ?_
                  refine pl_x HE447 HH329 (wt0 rfl) (x_eql rfl rfl) rfl rfl fun a_448 HE449 => ?_
                  refine pl_x HE449 HH329 (wt0 rfl) (x_move rfl) rfl rfl fun a_450 HE451 => ?_
                  by_cases hc66 : (k : Int) = a3
                  · refine pl_no HE451 (wtF HE451 rfl rfl rfl (beq_t hc66)) rfl rfl fun a_452 HE453 => ?_
                    refine pl_no HE453 (wtF HE453 rfl rfl rfl (beq_t hc66)) rfl rfl fun a_454 HE455 => ?_
                    refine pl_no HE455 (wtF HE455 rfl rfl rfl (beq_t hc66)) rfl rfl fun a_456 HE457 => ?_
                    refine pl_x HE457 HH329 (wt0 rfl) (x_pickT rfl (beq_t hc66) rfl) rfl rfl fun a_458 HE459 => ?_
                    refine wpList_nil ?_
                    clear a_336 HE337 a_444 HE445 a_446 HE447 a_448 HE449 a_450 HE451 a_452 HE453 a_454 HE455 a_456 HE457
                    refine nrm ?_
                    refine cndT HE459 rfl rfl ?_
                    refine wp_seq ?_
                    refine rg ?_
                    refine pl_x HE459 HH329 (wt0 rfl) (x_move rfl) rfl rfl fun a_460 HE461 => ?_
                    refine pl_x HE461 HH329 (wt0 rfl) (x_assign rfl) rfl rfl fun a_462 HE463 => ?_
                    refine pl_x HE463 HH329 (wt0 rfl) (x_assign rfl) rfl rfl fun a_464 HE465 => ?_
                    refine wpList_nil ?_
                    clear a_458 HE459 a_460 HE461 a_462 HE463
                    refine nrm ?_
                    refine wp_ret ?_
                    refine (thn_ret (blk_ret (thn_ret (thn_ret (blk_ret ?_)))))
                    refine ret2 HE465 rfl (rv_tmp rfl) (rv_tmp rfl) ?_
                    have HH466 := HH329.vecSo
                    have hF : (powersSeen a0 a1 a2 a3) = (l, 0) := by
                      first | grind [powersSeen] | (have hq := p32_2; rw [runPw_eq] at hq; unfold powersSeen; grind [powSeen])
                    exact ⟨A_10, c_10, by first | (rw [hF] <;> rfl) | rfl | (rw [hF]; simp only [Ending.returned.injEq, Value.slice.injEq, true_and, and_true]; first | omega | (simp; done)), by rw [hF]; exact (HH466.so (i := 0) rfl), HH466.below⟩
                  · refine pl_x HE451 HH329 (wtT HE451 rfl rfl rfl (beq_f hc66)) (x_move rfl) rfl rfl fun a_467 HE468 => ?_
                    refine pl_x HE468 HH329 (wtT HE468 rfl rfl rfl (beq_f hc66)) (x_len Try.underlying31 rfl) rfl rfl fun a_469 HE470 => ?_
                    refine pl_x HE470 HH329 (wtT HE470 rfl rfl rfl (beq_f hc66)) (x_eql rfl rfl) rfl rfl fun a_471 HE472 => ?_
                    refine pl_x HE472 HH329 (wt0 rfl) (x_pickF rfl (beq_f hc66) rfl) rfl rfl fun a_473 HE474 => ?_
                    refine wpList_nil ?_
                    clear a_336 HE337 a_444 HE445 a_446 HE447 a_448 HE449 a_450 HE451 a_467 HE468 a_469 HE470 a_471 HE472
                    refine nrm ?_
                    refine cnd_e HE474 rfl (fun hc67 => ?_) (fun hc67 => ?_)
                    · refine wp_seq ?_
                      refine rg ?_
                      refine pl_x HE474 HH329 (wt0 rfl) (x_move rfl) rfl rfl fun a_475 HE476 => ?_
                      refine pl_x HE476 HH329 (wt0 rfl) (x_assign rfl) rfl rfl fun a_477 HE478 => ?_
                      refine pl_x HE478 HH329 (wt0 rfl) (x_assign rfl) rfl rfl fun a_479 HE480 => ?_
                      refine wpList_nil ?_
                      clear a_473 HE474 a_475 HE476 a_477 HE478
                      refine nrm ?_
                      refine wp_ret ?_
                      refine (thn_ret (blk_ret (thn_ret (thn_ret (blk_ret ?_)))))
                      refine ret2 HE480 rfl (rv_tmp rfl) (rv_tmp rfl) ?_
                      have HH481 := HH329.vecSo
                      have hF : (powersSeen a0 a1 a2 a3) = (l, 0) := by
                        first | grind [powersSeen] | (have hq := p32_2; rw [runPw_eq] at hq; unfold powersSeen; grind [powSeen])
                      exact ⟨A_10, c_10, by first | (rw [hF] <;> rfl) | rfl | (rw [hF]; simp only [Ending.returned.injEq, Value.slice.injEq, true_and, and_true]; first | omega | (simp; done)), by rw [hF]; exact (HH481.so (i := 0) rfl), HH481.below⟩
                    · refine wp_skip ?_
                      refine nrm ?_
                      refine wp_seq ?_
                      refine rg ?_
                      refine pl_x HE474 HH329 (wt0 rfl) (x_move rfl) rfl rfl fun a_482 HE483 => ?_
                      refine pl_x HE483 HH329 (wt0 rfl) (x_move rfl) rfl rfl fun a_484 HE485 => ?_
                      refine pl fun K_486 hK487 => ?_
                      refine st_call HE485 (wt0 rfl) rfl rfl rfl en_121 rfl rfl (spec_l08Next _ _ a0 _ _ y _ (HH329.old h0) (HH329.old ho_11) (by first | assumption | exact hV.2) (by first | assumption | exact hP.1) (by omega) (by omega)) fun e w' hr => ?_
                      obtain ⟨Ar68_0, cr68_0, rfl, hor68_0, hbr68⟩ := hr
                      obtain ⟨Sr68, HH488⟩ := HH329.newS hbr68 hor68_0
                      refine ⟨_, rfl, fun a_489 HE490 => hK487 _ _ ?_⟩
                      refine pl_x HE490 HH488 (wt0 rfl) (x_move rfl) rfl rfl fun a_491 HE492 => ?_
                      refine pl_x HE492 HH488 (wt0 rfl) (x_extract rfl rfl) rfl rfl fun a_493 HE494 => ?_
                      refine pl_x HE494 HH488 (wt0 rfl) (x_extract rfl rfl) rfl rfl fun a_495 HE496 => ?_
                      refine pl_x HE496 HH488 (wt0 rfl) (x_assign rfl) rfl rfl fun a_497 HE498 => ?_
                      refine pl_x HE498 HH488 (wt0 rfl) (x_assign rfl) rfl rfl fun a_499 HE500 => ?_
                      refine wpList_nil ?_
                      clear a_473 HE474 a_482 HE483 HH329 a_484 HE485 a_489 HE490 a_491 HE492 a_493 HE494 a_495 HE496 a_497 HE498 hK487 K_486
                      refine nrm ?_
                      refine wp_seq ?_
                      refine wp_seq ?_
                      refine rg ?_
                      refine pl_x HE500 HH488 (wt0 rfl) (x_move rfl) rfl rfl fun a_501 HE502 => ?_
                      refine pl_x HE502 HH488 (wt0 rfl) (x_lss rfl rfl) rfl rfl fun a_503 HE504 => ?_
                      refine wpList_nil ?_
                      clear a_499 HE500 a_501 HE502
                      refine nrm ?_
                      refine cnd_d HE504 rfl (fun hc69 => ?_) (fun hc69 => ?_)
                      · refine wp_seq ?_
                        refine rg ?_
                        refine pl_x HE504 HH488 (wt0 rfl) (x_move rfl) rfl rfl fun a_505 HE506 => ?_
                        refine pl_x HE506 HH488 (wt0 rfl) (x_assign rfl) rfl rfl fun a_507 HE508 => ?_
                        refine pl_x HE508 HH488 (wt0 rfl) (x_assign rfl) rfl rfl fun a_509 HE510 => ?_
                        refine wpList_nil ?_
                        clear a_503 HE504 a_505 HE506 a_507 HE508
                        refine nrm ?_
                        refine wp_ret ?_
                        refine (thn_ret (blk_ret (thn_ret (thn_ret (blk_ret ?_)))))
                        refine ret2 HE510 rfl (rv_tmp rfl) (rv_tmp rfl) ?_
                        have HH511 := HH488.sel [1, 0] (by decide) rfl
                        have HH512 := HH511.vecSo
                        have hF : (powersSeen a0 a1 a2 a3) = (l, 0) := by
                          first | grind [powersSeen] | (have hq := p32_2; rw [runPw_eq] at hq; unfold powersSeen; grind [powSeen])
                        exact ⟨A_10, c_10, by first | (rw [hF] <;> rfl) | rfl | (rw [hF]; simp only [Ending.returned.injEq, Value.slice.injEq, true_and, and_true]; first | omega | (simp; done)), by rw [hF]; exact (HH512.so (i := 0) rfl), HH512.below⟩
                      · have hs3 := hs.2 (by omega)
                        have hs4 : (stepFS a0 y).1.length = (stepFI a0 y).1.length := by rw [hs3]
                        refine wp_skip ?_
                        refine nrm ?_
                        refine wp_seq ?_
                        refine wp_seq ?_
                        refine rg ?_
                        refine pl_x HE504 HH488 (wt0 rfl) (x_move rfl) rfl rfl fun a_513 HE514 => ?_
                        refine pl_x HE514 HH488 (wt0 rfl) (x_len Try.underlying31 rfl) rfl rfl fun a_515 HE516 => ?_
                        refine pl_x HE516 HH488 (wt0 rfl) (x_gtr rfl rfl) rfl rfl fun a_517 HE518 => ?_
                        refine wpList_nil ?_
                        clear a_503 HE504 a_513 HE514 a_515 HE516
                        refine nrm ?_
                        refine cnd_d HE518 rfl (fun hc70 => ?_) (fun hc70 => ?_)
                        · refine wp_seq ?_
                          refine rg ?_
                          refine pl_x HE518 HH488 (wt0 rfl) (x_assign rfl) rfl rfl fun a_519 HE520 => ?_
                          refine pl_x HE520 HH488 (wt0 rfl) (x_assign rfl) rfl rfl fun a_521 HE522 => ?_
                          refine wpList_nil ?_
                          clear a_517 HE518 a_519 HE520
                          refine nrm ?_
                          refine wp_ret ?_
                          refine (thn_ret (blk_ret (thn_ret (thn_ret (blk_ret ?_)))))
                          refine ret2 HE522 rfl (rv_tmp rfl) (rv_tmp rfl) ?_
                          have hF : (powersSeen a0 a1 a2 a3) = ([], 5) := by
                            first | grind [powersSeen] | (have hq := p32_2; rw [runPw_eq] at hq; unfold powersSeen; grind [powSeen])
                          exact ⟨none, 0, by first | (rw [hF] <;> rfl) | rfl | (rw [hF]; simp only [Ending.returned.injEq, Value.slice.injEq, true_and, and_true]; first | omega | (simp; done)), by rw [hF]; exact (So.nil (Nat.zero_le _)), HH488.below⟩
                        · refine wp_skip ?_
                          refine nrm ?_
                          refine rg ?_
                          refine pl_x HE518 HH488 (wt0 rfl) (x_move rfl) rfl rfl fun a_523 HE524 => ?_
                          refine pl_x HE524 HH488 (wt0 rfl) (x_assign rfl) rfl rfl fun a_525 HE526 => ?_
                          refine wpList_nil ?_
                          clear a_517 HE518 a_523 HE524
                          refine blk_n ?_
                          refine nrm ?_
                          refine rg ?_
                          refine pl_x HE526 HH488 (wt0 rfl) (x_move rfl) rfl rfl fun a_527 HE528 => ?_
                          refine pl_x HE528 HH488 (wt0 rfl) (x_add rfl rfl (by exact ⟨by omega, by omega⟩)) rfl rfl fun a_529 HE530 => ?_
                          refine pl_x HE530 HH488 (wt0 rfl) (x_assign rfl) rfl rfl fun a_531 HE532 => ?_
                          refine wpList_nil ?_
                          clear a_525 HE526 a_527 HE528 a_529 HE530
                          have E71 : ((powSeen y a2 l).2) = l := by
                            rw [hps]; first | (rw [if_pos (by assumption)]) | (rw [if_neg (by assumption)])
                          have HH533 := HH488.toIf True
                          have E72 : ((stepFI a0 y).1) = (stepFS a0 y).1 := by
                            exact hs3.symm
                          exact nrm ⟨(a3 - ((k + 1) : Int)).toNat, (by omega), k + 1, (stepFI a0 y).1, (powSeen y a2 l).2, A_10, c_10, S_10, Ar68_0, cr68_0, Sr68, True, rfl, HE532.sub ⟨(by rw [E71]; rfl), (by rw [E72]; rfl), (lkI rfl (by first | rfl | omega | (simp [hc22, hc24, hc25, hc27, hc29, p32_0, p32_1, p32_2, p32_3, hc54, hc66, hc67, hc69, hc70]; done))), rfl, rfl, rfl, trivial⟩, ((HH533.sel [1, 0] (by decide) rfl).to (by first | rfl | (rw [E71, E72]; done) | (rw [E71, E72]; rfl) | (simp only [E71, E72]; done) | (simp only [E71, E72]; rfl))), (by first | omega | assumption | (simp; done) | simp_all), (by exact NatP_step hV.2 p32_1 (by omega) (by omega)), (by rw [p32_2, runPw_step (g := (a3 - ((k + 1 : Nat) : Int)).toNat) (by omega) (by rw [hpf, hps]; first | (rw [if_pos (by assumption)]; simp at *; omega) | (rw [if_neg (by assumption)]; simp at *; omega)) (by omega) (by omega)]; rfl), (by rw [hps]; first | (rw [if_pos (by assumption)]; simp at *; omega) | (rw [if_neg (by assumption)]; simp at *; omega)), (by first | exact .inl trivial | (rw [E71, E72]; exact .inl trivial))⟩
        · refine pl_no HE73 (wtF HE73 rfl rfl rfl (not_t hc27)) rfl rfl fun a_534 HE535 => ?_
          refine pl_no HE535 (wtF HE535 rfl rfl rfl (not_t hc27)) rfl rfl fun a_536 HE537 => ?_
          refine pl_no HE537 (wtF HE537 rfl rfl rfl (not_t hc27)) rfl rfl fun a_538 HE539 => ?_
          refine pl_x HE539 HH65 (wt0 rfl) (x_pickT rfl (not_t hc27) rfl) rfl rfl fun a_540 HE541 => ?_
          refine wpList_nil ?_
          clear a_27 HE28 a_33 HE34 a_35 HE36 a_37 HE38 HH22 a_61 HE62 a_66 HE67 a_68 HE69 a_70 HE71 a_72 HE73 a_534 HE535 a_536 HE537 a_538 HE539 hK64 K_63
          refine nrm ?_
          refine cndT HE541 rfl rfl ?_
          refine wp_seq ?_
          refine rg ?_
          refine pl_x HE541 HH65 (wt0 rfl) (x_assign rfl) rfl rfl fun a_542 HE543 => ?_
          refine pl_x HE543 HH65 (wt0 rfl) (x_assign rfl) rfl rfl fun a_544 HE545 => ?_
          refine wpList_nil ?_
          clear a_540 HE541 a_542 HE543
          refine nrm ?_
          refine wp_ret ?_
          refine (thn_ret ?_)
          refine ret2 HE545 rfl (rv_tmp rfl) (rv_tmp rfl) ?_
          have hF : (powersSeen a0 a1 a2 a3) = ([], 2) := by
            first | grind [powersSeen] | (have hq := p0_2; rw [runPw_eq] at hq; unfold powersSeen; grind [powSeen])
          exact ⟨none, 0, by first | (rw [hF] <;> rfl) | rfl | (rw [hF]; simp only [Ending.returned.injEq, Value.slice.injEq, true_and, and_true]; first | omega | (simp; done)), by rw [hF]; exact (So.nil (Nat.zero_le _)), HH65.below⟩
  · refine pl_no HE17 (wtF HE17 rfl rfl rfl (not_t hc22)) rfl rfl fun a_546 HE547 => ?_
    refine pl_no HE547 (wtF HE547 rfl rfl rfl (not_t hc22)) rfl rfl fun a_548 HE549 => ?_
    refine pl_no HE549 (wtF HE549 rfl rfl rfl (not_t hc22)) rfl rfl fun a_550 HE551 => ?_
    refine pl_x HE551 HH1 (wt0 rfl) (x_pickT rfl (not_t hc22) rfl) rfl rfl fun a_552 HE553 => ?_
    refine wpList_nil ?_
    clear a_6 HE7 a_8 HE9 a_12 HE13 a_14 HE15 a_16 HE17 a_546 HE547 a_548 HE549 a_550 HE551 hK11 K_10
    refine nrm ?_
    refine cndT HE553 rfl rfl ?_
    refine wp_seq ?_
    refine rg ?_
    refine pl_x HE553 HH1 (wt0 rfl) (x_assign rfl) rfl rfl fun a_554 HE555 => ?_
    refine pl_x HE555 HH1 (wt0 rfl) (x_assign rfl) rfl rfl fun a_556 HE557 => ?_
    refine wpList_nil ?_
    clear a_552 HE553 a_554 HE555
    refine nrm ?_
    refine wp_ret ?_
    refine (thn_ret ?_)
    refine ret2 HE557 rfl (rv_tmp rfl) (rv_tmp rfl) ?_
    have hF : (powersSeen a0 a1 a2 a3) = ([], 1) := by
      first | grind [powersSeen] | (have hq := p0_2; rw [runPw_eq] at hq; unfold powersSeen; grind [powSeen])
    exact ⟨none, 0, by first | (rw [hF] <;> rfl) | rfl | (rw [hF]; simp only [Ending.returned.injEq, Value.slice.injEq, true_and, and_true]; first | omega | (simp; done)), by rw [hF]; exact (So.nil (Nat.zero_le _)), HH1.below⟩

end Go.Proofs.Ytnokeoejlfodkaa
