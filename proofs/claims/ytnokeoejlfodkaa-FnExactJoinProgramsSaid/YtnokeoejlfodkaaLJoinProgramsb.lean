/- What the proof of FnExactJoinPrograms needs: contracts of the functions that it reaches, each once. -/
import Derived.Test.YtnokeoejlfodkaaProg
import Derived.Test.YtnokeoejlfodkaaQMem
import Derived.Test.YtnokeoejlfodkaaQOpen
import Derived.Test.YtnokeoejlfodkaaLJoinProgramsa
import Derived.WalkKit
import Derived.WalkSpells
import Derived.Below
import Derived.LoopTactic
import Derived.Outline
import Derived.Deep.QuietTactic
import Derived.BigQuiet
import Derived.Deep.LoopGhost
import Derived.Handy
import Derived.Lib.Hide
import Derived.Shelf.Abstract
import Derived.StillTailTactics
import Derived.OwnWalk
import Derived.Maps.AppendAt
import Derived.RegionTactic
import Derived.Deep.RegionHeld3
import Derived.IntWalk
import Derived.Deep.Upon
import Derived.Laws.OwnMore
import Derived.Maps.AppendAt
import Derived.Lib.SliceRun
import Derived.Lib.AppendZeros
namespace Go.Proofs.Ytnokeoejlfodkaa
open Go.RowKit

set_option maxRecDepth 100000 in
set_option maxHeartbeats 4000000 in
theorem spec_l07Shift (A0 : Option Addr) (c0 : Nat) (a0 : (List tInstr)) (a1 : Int) (a2 : Int) (w : World) (h0 : Sl eInstr w (Old w) A0 c0 a0) (s0 : ∀ x ∈ a0, (x.1 = 0 ∨ x.1 = 1) ∧ (0 ≤ x.2.2.1 ∧ x.2.2.1 ≤ 400) ∧ 0 ≤ x.2.2.2 ∧ x.2.2.2 ≤ 400) (s1 : 0 ≤ a1 ∧ a1 ≤ 1000000) (s2 : a0.length ≤ 1000) (s3 : 0 ≤ a2 ∧ a2 ≤ 1000000) :
    Calls Try.prog 171 #[.slice A0 a0.length c0, .int .i64 a1, .int .i64 a2] w fun e w' => ∃ (A0' : Option Addr) (c0' : Nat), e = .returned (.slice A0' (shiftP a0 a1 a2).length c0') ∧ So eInstr w' (Fr w w') A0' c0' (shiftP a0 a1 a2) ∧ Below w.heap.size w w' := by
  have l0 := h0.len
  have HH1 := Held.start Nob w
  refine enter (n := 74) Try.func171 rfl rfl rfl fun a_2 HE3 => ?_
  refine wp_seq ?_
  refine rg ?_
  refine pl_x HE3 HH1 (wt0 rfl) (x_assign rfl) rfl rfl fun a_4 HE5 => ?_
  refine wpList_nil ?_
  clear a_2 HE3
  refine nrm ?_
  refine wp_seq ?_
  refine rg ?_
  refine pl fun K_6 hK7 => ?_
  refine st_lit (m := 0) (cs := []) (e := 116) HE5 HH1 (run_lit ts_24 HE5 (vs := []) rfl rfl (by simp [Value.cells]) rfl (by decide)) (wt0 rfl) rfl rfl fun q21 a_8 w' HE9 HH10 => hK7 _ _ ?_
  refine pl_x HE9 HH10 (wt0 rfl) (x_move rfl) rfl rfl fun a_11 HE12 => ?_
  refine pl fun K_13 hK14 => ?_
  have HH15 := Held.vecFlat (E := eInstr) (xs := []) (css := []) HH10 rfl (Nat.zero_le _) (fun i x hx => by simp at hx)
  refine st_appS flat_Instr HE12 HH15 ts_24 [0] (by decide) rfl rfl rfl (HH15.old h0) (by unfold maxLen; first | omega | (simp; done) | (simp; omega)) (by first | omega | (simp; done) | (simp; omega)) (wt0 rfl) rfl fun A22 c23 S24 a_16 w' HE17 HH18 => hK14 _ _ ?_
  have lA22 : (([] : List tInstr) ++ a0).length = List.length ([] : List tInstr) + List.length a0 := List.length_append
  refine pl_x HE17 HH18 (wt0 rfl) (x_assign rfl) rfl rfl fun a_19 HE20 => ?_
  refine wpList_nil ?_
  clear a_4 HE5 HH1 a_8 HE9 K_6 hK7 HH10 a_11 HE12 HH15 a_16 HE17 hK14 K_13
  refine nrm ?_
  refine wp_seq ?_
  refine rg ?_
  refine pl_x HE20 HH18 (wt0 rfl) (x_move rfl) rfl rfl fun a_21 HE22 => ?_
  refine pl_x HE22 HH18 (wt0 rfl) (x_len Try.underlying24 rfl) rfl rfl fun a_23 HE24 => ?_
  refine pl_x HE24 HH18 (wt0 rfl) (x_assign rfl) rfl rfl fun a_25 HE26 => ?_
  refine wpList_nil ?_
  clear a_19 HE20 a_21 HE22 a_23 HE24
  refine nrm ?_
  refine wp_seq ?_
  refine wp_seq ?_
  refine rg ?_
  refine pl_x HE26 HH18 (wt0 rfl) (x_assign rfl) rfl rfl fun a_27 HE28 => ?_
  refine wpList_nil ?_
  clear a_25 HE26
  refine nrm ?_
  refine wp_block ?_
  have HH29 := HH18.vecSo
  refine lp (fun m a w' => ∃ (k : Nat) (S_7 : Nat → Prop), m = a0.length - k ∧ Env 74 [(9, .int .i64 (k : Int)), (0, .slice A0 (a0.length) c0), (1, .int .i64 (a1)), (2, .int .i64 (a2)), (7, .slice A22 ((([] : List tInstr) ++ a0).length) c23), (8, .int .i64 ((a0.length : Int)))] a ∧ Held Nob w [rSo eInstr S_7 A22 c23 (redTo (partTo a0 a2 a1) a0 k)] w' ∧ (k ≤ a0.length)) (a0.length - (0)) ?_ ?_
  · have E25 : redTo (partTo a0 a2 a1) a0 0 = (([] : List tInstr) ++ a0) := by
      rw [redTo_zero]; simp
    exact ⟨0, S24, rfl, HE28.sub ⟨(lkI rfl (by first | rfl | omega | (simp []; done))), rfl, rfl, rfl, rfl, rfl, trivial⟩, ((HH29.sel [0] (by decide) rfl).to (by first | rfl | (rw [E25]; done) | (rw [E25]; rfl) | (simp only [E25]; done) | (simp only [E25]; rfl))), (by first | omega | assumption | (simp; done) | simp_all)⟩
  · rintro m a_30 w' ⟨k, S_7, rfl, HE31, HH32, p26_0⟩
    have hl0 := redTo_len (partTo a0 a2 a1) a0 k
    have hl1 : ([] ++ a0).length = a0.length := rfl
    refine wp_seq ?_
    refine wp_seq ?_
    refine rg ?_
    refine pl_x HE31 HH32 (wt0 rfl) (x_move rfl) rfl rfl fun a_33 HE34 => ?_
    refine pl_x HE34 HH32 (wt0 rfl) (x_move rfl) rfl rfl fun a_35 HE36 => ?_
    refine pl_x HE36 HH32 (wt0 rfl) (x_len Try.underlying24 rfl) rfl rfl fun a_37 HE38 => ?_
    refine pl_x HE38 HH32 (wt0 rfl) (x_lss rfl rfl) rfl rfl fun a_39 HE40 => ?_
    refine wpList_nil ?_
    clear HH18 a_27 HE28 HH29 a_30 HE31 a_33 HE34 a_35 HE36 a_37 HE38
    refine nrm ?_
    refine cnd_d HE40 rfl (fun hc27 => ?_) (fun hc27 => ?_)
    · refine wp_skip ?_
      refine nrm ?_
      refine wp_seq ?_
      refine wp_block ?_
      refine wp_seq ?_
      refine wp_seq ?_
      refine rg ?_
      refine pl_x HE40 HH32 (wt0 rfl) (x_move rfl) rfl rfl fun a_41 HE42 => ?_
      refine pl_x HE42 HH32 (wt0 rfl) (x_move rfl) rfl rfl fun a_43 HE44 => ?_
      have ke28 : k < a0.length := by omega
      obtain ⟨be28, fe28, ese28, Ae28, Re28, De28⟩ := el_old h0 ke28
      obtain ⟨e28, xe28⟩ : ∃ x_, x_ = a0[k] := ⟨_, rfl⟩
      rw [← xe28] at Re28
      have Qe28 := Re28
      obtain ⟨rfl, ge28_0, ge28_1, ge28_2, ge28_3⟩ := shape_Instr Re28
      have je28_0 := ge28_0; unfold I64 at je28_0
      have je28_1 := ge28_1; unfold I64 at je28_1
      have je28_2 := ge28_2; unfold I64 at je28_2
      have je28_3 := ge28_3; unfold I64 at je28_3
      have be28 := s0 e28 (by rw [xe28]; exact List.getElem_mem _)
      refine pl_x HE44 HH32 (wt0 rfl) (x_indexAddr ts_24 rfl rfl Ae28 rfl ke28) rfl rfl fun a_45 HE46 => ?_
      refine pl_x HE46 HH32 (wt0 rfl) (x_fieldAddr fa_116_2 rfl) rfl rfl fun a_47 HE48 => ?_
      refine pl_x HE48 HH32 (wt0 rfl) (x_load1 tv_2 rfl (c_old (De28 2 _ rfl))) rfl rfl fun a_49 HE50 => ?_
      refine pl_x HE50 HH32 (wt0 rfl) (x_move rfl) rfl rfl fun a_51 HE52 => ?_
      refine pl_x HE52 HH32 (wt0 rfl) (x_eql rfl rfl) rfl rfl fun a_53 HE54 => ?_
      refine wpList_nil ?_
      clear a_39 HE40 a_41 HE42 a_43 HE44 a_45 HE46 a_47 HE48 a_49 HE50 a_51 HE52
      refine nrm ?_
      refine cnd_e HE54 rfl (fun hc29 => ?_) (fun hc29 => ?_)
      · refine rg ?_
        refine pl_x HE54 HH32 (wt0 rfl) (x_move rfl) rfl rfl fun a_55 HE56 => ?_
        refine pl_x HE56 HH32 (wt0 rfl) (x_move rfl) rfl rfl fun a_57 HE58 => ?_
        refine pl_x HE58 HH32 (wt0 rfl) (x_move rfl) rfl rfl fun a_59 HE60 => ?_
        have ke30 : k < List.length (redTo (partTo a0 a2 a1) a0 k) := by rw [redTo_len]; omega
        have ne30 : k < (([] : List tInstr) ++ a0).length := by omega
        obtain ⟨be30, fe30, ese30, Te30, rfl, Re30, Ze30, HH61⟩ := HH32.open ke30
        obtain ⟨e30, xe30⟩ : ∃ x_, x_ = (redTo (partTo a0 a2 a1) a0 k)[k] := ⟨_, rfl⟩
        rw [← xe30] at Re30
        rw [← xe30] at HH61
        obtain ⟨rfl, ge30_0, ge30_1, ge30_2, ge30_3⟩ := shape_Instr Re30
        clear Re30
        have je30_0 := ge30_0; unfold I64 at je30_0
        have je30_1 := ge30_1; unfold I64 at je30_1
        have je30_2 := ge30_2; unfold I64 at je30_2
        have je30_3 := ge30_3; unfold I64 at je30_3
        have hxe30 : e30 = a0[k] := by rw [xe30]; exact redTo_at _ _ (by omega) _
        refine pl_x HE60 HH61 (wt0 rfl) (x_indexAddr ts_24 rfl rfl rfl rfl ne30) rfl rfl fun a_62 HE63 => ?_
        refine pl_x HE63 HH61 (wt0 rfl) (x_fieldAddr fa_116_2 rfl) rfl rfl fun a_64 HE65 => ?_
        refine pl fun K_66 hK67 => ?_
        refine st_storeF (j := 2) 0 HE65 HH61 tv_2 rfl rfl rfl rfl rfl rfl (wt0 rfl) fun w' HH68 => hK67 _ _ ?_
        refine wpList_nil ?_
        clear a_53 HE54 a_55 HE56 a_57 HE58 HH32 a_59 HE60 a_62 HE63 HH61 hK67 K_66
        refine nrm ?_
        refine wp_seq ?_
        refine wp_seq ?_
        refine rg ?_
        refine pl_x HE65 HH68 (wt0 rfl) (x_move rfl) rfl rfl fun a_69 HE70 => ?_
        refine pl_x HE70 HH68 (wt0 rfl) (x_move rfl) rfl rfl fun a_71 HE72 => ?_
        refine pl_x HE72 HH68 (wt0 rfl) (x_indexAddr ts_24 rfl rfl Ae28 rfl ke28) rfl rfl fun a_73 HE74 => ?_
        refine pl_x HE74 HH68 (wt0 rfl) (x_fieldAddr fa_116_0 rfl) rfl rfl fun a_75 HE76 => ?_
        refine pl_x HE76 HH68 (wt0 rfl) (x_load1 tv_2 rfl (c_old (De28 0 _ rfl))) rfl rfl fun a_77 HE78 => ?_
        refine pl_x HE78 HH68 (wt0 rfl) (x_eql rfl rfl) rfl rfl fun a_79 HE80 => ?_
        refine wpList_nil ?_
        clear a_64 HE65 a_69 HE70 a_71 HE72 a_73 HE74 a_75 HE76 a_77 HE78
        refine nrm ?_
        refine cnd_e HE80 rfl (fun hc31 => ?_) (fun hc31 => ?_)
        · refine wp_exit ?_
          refine (thn_exit (blk_hit ?_))
          refine nrm ?_
          refine rg ?_
          refine pl_x HE80 HH68 (wt0 rfl) (x_move rfl) rfl rfl fun a_81 HE82 => ?_
          refine pl_x HE82 HH68 (wt0 rfl) (x_add rfl rfl (by exact ⟨by omega, by omega⟩)) rfl rfl fun a_83 HE84 => ?_
          refine pl_x HE84 HH68 (wt0 rfl) (x_assign rfl) rfl rfl fun a_85 HE86 => ?_
          refine wpList_nil ?_
          clear a_79 HE80 a_81 HE82 a_83 HE84
          have HH87 := HH68.flatO (E := eInstr) (cs := [.int .i64 (e30.1), .int .i64 (e30.2.1), .int .i64 (a2), .int .i64 (e30.2.2.2)]) (x := (e30.1, e30.2.1, a2, e30.2.2.2)) (fun _ => (oPrN (oI (by exact ⟨by omega, by omega⟩)) (oPrN (oI (by exact ⟨by omega, by omega⟩)) (oPrN (oI (by exact ⟨by omega, by omega⟩)) (oI (by exact ⟨by omega, by omega⟩))))))
          have HH88 := HH87.sel [1, 0, 2] (by decide) rfl
          have HH89 := HH88.shut
          obtain ⟨S32, HH90⟩ : ∃ S, Held Nob w (rSo eInstr S (some ⟨be30, fe30, none⟩) c23 ((redTo (partTo a0 a2 a1) a0 k).set k (e30.1, e30.2.1, a2, e30.2.2.2)) :: _) _ := ⟨_, HH89⟩
          have E33 : redTo (partTo a0 a2 a1) a0 (k + 1) = ((redTo (partTo a0 a2 a1) a0 k).set k (e30.1, e30.2.1, a2, e30.2.2.2)) := by
            rw [redTo_succ _ _ (by omega), ← hxe30]; unfold red partTo; grind
          exact nrm ⟨a0.length - (k + 1), (by omega), k + 1, S32, rfl, HE86.sub ⟨(lkI rfl (by first | rfl | omega | (simp [p26_0, hc27, xe28, hc29, xe30, hc31]; done))), rfl, rfl, rfl, rfl, rfl, trivial⟩, ((HH90.sel [0] (by decide) rfl).to (by first | rfl | (rw [E33]; done) | (rw [E33]; rfl) | (simp only [E33]; done) | (simp only [E33]; rfl))), (by first | omega | assumption | (simp; done) | simp_all)⟩
        · refine wp_skip ?_
          refine nrm ?_
          refine wp_seq ?_
          refine rg ?_
          refine pl_x HE80 HH68 (wt0 rfl) (x_move rfl) rfl rfl fun a_91 HE92 => ?_
          refine pl_x HE92 HH68 (wt0 rfl) (x_move rfl) rfl rfl fun a_93 HE94 => ?_
          refine pl_x HE94 HH68 (wt0 rfl) (x_indexAddr ts_24 rfl rfl Ae28 rfl ke28) rfl rfl fun a_95 HE96 => ?_
          refine pl_x HE96 HH68 (wt0 rfl) (x_fieldAddr fa_116_3 rfl) rfl rfl fun a_97 HE98 => ?_
          refine pl_x HE98 HH68 (wt0 rfl) (x_load1 tv_2 rfl (c_old (De28 3 _ rfl))) rfl rfl fun a_99 HE100 => ?_
          refine pl_x HE100 HH68 (wt0 rfl) (x_move rfl) rfl rfl fun a_101 HE102 => ?_
          refine pl_x HE102 HH68 (wt0 rfl) (x_eql rfl rfl) rfl rfl fun a_103 HE104 => ?_
          refine wpList_nil ?_
          clear a_79 HE80 a_91 HE92 a_93 HE94 a_95 HE96 a_97 HE98 a_99 HE100 a_101 HE102
          refine nrm ?_
          refine cnd_e HE104 rfl (fun hc34 => ?_) (fun hc34 => ?_)
          · refine rg ?_
            refine pl_x HE104 HH68 (wt0 rfl) (x_move rfl) rfl rfl fun a_105 HE106 => ?_
            refine pl_x HE106 HH68 (wt0 rfl) (x_move rfl) rfl rfl fun a_107 HE108 => ?_
            refine pl_x HE108 HH68 (wt0 rfl) (x_move rfl) rfl rfl fun a_109 HE110 => ?_
            refine pl_x HE110 HH68 (wt0 rfl) (x_indexAddr ts_24 rfl rfl rfl rfl ne30) rfl rfl fun a_111 HE112 => ?_
            refine pl_x HE112 HH68 (wt0 rfl) (x_fieldAddr fa_116_3 rfl) rfl rfl fun a_113 HE114 => ?_
            refine pl fun K_115 hK116 => ?_
            refine st_storeF (j := 3) 0 HE114 HH68 tv_2 rfl rfl rfl rfl rfl rfl (wt0 rfl) fun w' HH117 => hK116 _ _ ?_
            refine wpList_nil ?_
            clear a_103 HE104 a_105 HE106 a_107 HE108 a_109 HE110 a_111 HE112 HH68 hK116 K_115
            refine blk_n ?_
            refine nrm ?_
            refine rg ?_
            refine pl_x HE114 HH117 (wt0 rfl) (x_move rfl) rfl rfl fun a_118 HE119 => ?_
            refine pl_x HE119 HH117 (wt0 rfl) (x_add rfl rfl (by exact ⟨by omega, by omega⟩)) rfl rfl fun a_120 HE121 => ?_
            refine pl_x HE121 HH117 (wt0 rfl) (x_assign rfl) rfl rfl fun a_122 HE123 => ?_
            refine wpList_nil ?_
            clear a_113 HE114 a_118 HE119 a_120 HE121
            have HH124 := HH117.flatO (E := eInstr) (cs := [.int .i64 (e30.1), .int .i64 (e30.2.1), .int .i64 (a2), .int .i64 (a2)]) (x := (e30.1, e30.2.1, a2, a2)) (fun _ => (oPrN (oI (by exact ⟨by omega, by omega⟩)) (oPrN (oI (by exact ⟨by omega, by omega⟩)) (oPrN (oI (by exact ⟨by omega, by omega⟩)) (oI (by exact ⟨by omega, by omega⟩))))))
            have HH125 := HH124.sel [1, 0, 2] (by decide) rfl
            have HH126 := HH125.shut
            obtain ⟨S35, HH127⟩ : ∃ S, Held Nob w (rSo eInstr S (some ⟨be30, fe30, none⟩) c23 ((redTo (partTo a0 a2 a1) a0 k).set k (e30.1, e30.2.1, a2, a2)) :: _) _ := ⟨_, HH126⟩
            have E36 : redTo (partTo a0 a2 a1) a0 (k + 1) = ((redTo (partTo a0 a2 a1) a0 k).set k (e30.1, e30.2.1, a2, a2)) := by
              rw [redTo_succ _ _ (by omega), ← hxe30]; unfold red partTo; grind
            exact nrm ⟨a0.length - (k + 1), (by omega), k + 1, S35, rfl, HE123.sub ⟨(lkI rfl (by first | rfl | omega | (simp [p26_0, hc27, xe28, hc29, xe30, hc31, hc34]; done))), rfl, rfl, rfl, rfl, rfl, trivial⟩, ((HH127.sel [0] (by decide) rfl).to (by first | rfl | (rw [E36]; done) | (rw [E36]; rfl) | (simp only [E36]; done) | (simp only [E36]; rfl))), (by first | omega | assumption | (simp; done) | simp_all)⟩
          · refine rg ?_
            refine pl_x HE104 HH68 (wt0 rfl) (x_move rfl) rfl rfl fun a_128 HE129 => ?_
            refine pl_x HE129 HH68 (wt0 rfl) (x_move rfl) rfl rfl fun a_130 HE131 => ?_
            refine pl_x HE131 HH68 (wt0 rfl) (x_move rfl) rfl rfl fun a_132 HE133 => ?_
            refine pl_x HE133 HH68 (wt0 rfl) (x_move rfl) rfl rfl fun a_134 HE135 => ?_
            refine pl_x HE135 HH68 (wt0 rfl) (x_indexAddr ts_24 rfl rfl Ae28 rfl ke28) rfl rfl fun a_136 HE137 => ?_
            refine pl_x HE137 HH68 (wt0 rfl) (x_fieldAddr fa_116_3 rfl) rfl rfl fun a_138 HE139 => ?_
            refine pl_x HE139 HH68 (wt0 rfl) (x_load1 tv_2 rfl (c_old (De28 3 _ rfl))) rfl rfl fun a_140 HE141 => ?_
            refine pl_x HE141 HH68 (wt0 rfl) (x_move rfl) rfl rfl fun a_142 HE143 => ?_
            refine pl_x HE143 HH68 (wt0 rfl) (x_add rfl rfl (by exact ⟨by omega, by omega⟩)) rfl rfl fun a_144 HE145 => ?_
            refine pl_x HE145 HH68 (wt0 rfl) (x_indexAddr ts_24 rfl rfl rfl rfl ne30) rfl rfl fun a_146 HE147 => ?_
            refine pl_x HE147 HH68 (wt0 rfl) (x_fieldAddr fa_116_3 rfl) rfl rfl fun a_148 HE149 => ?_
            refine pl fun K_150 hK151 => ?_
            refine st_storeF (j := 3) 0 HE149 HH68 tv_2 rfl rfl rfl rfl rfl rfl (wt0 rfl) fun w' HH152 => hK151 _ _ ?_
            refine wpList_nil ?_
            clear a_103 HE104 a_128 HE129 a_130 HE131 a_132 HE133 a_134 HE135 a_136 HE137 a_138 HE139 a_140 HE141 a_142 HE143 a_144 HE145 a_146 HE147 HH68 hK151 K_150
            refine blk_n ?_
            refine nrm ?_
            refine rg ?_
            refine pl_x HE149 HH152 (wt0 rfl) (x_move rfl) rfl rfl fun a_153 HE154 => ?_
            refine pl_x HE154 HH152 (wt0 rfl) (x_add rfl rfl (by exact ⟨by omega, by omega⟩)) rfl rfl fun a_155 HE156 => ?_
            refine pl_x HE156 HH152 (wt0 rfl) (x_assign rfl) rfl rfl fun a_157 HE158 => ?_
            refine wpList_nil ?_
            clear a_148 HE149 a_153 HE154 a_155 HE156
            have HH159 := HH152.flatO (E := eInstr) (cs := [.int .i64 (e30.1), .int .i64 (e30.2.1), .int .i64 (a2), .int .i64 ((e28.2.2.2 + a1))]) (x := (e30.1, e30.2.1, a2, (e28.2.2.2 + a1))) (fun _ => (oPrN (oI (by exact ⟨by omega, by omega⟩)) (oPrN (oI (by exact ⟨by omega, by omega⟩)) (oPrN (oI (by exact ⟨by omega, by omega⟩)) (oI (by exact ⟨by omega, by omega⟩))))))
            have HH160 := HH159.sel [1, 0, 2] (by decide) rfl
            have HH161 := HH160.shut
            obtain ⟨S37, HH162⟩ : ∃ S, Held Nob w (rSo eInstr S (some ⟨be30, fe30, none⟩) c23 ((redTo (partTo a0 a2 a1) a0 k).set k (e30.1, e30.2.1, a2, (e28.2.2.2 + a1))) :: _) _ := ⟨_, HH161⟩
            have E38 : redTo (partTo a0 a2 a1) a0 (k + 1) = ((redTo (partTo a0 a2 a1) a0 k).set k (e30.1, e30.2.1, a2, (e28.2.2.2 + a1))) := by
              rw [redTo_succ _ _ (by omega), ← hxe30]; unfold red partTo; grind
            exact nrm ⟨a0.length - (k + 1), (by omega), k + 1, S37, rfl, HE158.sub ⟨(lkI rfl (by first | rfl | omega | (simp [p26_0, hc27, xe28, hc29, xe30, hc31, hc34]; done))), rfl, rfl, rfl, rfl, rfl, trivial⟩, ((HH162.sel [0] (by decide) rfl).to (by first | rfl | (rw [E38]; done) | (rw [E38]; rfl) | (simp only [E38]; done) | (simp only [E38]; rfl))), (by first | omega | assumption | (simp; done) | simp_all)⟩
      · refine rg ?_
        refine pl_x HE54 HH32 (wt0 rfl) (x_move rfl) rfl rfl fun a_163 HE164 => ?_
        refine pl_x HE164 HH32 (wt0 rfl) (x_move rfl) rfl rfl fun a_165 HE166 => ?_
        refine pl_x HE166 HH32 (wt0 rfl) (x_move rfl) rfl rfl fun a_167 HE168 => ?_
        refine pl_x HE168 HH32 (wt0 rfl) (x_move rfl) rfl rfl fun a_169 HE170 => ?_
        refine pl_x HE170 HH32 (wt0 rfl) (x_indexAddr ts_24 rfl rfl Ae28 rfl ke28) rfl rfl fun a_171 HE172 => ?_
        refine pl_x HE172 HH32 (wt0 rfl) (x_fieldAddr fa_116_2 rfl) rfl rfl fun a_173 HE174 => ?_
        refine pl_x HE174 HH32 (wt0 rfl) (x_load1 tv_2 rfl (c_old (De28 2 _ rfl))) rfl rfl fun a_175 HE176 => ?_
        refine pl_x HE176 HH32 (wt0 rfl) (x_move rfl) rfl rfl fun a_177 HE178 => ?_
        refine pl_x HE178 HH32 (wt0 rfl) (x_add rfl rfl (by exact ⟨by omega, by omega⟩)) rfl rfl fun a_179 HE180 => ?_
        have ke39 : k < List.length (redTo (partTo a0 a2 a1) a0 k) := by rw [redTo_len]; omega
        have ne39 : k < (([] : List tInstr) ++ a0).length := by omega
        obtain ⟨be39, fe39, ese39, Te39, rfl, Re39, Ze39, HH181⟩ := HH32.open ke39
        obtain ⟨e39, xe39⟩ : ∃ x_, x_ = (redTo (partTo a0 a2 a1) a0 k)[k] := ⟨_, rfl⟩
        rw [← xe39] at Re39
        rw [← xe39] at HH181
        obtain ⟨rfl, ge39_0, ge39_1, ge39_2, ge39_3⟩ := shape_Instr Re39
        clear Re39
        have je39_0 := ge39_0; unfold I64 at je39_0
        have je39_1 := ge39_1; unfold I64 at je39_1
        have je39_2 := ge39_2; unfold I64 at je39_2
        have je39_3 := ge39_3; unfold I64 at je39_3
        have hxe39 : e39 = a0[k] := by rw [xe39]; exact redTo_at _ _ (by omega) _
        refine pl_x HE180 HH181 (wt0 rfl) (x_indexAddr ts_24 rfl rfl rfl rfl ne39) rfl rfl fun a_182 HE183 => ?_
        refine pl_x HE183 HH181 (wt0 rfl) (x_fieldAddr fa_116_2 rfl) rfl rfl fun a_184 HE185 => ?_
        refine pl fun K_186 hK187 => ?_
        refine st_storeF (j := 2) 0 HE185 HH181 tv_2 rfl rfl rfl rfl rfl rfl (wt0 rfl) fun w' HH188 => hK187 _ _ ?_
        refine wpList_nil ?_
        clear a_53 HE54 a_163 HE164 a_165 HE166 a_167 HE168 a_169 HE170 a_171 HE172 a_173 HE174 a_175 HE176 a_177 HE178 HH32 a_179 HE180 a_182 HE183 HH181 hK187 K_186
        refine nrm ?_
        refine wp_seq ?_
        refine wp_seq ?_
        refine rg ?_
        refine pl_x HE185 HH188 (wt0 rfl) (x_move rfl) rfl rfl fun a_189 HE190 => ?_
        refine pl_x HE190 HH188 (wt0 rfl) (x_move rfl) rfl rfl fun a_191 HE192 => ?_
        refine pl_x HE192 HH188 (wt0 rfl) (x_indexAddr ts_24 rfl rfl Ae28 rfl ke28) rfl rfl fun a_193 HE194 => ?_
        refine pl_x HE194 HH188 (wt0 rfl) (x_fieldAddr fa_116_0 rfl) rfl rfl fun a_195 HE196 => ?_
        refine pl_x HE196 HH188 (wt0 rfl) (x_load1 tv_2 rfl (c_old (De28 0 _ rfl))) rfl rfl fun a_197 HE198 => ?_
        refine pl_x HE198 HH188 (wt0 rfl) (x_eql rfl rfl) rfl rfl fun a_199 HE200 => ?_
        refine wpList_nil ?_
        clear a_184 HE185 a_189 HE190 a_191 HE192 a_193 HE194 a_195 HE196 a_197 HE198
        refine nrm ?_
        refine cnd_e HE200 rfl (fun hc40 => ?_) (fun hc40 => ?_)
        · refine wp_exit ?_
          refine (thn_exit (blk_hit ?_))
          refine nrm ?_
          refine rg ?_
          refine pl_x HE200 HH188 (wt0 rfl) (x_move rfl) rfl rfl fun a_201 HE202 => ?_
          refine pl_x HE202 HH188 (wt0 rfl) (x_add rfl rfl (by exact ⟨by omega, by omega⟩)) rfl rfl fun a_203 HE204 => ?_
          refine pl_x HE204 HH188 (wt0 rfl) (x_assign rfl) rfl rfl fun a_205 HE206 => ?_
          refine wpList_nil ?_
          clear a_199 HE200 a_201 HE202 a_203 HE204
          have HH207 := HH188.flatO (E := eInstr) (cs := [.int .i64 (e39.1), .int .i64 (e39.2.1), .int .i64 ((e28.2.2.1 + a1)), .int .i64 (e39.2.2.2)]) (x := (e39.1, e39.2.1, (e28.2.2.1 + a1), e39.2.2.2)) (fun _ => (oPrN (oI (by exact ⟨by omega, by omega⟩)) (oPrN (oI (by exact ⟨by omega, by omega⟩)) (oPrN (oI (by exact ⟨by omega, by omega⟩)) (oI (by exact ⟨by omega, by omega⟩))))))
          have HH208 := HH207.sel [1, 0, 2] (by decide) rfl
          have HH209 := HH208.shut
          obtain ⟨S41, HH210⟩ : ∃ S, Held Nob w (rSo eInstr S (some ⟨be39, fe39, none⟩) c23 ((redTo (partTo a0 a2 a1) a0 k).set k (e39.1, e39.2.1, (e28.2.2.1 + a1), e39.2.2.2)) :: _) _ := ⟨_, HH209⟩
          have E42 : redTo (partTo a0 a2 a1) a0 (k + 1) = ((redTo (partTo a0 a2 a1) a0 k).set k (e39.1, e39.2.1, (e28.2.2.1 + a1), e39.2.2.2)) := by
            rw [redTo_succ _ _ (by omega), ← hxe39]; unfold red partTo; grind
          exact nrm ⟨a0.length - (k + 1), (by omega), k + 1, S41, rfl, HE206.sub ⟨(lkI rfl (by first | rfl | omega | (simp [p26_0, hc27, xe28, hc29, xe39, hc40]; done))), rfl, rfl, rfl, rfl, rfl, trivial⟩, ((HH210.sel [0] (by decide) rfl).to (by first | rfl | (rw [E42]; done) | (rw [E42]; rfl) | (simp only [E42]; done) | (simp only [E42]; rfl))), (by first | omega | assumption | (simp; done) | simp_all)⟩
        · refine wp_skip ?_
          refine nrm ?_
          refine wp_seq ?_
          refine rg ?_
          refine pl_x HE200 HH188 (wt0 rfl) (x_move rfl) rfl rfl fun a_211 HE212 => ?_
          refine pl_x HE212 HH188 (wt0 rfl) (x_move rfl) rfl rfl fun a_213 HE214 => ?_
          refine pl_x HE214 HH188 (wt0 rfl) (x_indexAddr ts_24 rfl rfl Ae28 rfl ke28) rfl rfl fun a_215 HE216 => ?_
          refine pl_x HE216 HH188 (wt0 rfl) (x_fieldAddr fa_116_3 rfl) rfl rfl fun a_217 HE218 => ?_
          refine pl_x HE218 HH188 (wt0 rfl) (x_load1 tv_2 rfl (c_old (De28 3 _ rfl))) rfl rfl fun a_219 HE220 => ?_
          refine pl_x HE220 HH188 (wt0 rfl) (x_move rfl) rfl rfl fun a_221 HE222 => ?_
          refine pl_x HE222 HH188 (wt0 rfl) (x_eql rfl rfl) rfl rfl fun a_223 HE224 => ?_
          refine wpList_nil ?_
          clear a_199 HE200 a_211 HE212 a_213 HE214 a_215 HE216 a_217 HE218 a_219 HE220 a_221 HE222
          refine nrm ?_
          refine cnd_e HE224 rfl (fun hc43 => ?_) (fun hc43 => ?_)
          · refine rg ?_
            refine pl_x HE224 HH188 (wt0 rfl) (x_move rfl) rfl rfl fun a_225 HE226 => ?_
            refine pl_x HE226 HH188 (wt0 rfl) (x_move rfl) rfl rfl fun a_227 HE228 => ?_
            refine pl_x HE228 HH188 (wt0 rfl) (x_move rfl) rfl rfl fun a_229 HE230 => ?_
            refine pl_x HE230 HH188 (wt0 rfl) (x_indexAddr ts_24 rfl rfl rfl rfl ne39) rfl rfl fun a_231 HE232 => ?_
            refine pl_x HE232 HH188 (wt0 rfl) (x_fieldAddr fa_116_3 rfl) rfl rfl fun a_233 HE234 => ?_
            refine pl fun K_235 hK236 => ?_
            refine st_storeF (j := 3) 0 HE234 HH188 tv_2 rfl rfl rfl rfl rfl rfl (wt0 rfl) fun w' HH237 => hK236 _ _ ?_
            refine wpList_nil ?_
            clear a_223 HE224 a_225 HE226 a_227 HE228 a_229 HE230 a_231 HE232 HH188 hK236 K_235
            refine blk_n ?_
            refine nrm ?_
            refine rg ?_
            refine pl_x HE234 HH237 (wt0 rfl) (x_move rfl) rfl rfl fun a_238 HE239 => ?_
            refine pl_x HE239 HH237 (wt0 rfl) (x_add rfl rfl (by exact ⟨by omega, by omega⟩)) rfl rfl fun a_240 HE241 => ?_
            refine pl_x HE241 HH237 (wt0 rfl) (x_assign rfl) rfl rfl fun a_242 HE243 => ?_
            refine wpList_nil ?_
            clear a_233 HE234 a_238 HE239 a_240 HE241
            have HH244 := HH237.flatO (E := eInstr) (cs := [.int .i64 (e39.1), .int .i64 (e39.2.1), .int .i64 ((e28.2.2.1 + a1)), .int .i64 (a2)]) (x := (e39.1, e39.2.1, (e28.2.2.1 + a1), a2)) (fun _ => (oPrN (oI (by exact ⟨by omega, by omega⟩)) (oPrN (oI (by exact ⟨by omega, by omega⟩)) (oPrN (oI (by exact ⟨by omega, by omega⟩)) (oI (by exact ⟨by omega, by omega⟩))))))
            have HH245 := HH244.sel [1, 0, 2] (by decide) rfl
            have HH246 := HH245.shut
            obtain ⟨S44, HH247⟩ : ∃ S, Held Nob w (rSo eInstr S (some ⟨be39, fe39, none⟩) c23 ((redTo (partTo a0 a2 a1) a0 k).set k (e39.1, e39.2.1, (e28.2.2.1 + a1), a2)) :: _) _ := ⟨_, HH246⟩
            have E45 : redTo (partTo a0 a2 a1) a0 (k + 1) = ((redTo (partTo a0 a2 a1) a0 k).set k (e39.1, e39.2.1, (e28.2.2.1 + a1), a2)) := by
              rw [redTo_succ _ _ (by omega), ← hxe39]; unfold red partTo; grind
            exact nrm ⟨a0.length - (k + 1), (by omega), k + 1, S44, rfl, HE243.sub ⟨(lkI rfl (by first | rfl | omega | (simp [p26_0, hc27, xe28, hc29, xe39, hc40, hc43]; done))), rfl, rfl, rfl, rfl, rfl, trivial⟩, ((HH247.sel [0] (by decide) rfl).to (by first | rfl | (rw [E45]; done) | (rw [E45]; rfl) | (simp only [E45]; done) | (simp only [E45]; rfl))), (by first | omega | assumption | (simp; done) | simp_all)⟩
          · refine rg ?_
            refine pl_x HE224 HH188 (wt0 rfl) (x_move rfl) rfl rfl fun a_248 HE249 => ?_
            refine pl_x HE249 HH188 (wt0 rfl) (x_move rfl) rfl rfl fun a_250 HE251 => ?_
            refine pl_x HE251 HH188 (wt0 rfl) (x_move rfl) rfl rfl fun a_252 HE253 => ?_
            refine pl_x HE253 HH188 (wt0 rfl) (x_move rfl) rfl rfl fun a_254 HE255 => ?_
            refine pl_x HE255 HH188 (wt0 rfl) (x_indexAddr ts_24 rfl rfl Ae28 rfl ke28) rfl rfl fun a_256 HE257 => ?_
            refine pl_x HE257 HH188 (wt0 rfl) (x_fieldAddr fa_116_3 rfl) rfl rfl fun a_258 HE259 => ?_
            refine pl_x HE259 HH188 (wt0 rfl) (x_load1 tv_2 rfl (c_old (De28 3 _ rfl))) rfl rfl fun a_260 HE261 => ?_
            refine pl_x HE261 HH188 (wt0 rfl) (x_move rfl) rfl rfl fun a_262 HE263 => ?_
            refine pl_x HE263 HH188 (wt0 rfl) (x_add rfl rfl (by exact ⟨by omega, by omega⟩)) rfl rfl fun a_264 HE265 => ?_
            refine pl_x HE265 HH188 (wt0 rfl) (x_indexAddr ts_24 rfl rfl rfl rfl ne39) rfl rfl fun a_266 HE267 => ?_
            refine pl_x HE267 HH188 (wt0 rfl) (x_fieldAddr fa_116_3 rfl) rfl rfl fun a_268 HE269 => ?_
            refine pl fun K_270 hK271 => ?_
            refine st_storeF (j := 3) 0 HE269 HH188 tv_2 rfl rfl rfl rfl rfl rfl (wt0 rfl) fun w' HH272 => hK271 _ _ ?_
            refine wpList_nil ?_
            clear a_223 HE224 a_248 HE249 a_250 HE251 a_252 HE253 a_254 HE255 a_256 HE257 a_258 HE259 a_260 HE261 a_262 HE263 a_264 HE265 a_266 HE267 HH188 hK271 K_270
            refine blk_n ?_
            refine nrm ?_
            refine rg ?_
            refine pl_x HE269 HH272 (wt0 rfl) (x_move rfl) rfl rfl fun a_273 HE274 => ?_
            refine pl_x HE274 HH272 (wt0 rfl) (x_add rfl rfl (by exact ⟨by omega, by omega⟩)) rfl rfl fun a_275 HE276 => ?_
            refine pl_x HE276 HH272 (wt0 rfl) (x_assign rfl) rfl rfl fun a_277 HE278 => ?_
            refine wpList_nil ?_
            clear a_268 HE269 a_273 HE274 a_275 HE276
            have HH279 := HH272.flatO (E := eInstr) (cs := [.int .i64 (e39.1), .int .i64 (e39.2.1), .int .i64 ((e28.2.2.1 + a1)), .int .i64 ((e28.2.2.2 + a1))]) (x := (e39.1, e39.2.1, (e28.2.2.1 + a1), (e28.2.2.2 + a1))) (fun _ => (oPrN (oI (by exact ⟨by omega, by omega⟩)) (oPrN (oI (by exact ⟨by omega, by omega⟩)) (oPrN (oI (by exact ⟨by omega, by omega⟩)) (oI (by exact ⟨by omega, by omega⟩))))))
            have HH280 := HH279.sel [1, 0, 2] (by decide) rfl
            have HH281 := HH280.shut
            obtain ⟨S46, HH282⟩ : ∃ S, Held Nob w (rSo eInstr S (some ⟨be39, fe39, none⟩) c23 ((redTo (partTo a0 a2 a1) a0 k).set k (e39.1, e39.2.1, (e28.2.2.1 + a1), (e28.2.2.2 + a1))) :: _) _ := ⟨_, HH281⟩
            have E47 : redTo (partTo a0 a2 a1) a0 (k + 1) = ((redTo (partTo a0 a2 a1) a0 k).set k (e39.1, e39.2.1, (e28.2.2.1 + a1), (e28.2.2.2 + a1))) := by
              rw [redTo_succ _ _ (by omega), ← hxe39]; unfold red partTo; grind
            exact nrm ⟨a0.length - (k + 1), (by omega), k + 1, S46, rfl, HE278.sub ⟨(lkI rfl (by first | rfl | omega | (simp [p26_0, hc27, xe28, hc29, xe39, hc40, hc43]; done))), rfl, rfl, rfl, rfl, rfl, trivial⟩, ((HH282.sel [0] (by decide) rfl).to (by first | rfl | (rw [E47]; done) | (rw [E47]; rfl) | (simp only [E47]; done) | (simp only [E47]; rfl))), (by first | omega | assumption | (simp; done) | simp_all)⟩
    · refine wp_exit ?_
      refine (thn_exit (thn_exit (blk_hit ?_)))
      refine nrm ?_
      refine wp_seq ?_
      refine rg ?_
      refine pl_x HE40 HH32 (wt0 rfl) (x_move rfl) rfl rfl fun a_283 HE284 => ?_
      refine pl_x HE284 HH32 (wt0 rfl) (x_assign rfl) rfl rfl fun a_285 HE286 => ?_
      refine wpList_nil ?_
      clear a_39 HE40 a_283 HE284
      refine nrm ?_
      refine wp_ret ?_
      refine ret1 HE286 rfl (rv_tmp rfl) ?_
      have hF : (shiftP a0 a1 a2) = redTo (partTo a0 a2 a1) a0 k := by
        unfold shiftP redirP; rw [← redTo_end _ _ (by omega : a0.length ≤ k)]
      exact ⟨A22, c23, by first | (rw [hF] <;> rfl) | rfl | (rw [hF]; simp only [Ending.returned.injEq, Value.slice.injEq, true_and, and_true]; first | omega | (simp; done)), by rw [hF]; exact (HH32.so (i := 0) rfl), HH32.below⟩

set_option maxRecDepth 100000 in
set_option maxHeartbeats 4000000 in
theorem spec_l07Join (A0 : Option Addr) (c0 : Nat) (a0 : (List tInstr)) (A1 : Option Addr) (c1 : Nat) (a1 : (List tInstr)) (w : World) (h0 : Sl eInstr w (Old w) A0 c0 a0) (h1 : Sl eInstr w (Old w) A1 c1 a1) (s0 : okP a0) (s1 : okP a1) :
    Calls Try.prog 83 #[.slice A0 a0.length c0, .slice A1 a1.length c1] w fun e w' => ∃ (A0' : Option Addr) (c0' : Nat), e = .returned (.slice A0' (joinS a0 a1).length c0') ∧ So eInstr w' (Fr w w') A0' c0' (joinS a0 a1) ∧ Below w.heap.size w w' := by
  have l0 := h0.len
  have l1 := h1.len
  have s2 := s0.1
  obtain ⟨s3, s4⟩ := s1
  have s5 : (shiftP a1 (a0.length : Int) ((a0.length : Int) + (a1.length : Int))).length = a1.length := redirP_len _ _ _ _
  have HH1 := Held.start Nob w
  refine enter (n := 21) Try.func83 rfl rfl rfl fun a_2 HE3 => ?_
  refine wp_seq ?_
  refine rg ?_
  refine pl_x HE3 HH1 (wt0 rfl) (x_assign rfl) rfl rfl fun a_4 HE5 => ?_
  refine wpList_nil ?_
  clear a_2 HE3
  refine nrm ?_
  refine wp_seq ?_
  refine rg ?_
  refine pl_x HE5 HH1 (wt0 rfl) (x_move rfl) rfl rfl fun a_6 HE7 => ?_
  refine pl_x HE7 HH1 (wt0 rfl) (x_len Try.underlying24 rfl) rfl rfl fun a_8 HE9 => ?_
  refine pl_x HE9 HH1 (wt0 rfl) (x_assign rfl) rfl rfl fun a_10 HE11 => ?_
  refine wpList_nil ?_
  clear a_4 HE5 a_6 HE7 a_8 HE9
  refine nrm ?_
  refine wp_seq ?_
  refine rg ?_
  refine pl fun K_12 hK13 => ?_
  refine st_lit (m := 0) (cs := []) (e := 116) HE11 HH1 (run_lit ts_24 HE11 (vs := []) rfl rfl (by simp [Value.cells]) rfl (by decide)) (wt0 rfl) rfl rfl fun q21 a_14 w' HE15 HH16 => hK13 _ _ ?_
  refine pl_x HE15 HH16 (wt0 rfl) (x_move rfl) rfl rfl fun a_17 HE18 => ?_
  refine pl fun K_19 hK20 => ?_
  have HH21 := Held.vecFlat (E := eInstr) (xs := []) (css := []) HH16 rfl (Nat.zero_le _) (fun i x hx => by simp at hx)
  refine st_appS flat_Instr HE18 HH21 ts_24 [0] (by decide) rfl rfl rfl (HH21.old h0) (by unfold maxLen; first | omega | (simp; done) | (simp; omega)) (by first | omega | (simp; done) | (simp; omega)) (wt0 rfl) rfl fun A22 c23 S24 a_22 w' HE23 HH24 => hK20 _ _ ?_
  have lA22 : (([] : List tInstr) ++ a0).length = List.length ([] : List tInstr) + List.length a0 := List.length_append
  refine pl_x HE23 HH24 (wt0 rfl) (x_assign rfl) rfl rfl fun a_25 HE26 => ?_
  refine wpList_nil ?_
  clear a_10 HE11 HH1 a_14 HE15 K_12 hK13 HH16 a_17 HE18 HH21 a_22 HE23 hK20 K_19
  refine nrm ?_
  refine wp_seq ?_
  refine rg ?_
  refine pl_x HE26 HH24 (wt0 rfl) (x_move rfl) rfl rfl fun a_27 HE28 => ?_
  refine pl_x HE28 HH24 (wt0 rfl) (x_move rfl) rfl rfl fun a_29 HE30 => ?_
  refine pl_x HE30 HH24 (wt0 rfl) (x_move rfl) rfl rfl fun a_31 HE32 => ?_
  refine pl_x HE32 HH24 (wt0 rfl) (x_move rfl) rfl rfl fun a_33 HE34 => ?_
  refine pl_x HE34 HH24 (wt0 rfl) (x_move rfl) rfl rfl fun a_35 HE36 => ?_
  refine pl_x HE36 HH24 (wt0 rfl) (x_len Try.underlying24 rfl) rfl rfl fun a_37 HE38 => ?_
  refine pl_x HE38 HH24 (wt0 rfl) (x_add rfl rfl (by exact ⟨by omega, by omega⟩)) rfl rfl fun a_39 HE40 => ?_
  refine pl fun K_41 hK42 => ?_
  refine st_call HE40 (wt0 rfl) rfl rfl rfl en_171 rfl rfl (spec_l07Shift _ _ a1 (a0.length : Int) ((a0.length : Int) + (a1.length : Int)) _ (HH24.old h1) (by assumption) (by omega) (by omega) (by omega)) fun e w' hr => ?_
  obtain ⟨Ar25_0, cr25_0, rfl, hor25_0, hbr25⟩ := hr
  obtain ⟨Sr25, HH43⟩ := HH24.newS hbr25 hor25_0
  refine ⟨_, rfl, fun a_44 HE45 => hK42 _ _ ?_⟩
  refine pl fun K_46 hK47 => ?_
  refine st_appS flat_Instr HE45 HH43 ts_24 [1, 0] (by decide) rfl rfl rfl (HH43.sl (i := 0) rfl) (by unfold maxLen; first | omega | (simp; done) | (simp; omega)) (by first | omega | (simp; done) | (simp; omega)) (wt0 rfl) rfl fun A26 c27 S28 a_48 w' HE49 HH50 => hK47 _ _ ?_
  have lA26 : ((([] : List tInstr) ++ a0) ++ (shiftP a1 (a0.length : Int) ((a0.length : Int) + (a1.length : Int)))).length = List.length (([] : List tInstr) ++ a0) + List.length (shiftP a1 (a0.length : Int) ((a0.length : Int) + (a1.length : Int))) := List.length_append
  refine pl_x HE49 HH50 (wt0 rfl) (x_assign rfl) rfl rfl fun a_51 HE52 => ?_
  refine wpList_nil ?_
  clear a_25 HE26 a_27 HE28 a_29 HE30 a_31 HE32 a_33 HE34 a_35 HE36 a_37 HE38 HH24 a_39 HE40 K_41 hK42 a_44 HE45 HH43 a_48 HE49 hK47 K_46
  refine nrm ?_
  refine wp_ret ?_
  refine ret1 HE52 rfl (rv_tmp rfl) ?_
  have HH53 := HH50.vecSo
  have hF : (joinS a0 a1) = ((([] : List tInstr) ++ a0) ++ (shiftP a1 (a0.length : Int) ((a0.length : Int) + (a1.length : Int)))) := by
    unfold joinS; simp
  exact ⟨A26, c27, by first | (rw [hF] <;> rfl) | rfl | (rw [hF]; simp only [Ending.returned.injEq, Value.slice.injEq, true_and, and_true]; first | omega | (simp; done)), by rw [hF]; exact (HH53.so (i := 0) rfl), HH53.below⟩

set_option maxRecDepth 100000 in
set_option maxHeartbeats 4000000 in
theorem spec_l07Fits (M : Nat → Prop) (A0 : Option Addr) (c0 : Nat) (a0 : (List tInstr)) (S0 : Nat → Prop) (w : World) (HM : Held M w [rSo eInstr S0 A0 c0 a0] w) :
    Calls Try.prog 82 #[.slice A0 a0.length c0] w fun e w' => ∃ (AR0' : Option Addr) (cR0' : Nat) (SR0' : Nat → Prop), e = .returned (.tuple #[.slice AR0' (fitsP a0).1.length cR0', .int .i64 (fitsP a0).2]) ∧ Held M w [rSo eInstr SR0' AR0' cR0' ((fitsP a0).1)] w' := by
  have HH1 := HM
  refine enter (n := 8) Try.func82 rfl rfl rfl fun a_2 HE3 => ?_
  refine wp_seq ?_
  refine rg ?_
  refine pl_x HE3 HH1 (wt0 rfl) (x_assign rfl) rfl rfl fun a_4 HE5 => ?_
  refine pl_x HE5 HH1 (wt0 rfl) (x_assign rfl) rfl rfl fun a_6 HE7 => ?_
  refine wpList_nil ?_
  clear a_2 HE3 a_4 HE5
  refine nrm ?_
  refine wp_seq ?_
  refine wp_seq ?_
  refine rg ?_
  refine pl_x HE7 HH1 (wt0 rfl) (x_move rfl) rfl rfl fun a_8 HE9 => ?_
  refine pl_x HE9 HH1 (wt0 rfl) (x_len Try.underlying24 rfl) rfl rfl fun a_10 HE11 => ?_
  refine pl_x HE11 HH1 (wt0 rfl) (x_gtr rfl rfl) rfl rfl fun a_12 HE13 => ?_
  refine wpList_nil ?_
  clear a_6 HE7 a_8 HE9 a_10 HE11
  refine nrm ?_
  refine cnd_d HE13 rfl (fun hc21 => ?_) (fun hc21 => ?_)
  · refine wp_seq ?_
    refine rg ?_
    refine pl_x HE13 HH1 (wt0 rfl) (x_assign rfl) rfl rfl fun a_14 HE15 => ?_
    refine pl_x HE15 HH1 (wt0 rfl) (x_assign rfl) rfl rfl fun a_16 HE17 => ?_
    refine wpList_nil ?_
    clear a_12 HE13 a_14 HE15
    refine nrm ?_
    refine wp_ret ?_
    refine (thn_ret ?_)
    refine ret2 HE17 rfl (rv_tmp rfl) (rv_tmp rfl) ?_
    have HH18 := HH1.vecNil eInstr 116
    have HH19 := HH18.vecSo
    have hF : (fitsP a0) = ([], 5) := by
      unfold fitsP; first | (rw [if_pos (by omega)]; done) | (rw [if_neg (by omega)])
    exact ⟨_, _, _, by first | (rw [hF] <;> rfl) | rfl | (rw [hF]; simp only [Ending.returned.injEq, Value.slice.injEq, true_and, and_true]; first | omega | (simp; done)), by rw [hF]; exact HH19.sel [0] (by decide) rfl⟩
  · refine wp_skip ?_
    refine nrm ?_
    refine wp_seq ?_
    refine rg ?_
    refine pl_x HE13 HH1 (wt0 rfl) (x_move rfl) rfl rfl fun a_20 HE21 => ?_
    refine pl_x HE21 HH1 (wt0 rfl) (x_assign rfl) rfl rfl fun a_22 HE23 => ?_
    refine pl_x HE23 HH1 (wt0 rfl) (x_assign rfl) rfl rfl fun a_24 HE25 => ?_
    refine wpList_nil ?_
    clear a_12 HE13 a_20 HE21 a_22 HE23
    refine nrm ?_
    refine wp_ret ?_
    refine ret2 HE25 rfl (rv_tmp rfl) (rv_tmp rfl) ?_
    have hF : (fitsP a0) = (a0, 0) := by
      unfold fitsP; first | (rw [if_pos (by omega)]; done) | (rw [if_neg (by omega)])
    exact ⟨_, _, _, by first | (rw [hF] <;> rfl) | rfl | (rw [hF]; simp only [Ending.returned.injEq, Value.slice.injEq, true_and, and_true]; first | omega | (simp; done)), by rw [hF]; exact HH1.sel [0] (by decide) rfl⟩

set_option maxRecDepth 100000 in
set_option maxHeartbeats 4000000 in
theorem spec_JoinPrograms (A0 : Option Addr) (c0 : Nat) (a0 : (List tInstr)) (A1 : Option Addr) (c1 : Nat) (a1 : (List tInstr)) (w : World) (h0 : Sl eInstr w (Old w) A0 c0 a0) (h1 : Sl eInstr w (Old w) A1 c1 a1) :
    Calls Try.prog 16 #[.slice A0 a0.length c0, .slice A1 a1.length c1] w fun e w' => ∃ (A0' : Option Addr) (c0' : Nat), e = .returned (.tuple #[.slice A0' (joinProgs a0 a1).1.length c0', .int .i64 (joinProgs a0 a1).2]) ∧ So eInstr w' (Fr w w') A0' c0' (joinProgs a0 a1).1 ∧ Below w.heap.size w w' := by
  have l0 := h0.len
  have l1 := h1.len
  have HH1 := Held.start Nob w
  refine enter (n := 20) Try.func16 rfl rfl rfl fun a_2 HE3 => ?_
  refine wp_seq ?_
  refine rg ?_
  refine pl_x HE3 HH1 (wt0 rfl) (x_assign rfl) rfl rfl fun a_4 HE5 => ?_
  refine pl_x HE5 HH1 (wt0 rfl) (x_assign rfl) rfl rfl fun a_6 HE7 => ?_
  refine wpList_nil ?_
  clear a_2 HE3 a_4 HE5
  refine nrm ?_
  refine wp_seq ?_
  refine wp_seq ?_
  refine rg ?_
  refine pl_x HE7 HH1 (wt0 rfl) (x_move rfl) rfl rfl fun a_8 HE9 => ?_
  refine pl fun K_10 hK11 => ?_
  refine st_call HE9 (wt0 rfl) rfl rfl rfl en_81 rfl rfl (spec_l07Is _ _ a0 _ (HH1.old h0)) fun e w' hr => ?_
  obtain ⟨rfl, hbr21⟩ := hr
  have HH12 := HH1.on hbr21
  refine ⟨_, rfl, fun a_13 HE14 => hK11 _ _ ?_⟩
  refine pl_x HE14 HH12 (wt0 rfl) (x_not rfl) rfl rfl fun a_15 HE16 => ?_
  refine pl_x HE16 HH12 (wt0 rfl) (x_move rfl) rfl rfl fun a_17 HE18 => ?_
  rcases Bool.eq_false_or_eq_true ((validProg a0)) with hc22 | hc22
  · refine pl_x HE18 HH12 (wtT HE18 rfl rfl rfl (not_f hc22)) (x_move rfl) rfl rfl fun a_19 HE20 => ?_
    refine pl fun K_21 hK22 => ?_
    refine st_call HE20 (wtT HE20 rfl rfl rfl (not_f hc22)) rfl rfl rfl en_81 rfl rfl (spec_l07Is _ _ a1 _ (HH12.old h1)) fun e w' hr => ?_
    obtain ⟨rfl, hbr23⟩ := hr
    have HH23 := HH12.on hbr23
    refine ⟨_, rfl, fun a_24 HE25 => hK22 _ _ ?_⟩
    refine pl_x HE25 HH23 (wtT HE25 rfl rfl rfl (not_f hc22)) (x_not rfl) rfl rfl fun a_26 HE27 => ?_
    refine pl_x HE27 HH23 (wt0 rfl) (x_pickF rfl (not_f hc22) rfl) rfl rfl fun a_28 HE29 => ?_
    refine wpList_nil ?_
    clear a_6 HE7 HH1 a_8 HE9 a_13 HE14 a_15 HE16 a_17 HE18 K_10 hK11 HH12 a_19 HE20 a_24 HE25 a_26 HE27 hK22 K_21
    refine nrm ?_
    refine cnd_nb HE29 rfl (fun hc24 => ?_) (fun hc24 => ?_)
    · refine wp_seq ?_
      refine rg ?_
      refine pl_x HE29 HH23 (wt0 rfl) (x_assign rfl) rfl rfl fun a_30 HE31 => ?_
      refine pl_x HE31 HH23 (wt0 rfl) (x_assign rfl) rfl rfl fun a_32 HE33 => ?_
      refine wpList_nil ?_
      clear a_28 HE29 a_30 HE31
      refine nrm ?_
      refine wp_ret ?_
      refine (thn_ret ?_)
      refine ret2 HE33 rfl (rv_tmp rfl) (rv_tmp rfl) ?_
      have hF : (joinProgs a0 a1) = ([], 1) := by
        first | (simp [joinProgs, hc22, hc24]; done) | (unfold joinProgs; rw [if_pos (by simp [hc22, hc24]), joinA_eq]) | grind [joinProgs]
      exact ⟨none, 0, by first | (rw [hF] <;> rfl) | rfl | (rw [hF]; simp only [Ending.returned.injEq, Value.slice.injEq, true_and, and_true]; first | omega | (simp; done)), by rw [hF]; exact (So.nil (Nat.zero_le _)), HH23.below⟩
    · refine wp_skip ?_
      refine nrm ?_
      refine wp_seq ?_
      refine rg ?_
      refine pl_x HE29 HH23 (wt0 rfl) (x_move rfl) rfl rfl fun a_34 HE35 => ?_
      refine pl_x HE35 HH23 (wt0 rfl) (x_move rfl) rfl rfl fun a_36 HE37 => ?_
      refine pl fun K_38 hK39 => ?_
      refine st_call HE37 (wt0 rfl) rfl rfl rfl en_83 rfl rfl (spec_l07Join _ _ a0 _ _ a1 _ (HH23.old h0) (HH23.old h1) (by exact validProg_okP ‹_›) (by exact validProg_okP ‹_›)) fun e w' hr => ?_
      obtain ⟨Ar25_0, cr25_0, rfl, hor25_0, hbr25⟩ := hr
      obtain ⟨Sr25, HH40⟩ := HH23.newS hbr25 hor25_0
      refine ⟨_, rfl, fun a_41 HE42 => hK39 _ _ ?_⟩
      refine pl fun K_43 hK44 => ?_
      have HH45 : Held Nob w ([rSo eInstr Sr25 Ar25_0 cr25_0 (joinS a0 a1)] ++ []) _ := HH40
      refine st_call HE42 (wt0 rfl) rfl rfl rfl en_82 rfl rfl (spec_l07Fits (Foot [rSo eInstr Sr25 Ar25_0 cr25_0 (joinS a0 a1)]) _ _ (joinS a0 a1) _ _ HH45.focus ) fun e w' hr => ?_
      obtain ⟨Ar26_90, cr26_90, Sr26_90, rfl, hbr26⟩ := hr
      have HH46 := HH45.back hbr26
      clear hbr26
      have HH47 : Held Nob w ([rSo eInstr Sr26_90 Ar26_90 cr26_90 ((fitsP (joinS a0 a1)).1)] ++ []) _ := HH46
      refine ⟨_, rfl, fun a_48 HE49 => hK44 _ _ ?_⟩
      refine pl_x HE49 HH47 (wt0 rfl) (x_extract rfl rfl) rfl rfl fun a_50 HE51 => ?_
      refine pl_x HE51 HH47 (wt0 rfl) (x_extract rfl rfl) rfl rfl fun a_52 HE53 => ?_
      refine pl_x HE53 HH47 (wt0 rfl) (x_assign rfl) rfl rfl fun a_54 HE55 => ?_
      refine pl_x HE55 HH47 (wt0 rfl) (x_assign rfl) rfl rfl fun a_56 HE57 => ?_
      refine wpList_nil ?_
      clear a_28 HE29 a_34 HE35 HH23 a_36 HE37 K_38 hK39 HH40 HH45 HH46 a_41 HE42 a_48 HE49 a_50 HE51 a_52 HE53 a_54 HE55 hK44 K_43
      refine nrm ?_
      refine wp_ret ?_
      refine ret2 HE57 rfl (rv_tmp rfl) (rv_tmp rfl) ?_
      have hF : (joinProgs a0 a1) = ((fitsP (joinS a0 a1)).1, (fitsP (joinS a0 a1)).2) := by
        first | (simp [joinProgs, hc22, hc24]; done) | (unfold joinProgs; rw [if_pos (by simp [hc22, hc24]), joinA_eq]) | grind [joinProgs]
      exact ⟨Ar26_90, cr26_90, by first | (rw [hF] <;> rfl) | rfl | (rw [hF]; simp only [Ending.returned.injEq, Value.slice.injEq, true_and, and_true]; first | omega | (simp; done)), by rw [hF]; exact (HH47.so (i := 0) rfl), HH47.below⟩
  · refine pl_no HE18 (wtF HE18 rfl rfl rfl (not_t hc22)) rfl rfl fun a_58 HE59 => ?_
    refine pl_no HE59 (wtF HE59 rfl rfl rfl (not_t hc22)) rfl rfl fun a_60 HE61 => ?_
    refine pl_no HE61 (wtF HE61 rfl rfl rfl (not_t hc22)) rfl rfl fun a_62 HE63 => ?_
    refine pl_x HE63 HH12 (wt0 rfl) (x_pickT rfl (not_t hc22) rfl) rfl rfl fun a_64 HE65 => ?_
    refine wpList_nil ?_
    clear a_6 HE7 HH1 a_8 HE9 a_13 HE14 a_15 HE16 a_17 HE18 a_58 HE59 a_60 HE61 a_62 HE63 hK11 K_10
    refine nrm ?_
    refine cndT HE65 rfl rfl ?_
    refine wp_seq ?_
    refine rg ?_
    refine pl_x HE65 HH12 (wt0 rfl) (x_assign rfl) rfl rfl fun a_66 HE67 => ?_
    refine pl_x HE67 HH12 (wt0 rfl) (x_assign rfl) rfl rfl fun a_68 HE69 => ?_
    refine wpList_nil ?_
    clear a_64 HE65 a_66 HE67
    refine nrm ?_
    refine wp_ret ?_
    refine (thn_ret ?_)
    refine ret2 HE69 rfl (rv_tmp rfl) (rv_tmp rfl) ?_
    have hF : (joinProgs a0 a1) = ([], 1) := by
      first | (simp [joinProgs, hc22]; done) | (unfold joinProgs; rw [if_pos (by simp [hc22]), joinA_eq]) | grind [joinProgs]
    exact ⟨none, 0, by first | (rw [hF] <;> rfl) | rfl | (rw [hF]; simp only [Ending.returned.injEq, Value.slice.injEq, true_and, and_true]; first | omega | (simp; done)), by rw [hF]; exact (So.nil (Nat.zero_le _)), HH12.below⟩

set_option maxRecDepth 100000 in
set_option maxHeartbeats 4000000 in
theorem law_JoinPrograms (A0 : Option Addr) (c0 : Nat) (a0 : (List tInstr)) (A1 : Option Addr) (c1 : Nat) (a1 : (List tInstr)) (w : World) (h0 : Sl eInstr w (Old w) A0 c0 a0) (h1 : Sl eInstr w (Old w) A1 c1 a1) :
    Calls Try.prog 3 #[.slice A0 a0.length c0, .slice A1 a1.length c1] w fun e w' => e = .returned (.bool true) ∧ Below w.heap.size w w' := by
  have l0 := h0.len
  have l1 := h1.len
  have m0 := ct_cost_SInstr a0
  have m1 := ct_cost_SInstr a1
  have n0 : (ct_SInstr (joinProgs a0 a1).1 : Int) ≤ 1000000000 := joinProgs_ct a0 a1
  have HH1 := Held.start Nob w
  refine enter (n := 119) Try.func3 rfl rfl rfl fun a_2 HE3 => ?_
  refine wp_seq ?_
  refine rg ?_
  refine pl_x HE3 HH1 (wt0 rfl) (x_assign rfl) rfl rfl fun a_4 HE5 => ?_
  refine wpList_nil ?_
  clear a_2 HE3
  refine nrm ?_
  refine wp_seq ?_
  refine rg ?_
  refine pl_x HE5 HH1 (wt0 rfl) (x_assign rfl) rfl rfl fun a_6 HE7 => ?_
  refine wpList_nil ?_
  clear a_4 HE5
  refine nrm ?_
  refine wp_seq ?_
  refine rg ?_
  refine pl_x HE7 HH1 (wt0 rfl) (x_move rfl) rfl rfl fun a_8 HE9 => ?_
  refine pl_x HE9 HH1 (wt0 rfl) (x_move rfl) rfl rfl fun a_10 HE11 => ?_
  refine pl fun K_12 hK13 => ?_
  refine st_call HE11 (wt0 rfl) rfl rfl rfl en_15 rfl rfl (sz_InstrS _ _ a0 1048576 _ (HH1.old h0) (by omega) (by omega)) fun e w' hr => ?_
  obtain ⟨rfl, hbr21⟩ := hr
  have HH14 := HH1.on hbr21
  clear hbr21
  refine ⟨_, rfl, fun a_15 HE16 => hK13 _ _ ?_⟩
  refine pl_x HE16 HH14 (wt0 rfl) (x_assign rfl) rfl rfl fun a_17 HE18 => ?_
  refine wpList_nil ?_
  clear a_6 HE7 a_8 HE9 HH1 a_10 HE11 a_15 HE16 hK13 K_12
  refine nrm ?_
  refine wp_seq ?_
  refine wp_seq ?_
  refine rg ?_
  refine pl_x HE18 HH14 (wt0 rfl) (x_move rfl) rfl rfl fun a_19 HE20 => ?_
  refine pl_x HE20 HH14 (wt0 rfl) (x_lss rfl rfl) rfl rfl fun a_21 HE22 => ?_
  refine wpList_nil ?_
  clear a_17 HE18 a_19 HE20
  refine nrm ?_
  refine cnd_d HE22 rfl (fun hc22 => ?_) (fun hc22 => ?_)
  · refine wp_seq ?_
    refine rg ?_
    refine pl_x HE22 HH14 (wt0 rfl) (x_assign rfl) rfl rfl fun a_23 HE24 => ?_
    refine wpList_nil ?_
    clear a_21 HE22
    refine nrm ?_
    refine wp_ret ?_
    refine (thn_ret ?_)
    refine ret1 HE24 rfl (rv_tmp rfl) ?_
    have hF : true = true := by
      first | rfl | (exfalso; omega)
    exact ⟨by first | (rw [hF] <;> rfl) | rfl | (rw [hF]; simp only [Ending.returned.injEq, Value.slice.injEq, true_and, and_true]; first | omega | (simp; done)), HH14.below⟩
  · have zr21 := left_ok hc22
    refine wp_skip ?_
    refine nrm ?_
    refine wp_seq ?_
    refine rg ?_
    refine pl_x HE22 HH14 (wt0 rfl) (x_move rfl) rfl rfl fun a_25 HE26 => ?_
    refine pl_x HE26 HH14 (wt0 rfl) (x_move rfl) rfl rfl fun a_27 HE28 => ?_
    refine pl fun K_29 hK30 => ?_
    refine st_call HE28 (wt0 rfl) rfl rfl rfl en_15 rfl rfl (sz_InstrS _ _ a1 (left 1048576 (cost_SInstr a0)) _ (HH14.old h1) (by omega) (by omega)) fun e w' hr => ?_
    obtain ⟨rfl, hbr23⟩ := hr
    have HH31 := HH14.on hbr23
    clear hbr23
    refine ⟨_, rfl, fun a_32 HE33 => hK30 _ _ ?_⟩
    refine pl_x HE33 HH31 (wt0 rfl) (x_assign rfl) rfl rfl fun a_34 HE35 => ?_
    refine wpList_nil ?_
    clear a_21 HE22 a_25 HE26 HH14 a_27 HE28 a_32 HE33 hK30 K_29
    refine nrm ?_
    refine wp_seq ?_
    refine wp_seq ?_
    refine rg ?_
    refine pl_x HE35 HH31 (wt0 rfl) (x_move rfl) rfl rfl fun a_36 HE37 => ?_
    refine pl_x HE37 HH31 (wt0 rfl) (x_lss rfl rfl) rfl rfl fun a_38 HE39 => ?_
    refine wpList_nil ?_
    clear a_34 HE35 a_36 HE37
    refine nrm ?_
    refine cnd_d HE39 rfl (fun hc24 => ?_) (fun hc24 => ?_)
    · refine wp_seq ?_
      refine rg ?_
      refine pl_x HE39 HH31 (wt0 rfl) (x_assign rfl) rfl rfl fun a_40 HE41 => ?_
      refine wpList_nil ?_
      clear a_38 HE39
      refine nrm ?_
      refine wp_ret ?_
      refine (thn_ret ?_)
      refine ret1 HE41 rfl (rv_tmp rfl) ?_
      have hF : true = true := by
        first | rfl | (exfalso; omega)
      exact ⟨by first | (rw [hF] <;> rfl) | rfl | (rw [hF]; simp only [Ending.returned.injEq, Value.slice.injEq, true_and, and_true]; first | omega | (simp; done)), HH31.below⟩
    · have zr23 := left_ok hc24
      refine wp_skip ?_
      refine nrm ?_
      refine wp_seq ?_
      refine rg ?_
      refine pl_x HE39 HH31 (wt0 rfl) (x_move rfl) rfl rfl fun a_42 HE43 => ?_
      refine pl fun K_44 hK45 => ?_
      refine st_call HE43 (wt0 rfl) rfl rfl rfl en_17 rfl rfl (to_InstrS _ _ a0 _ (HH31.old h0) (by omega)) fun e w' hr => ?_
      obtain ⟨Ar25, cr25, rfl, hor25, hbr25⟩ := hr
      obtain ⟨Sr25, HH46⟩ := HH31.newS hbr25 hor25
      clear hbr25 hor25
      refine ⟨_, rfl, fun a_47 HE48 => hK45 _ _ ?_⟩
      refine pl_x HE48 HH46 (wt0 rfl) (x_move rfl) rfl rfl fun a_49 HE50 => ?_
      refine pl fun K_51 hK52 => ?_
      refine st_call HE50 (wt0 rfl) rfl rfl rfl en_17 rfl rfl (to_InstrS _ _ a1 _ (HH46.old h1) (by omega)) fun e w' hr => ?_
      obtain ⟨Ar26, cr26, rfl, hor26, hbr26⟩ := hr
      obtain ⟨Sr26, HH53⟩ := HH46.newS hbr26 hor26
      clear hbr26 hor26
      refine ⟨_, rfl, fun a_54 HE55 => hK52 _ _ ?_⟩
      refine pl fun K_56 hK57 => ?_
      refine st_call HE55 (wt0 rfl) rfl rfl rfl en_16 rfl rfl (spec_JoinPrograms _ _ a0 _ _ a1 _ (HH53.sl (i := 1) rfl) (HH53.sl (i := 0) rfl)) fun e w' hr => ?_
      obtain ⟨Ar27_0, cr27_0, rfl, hor27_0, hbr27⟩ := hr
      obtain ⟨Sr27, HH58⟩ := HH53.newS hbr27 hor27_0
      refine ⟨_, rfl, fun a_59 HE60 => hK57 _ _ ?_⟩
      refine pl_x HE60 HH58 (wt0 rfl) (x_move rfl) rfl rfl fun a_61 HE62 => ?_
      refine pl_x HE62 HH58 (wt0 rfl) (x_extract rfl rfl) rfl rfl fun a_63 HE64 => ?_
      refine pl_x HE64 HH58 (wt0 rfl) (x_extract rfl rfl) rfl rfl fun a_65 HE66 => ?_
      refine pl_x HE66 HH58 (wt0 rfl) (x_assign rfl) rfl rfl fun a_67 HE68 => ?_
      refine pl_x HE68 HH58 (wt0 rfl) (x_assign rfl) rfl rfl fun a_69 HE70 => ?_
      refine wpList_nil ?_
      clear a_38 HE39 HH31 a_42 HE43 a_47 HE48 K_44 hK45 HH46 a_49 HE50 K_51 hK52 HH53 a_54 HE55 a_59 HE60 a_61 HE62 a_63 HE64 a_65 HE66 a_67 HE68 hK57 K_56
      refine nrm ?_
      refine wp_seq ?_
      refine rg ?_
      refine pl_x HE70 HH58 (wt0 rfl) (x_move rfl) rfl rfl fun a_71 HE72 => ?_
      refine pl fun K_73 hK74 => ?_
      refine st_call HE72 (wt0 rfl) rfl rfl rfl en_17 rfl rfl (to_InstrS _ _ a0 _ (HH58.old h0) (by omega)) fun e w' hr => ?_
      obtain ⟨Ar28, cr28, rfl, hor28, hbr28⟩ := hr
      obtain ⟨Sr28, HH75⟩ := HH58.newS hbr28 hor28
      clear hbr28 hor28
      refine ⟨_, rfl, fun a_76 HE77 => hK74 _ _ ?_⟩
      refine pl_x HE77 HH75 (wt0 rfl) (x_assign rfl) rfl rfl fun a_78 HE79 => ?_
      refine wpList_nil ?_
      clear a_69 HE70 HH58 a_71 HE72 a_76 HE77 hK74 K_73
      refine nrm ?_
      refine wp_seq ?_
      refine rg ?_
      refine pl_x HE79 HH75 (wt0 rfl) (x_move rfl) rfl rfl fun a_80 HE81 => ?_
      refine pl fun K_82 hK83 => ?_
      refine st_call HE81 (wt0 rfl) rfl rfl rfl en_17 rfl rfl (to_InstrS _ _ a1 _ (HH75.old h1) (by omega)) fun e w' hr => ?_
      obtain ⟨Ar29, cr29, rfl, hor29, hbr29⟩ := hr
      obtain ⟨Sr29, HH84⟩ := HH75.newS hbr29 hor29
      clear hbr29 hor29
      refine ⟨_, rfl, fun a_85 HE86 => hK83 _ _ ?_⟩
      refine pl_x HE86 HH84 (wt0 rfl) (x_assign rfl) rfl rfl fun a_87 HE88 => ?_
      refine wpList_nil ?_
      clear a_78 HE79 HH75 a_80 HE81 a_85 HE86 hK83 K_82
      refine nrm ?_
      refine wp_seq ?_
      refine rg ?_
      refine pl_x HE88 HH84 (wt0 rfl) (x_move rfl) rfl rfl fun a_89 HE90 => ?_
      refine pl_x HE90 HH84 (wt0 rfl) (x_move rfl) rfl rfl fun a_91 HE92 => ?_
      refine pl fun K_93 hK94 => ?_
      refine st_call HE92 (wt0 rfl) rfl rfl rfl en_18 rfl rfl (impl_JoinPrograms _ _ a0 _ _ a1 _ (HH84.sl (i := 1) rfl) (HH84.sl (i := 0) rfl)) fun e w' hr => ?_
      obtain ⟨Ar30_0, cr30_0, rfl, hor30_0, hbr30⟩ := hr
      obtain ⟨Sr30, HH95⟩ := HH84.newS hbr30 hor30_0
      refine ⟨_, rfl, fun a_96 HE97 => hK94 _ _ ?_⟩
      refine pl_x HE97 HH95 (wt0 rfl) (x_move rfl) rfl rfl fun a_98 HE99 => ?_
      refine pl_x HE99 HH95 (wt0 rfl) (x_extract rfl rfl) rfl rfl fun a_100 HE101 => ?_
      refine pl_x HE101 HH95 (wt0 rfl) (x_extract rfl rfl) rfl rfl fun a_102 HE103 => ?_
      refine pl_x HE103 HH95 (wt0 rfl) (x_assign rfl) rfl rfl fun a_104 HE105 => ?_
      refine pl_x HE105 HH95 (wt0 rfl) (x_assign rfl) rfl rfl fun a_106 HE107 => ?_
      refine wpList_nil ?_
      clear a_87 HE88 a_89 HE90 HH84 a_91 HE92 a_96 HE97 a_98 HE99 a_100 HE101 a_102 HE103 a_104 HE105 hK94 K_93
      refine nrm ?_
      refine wp_seq ?_
      refine wp_seq ?_
      refine rg ?_
      refine pl_x HE107 HH95 (wt0 rfl) (x_move rfl) rfl rfl fun a_108 HE109 => ?_
      refine pl_x HE109 HH95 (wt0 rfl) (x_move rfl) rfl rfl fun a_110 HE111 => ?_
      refine pl fun K_112 hK113 => ?_
      refine st_call HE111 (wt0 rfl) rfl rfl rfl en_19 rfl rfl (eq_SInstr_c _ _ _ _ ((joinProgs a0 a1).1) ((joinProgs a0 a1).1) _ (HH95.sl (i := 0) rfl) (HH95.sl (i := 3) rfl)) fun e w' hr => ?_
      obtain ⟨rfl, hbr31⟩ := hr
      have HH114 := HH95.on hbr31
      clear hbr31
      refine ⟨_, rfl, fun a_115 HE116 => hK113 _ _ ?_⟩
      refine pl_x HE116 HH114 (wt0 rfl) (x_not rfl) rfl rfl fun a_117 HE118 => ?_
      refine pl_x HE118 HH114 (wt0 rfl) (x_move rfl) rfl rfl fun a_119 HE120 => ?_
      refine pl_x HE120 HH114 (wtT HE120 rfl rfl rfl (not_f (eq_SInstr_refl _))) (x_move rfl) rfl rfl fun a_121 HE122 => ?_
      refine pl_x HE122 HH114 (wtT HE122 rfl rfl rfl (not_f (eq_SInstr_refl _))) (x_move rfl) rfl rfl fun a_123 HE124 => ?_
      refine pl_x HE124 HH114 (wtT HE124 rfl rfl rfl (not_f (eq_SInstr_refl _))) (x_neq rfl rfl) rfl rfl fun a_125 HE126 => ?_
      refine pl_x HE126 HH114 (wt0 rfl) (x_pickF rfl (not_f (eq_SInstr_refl _)) rfl) rfl rfl fun a_127 HE128 => ?_
      refine wpList_nil ?_
      clear a_106 HE107 a_108 HE109 HH95 a_110 HE111 a_115 HE116 a_117 HE118 a_119 HE120 a_121 HE122 a_123 HE124 a_125 HE126 hK113 K_112
      refine nrm ?_
      refine cndF HE128 rfl (bne_f rfl) ?_
      refine wp_skip ?_
      refine nrm ?_
      refine wp_seq ?_
      refine wp_seq ?_
      refine rg ?_
      refine pl_x HE128 HH114 (wt0 rfl) (x_move rfl) rfl rfl fun a_129 HE130 => ?_
      refine pl_x HE130 HH114 (wt0 rfl) (x_move rfl) rfl rfl fun a_131 HE132 => ?_
      refine pl fun K_133 hK134 => ?_
      refine st_call HE132 (wt0 rfl) rfl rfl rfl en_17 rfl rfl (to_InstrS _ _ a0 _ (HH114.old h0) (by omega)) fun e w' hr => ?_
      obtain ⟨Ar32, cr32, rfl, hor32, hbr32⟩ := hr
      obtain ⟨Sr32, HH135⟩ := HH114.newS hbr32 hor32
      clear hbr32 hor32
      refine ⟨_, rfl, fun a_136 HE137 => hK134 _ _ ?_⟩
      refine pl fun K_138 hK139 => ?_
      refine st_call HE137 (wt0 rfl) rfl rfl rfl en_19 rfl rfl (eq_SInstr_c _ _ _ _ a0 a0 _ (HH135.sl (i := 3) rfl) (HH135.sl (i := 0) rfl)) fun e w' hr => ?_
      obtain ⟨rfl, hbr33⟩ := hr
      have HH140 := HH135.on hbr33
      clear hbr33
      refine ⟨_, rfl, fun a_141 HE142 => hK139 _ _ ?_⟩
      refine pl_x HE142 HH140 (wt0 rfl) (x_not rfl) rfl rfl fun a_143 HE144 => ?_
      refine wpList_nil ?_
      clear a_127 HE128 a_129 HE130 HH114 a_131 HE132 K_133 hK134 HH135 a_136 HE137 a_141 HE142 hK139 K_138
      refine nrm ?_
      refine cndF HE144 rfl (not_f (eq_SInstr_refl _)) ?_
      refine wp_skip ?_
      refine nrm ?_
      refine wp_seq ?_
      refine wp_seq ?_
      refine rg ?_
      refine pl_x HE144 HH140 (wt0 rfl) (x_move rfl) rfl rfl fun a_145 HE146 => ?_
      refine pl_x HE146 HH140 (wt0 rfl) (x_move rfl) rfl rfl fun a_147 HE148 => ?_
      refine pl fun K_149 hK150 => ?_
      refine st_call HE148 (wt0 rfl) rfl rfl rfl en_17 rfl rfl (to_InstrS _ _ a1 _ (HH140.old h1) (by omega)) fun e w' hr => ?_
      obtain ⟨Ar34, cr34, rfl, hor34, hbr34⟩ := hr
      obtain ⟨Sr34, HH151⟩ := HH140.newS hbr34 hor34
      clear hbr34 hor34
      refine ⟨_, rfl, fun a_152 HE153 => hK150 _ _ ?_⟩
      refine pl fun K_154 hK155 => ?_
      refine st_call HE153 (wt0 rfl) rfl rfl rfl en_19 rfl rfl (eq_SInstr_c _ _ _ _ a1 a1 _ (HH151.sl (i := 3) rfl) (HH151.sl (i := 0) rfl)) fun e w' hr => ?_
      obtain ⟨rfl, hbr35⟩ := hr
      have HH156 := HH151.on hbr35
      clear hbr35
      refine ⟨_, rfl, fun a_157 HE158 => hK155 _ _ ?_⟩
      refine pl_x HE158 HH156 (wt0 rfl) (x_not rfl) rfl rfl fun a_159 HE160 => ?_
      refine wpList_nil ?_
      clear a_143 HE144 a_145 HE146 HH140 a_147 HE148 K_149 hK150 HH151 a_152 HE153 a_157 HE158 hK155 K_154
      refine nrm ?_
      refine cndF HE160 rfl (not_f (eq_SInstr_refl _)) ?_
      refine wp_skip ?_
      refine nrm ?_
      refine wp_seq ?_
      refine rg ?_
      refine pl_x HE160 HH156 (wt0 rfl) (x_assign rfl) rfl rfl fun a_161 HE162 => ?_
      refine wpList_nil ?_
      clear a_159 HE160
      refine nrm ?_
      refine wp_seq ?_
      refine rg ?_
      refine pl_x HE162 HH156 (wt0 rfl) (x_move rfl) rfl rfl fun a_163 HE164 => ?_
      refine pl_x HE164 HH156 (wt0 rfl) (x_move rfl) rfl rfl fun a_165 HE166 => ?_
      refine pl fun K_167 hK168 => ?_
      refine st_call HE166 (wt0 rfl) rfl rfl rfl en_20 rfl rfl (mark_SInstr_c _ _ a0 1 _ _ (so_of_o (HH156.get (i := 4) rfl)) (HH156.lt (i := 4) rfl) (by omega) (by omega)) fun e w' hr => ?_
      obtain ⟨rfl, hsr36, hcr36⟩ := hr
      have HH169 := HH156.mut (i := 4) rfl hcr36 (rSo eInstr Sr28 Ar28 cr28 (mk_SInstr a0 1)) (oSl hsr36) (fun b hb => .inl hb)
      clear hsr36 hcr36
      refine ⟨_, rfl, fun a_170 HE171 => hK168 _ _ ?_⟩
      refine pl_x HE171 HH169 (wt0 rfl) (x_assign rfl) rfl rfl fun a_172 HE173 => ?_
      refine wpList_nil ?_
      clear a_161 HE162 a_163 HE164 HH156 a_165 HE166 a_170 HE171 hK168 K_167
      refine nrm ?_
      refine wp_seq ?_
      refine rg ?_
      refine pl_x HE173 HH169 (wt0 rfl) (x_move rfl) rfl rfl fun a_174 HE175 => ?_
      refine pl_x HE175 HH169 (wt0 rfl) (x_move rfl) rfl rfl fun a_176 HE177 => ?_
      refine pl fun K_178 hK179 => ?_
      refine st_call HE177 (wt0 rfl) rfl rfl rfl en_20 rfl rfl (mark_SInstr_c _ _ a1 (1 + (ct_SInstr a0 : Int)) _ _ (so_of_o (HH169.get (i := 3) rfl)) (HH169.lt (i := 3) rfl) (by omega) (by omega)) fun e w' hr => ?_
      obtain ⟨rfl, hsr37, hcr37⟩ := hr
      have HH180 := HH169.mut (i := 3) rfl hcr37 (rSo eInstr Sr29 Ar29 cr29 (mk_SInstr a1 (1 + (ct_SInstr a0 : Int)))) (oSl hsr37) (fun b hb => .inl hb)
      clear hsr37 hcr37
      refine ⟨_, rfl, fun a_181 HE182 => hK179 _ _ ?_⟩
      refine pl_x HE182 HH180 (wt0 rfl) (x_assign rfl) rfl rfl fun a_183 HE184 => ?_
      refine wpList_nil ?_
      clear a_172 HE173 a_174 HE175 HH169 a_176 HE177 a_181 HE182 hK179 K_178
      refine nrm ?_
      refine wp_seq ?_
      refine wp_seq ?_
      refine rg ?_
      refine pl_x HE184 HH180 (wt0 rfl) (x_move rfl) rfl rfl fun a_185 HE186 => ?_
      refine pl_x HE186 HH180 (wt0 rfl) (x_lss rfl rfl) rfl rfl fun a_187 HE188 => ?_
      refine pl_x HE188 HH180 (wt0 rfl) (x_move rfl) rfl rfl fun a_189 HE190 => ?_
      by_cases hc38 : ((1 + (ct_SInstr a0 : Int)) + (ct_SInstr a1 : Int)) < 0
      · refine pl_no HE190 (wtF HE190 rfl rfl rfl (decide_eq_true hc38)) rfl rfl fun a_191 HE192 => ?_
        refine pl_no HE192 (wtF HE192 rfl rfl rfl (decide_eq_true hc38)) rfl rfl fun a_193 HE194 => ?_
        refine pl_no HE194 (wtF HE194 rfl rfl rfl (decide_eq_true hc38)) rfl rfl fun a_195 HE196 => ?_
        refine pl_no HE196 (wtF HE196 rfl rfl rfl (decide_eq_true hc38)) rfl rfl fun a_197 HE198 => ?_
        refine pl_x HE198 HH180 (wt0 rfl) (x_pickT rfl (decide_eq_true hc38) rfl) rfl rfl fun a_199 HE200 => ?_
        refine pl_x HE200 HH180 (wt0 rfl) (x_move rfl) rfl rfl fun a_201 HE202 => ?_
        refine pl_no HE202 (wtF HE202 rfl rfl rfl rfl) rfl rfl fun a_203 HE204 => ?_
        refine pl_no HE204 (wtF HE204 rfl rfl rfl rfl) rfl rfl fun a_205 HE206 => ?_
        refine pl_no HE206 (wtF HE206 rfl rfl rfl rfl) rfl rfl fun a_207 HE208 => ?_
        refine pl_x HE208 HH180 (wt0 rfl) (x_pickT rfl rfl rfl) rfl rfl fun a_209 HE210 => ?_
        refine wpList_nil ?_
        clear a_183 HE184 a_185 HE186 a_187 HE188 a_189 HE190 a_191 HE192 a_193 HE194 a_195 HE196 a_197 HE198 a_199 HE200 a_201 HE202 a_203 HE204 a_205 HE206 a_207 HE208
        refine nrm ?_
        refine cndT HE210 rfl rfl ?_
        refine wp_seq ?_
        refine rg ?_
        refine pl_x HE210 HH180 (wt0 rfl) (x_assign rfl) rfl rfl fun a_211 HE212 => ?_
        refine wpList_nil ?_
        clear a_209 HE210
        refine nrm ?_
        refine wp_ret ?_
        refine (thn_ret ?_)
        refine ret1 HE212 rfl (rv_tmp rfl) ?_
        have hF : true = false := by
          first | rfl | (exfalso; omega)
        exact ⟨by first | (rw [hF] <;> rfl) | rfl | (rw [hF]; simp only [Ending.returned.injEq, Value.slice.injEq, true_and, and_true]; first | omega | (simp; done)), HH180.below⟩
      · refine pl_x HE190 HH180 (wtT HE190 rfl rfl rfl (decide_eq_false hc38)) (x_move rfl) rfl rfl fun a_213 HE214 => ?_
        refine pl_x HE214 HH180 (wtT HE214 rfl rfl rfl (decide_eq_false hc38)) (x_move rfl) rfl rfl fun a_215 HE216 => ?_
        refine pl fun K_217 hK218 => ?_
        refine st_call HE216 (wtT HE216 rfl rfl rfl (decide_eq_false hc38)) rfl rfl rfl en_19 rfl rfl (eq_SInstr_c _ _ _ _ ((joinProgs a0 a1).1) ((joinProgs a0 a1).1) _ (HH180.sl (i := 2) rfl) (HH180.sl (i := 5) rfl)) fun e w' hr => ?_
        obtain ⟨rfl, hbr39⟩ := hr
        have HH219 := HH180.on hbr39
        clear hbr39
        refine ⟨_, rfl, fun a_220 HE221 => hK218 _ _ ?_⟩
        refine pl_x HE221 HH219 (wtT HE221 rfl rfl rfl (decide_eq_false hc38)) (x_not rfl) rfl rfl fun a_222 HE223 => ?_
        refine pl_x HE223 HH219 (wt0 rfl) (x_pickF rfl (decide_eq_false hc38) rfl) rfl rfl fun a_224 HE225 => ?_
        refine pl_x HE225 HH219 (wt0 rfl) (x_move rfl) rfl rfl fun a_226 HE227 => ?_
        refine pl_x HE227 HH219 (wtT HE227 rfl rfl rfl (not_f (eq_SInstr_refl _))) (x_move rfl) rfl rfl fun a_228 HE229 => ?_
        refine pl_x HE229 HH219 (wtT HE229 rfl rfl rfl (not_f (eq_SInstr_refl _))) (x_move rfl) rfl rfl fun a_230 HE231 => ?_
        refine pl_x HE231 HH219 (wtT HE231 rfl rfl rfl (not_f (eq_SInstr_refl _))) (x_neq rfl rfl) rfl rfl fun a_232 HE233 => ?_
        refine pl_x HE233 HH219 (wt0 rfl) (x_pickF rfl (not_f (eq_SInstr_refl _)) rfl) rfl rfl fun a_234 HE235 => ?_
        refine wpList_nil ?_
        clear a_183 HE184 a_185 HE186 a_187 HE188 a_189 HE190 a_213 HE214 HH180 a_215 HE216 a_220 HE221 a_222 HE223 a_224 HE225 a_226 HE227 a_228 HE229 a_230 HE231 a_232 HE233 hK218 K_217
        refine nrm ?_
        refine cndF HE235 rfl (bne_f rfl) ?_
        refine wp_skip ?_
        refine nrm ?_
        refine wp_seq ?_
        refine rg ?_
        refine pl_x HE235 HH219 (wt0 rfl) (x_assign rfl) rfl rfl fun a_236 HE237 => ?_
        refine wpList_nil ?_
        clear a_234 HE235
        refine nrm ?_
        refine wp_seq ?_
        refine rg ?_
        refine pl_x HE237 HH219 (wt0 rfl) (x_move rfl) rfl rfl fun a_238 HE239 => ?_
        refine pl_x HE239 HH219 (wt0 rfl) (x_move rfl) rfl rfl fun a_240 HE241 => ?_
        refine pl fun K_242 hK243 => ?_
        refine st_call HE241 (wt0 rfl) rfl rfl rfl en_20 rfl rfl (mark_SInstr_c _ _ ((joinProgs a0 a1).1) 1 _ _ (so_of_o (HH219.get (i := 2) rfl)) (HH219.lt (i := 2) rfl) (by omega) (by omega)) fun e w' hr => ?_
        obtain ⟨rfl, hsr40, hcr40⟩ := hr
        have HH244 := HH219.mut (i := 2) rfl hcr40 (rSo eInstr Sr30 Ar30_0 cr30_0 (mk_SInstr ((joinProgs a0 a1).1) 1)) (oSl hsr40) (fun b hb => .inl hb)
        clear hsr40 hcr40
        refine ⟨_, rfl, fun a_245 HE246 => hK243 _ _ ?_⟩
        refine pl_x HE246 HH244 (wt0 rfl) (x_assign rfl) rfl rfl fun a_247 HE248 => ?_
        refine wpList_nil ?_
        clear a_236 HE237 a_238 HE239 HH219 a_240 HE241 a_245 HE246 hK243 K_242
        refine nrm ?_
        refine wp_seq ?_
        refine rg ?_
        refine pl_x HE248 HH244 (wt0 rfl) (x_assign rfl) rfl rfl fun a_249 HE250 => ?_
        refine wpList_nil ?_
        clear a_247 HE248
        refine nrm ?_
        refine wp_seq ?_
        refine rg ?_
        refine pl_x HE250 HH244 (wt0 rfl) (x_move rfl) rfl rfl fun a_251 HE252 => ?_
        refine pl_x HE252 HH244 (wt0 rfl) (x_move rfl) rfl rfl fun a_253 HE254 => ?_
        refine pl fun K_255 hK256 => ?_
        refine st_call HE254 (wt0 rfl) rfl rfl rfl en_21 rfl rfl (held_SInstr_c _ _ ((joinProgs a0 a1).1) 1 _ (HH244.sl (i := 2) rfl) (by omega) (by omega)) fun e w' hr => ?_
        obtain ⟨rfl, hbr41⟩ := hr
        have HH257 := HH244.on hbr41
        clear hbr41
        refine ⟨_, rfl, fun a_258 HE259 => hK256 _ _ ?_⟩
        refine pl_x HE259 HH257 (wt0 rfl) (x_assign rfl) rfl rfl fun a_260 HE261 => ?_
        refine wpList_nil ?_
        clear a_249 HE250 a_251 HE252 HH244 a_253 HE254 a_258 HE259 hK256 K_255
        refine nrm ?_
        refine wp_seq ?_
        refine wp_seq ?_
        refine rg ?_
        refine pl_x HE261 HH257 (wt0 rfl) (x_move rfl) rfl rfl fun a_262 HE263 => ?_
        refine pl_x HE263 HH257 (wt0 rfl) (x_lss rfl rfl) rfl rfl fun a_264 HE265 => ?_
        refine wpList_nil ?_
        clear a_260 HE261 a_262 HE263
        refine nrm ?_
        refine cnd_d HE265 rfl (fun hc42 => ?_) (fun hc42 => ?_)
        · refine wp_seq ?_
          refine rg ?_
          refine pl_x HE265 HH257 (wt0 rfl) (x_assign rfl) rfl rfl fun a_266 HE267 => ?_
          refine wpList_nil ?_
          clear a_264 HE265
          refine nrm ?_
          refine wp_ret ?_
          refine (thn_ret ?_)
          refine ret1 HE267 rfl (rv_tmp rfl) ?_
          have hF : true = false := by
            first | rfl | (exfalso; omega)
          exact ⟨by first | (rw [hF] <;> rfl) | rfl | (rw [hF]; simp only [Ending.returned.injEq, Value.slice.injEq, true_and, and_true]; first | omega | (simp; done)), HH257.below⟩
        · refine wp_skip ?_
          refine nrm ?_
          refine wp_seq ?_
          refine wp_seq ?_
          refine rg ?_
          refine pl_x HE265 HH257 (wt0 rfl) (x_move rfl) rfl rfl fun a_268 HE269 => ?_
          refine pl_x HE269 HH257 (wt0 rfl) (x_move rfl) rfl rfl fun a_270 HE271 => ?_
          refine pl_x HE271 HH257 (wt0 rfl) (x_neq rfl rfl) rfl rfl fun a_272 HE273 => ?_
          refine wpList_nil ?_
          clear a_264 HE265 a_268 HE269 a_270 HE271
          refine nrm ?_
          refine cndF HE273 rfl (bne_f rfl) ?_
          refine wp_skip ?_
          refine nrm ?_
          refine wp_seq ?_
          refine rg ?_
          refine pl_x HE273 HH257 (wt0 rfl) (x_move rfl) rfl rfl fun a_274 HE275 => ?_
          refine pl fun K_276 hK277 => ?_
          refine st_call HE275 (wt0 rfl) rfl rfl rfl en_17 rfl rfl (to_InstrS _ _ a0 _ (HH257.old h0) (by omega)) fun e w' hr => ?_
          obtain ⟨Ar43, cr43, rfl, hor43, hbr43⟩ := hr
          obtain ⟨Sr43, HH278⟩ := HH257.newS hbr43 hor43
          clear hbr43 hor43
          refine ⟨_, rfl, fun a_279 HE280 => hK277 _ _ ?_⟩
          refine pl_x HE280 HH278 (wt0 rfl) (x_move rfl) rfl rfl fun a_281 HE282 => ?_
          refine pl fun K_283 hK284 => ?_
          refine st_call HE282 (wt0 rfl) rfl rfl rfl en_17 rfl rfl (to_InstrS _ _ a1 _ (HH278.old h1) (by omega)) fun e w' hr => ?_
          obtain ⟨Ar44, cr44, rfl, hor44, hbr44⟩ := hr
          obtain ⟨Sr44, HH285⟩ := HH278.newS hbr44 hor44
          clear hbr44 hor44
          refine ⟨_, rfl, fun a_286 HE287 => hK284 _ _ ?_⟩
          refine pl fun K_288 hK289 => ?_
          refine st_call HE287 (wt0 rfl) rfl rfl rfl en_18 rfl rfl (impl_JoinPrograms _ _ a0 _ _ a1 _ (HH285.sl (i := 1) rfl) (HH285.sl (i := 0) rfl)) fun e w' hr => ?_
          obtain ⟨Ar45_0, cr45_0, rfl, hor45_0, hbr45⟩ := hr
          obtain ⟨Sr45, HH290⟩ := HH285.newS hbr45 hor45_0
          refine ⟨_, rfl, fun a_291 HE292 => hK289 _ _ ?_⟩
          refine pl_x HE292 HH290 (wt0 rfl) (x_move rfl) rfl rfl fun a_293 HE294 => ?_
          refine pl_x HE294 HH290 (wt0 rfl) (x_extract rfl rfl) rfl rfl fun a_295 HE296 => ?_
          refine pl_x HE296 HH290 (wt0 rfl) (x_extract rfl rfl) rfl rfl fun a_297 HE298 => ?_
          refine pl_x HE298 HH290 (wt0 rfl) (x_assign rfl) rfl rfl fun a_299 HE300 => ?_
          refine pl_x HE300 HH290 (wt0 rfl) (x_assign rfl) rfl rfl fun a_301 HE302 => ?_
          refine wpList_nil ?_
          clear a_272 HE273 HH257 a_274 HE275 a_279 HE280 K_276 hK277 HH278 a_281 HE282 K_283 hK284 HH285 a_286 HE287 a_291 HE292 a_293 HE294 a_295 HE296 a_297 HE298 a_299 HE300 hK289 K_288
          refine nrm ?_
          refine wp_seq ?_
          refine wp_seq ?_
          refine rg ?_
          refine pl_x HE302 HH290 (wt0 rfl) (x_move rfl) rfl rfl fun a_303 HE304 => ?_
          refine pl_x HE304 HH290 (wt0 rfl) (x_move rfl) rfl rfl fun a_305 HE306 => ?_
          refine pl fun K_307 hK308 => ?_
          refine st_call HE306 (wt0 rfl) rfl rfl rfl en_19 rfl rfl (eq_SInstr_c _ _ _ _ ((joinProgs a0 a1).1) ((joinProgs a0 a1).1) _ (HH290.sl (i := 0) rfl) (HH290.sl (i := 8) rfl)) fun e w' hr => ?_
          obtain ⟨rfl, hbr46⟩ := hr
          have HH309 := HH290.on hbr46
          clear hbr46
          refine ⟨_, rfl, fun a_310 HE311 => hK308 _ _ ?_⟩
          refine pl_x HE311 HH309 (wt0 rfl) (x_not rfl) rfl rfl fun a_312 HE313 => ?_
          refine pl_x HE313 HH309 (wt0 rfl) (x_move rfl) rfl rfl fun a_314 HE315 => ?_
          refine pl_x HE315 HH309 (wtT HE315 rfl rfl rfl (not_f (eq_SInstr_refl _))) (x_move rfl) rfl rfl fun a_316 HE317 => ?_
          refine pl_x HE317 HH309 (wtT HE317 rfl rfl rfl (not_f (eq_SInstr_refl _))) (x_move rfl) rfl rfl fun a_318 HE319 => ?_
          refine pl_x HE319 HH309 (wtT HE319 rfl rfl rfl (not_f (eq_SInstr_refl _))) (x_neq rfl rfl) rfl rfl fun a_320 HE321 => ?_
          refine pl_x HE321 HH309 (wt0 rfl) (x_pickF rfl (not_f (eq_SInstr_refl _)) rfl) rfl rfl fun a_322 HE323 => ?_
          refine wpList_nil ?_
          clear a_301 HE302 a_303 HE304 HH290 a_305 HE306 a_310 HE311 a_312 HE313 a_314 HE315 a_316 HE317 a_318 HE319 a_320 HE321 hK308 K_307
          refine nrm ?_
          refine cndF HE323 rfl (bne_f rfl) ?_
          refine wp_skip ?_
          refine nrm ?_
          refine wp_seq ?_
          refine rg ?_
          refine pl_x HE323 HH309 (wt0 rfl) (x_assign rfl) rfl rfl fun a_324 HE325 => ?_
          refine wpList_nil ?_
          clear a_322 HE323
          refine nrm ?_
          refine wp_seq ?_
          refine rg ?_
          refine pl_x HE325 HH309 (wt0 rfl) (x_move rfl) rfl rfl fun a_326 HE327 => ?_
          refine pl_x HE327 HH309 (wt0 rfl) (x_move rfl) rfl rfl fun a_328 HE329 => ?_
          refine pl fun K_330 hK331 => ?_
          refine st_call HE329 (wt0 rfl) rfl rfl rfl en_21 rfl rfl (held_SInstr_c _ _ ((joinProgs a0 a1).1) 1 _ (HH309.sl (i := 5) rfl) (by omega) (by omega)) fun e w' hr => ?_
          obtain ⟨rfl, hbr47⟩ := hr
          have HH332 := HH309.on hbr47
          clear hbr47
          refine ⟨_, rfl, fun a_333 HE334 => hK331 _ _ ?_⟩
          refine pl_x HE334 HH332 (wt0 rfl) (x_assign rfl) rfl rfl fun a_335 HE336 => ?_
          refine wpList_nil ?_
          clear a_324 HE325 a_326 HE327 HH309 a_328 HE329 a_333 HE334 hK331 K_330
          refine nrm ?_
          refine wp_seq ?_
          refine wp_seq ?_
          refine rg ?_
          refine pl_x HE336 HH332 (wt0 rfl) (x_move rfl) rfl rfl fun a_337 HE338 => ?_
          refine pl_x HE338 HH332 (wt0 rfl) (x_lss rfl rfl) rfl rfl fun a_339 HE340 => ?_
          refine wpList_nil ?_
          clear a_335 HE336 a_337 HE338
          refine nrm ?_
          refine cndF HE340 rfl (decide_eq_false hc42) ?_
          refine wp_skip ?_
          refine nrm ?_
          refine wp_seq ?_
          refine wp_seq ?_
          refine rg ?_
          refine pl_x HE340 HH332 (wt0 rfl) (x_move rfl) rfl rfl fun a_341 HE342 => ?_
          refine pl_x HE342 HH332 (wt0 rfl) (x_move rfl) rfl rfl fun a_343 HE344 => ?_
          refine pl_x HE344 HH332 (wt0 rfl) (x_neq rfl rfl) rfl rfl fun a_345 HE346 => ?_
          refine wpList_nil ?_
          clear a_339 HE340 a_341 HE342 a_343 HE344
          refine nrm ?_
          refine cndF HE346 rfl (bne_f rfl) ?_
          refine wp_skip ?_
          refine nrm ?_
          refine wp_seq ?_
          refine rg ?_
          refine pl_x HE346 HH332 (wt0 rfl) (x_assign rfl) rfl rfl fun a_347 HE348 => ?_
          refine wpList_nil ?_
          clear a_345 HE346
          refine nrm ?_
          refine wp_ret ?_
          refine ret1 HE348 rfl (rv_tmp rfl) ?_
          have hF : true = true := by
            first | rfl | (exfalso; omega)
          exact ⟨by first | (rw [hF] <;> rfl) | rfl | (rw [hF]; simp only [Ending.returned.injEq, Value.slice.injEq, true_and, and_true]; first | omega | (simp; done)), HH332.below⟩

end Go.Proofs.Ytnokeoejlfodkaa
