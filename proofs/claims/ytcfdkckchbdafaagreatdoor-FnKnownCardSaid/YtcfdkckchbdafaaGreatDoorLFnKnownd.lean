/- What the proof of FnKnown needs: contracts of the functions that it reaches, each once. -/
import Derived.Test.YtcfdkckchbdafaaGreatDoorProg
import Derived.Test.YtcfdkckchbdafaaGreatDoorQMem
import Derived.Test.YtcfdkckchbdafaaGreatDoorQOpen
import Derived.Test.YtcfdkckchbdafaaGreatDoorLFnKnowna
import Derived.Test.YtcfdkckchbdafaaGreatDoorLFnKnownb
import Derived.Test.YtcfdkckchbdafaaGreatDoorLFnKnownc
import Derived.WalkKit
import Derived.WalkSpells
import Derived.Below
import Derived.LoopTactic
import Derived.Outline
import Derived.Deep.QuietTactic
import Derived.BigQuiet
import Derived.Deep.LoopGhost
import Derived.Handy
import Derived.Lib.Hide
import Derived.Shelf.Abstract
import Derived.StillTailTactics
import Derived.OwnWalk
import Derived.Maps.AppendAt
import Derived.RegionTactic
import Derived.Deep.RegionHeld3
import Derived.IntWalk
import Derived.Deep.Upon
import Derived.Laws.OwnMore
import Derived.Maps.AppendAt
import Derived.Laws.BytesString
import Derived.Laws.Strings
import Derived.Lib.Bytes
import Derived.Lib.Strings
import Derived.Lib.FrozenHead
import Derived.Lib.RuneBytes
import Derived.Lib.LaidTab
import Derived.Laws.StructEq
import Derived.Lib.SliceRun
import Derived.Lib.AppendZeros
import Derived.Lib.ItoaLen
import Derived.Lib.Join
import Derived.Shelf.Strconv.Itoa4
import Derived.Shelf.Strings.OnBuilder
import Derived.Shelf.Strings.BuilderK
import Derived.Shelf.Strings.BuilderRune
import Derived.Shelf.LaysM
import Derived.Ground.NamesProg
import Derived.Lib.ParseIntBTie
import Derived.Lib.SplitLaws
import Derived.Lib.Replace
import Derived.Shelf.LaysC
import Derived.Shelf.Strconv.ErrVarParseInt
import Derived.Shelf.Strconv.ParseIntPublic10
import Derived.Shelf.Strings.Prefix
import Derived.Shelf.Strings.Cut
import Derived.Shelf.Strings.Split
import Derived.Shelf.Strings.Replace
import Derived.Shelf.Small.Wraps
import Derived.Stop.IfaceNil
namespace Go.Proofs.YtcfdkckchbdafaaGreatDoor
open Go.RowKit

set_option maxRecDepth 100000 in
set_option maxHeartbeats 4000000 in
theorem impl_PowersSeen (A0 : Option Addr) (c0 : Nat) (a0 : (List tFraction)) (A1 : Option Addr) (c1 : Nat) (a1 : (List Int)) (a2 : Int) (a3 : Int) (w : World) (h0 : Sl eFraction w (Old w) A0 c0 a0) (h1 : Sl eInt w (Old w) A1 c1 a1) (q0 : -9223372036854775808 ≤ a2 ∧ a2 ≤ 9223372036854775807) :
    Calls Tryz.prog 16 #[.slice A0 a0.length c0, .slice A1 a1.length c1, .int .i64 a2, .int .i64 a3] w fun e w' => ∃ (A0' : Option Addr) (c0' : Nat), e = .returned (.tuple #[.slice A0' (powersSeen a0 a1 a2 a3).1.length c0', .int .i64 (powersSeen a0 a1 a2 a3).2]) ∧ So eInt w' (Fr w w') A0' c0' (powersSeen a0 a1 a2 a3).1 ∧ Below w.heap.size w w' := by
  have l0 := h0.len
  have l1 := h1.len
  have HH1 := Held.start Nob w
  refine enter (n := 50) Tryz.func16 rfl rfl rfl fun a_2 HE3 => ?_
  refine wp_seq ?_
  refine rg ?_
  refine pl fun K_4 hK5 => ?_
  refine st_box (cs := [.int .i64 (a2)]) HE3 HH1 rfl rfl (wt0 rfl) rfl fun q21 a_6 w' HE7 HH8 => hK5 _ _ ?_
  refine pl_x HE7 HH8 (wt0 rfl) (x_assign rfl) rfl rfl fun a_9 HE10 => ?_
  refine pl_x HE10 HH8 (wt0 rfl) (x_assign rfl) rfl rfl fun a_11 HE12 => ?_
  refine wpList_nil ?_
  clear a_2 HE3 HH1 a_6 HE7 a_9 HE10 hK5 K_4
  refine nrm ?_
  refine wp_seq ?_
  refine wp_seq ?_
  refine rg ?_
  refine pl_x HE12 HH8 (wt0 rfl) (x_move rfl) rfl rfl fun a_13 HE14 => ?_
  refine pl fun K_15 hK16 => ?_
  refine st_call HE14 (wt0 rfl) rfl rfl rfl en_48 rfl rfl (impl_ValidFractions _ _ a0 _ (HH8.old h0)) fun e w' hr => ?_
  obtain ⟨rfl, hbr22⟩ := hr
  have HH17 := HH8.on hbr22
  refine ⟨_, rfl, fun a_18 HE19 => hK16 _ _ ?_⟩
  refine pl_x HE19 HH17 (wt0 rfl) (x_not rfl) rfl rfl fun a_20 HE21 => ?_
  refine pl_x HE21 HH17 (wt0 rfl) (x_move rfl) rfl rfl fun a_22 HE23 => ?_
  rcases Bool.eq_false_or_eq_true ((validFrac a0)) with hc23 | hc23
  · have hV := validFrac_facts hc23
    refine pl_x HE23 HH17 (wtT HE23 rfl rfl rfl (not_f hc23)) (x_move rfl) rfl rfl fun a_24 HE25 => ?_
    refine pl fun K_26 hK27 => ?_
    refine st_call HE25 (wtT HE25 rfl rfl rfl (not_f hc23)) rfl rfl rfl en_49 rfl rfl (impl_isPositive _ _ a1 _ (HH17.old h1)) fun e w' hr => ?_
    obtain ⟨rfl, rfl⟩ := hr
    refine ⟨_, rfl, fun a_28 HE29 => hK27 _ _ ?_⟩
    refine pl_x HE29 HH17 (wtT HE29 rfl rfl rfl (not_f hc23)) (x_not rfl) rfl rfl fun a_30 HE31 => ?_
    refine pl_x HE31 HH17 (wt0 rfl) (x_pickF rfl (not_f hc23) rfl) rfl rfl fun a_32 HE33 => ?_
    refine wpList_nil ?_
    clear a_11 HE12 HH8 a_13 HE14 a_18 HE19 a_20 HE21 a_22 HE23 K_15 hK16 a_24 HE25 a_28 HE29 a_30 HE31 hK27 K_26
    refine nrm ?_
    refine cnd_nb HE33 rfl (fun hc25 => ?_) (fun hc25 => ?_)
    · refine wp_seq ?_
      refine rg ?_
      refine pl_x HE33 HH17 (wt0 rfl) (x_assign rfl) rfl rfl fun a_34 HE35 => ?_
      refine pl_x HE35 HH17 (wt0 rfl) (x_assign rfl) rfl rfl fun a_36 HE37 => ?_
      refine wpList_nil ?_
      clear a_32 HE33 a_34 HE35
      refine nrm ?_
      refine wp_ret ?_
      refine (thn_ret ?_)
      refine ret2 HE37 rfl (rv_tmp rfl) (rv_tmp rfl) ?_
      have hF : (powersSeen a0 a1 a2 a3) = ([], 1) := by
        grind [powersSeen]
      exact ⟨none, 0, by first | (rw [hF] <;> rfl) | rfl | (rw [hF]; simp only [Ending.returned.injEq, Value.slice.injEq, true_and, and_true]; first | omega | (simp; done)) | (rw [hF]; simp; omega), by rw [hF]; exact (So.nil (Nat.zero_le _)), HH17.below⟩
    · have hP := isPos_facts hc25
      refine wp_skip ?_
      refine nrm ?_
      refine wp_seq ?_
      refine wp_seq ?_
      refine rg ?_
      refine pl_x HE33 HH17 (wt0 rfl) (x_load1 tv_2 rfl (c_blk 0 rfl rfl)) rfl rfl fun a_38 HE39 => ?_
      refine pl_x HE39 HH17 (wt0 rfl) (x_gtr rfl rfl) rfl rfl fun a_40 HE41 => ?_
      refine pl_x HE41 HH17 (wt0 rfl) (x_move rfl) rfl rfl fun a_42 HE43 => ?_
      by_cases hc26 : 999999 < a2
      · refine pl_no HE43 (wtF HE43 rfl rfl rfl (decide_eq_true hc26)) rfl rfl fun a_44 HE45 => ?_
        refine pl_no HE45 (wtF HE45 rfl rfl rfl (decide_eq_true hc26)) rfl rfl fun a_46 HE47 => ?_
        refine pl_no HE47 (wtF HE47 rfl rfl rfl (decide_eq_true hc26)) rfl rfl fun a_48 HE49 => ?_
        refine pl_x HE49 HH17 (wt0 rfl) (x_pickT rfl (decide_eq_true hc26) rfl) rfl rfl fun a_50 HE51 => ?_
        refine pl_x HE51 HH17 (wt0 rfl) (x_move rfl) rfl rfl fun a_52 HE53 => ?_
        refine pl_no HE53 (wtF HE53 rfl rfl rfl rfl) rfl rfl fun a_54 HE55 => ?_
        refine pl_no HE55 (wtF HE55 rfl rfl rfl rfl) rfl rfl fun a_56 HE57 => ?_
        refine pl_no HE57 (wtF HE57 rfl rfl rfl rfl) rfl rfl fun a_58 HE59 => ?_
        refine pl_x HE59 HH17 (wt0 rfl) (x_pickT rfl rfl rfl) rfl rfl fun a_60 HE61 => ?_
        refine wpList_nil ?_
        clear a_32 HE33 a_38 HE39 a_40 HE41 a_42 HE43 a_44 HE45 a_46 HE47 a_48 HE49 a_50 HE51 a_52 HE53 a_54 HE55 a_56 HE57 a_58 HE59
        refine nrm ?_
        refine cndT HE61 rfl rfl ?_
        refine wp_seq ?_
        refine rg ?_
        refine pl_x HE61 HH17 (wt0 rfl) (x_assign rfl) rfl rfl fun a_62 HE63 => ?_
        refine pl_x HE63 HH17 (wt0 rfl) (x_assign rfl) rfl rfl fun a_64 HE65 => ?_
        refine wpList_nil ?_
        clear a_60 HE61 a_62 HE63
        refine nrm ?_
        refine wp_ret ?_
        refine (thn_ret ?_)
        refine ret2 HE65 rfl (rv_tmp rfl) (rv_tmp rfl) ?_
        have hF : (powersSeen a0 a1 a2 a3) = ([], 2) := by
          grind [powersSeen]
        exact ⟨none, 0, by first | (rw [hF] <;> rfl) | rfl | (rw [hF]; simp only [Ending.returned.injEq, Value.slice.injEq, true_and, and_true]; first | omega | (simp; done)) | (rw [hF]; simp; omega), by rw [hF]; exact (So.nil (Nat.zero_le _)), HH17.below⟩
      · refine pl_x HE43 HH17 (wtT HE43 rfl rfl rfl (decide_eq_false hc26)) (x_load1 tv_2 rfl (c_blk 0 rfl rfl)) rfl rfl fun a_66 HE67 => ?_
        refine pl fun K_68 hK69 => ?_
        refine st_call HE67 (wtT HE67 rfl rfl rfl (decide_eq_false hc26)) rfl rfl rfl en_57 rfl rfl (impl_isPrime a2 _ (by omega)) fun e w' hr => ?_
        obtain ⟨rfl, hbr27⟩ := hr
        have HH70 := HH17.on hbr27
        refine ⟨_, rfl, fun a_71 HE72 => hK69 _ _ ?_⟩
        refine pl_x HE72 HH70 (wtT HE72 rfl rfl rfl (decide_eq_false hc26)) (x_not rfl) rfl rfl fun a_73 HE74 => ?_
        refine pl_x HE74 HH70 (wt0 rfl) (x_pickF rfl (decide_eq_false hc26) rfl) rfl rfl fun a_75 HE76 => ?_
        refine pl_x HE76 HH70 (wt0 rfl) (x_move rfl) rfl rfl fun a_77 HE78 => ?_
        rcases Bool.eq_false_or_eq_true ((primeB a2)) with hc28 | hc28
        · have hp2 : 2 ≤ a2 := by unfold primeB at hc28; simp at hc28; omega
          refine pl_x HE78 HH70 (wtT HE78 rfl rfl rfl (not_f hc28)) (x_move rfl) rfl rfl fun a_79 HE80 => ?_
          refine pl fun K_81 hK82 => ?_
          refine st_call HE80 (wtT HE80 rfl rfl rfl (not_f hc28)) rfl rfl rfl en_50 rfl rfl (impl_budgetOk a3 _ ) fun e w' hr => ?_
          obtain ⟨rfl, rfl⟩ := hr
          refine ⟨_, rfl, fun a_83 HE84 => hK82 _ _ ?_⟩
          refine pl_x HE84 HH70 (wtT HE84 rfl rfl rfl (not_f hc28)) (x_not rfl) rfl rfl fun a_85 HE86 => ?_
          refine pl_x HE86 HH70 (wt0 rfl) (x_pickF rfl (not_f hc28) rfl) rfl rfl fun a_87 HE88 => ?_
          refine wpList_nil ?_
          clear a_32 HE33 a_38 HE39 a_40 HE41 a_42 HE43 HH17 a_66 HE67 a_71 HE72 a_73 HE74 a_75 HE76 a_77 HE78 K_68 hK69 a_79 HE80 a_83 HE84 a_85 HE86 hK82 K_81
          refine nrm ?_
          refine cnd_nb HE88 rfl (fun hc30 => ?_) (fun hc30 => ?_)
          · refine wp_seq ?_
            refine rg ?_
            refine pl_x HE88 HH70 (wt0 rfl) (x_assign rfl) rfl rfl fun a_89 HE90 => ?_
            refine pl_x HE90 HH70 (wt0 rfl) (x_assign rfl) rfl rfl fun a_91 HE92 => ?_
            refine wpList_nil ?_
            clear a_87 HE88 a_89 HE90
            refine nrm ?_
            refine wp_ret ?_
            refine (thn_ret ?_)
            refine ret2 HE92 rfl (rv_tmp rfl) (rv_tmp rfl) ?_
            have hF : (powersSeen a0 a1 a2 a3) = ([], 2) := by
              grind [powersSeen]
            exact ⟨none, 0, by first | (rw [hF] <;> rfl) | rfl | (rw [hF]; simp only [Ending.returned.injEq, Value.slice.injEq, true_and, and_true]; first | omega | (simp; done)) | (rw [hF]; simp; omega), by rw [hF]; exact (So.nil (Nat.zero_le _)), HH70.below⟩
          · have hBu := budgetB_le hc30
            refine wp_skip ?_
            refine nrm ?_
            refine wp_seq ?_
            refine rg ?_
            refine pl fun K_93 hK94 => ?_
            refine st_lit (m := 0) (cs := []) (e := 2) HE88 HH70 (run_lit ts_25 HE88 (vs := []) rfl rfl (by simp [Value.cells]) rfl (by decide)) (wt0 rfl) rfl rfl fun q31 a_95 w' HE96 HH97 => hK94 _ _ ?_
            refine pl fun K_98 hK99 => ?_
            refine st_alloc HE96 HH97 tv_25 (wt0 rfl) rfl fun q32 a_100 w' HE101 HH102 => hK99 _ _ ?_
            refine pl fun K_103 hK104 => ?_
            refine st_store (vs := [.slice (some ⟨q31, 0, none⟩) (0) 0]) 0 HE101 HH102 tv_25 rfl rfl rfl rfl rfl rfl (by simp [Value.oneCell']) (wt0 rfl) fun w' HH105 => hK104 _ _ ?_
            refine wpList_nil ?_
            clear a_87 HE88 HH70 K_93 hK94 a_95 HE96 HH97 K_98 hK99 HH102 hK104 K_103
            refine nrm ?_
            refine wp_seq ?_
            refine rg ?_
            refine pl_x HE101 HH105 (wt0 rfl) (x_move rfl) rfl rfl fun a_106 HE107 => ?_
            refine pl_x HE107 HH105 (wt0 rfl) (x_move rfl) rfl rfl fun a_108 HE109 => ?_
            refine pl_x HE109 HH105 (wt0 rfl) (x_move rfl) rfl rfl fun a_110 HE111 => ?_
            refine pl_x HE111 HH105 (wt0 rfl) (x_makeFunc rfl rfl) rfl rfl fun a_112 HE113 => ?_
            refine pl fun K_114 hK115 => ?_
            have HH116 := HH105.sel [1, 0, 2] (by decide) rfl
            have HH117 := Held.vecFlat (E := eInt) (xs := []) (css := []) HH116 rfl (Nat.zero_le _) (fun i x hx => by simp at hx)
            have HH118 := HH117.sel [1, 0, 2] (by decide) rfl
            have HH119 : Held Nob w ([rBlk q32 25 [.slice (some ⟨q31, 0, none⟩) (0) 0], rVec eInt 2 (fun b => b = q31) (some ⟨q31, 0, none⟩) (List.length (α := Int) []) ([] : List Int)] ++ [rBlk q21 2 [.int .i64 (a2)]]) _ := HH118
            refine st_call HE113 (wt0 rfl) rfl rfl rfl en_51 rfl rfl (impl_runFractionsP (Foot [rBlk q32 25 [.slice (some ⟨q31, 0, none⟩) (0) 0], rVec eInt 2 (fun b => b = q31) (some ⟨q31, 0, none⟩) (List.length (α := Int) []) ([] : List Int)]) _ _ a0 _ _ a1 a3 _ [.int .i64 (a2)] a2 _ _ _ ([] : List Int) _ _ HH119.focus (HH119.lend h0) (HH119.lend h1) ⟨rfl, by exact ⟨by omega, by omega⟩⟩ (c_blkN 2 rfl _ HH119) (HH119.nfB (i := 0) rfl) (by exact hV.2) (by exact isPos_NatP ‹_›) (by omega) (by omega) (by omega) (by first | omega | (simp; done))) fun e w' hr => ?_
            obtain ⟨Ar33_90, cr33_90, Sr33_90, Ar33_0, cr33_0, Sr33_0, rfl, hbr33⟩ := hr
            have HH120 := HH119.back hbr33
            clear hbr33
            have HH121 : Held Nob w ([rSo eInt Sr33_90 Ar33_90 cr33_90 ((runFP a0 a1 a3 a2 ([] : List Int)).1), rBlk q32 25 [.slice Ar33_0 ((List.length ((runFP a0 a1 a3 a2 ([] : List Int)).2.2.2.2))) cr33_0], rVec eInt 2 Sr33_0 Ar33_0 cr33_0 ((runFP a0 a1 a3 a2 ([] : List Int)).2.2.2.2)] ++ [rBlk q21 2 [.int .i64 (a2)]]) _ := HH120
            refine ⟨_, rfl, fun a_122 HE123 => hK115 _ _ ?_⟩
            refine pl_x HE123 HH121 (wt0 rfl) (x_move rfl) rfl rfl fun a_124 HE125 => ?_
            refine pl_x HE125 HH121 (wt0 rfl) (x_extract rfl rfl) rfl rfl fun a_126 HE127 => ?_
            refine pl_x HE127 HH121 (wt0 rfl) (x_extract rfl rfl) rfl rfl fun a_128 HE129 => ?_
            refine pl_x HE129 HH121 (wt0 rfl) (x_extract rfl rfl) rfl rfl fun a_130 HE131 => ?_
            refine pl_x HE131 HH121 (wt0 rfl) (x_extract rfl rfl) rfl rfl fun a_132 HE133 => ?_
            refine pl_x HE133 HH121 (wt0 rfl) (x_assign rfl) rfl rfl fun a_134 HE135 => ?_
            refine pl_x HE135 HH121 (wt0 rfl) (x_assign rfl) rfl rfl fun a_136 HE137 => ?_
            refine pl_x HE137 HH121 (wt0 rfl) (x_assign rfl) rfl rfl fun a_138 HE139 => ?_
            refine pl_x HE139 HH121 (wt0 rfl) (x_assign rfl) rfl rfl fun a_140 HE141 => ?_
            refine wpList_nil ?_
            clear a_100 HE101 a_106 HE107 a_108 HE109 a_110 HE111 HH105 HH116 HH117 HH118 HH119 HH120 a_112 HE113 a_122 HE123 a_124 HE125 a_126 HE127 a_128 HE129 a_130 HE131 a_132 HE133 a_134 HE135 a_136 HE137 a_138 HE139 hK115 K_114
            refine nrm ?_
            refine wp_seq ?_
            refine wp_seq ?_
            refine rg ?_
            refine pl_x HE141 HH121 (wt0 rfl) (x_move rfl) rfl rfl fun a_142 HE143 => ?_
            refine pl_x HE143 HH121 (wt0 rfl) (x_neq rfl rfl) rfl rfl fun a_144 HE145 => ?_
            refine wpList_nil ?_
            clear a_140 HE141 a_142 HE143
            refine nrm ?_
            refine cnd_ne HE145 rfl (fun hc34 => ?_) (fun hc34 => ?_)
            · refine wp_seq ?_
              refine rg ?_
              refine pl_x HE145 HH121 (wt0 rfl) (x_move rfl) rfl rfl fun a_146 HE147 => ?_
              refine pl_x HE147 HH121 (wt0 rfl) (x_assign rfl) rfl rfl fun a_148 HE149 => ?_
              refine pl_x HE149 HH121 (wt0 rfl) (x_assign rfl) rfl rfl fun a_150 HE151 => ?_
              refine wpList_nil ?_
              clear a_144 HE145 a_146 HE147 a_148 HE149
              refine nrm ?_
              refine wp_ret ?_
              refine (thn_ret ?_)
              refine ret2 HE151 rfl (rv_tmp rfl) (rv_tmp rfl) ?_
              have hF : (powersSeen a0 a1 a2 a3) = ([], (runFP a0 a1 a3 a2 ([] : List Int)).2.2.2.1) := by
                grind [powersSeen]
              exact ⟨none, 0, by first | (rw [hF] <;> rfl) | rfl | (rw [hF]; simp only [Ending.returned.injEq, Value.slice.injEq, true_and, and_true]; first | omega | (simp; done)) | (rw [hF]; simp; omega), by rw [hF]; exact (So.nil (Nat.zero_le _)), HH121.below⟩
            · refine wp_skip ?_
              refine nrm ?_
              refine wp_seq ?_
              refine rg ?_
              refine pl_x HE145 HH121 (wt0 rfl) (x_load1 tv_25 rfl (c_blk 1 rfl rfl)) rfl rfl fun a_152 HE153 => ?_
              refine pl_x HE153 HH121 (wt0 rfl) (x_assign rfl) rfl rfl fun a_154 HE155 => ?_
              refine pl_x HE155 HH121 (wt0 rfl) (x_assign rfl) rfl rfl fun a_156 HE157 => ?_
              refine wpList_nil ?_
              clear a_144 HE145 a_152 HE153 a_154 HE155
              refine nrm ?_
              refine wp_ret ?_
              refine ret2 HE157 rfl (rv_tmp rfl) (rv_tmp rfl) ?_
              have HH158 := HH121.sel [2, 0, 1, 3] (by decide) rfl
              have HH159 := HH158.vecSo
              have hF : (powersSeen a0 a1 a2 a3) = ((runFP a0 a1 a3 a2 ([] : List Int)).2.2.2.2, 0) := by
                grind [powersSeen]
              exact ⟨Ar33_0, cr33_0, by first | (rw [hF] <;> rfl) | rfl | (rw [hF]; simp only [Ending.returned.injEq, Value.slice.injEq, true_and, and_true]; first | omega | (simp; done)) | (rw [hF]; simp; omega), by rw [hF]; exact (HH159.so (i := 0) rfl), HH159.below⟩
        · refine pl_no HE78 (wtF HE78 rfl rfl rfl (not_t hc28)) rfl rfl fun a_160 HE161 => ?_
          refine pl_no HE161 (wtF HE161 rfl rfl rfl (not_t hc28)) rfl rfl fun a_162 HE163 => ?_
          refine pl_no HE163 (wtF HE163 rfl rfl rfl (not_t hc28)) rfl rfl fun a_164 HE165 => ?_
          refine pl_x HE165 HH70 (wt0 rfl) (x_pickT rfl (not_t hc28) rfl) rfl rfl fun a_166 HE167 => ?_
          refine wpList_nil ?_
          clear a_32 HE33 a_38 HE39 a_40 HE41 a_42 HE43 HH17 a_66 HE67 a_71 HE72 a_73 HE74 a_75 HE76 a_77 HE78 a_160 HE161 a_162 HE163 a_164 HE165 hK69 K_68
          refine nrm ?_
          refine cndT HE167 rfl rfl ?_
          refine wp_seq ?_
          refine rg ?_
          refine pl_x HE167 HH70 (wt0 rfl) (x_assign rfl) rfl rfl fun a_168 HE169 => ?_
          refine pl_x HE169 HH70 (wt0 rfl) (x_assign rfl) rfl rfl fun a_170 HE171 => ?_
          refine wpList_nil ?_
          clear a_166 HE167 a_168 HE169
          refine nrm ?_
          refine wp_ret ?_
          refine (thn_ret ?_)
          refine ret2 HE171 rfl (rv_tmp rfl) (rv_tmp rfl) ?_
          have hF : (powersSeen a0 a1 a2 a3) = ([], 2) := by
            grind [powersSeen]
          exact ⟨none, 0, by first | (rw [hF] <;> rfl) | rfl | (rw [hF]; simp only [Ending.returned.injEq, Value.slice.injEq, true_and, and_true]; first | omega | (simp; done)) | (rw [hF]; simp; omega), by rw [hF]; exact (So.nil (Nat.zero_le _)), HH70.below⟩
  · refine pl_no HE23 (wtF HE23 rfl rfl rfl (not_t hc23)) rfl rfl fun a_172 HE173 => ?_
    refine pl_no HE173 (wtF HE173 rfl rfl rfl (not_t hc23)) rfl rfl fun a_174 HE175 => ?_
    refine pl_no HE175 (wtF HE175 rfl rfl rfl (not_t hc23)) rfl rfl fun a_176 HE177 => ?_
    refine pl_x HE177 HH17 (wt0 rfl) (x_pickT rfl (not_t hc23) rfl) rfl rfl fun a_178 HE179 => ?_
    refine wpList_nil ?_
    clear a_11 HE12 HH8 a_13 HE14 a_18 HE19 a_20 HE21 a_22 HE23 a_172 HE173 a_174 HE175 a_176 HE177 hK16 K_15
    refine nrm ?_
    refine cndT HE179 rfl rfl ?_
    refine wp_seq ?_
    refine rg ?_
    refine pl_x HE179 HH17 (wt0 rfl) (x_assign rfl) rfl rfl fun a_180 HE181 => ?_
    refine pl_x HE181 HH17 (wt0 rfl) (x_assign rfl) rfl rfl fun a_182 HE183 => ?_
    refine wpList_nil ?_
    clear a_178 HE179 a_180 HE181
    refine nrm ?_
    refine wp_ret ?_
    refine (thn_ret ?_)
    refine ret2 HE183 rfl (rv_tmp rfl) (rv_tmp rfl) ?_
    have hF : (powersSeen a0 a1 a2 a3) = ([], 1) := by
      grind [powersSeen]
    exact ⟨none, 0, by first | (rw [hF] <;> rfl) | rfl | (rw [hF]; simp only [Ending.returned.injEq, Value.slice.injEq, true_and, and_true]; first | omega | (simp; done)) | (rw [hF]; simp; omega), by rw [hF]; exact (So.nil (Nat.zero_le _)), HH17.below⟩

/-- The library's table that the decimal forms are made with. -/
def Glob (w : World) : Prop := Lib.TabIs Tryz.prog w "internal/strconv.uint64pow10" .u64 Lib.pow10Tab

theorem globNum : Tryz.prog.globalNamed "internal/strconv.uint64pow10" = some 3 := by kernel_rfl

theorem Held.glob {w0 w : World} {rs : List Res} (h : Held Nob w0 rs w) (hG : Glob w0) : Glob w := tab_below globNum hG h.below

theorem grow_below (w : World) (k : Nat) (os : Array Obj) : Below w.heap.size w (Go.Sort.grow (w.drewN k) os) :=
  ⟨rfl, rfl, rfl, by show w.heap.size ≤ (w.heap ++ os).size; rw [Array.size_append]; omega, fun b hb => Go.Sort.heap_grow_old (w.drewN k) os hb⟩

def shelf_M173_ren : Go.Shelf.Ren := ⟨fun | 173 => 164 | 246 => 203 | 283 => 223 | 284 => 224 | 285 => 225 | 286 => 226 | 129 => 236 | 317 => 235 | 318 => 237 | 319 => 238 | 320 => 239 | 337 => 240 | 338 => 241 | n => n, fun | 2 => 2 | 3 => 3 | 9 => 9 | 4 => 4 | 171 => 243 | 0 => 0 | 53 => 216 | 37 => 22 | 5 => 5 | 173 => 246 | 212 => 256 | 51 => 234 | 20 => 20 | 213 => 257 | 46 => 210 | 232 => 264 | 233 => 265 | n => n, fun | 17 => 3 | 18 => 6 | 19 => 7 | n => n⟩

theorem shelf_M173 : Go.Proofs.LaysM.n173 Tryz.prog shelf_M173_ren := {
  mixed := by kernel_rfl
  f129 := Tryz.func236.trans (congrArg some (by kernel_rfl))
  f173 := Tryz.func164.trans (congrArg some (by kernel_rfl))
  f246 := Tryz.func203.trans (congrArg some (by kernel_rfl))
  f283 := Tryz.func223.trans (congrArg some (by kernel_rfl))
  f284 := Tryz.func224.trans (congrArg some (by kernel_rfl))
  f285 := Tryz.func225.trans (congrArg some (by kernel_rfl))
  f286 := Tryz.func226.trans (congrArg some (by kernel_rfl))
  f317 := Tryz.func235.trans (congrArg some (by kernel_rfl))
  f318 := Tryz.func237.trans (congrArg some (by kernel_rfl))
  f319 := Tryz.func238.trans (congrArg some (by kernel_rfl))
  f320 := Tryz.func239.trans (congrArg some (by kernel_rfl))
  f337 := Tryz.func240.trans (congrArg some (by kernel_rfl))
  f338 := Tryz.func241.trans (congrArg some (by kernel_rfl))
  t0 := Tryz.underlying0
  a0 := Tryz.isAgg0
  z0 := Tryz.sizeOf0
  v0 := Tryz.zeroValue0
  t2 := Tryz.underlying2
  a2 := Tryz.isAgg2
  z2 := Tryz.sizeOf2
  v2 := Tryz.zeroValue2
  t3 := Tryz.underlying3
  a3 := Tryz.isAgg3
  z3 := Tryz.sizeOf3
  v3 := Tryz.zeroValue3
  t4 := Tryz.underlying4
  a4 := Tryz.isAgg4
  z4 := Tryz.sizeOf4
  v4 := Tryz.zeroValue4
  t5 := Tryz.underlying5
  a5 := Tryz.isAgg5
  z5 := Tryz.sizeOf5
  v5 := Tryz.zeroValue5
  t9 := Tryz.underlying9
  a9 := Tryz.isAgg9
  z9 := Tryz.sizeOf9
  v9 := Tryz.zeroValue9
  t20 := Tryz.underlying20
  a20 := Tryz.isAgg20
  z20 := Tryz.sizeOf20
  v20 := Tryz.zeroValue20
  t37 := Tryz.underlying22
  a37 := Tryz.isAgg22
  z37 := Tryz.sizeOf22
  v37 := Tryz.zeroValue22
  t46 := Tryz.underlying210
  a46 := Tryz.isAgg210
  z46 := Tryz.sizeOf210
  v46 := Tryz.zeroValue210
  t51 := Tryz.underlying234
  a51 := Tryz.isAgg234
  z51 := Tryz.sizeOf234
  v51 := Tryz.zeroValue234
  t53 := Tryz.underlying216
  a53 := Tryz.isAgg216
  z53 := Tryz.sizeOf216
  v53 := Tryz.zeroValue216
  t171 := Tryz.underlying243
  a171 := Tryz.isAgg243
  z171 := Tryz.sizeOf243
  v171 := Tryz.zeroValue243
  t173 := Tryz.underlying246
  a173 := Tryz.isAgg246
  z173 := Tryz.sizeOf246
  v173 := Tryz.zeroValue246
  t212 := Tryz.underlying256
  a212 := Tryz.isAgg256
  z212 := Tryz.sizeOf256
  v212 := Tryz.zeroValue256
  t213 := Tryz.underlying257
  a213 := Tryz.isAgg257
  z213 := Tryz.sizeOf257
  t232 := Tryz.underlying264
  a232 := Tryz.isAgg264
  z232 := Tryz.sizeOf264
  v232 := Tryz.zeroValue264
  t233 := Tryz.underlying265
  a233 := Tryz.isAgg265
  z233 := Tryz.sizeOf265
  v233 := Tryz.zeroValue265
  g17 := by kernel_rfl
  g18 := by kernel_rfl
  g19 := by kernel_rfl
  i0 := by kernel_rfl
  i2 := by kernel_rfl
  i3 := by kernel_rfl
  i4 := by kernel_rfl
  i5 := by kernel_rfl
  i9 := by kernel_rfl
  i20 := by kernel_rfl
  i37 := by kernel_rfl
  i46 := by kernel_rfl
  i51 := by kernel_rfl
  i53 := by kernel_rfl
  i171 := by kernel_rfl
  i173 := by kernel_rfl
  i212 := by kernel_rfl
  i232 := by kernel_rfl
  i233 := by kernel_rfl
  m17 := by kernel_rfl
  m18 := by kernel_rfl
  m19 := by kernel_rfl }

def shelf_156_ren : Go.Shelf.Ren := ⟨fun | 0 => 0 | 1 => 1 | 2 => 2 | 101 => 121 | 119 => 189 | 129 => 236 | 137 => 188 | 138 => 171 | 143 => 172 | 145 => 69 | 146 => 78 | 152 => 152 | 153 => 136 | 154 => 173 | 155 => 129 | 156 => 144 | 165 => 184 | 166 => 185 | 167 => 195 | 168 => 194 | 169 => 186 | 171 => 222 | 173 => 164 | 174 => 119 | 195 => 209 | 197 => 210 | 205 => 221 | 206 => 204 | 208 => 165 | 217 => 196 | 218 => 211 | 219 => 161 | 220 => 118 | 221 => 128 | 224 => 190 | 225 => 191 | 226 => 178 | 227 => 179 | 228 => 180 | 240 => 212 | 241 => 213 | 242 => 215 | 243 => 234 | 245 => 163 | 246 => 203 | 247 => 162 | 260 => 229 | 266 => 216 | 267 => 197 | 268 => 170 | 276 => 230 | 277 => 231 | 278 => 233 | 279 => 199 | 280 => 200 | 281 => 201 | 282 => 202 | 283 => 223 | 284 => 224 | 285 => 225 | 286 => 226 | 287 => 198 | 314 => 217 | 316 => 220 | 317 => 235 | 318 => 237 | 319 => 238 | 320 => 239 | 321 => 218 | 322 => 219 | 337 => 240 | 338 => 241 | 347 => 242 | 348 => 243 | 349 => 244 | 350 => 245 | 351 => 246 | 352 => 247 | 353 => 248 | 354 => 249 | 355 => 250 | 356 => 251 | 357 => 252 | 358 => 253 | 359 => 254 | 360 => 255 | 361 => 256 | 362 => 257 | 363 => 260 | 364 => 258 | 365 => 259 | 366 => 261 | 367 => 271 | n => n, fun | 0 => 0 | 1 => 1 | 2 => 2 | 3 => 3 | 4 => 4 | 5 => 5 | 6 => 6 | 7 => 7 | 8 => 8 | 9 => 9 | 10 => 10 | 11 => 11 | 12 => 12 | 13 => 13 | 14 => 14 | 15 => 15 | 16 => 16 | 17 => 17 | 18 => 18 | 19 => 19 | 20 => 20 | 21 => 21 | 22 => 222 | 23 => 148 | 27 => 164 | 31 => 78 | 37 => 22 | 40 => 208 | 41 => 142 | 46 => 210 | 47 => 258 | 51 => 234 | 52 => 263 | 53 => 216 | 54 => 244 | 55 => 207 | 59 => 103 | 60 => 104 | 61 => 108 | 64 => 179 | 65 => 190 | 66 => 156 | 67 => 174 | 69 => 238 | 70 => 199 | 71 => 200 | 72 => 201 | 73 => 202 | 74 => 143 | 75 => 144 | 76 => 203 | 77 => 204 | 78 => 214 | 79 => 213 | 80 => 205 | 81 => 271 | 83 => 242 | 84 => 187 | 85 => 145 | 86 => 146 | 103 => 227 | 104 => 58 | 105 => 228 | 106 => 229 | 108 => 241 | 111 => 192 | 113 => 155 | 114 => 209 | 115 => 193 | 116 => 194 | 117 => 195 | 118 => 196 | 119 => 259 | 124 => 230 | 126 => 233 | 127 => 231 | 128 => 186 | 137 => 260 | 138 => 261 | 139 => 262 | 143 => 252 | 144 => 253 | 145 => 254 | 146 => 235 | 150 => 189 | 151 => 236 | 164 => 249 | 165 => 250 | 166 => 251 | 167 => 215 | 168 => 219 | 169 => 220 | 170 => 221 | 171 => 243 | 172 => 245 | 173 => 246 | 174 => 247 | 175 => 217 | 176 => 218 | 209 => 239 | 210 => 240 | 211 => 255 | 212 => 256 | 213 => 257 | 214 => 237 | 232 => 264 | 233 => 265 | 238 => 266 | 239 => 267 | 240 => 268 | 241 => 269 | 242 => 270 | 243 => 272 | 244 => 273 | 245 => 274 | 246 => 275 | 247 => 276 | 248 => 277 | 249 => 278 | n => n, fun | 1 => 0 | 3 => 4 | 4 => 5 | 15 => 1 | 16 => 2 | 17 => 3 | 18 => 6 | 19 => 7 | n => n⟩

theorem shelf_156 : Go.Proofs.Lays.n156 Tryz.prog shelf_156_ren := {
  mixed := by kernel_rfl
  f156 := Tryz.func144.trans (congrArg some (by kernel_rfl))
  f165 := Tryz.func184.trans (congrArg some (by kernel_rfl))
  f166 := Tryz.func185.trans (congrArg some (by kernel_rfl))
  f169 := Tryz.func186.trans (congrArg some (by kernel_rfl))
  f240 := Tryz.func212.trans (congrArg some (by kernel_rfl))
  f241 := Tryz.func213.trans (congrArg some (by kernel_rfl))
  f276 := Tryz.func230.trans (congrArg some (by kernel_rfl))
  f277 := Tryz.func231.trans (congrArg some (by kernel_rfl))
  t0 := Tryz.underlying0
  a0 := Tryz.isAgg0
  z0 := Tryz.sizeOf0
  v0 := Tryz.zeroValue0
  t3 := Tryz.underlying3
  a3 := Tryz.isAgg3
  z3 := Tryz.sizeOf3
  v3 := Tryz.zeroValue3
  t4 := Tryz.underlying4
  a4 := Tryz.isAgg4
  z4 := Tryz.sizeOf4
  v4 := Tryz.zeroValue4
  t9 := Tryz.underlying9
  a9 := Tryz.isAgg9
  z9 := Tryz.sizeOf9
  v9 := Tryz.zeroValue9
  t20 := Tryz.underlying20
  a20 := Tryz.isAgg20
  z20 := Tryz.sizeOf20
  v20 := Tryz.zeroValue20
  t31 := Tryz.underlying78
  a31 := Tryz.isAgg78
  z31 := Tryz.sizeOf78
  v31 := Tryz.zeroValue78
  t37 := Tryz.underlying22
  a37 := Tryz.isAgg22
  z37 := Tryz.sizeOf22
  v37 := Tryz.zeroValue22
  t70 := Tryz.underlying199
  a70 := Tryz.isAgg199
  z70 := Tryz.sizeOf199
  v70 := Tryz.zeroValue199
  t72 := Tryz.underlying201
  a72 := Tryz.isAgg201
  z72 := Tryz.sizeOf201
  v72 := Tryz.zeroValue201
  t75 := Tryz.underlying144
  a75 := Tryz.isAgg144
  z75 := Tryz.sizeOf144
  v75 := Tryz.zeroValue144
  t76 := Tryz.underlying203
  a76 := Tryz.isAgg203
  z76 := Tryz.sizeOf203
  v76 := Tryz.zeroValue203
  t127 := Tryz.underlying231
  a127 := Tryz.isAgg231
  z127 := Tryz.sizeOf231
  v127 := Tryz.zeroValue231
  t164 := Tryz.underlying249
  a164 := Tryz.isAgg249
  z164 := Tryz.sizeOf249
  v164 := Tryz.zeroValue249 }

theorem shelf_X_Builder_Extra_156 : Builder.Extra Tryz.prog shelf_156_ren where
  sizeBuilder := by kernel_rfl
  liesBuilder := by kernel_rfl
  t5 := Tryz.underlying5
  a5 := Tryz.isAgg5
  z5 := Tryz.sizeOf5
  v5 := Tryz.zeroValue5
  infoByte := by kernel_rfl
  cellsByte := by kernel_rfl
  sizeByte := by kernel_rfl
  neB5 := by decide

theorem FormatInt_10 (a0 a1 : Int) (w : World) (hG : Glob w) (s0 : -9223372036854775808 ≤ a0 ∧ a0 ≤ 9223372036854775807) (s1 : a1 = 10) :
    Calls Tryz.prog 164 #[.int .i64 a0, .int .i64 a1] w fun e w' => e = .returned (.string (bs (Go.Lib.itoa a0))) ∧ Below w.heap.size w w' := by
  subst s1
  refine (show Calls Tryz.prog 164 #[.int .i64 a0, .int .i64 10] w _ from Any.strconv_FormatInt_10 shelf_M173 a0 s0.1 s0.2 w hG).mono ?_
  rintro e w' ⟨rfl, k, os, rfl⟩
  exact ⟨rfl, grow_below _ _ _⟩

theorem map_bs (xs : List (List UInt8)) : (xs.map bs).map (fun x : ByteArray => x.data.toList) = xs := by
  rw [List.map_map]
  exact (List.map_congr_left fun x _ => by simp [bs]).trans (List.map_id xs)

theorem Join_Str (A : Option Addr) (c : Nat) (a0 : List (List UInt8)) (a1 : List UInt8) (w : World) (h0 : Sl eTxt w (Old w) A c a0) (s0 : a0.length ≤ 1000000000) (s1 : (Go.Lib.join a0 a1).length ≤ 1000000000) :
    Calls Tryz.prog 144 #[.slice A a0.length c, .string (bs a1)] w fun e w' => e = .returned (.string (bs (Go.Lib.join a0 a1))) ∧ Below w.heap.size w w' := by
  by_cases hx : a0 = []
  · subst hx
    refine (show Calls Tryz.prog 144 #[.slice A 0 c, .string (bs a1)] w _ from Any.strings_Join_none shelf_156 shelf_X_Builder_Extra_156 A c (bs a1) w).mono ?_
    rintro e w' ⟨rfl, rfl⟩
    exact ⟨rfl, Below.refl _ _⟩
  · obtain ⟨b, off, rfl, hb, hc⟩ := h0.2.2 hx
    have hl : a0.length = (a0.map bs).length := (List.length_map _).symm
    have hj : Go.Lib.join ((a0.map bs).map (·.data.toList)) (bs a1).data.toList = Go.Lib.join a0 a1 := by rw [map_bs]
    rw [hl]
    refine (show Calls Tryz.prog 144 #[.slice (some ⟨b, off, none⟩) (a0.map bs).length c, .string (bs a1)] w _ from Any.strings_Join shelf_156 shelf_X_Builder_Extra_156 b off c (a0.map bs) (bs a1) w ?_ hb (by rw [← hl]; omega) (by rw [← hl]; exact h0.1) (by rw [hj]; omega)).mono ?_
    · intro j x hjx
      rw [List.getElem?_map, Option.map_eq_some_iff] at hjx
      obtain ⟨y, hy, rfl⟩ := hjx
      obtain ⟨es, ⟨rfl, _⟩, h2⟩ := hc j y hy
      have := h2 0 _ rfl
      rwa [show off + j * eTxt.size + 0 = off + j from by simp [eTxt]] at this
    · rintro e w' ⟨rfl, h2⟩
      rw [hj]
      exact ⟨rfl, h2⟩

theorem nDigits_le (k : Nat) : ∀ n : Nat, n < 10 ^ (k + 1) → Go.Lib.nDigits n ≤ k + 1 := by
  induction k with
  | zero => intro n h; rw [Go.Lib.nDigits_small (by simpa using h)]; omega
  | succ k ih =>
    intro n h
    by_cases h1 : n < 10
    · rw [Go.Lib.nDigits_small h1]; omega
    · rw [Go.Lib.nDigits_big h1]; have := ih (n / 10) (by rw [Nat.pow_succ] at h; omega); omega

theorem itoa_len {n : Int} (h : -9223372036854775808 ≤ n ∧ n ≤ 9223372036854775807) : 1 ≤ (Go.Lib.itoa n).length ∧ (Go.Lib.itoa n).length ≤ 20 := by
  unfold Go.Lib.itoa
  split
  · have h1 := nDigits_le 18 n.natAbs (by omega)
    have h2 := Go.Lib.nDigits_pos n.natAbs
    rw [List.length_cons, Go.Lib.decDigits_length]; omega
  · have h1 := nDigits_le 18 n.toNat (by omega)
    have h2 := Go.Lib.nDigits_pos n.toNat
    rw [Go.Lib.decDigits_length]; omega

theorem join_len (B : Nat) (sep : List UInt8) : ∀ xs : List (List UInt8), (∀ x ∈ xs, x.length ≤ B) → (Go.Lib.join xs sep).length ≤ xs.length * (B + sep.length)
  | [], _ => by simp [Go.Lib.join_nil]
  | x :: r, h => by
    have h1 := h x (by simp)
    have h2 : Go.Lib.lens r ≤ r.length * B := by
      have h3 : ∀ y ∈ r, y.length ≤ B := fun y hy => h y (by simp [hy])
      clear h
      induction r with
      | nil => simp [Go.Lib.lens]
      | cons y r ih =>
        have h4 := ih fun z hz => h3 z (by simp [hz])
        have h5 := h3 y (by simp)
        simp only [Go.Lib.lens, List.map_cons, List.sum_cons, List.length_cons, Nat.succ_mul] at h4 ⊢
        omega
    rw [Go.Lib.join_length, List.length_cons, Nat.succ_mul]
    simp only [Go.Lib.lens, List.map_cons, List.sum_cons] at h2 ⊢
    have h6 : sep.length * r.length = r.length * sep.length := Nat.mul_comm _ _
    have h7 : r.length * (B + sep.length) = r.length * B + r.length * sep.length := Nat.mul_add _ _ _
    omega

theorem Sl.i64 {w : World} {S : Nat → Prop} {A : Option Addr} {c : Nat} {xs : List Int} (h : Sl eInt w S A c xs) : ∀ x ∈ xs, -9223372036854775808 ≤ x ∧ x ≤ 9223372036854775807 := by
  intro x hx
  obtain ⟨i, hi⟩ := List.mem_iff_getElem?.1 hx
  obtain ⟨b, off, _, _, hc⟩ := h.2.2 (fun e => by rw [e] at hx; cases hx)
  obtain ⟨es, ⟨_, h1⟩, _⟩ := hc i x hi
  exact h1

theorem join_take_len {α : Type} {f : α → List UInt8} {l : List α} {sep : List UInt8} {B : Nat} (h : ∀ x ∈ l, (f x).length + sep.length ≤ B) (k : Nat) : (Go.Lib.join ((l.take k).map f) sep).length ≤ B * l.length := by
  by_cases hn : l = []
  · subst hn; simp [Go.Lib.join_nil]
  · obtain ⟨x0, hx0⟩ := List.exists_mem_of_ne_nil l hn
    have hs := h x0 hx0
    have h1 := join_len (B - sep.length) sep ((l.take k).map f) (by
      intro y hy
      obtain ⟨x, hx, rfl⟩ := List.mem_map.1 hy
      have := h x (List.mem_of_mem_take hx)
      omega)
    rw [List.length_map, List.length_take, show B - sep.length + sep.length = B from by omega] at h1
    have h2 : min k l.length * B ≤ l.length * B := Nat.mul_le_mul_right _ (by omega)
    rw [Nat.mul_comm B]
    omega

set_option maxRecDepth 100000 in
set_option maxHeartbeats 4000000 in
theorem impl_Decimal (a0 : Int) (w : World) (hG : Glob w) (s0 : -9223372036854775808 ≤ a0 ∧ a0 ≤ 9223372036854775807) :
    Calls Tryz.prog 120 #[.int .i64 a0] w fun e w' => e = .returned (.string (bs (Go.Lib.itoa a0))) ∧ Below w.heap.size w w' := by
  have HH1 := Held.start Nob w
  refine enter (n := 5) Tryz.func120 rfl rfl rfl fun a_2 HE3 => ?_
  refine wp_seq ?_
  refine rg ?_
  refine pl_x HE3 HH1 (wt0 rfl) (x_assign rfl) rfl rfl fun a_4 HE5 => ?_
  refine wpList_nil ?_
  clear a_2 HE3
  refine nrm ?_
  refine wp_seq ?_
  refine rg ?_
  refine pl_x HE5 HH1 (wt0 rfl) (x_move rfl) rfl rfl fun a_6 HE7 => ?_
  refine pl fun K_8 hK9 => ?_
  refine st_call HE7 (wt0 rfl) rfl rfl rfl en_164 rfl rfl (FormatInt_10 a0 10 _ (HH1.glob hG) (by omega) (by rfl)) fun e w' hr => ?_
  have hAr21_0 := itoa_len (n := a0) (by omega)
  obtain ⟨rfl, hbr21⟩ := hr
  have HH10 := HH1.on hbr21
  refine ⟨_, rfl, fun a_11 HE12 => hK9 _ _ ?_⟩
  refine pl_x HE12 HH10 (wt0 rfl) (x_assign rfl) rfl rfl fun a_13 HE14 => ?_
  refine wpList_nil ?_
  clear a_4 HE5 HH1 a_6 HE7 a_11 HE12 hK9 K_8
  refine nrm ?_
  refine wp_ret ?_
  refine ret1 HE14 rfl (rv_tmp rfl) ?_
  have hF : (Go.Lib.itoa a0) = (Go.Lib.itoa a0) := by
    first | rfl | (simp [Go.Lib.itoa]; done) | (simp [Go.Lib.itoa]; omega) | grind [Go.Lib.itoa]
  exact ⟨by first | (rw [hF] <;> rfl) | rfl | (rw [hF]; simp only [Ending.returned.injEq, Value.slice.injEq, true_and, and_true]; first | omega | (simp; done)) | (rw [hF]; simp; omega), HH10.below⟩

def fracT (f : tFraction) : List UInt8 := Go.Lib.itoa f.1 ++ [47] ++ Go.Lib.itoa f.2

def fracsT (l : List tFraction) : List UInt8 := Go.Lib.join (l.map fracT) [32]

def fracsText (l : List tFraction) : List UInt8 := if validFrac l = true then fracsT l else []

theorem fracs_len {l : List tFraction} (h : ∀ x ∈ l, (1 ≤ x.1 ∧ x.1 ≤ 999999) ∧ 1 ≤ x.2 ∧ x.2 ≤ 999999) (k : Nat) : (Go.Lib.join ((l.take k).map fracT) [32]).length ≤ 50 * l.length := by
  refine join_take_len (fun x hx => ?_) k
  have h1 := h x hx
  have h2 := itoa_len (n := x.1) (by omega)
  have h3 := itoa_len (n := x.2) (by omega)
  simp only [fracT, List.length_append, List.length_cons, List.length_nil]
  omega

set_option maxRecDepth 100000 in
set_option maxHeartbeats 4000000 in
theorem impl_FractionsText (A0 : Option Addr) (c0 : Nat) (a0 : (List tFraction)) (w : World) (h0 : Sl eFraction w (Old w) A0 c0 a0) (hG : Glob w) :
    Calls Tryz.prog 106 #[.slice A0 a0.length c0] w fun e w' => e = .returned (.string (bs (fracsText a0))) ∧ Below w.heap.size w w' := by
  have l0 := h0.len
  have HH1 := Held.start Nob w
  refine enter (n := 30) Tryz.func106 rfl rfl rfl fun a_2 HE3 => ?_
  refine wp_seq ?_
  refine rg ?_
  refine pl_x HE3 HH1 (wt0 rfl) (x_assign rfl) rfl rfl fun a_4 HE5 => ?_
  refine wpList_nil ?_
  clear a_2 HE3
  refine nrm ?_
  refine wp_seq ?_
  refine wp_seq ?_
  refine rg ?_
  refine pl_x HE5 HH1 (wt0 rfl) (x_move rfl) rfl rfl fun a_6 HE7 => ?_
  refine pl fun K_8 hK9 => ?_
  refine st_call HE7 (wt0 rfl) rfl rfl rfl en_48 rfl rfl (impl_ValidFractions _ _ a0 _ (HH1.old h0)) fun e w' hr => ?_
  obtain ⟨rfl, hbr21⟩ := hr
  have HH10 := HH1.on hbr21
  refine ⟨_, rfl, fun a_11 HE12 => hK9 _ _ ?_⟩
  refine pl_x HE12 HH10 (wt0 rfl) (x_not rfl) rfl rfl fun a_13 HE14 => ?_
  refine wpList_nil ?_
  clear a_4 HE5 HH1 a_6 HE7 a_11 HE12 hK9 K_8
  refine nrm ?_
  refine cnd_nb HE14 rfl (fun hc22 => ?_) (fun hc22 => ?_)
  · refine wp_seq ?_
    refine rg ?_
    refine pl_x HE14 HH10 (wt0 rfl) (x_assign rfl) rfl rfl fun a_15 HE16 => ?_
    refine wpList_nil ?_
    clear a_13 HE14
    refine nrm ?_
    refine wp_ret ?_
    refine (thn_ret ?_)
    refine ret1 HE16 rfl (rv_tmp rfl) ?_
    have hF : (fracsText a0) = [] := by
      unfold fracsText; first | (rw [if_neg (by simp [hc22])]; done) | (rw [if_pos ‹_›]; unfold fracsT; rw [List.take_of_length_le (by omega)])
    exact ⟨by first | (rw [hF] <;> rfl) | rfl | (rw [hF]; simp only [Ending.returned.injEq, Value.slice.injEq, true_and, and_true]; first | omega | (simp; done)) | (rw [hF]; simp; omega), HH10.below⟩
  · have hV := validFrac_facts hc22
    refine wp_skip ?_
    refine nrm ?_
    refine wp_seq ?_
    refine rg ?_
    refine pl fun K_17 hK18 => ?_
    refine st_lit (m := 0) (cs := []) (e := 9) HE14 HH10 (run_lit ts_78 HE14 (vs := []) rfl rfl (by simp [Value.cells]) rfl (by decide)) (wt0 rfl) rfl rfl fun q23 a_19 w' HE20 HH21 => hK18 _ _ ?_
    refine pl_x HE20 HH21 (wt0 rfl) (x_assign rfl) rfl rfl fun a_22 HE23 => ?_
    refine wpList_nil ?_
    clear a_13 HE14 HH10 a_19 HE20 hK18 K_17
    refine nrm ?_
    refine wp_seq ?_
    refine wp_seq ?_
    refine rg ?_
    refine pl_x HE23 HH21 (wt0 rfl) (x_move rfl) rfl rfl fun a_24 HE25 => ?_
    refine pl_x HE25 HH21 (wt0 rfl) (x_len Tryz.underlying29 rfl) rfl rfl fun a_26 HE27 => ?_
    refine pl_x HE27 HH21 (wt0 rfl) (x_move rfl) rfl rfl fun a_28 HE29 => ?_
    refine wpList_nil ?_
    clear a_22 HE23 a_24 HE25 a_26 HE27
    refine nrm ?_
    refine wp_block ?_
    have HH30 := Held.vecFlat (E := eTxt) (xs := []) (css := []) HH21 rfl (Nat.zero_le _) (fun i x hx => by simp at hx)
    refine lp (fun m a w' => ∃ (k : Nat) (A_3 : Option Addr) (c_3 : Nat) (S_3 : Nat → Prop), m = a0.length - k ∧ Env 30 [(3, .slice A_3 (List.length ((a0.take k).map fracT)) c_3), (12, .int .i64 (k : Int)), (10, .slice A0 (a0.length) c0), (11, .int .i64 ((a0.length : Int)))] a ∧ Held Nob w [rVec eTxt 9 S_3 A_3 c_3 ((a0.take k).map fracT)] w' ∧ (k ≤ a0.length)) (a0.length - (0)) ?_ ?_
    · have E24 : (a0.take 0).map fracT = ([] : List (List UInt8)) := by
        first | rfl | simp
      exact ⟨0, (some ⟨q23, 0, none⟩), (List.length (α := (List UInt8)) []), (fun b => b = q23), rfl, HE29.sub ⟨(by rw [E24]; rfl), (lkI rfl (by first | rfl | omega | (simp [hc22]; done))), rfl, rfl, trivial⟩, ((HH30.sel [0] (by decide) rfl).to (by first | rfl | (rw [E24]; done) | (rw [E24]; rfl) | (simp only [E24]; done) | (simp only [E24]; rfl) | (rw [E24]; simp only [List.length_set]; done))), (by first | omega | assumption | (simp; done) | simp_all)⟩
    · rintro m a_31 w' ⟨k, A_3, c_3, S_3, rfl, HE32, HH33, p25_0⟩
      have ol : ((a0.take k).map fracT).length ≤ 100 := by rw [List.length_map, List.length_take]; omega
      have oj := fracs_len hV.2 k
      refine wp_seq ?_
      refine rg ?_
      refine pl_x HE32 HH33 (wt0 rfl) (x_lss rfl rfl) rfl rfl fun a_34 HE35 => ?_
      refine wpList_nil ?_
      clear HH21 a_28 HE29 HH30 a_31 HE32
      refine nrm ?_
      refine wp_seq ?_
      refine cnd_d HE35 rfl (fun hc26 => ?_) (fun hc26 => ?_)
      · refine wp_skip ?_
        refine nrm ?_
        refine wp_seq ?_
        refine wp_block ?_
        refine wp_seq ?_
        refine rg ?_
        have ke27 : k < a0.length := by omega
        obtain ⟨be27, fe27, ese27, Ae27, Re27, De27⟩ := el_old h0 ke27
        obtain ⟨e27, xe27⟩ : ∃ x_, x_ = a0[k] := ⟨_, rfl⟩
        rw [← xe27] at Re27
        have Qe27 := Re27
        obtain ⟨rfl, ge27_0, ge27_1⟩ := shape_Fraction Re27
        have je27_0 := ge27_0; unfold I64 at je27_0
        have je27_1 := ge27_1; unfold I64 at je27_1
        have fe27 := hV.2 e27 (by rw [xe27]; exact List.getElem_mem _)
        refine pl_x HE35 HH33 (wt0 rfl) (x_indexAddr ts_29 rfl rfl Ae27 rfl ke27) rfl rfl fun a_36 HE37 => ?_
        refine pl_x HE37 HH33 (wt0 rfl) (x_loadN (cs := [.int .i64 (e27.1), .int .i64 (e27.2)]) tv_134 rfl rfl (c_oldN De27)) rfl rfl fun a_38 HE39 => ?_
        refine pl fun K_40 hK41 => ?_
        refine st_alloc HE39 HH33 tv_134 (wt0 rfl) rfl fun q28 a_42 w' HE43 HH44 => hK41 _ _ ?_
        refine pl fun K_45 hK46 => ?_
        refine st_store (vs := [.int .i64 (e27.1), .int .i64 (e27.2)]) 0 HE43 HH44 tv_134 rfl rfl rfl rfl rfl rfl (by simp [Value.oneCell']) (wt0 rfl) fun w' HH47 => hK46 _ _ ?_
        refine wpList_nil ?_
        clear a_34 HE35 a_36 HE37 a_38 HE39 HH33 K_40 hK41 HH44 hK46 K_45
        refine nrm ?_
        refine dr_start (Held Nob w [rBlk q28 134 [.int .i64 (e27.1), .int .i64 (e27.2)]]) 12 #[false, false, false, false, false, false, false, false, false, false, false, false] hmix rfl rfl HH47 (fun _ h => h.sel [0] (by decide) rfl) fun w' HH48 => ?_
        have HS49 := HH48.sel [0] (by decide) rfl
        refine dr_take (i := 0) (ls' := #[true, false, false, false, false, false, false, false, false, false, false, false]) HE43 HS49 rfl (by kernel_rfl) (by kernel_rfl) (by kernel_rfl) (fun _ _ _ h => h) rfl (wt0 rfl) (x_move rfl) rfl rfl fun a_50 HE51 => ?_
        refine dr_take (i := 1) (ls' := #[true, true, false, false, false, false, false, false, false, false, false, false]) HE51 HS49 rfl (by kernel_rfl) (by kernel_rfl) (by kernel_rfl) (fun _ _ _ h => h) rfl (wt0 rfl) (x_fieldAddr fa_134_0 rfl) rfl rfl fun a_52 HE53 => ?_
        refine dr_take (i := 2) (ls' := #[true, true, true, false, false, false, false, false, false, false, false, false]) HE53 HS49 rfl (by kernel_rfl) (by kernel_rfl) (by kernel_rfl) (fun _ _ _ h => h) rfl (wt0 rfl) (x_load1 tv_2 rfl (c_blk 0 rfl rfl)) rfl rfl fun a_54 HE55 => ?_
        refine dr_take (i := 5) (ls' := #[true, true, true, false, false, true, false, false, false, false, false, false]) HE55 HS49 rfl (by kernel_rfl) (by kernel_rfl) (by kernel_rfl) (fun _ _ _ h => h) rfl (wt0 rfl) (x_fieldAddr fa_134_1 rfl) rfl rfl fun a_56 HE57 => ?_
        refine dr_take (i := 6) (ls' := #[true, true, true, false, false, true, true, false, false, false, false, false]) HE57 HS49 rfl (by kernel_rfl) (by kernel_rfl) (by kernel_rfl) (fun _ _ _ h => h) rfl (wt0 rfl) (x_load1 tv_2 rfl (c_blk 0 rfl rfl)) rfl rfl fun a_58 HE59 => ?_
        refine dr_one (i := 3) (ls' := #[true, true, true, true, false, true, true, false, false, false, false, false]) rfl (by kernel_rfl) rfl fun K_60 hK61 => ?_
        refine st_call HE59 (wt0 rfl) rfl rfl rfl en_120 rfl rfl (impl_Decimal e27.1 _ (HH48.glob hG) (by omega)) fun e w' hr => ?_
        have hAr29_0 := itoa_len (n := e27.1) (by omega)
        obtain ⟨rfl, hbr29⟩ := hr
        have HH62 := HH48.on hbr29
        refine ⟨_, rfl, fun a_63 HE64 => hK61 _ _ (by exact HH62.sel [0] (by decide) rfl) ?_⟩
        have HS65 := HH62.sel [0] (by decide) rfl
        refine dr_take (i := 4) (ls' := #[true, true, true, true, true, true, true, false, false, false, false, false]) HE64 HS65 rfl (by kernel_rfl) (by kernel_rfl) (by kernel_rfl) (fun _ _ _ h => h) rfl (wt0 rfl) (x_sadd rfl rfl (by first | omega | (simp only [List.length_append, List.length_cons, List.length_nil]; omega) | (simp; omega))) rfl rfl fun a_66 HE67 => ?_
        refine dr_one (i := 7) (ls' := #[true, true, true, true, true, true, true, true, false, false, false, false]) rfl (by kernel_rfl) rfl fun K_68 hK69 => ?_
        refine st_call HE67 (wt0 rfl) rfl rfl rfl en_120 rfl rfl (impl_Decimal e27.2 _ (HH62.glob hG) (by omega)) fun e w' hr => ?_
        have hAr30_0 := itoa_len (n := e27.2) (by omega)
        obtain ⟨rfl, hbr30⟩ := hr
        have HH70 := HH62.on hbr30
        refine ⟨_, rfl, fun a_71 HE72 => hK69 _ _ (by exact HH70.sel [0] (by decide) rfl) ?_⟩
        have HS73 := HH70.sel [0] (by decide) rfl
        refine dr_take (i := 8) (ls' := #[true, true, true, true, true, true, true, true, true, false, false, false]) HE72 HS73 rfl (by kernel_rfl) (by kernel_rfl) (by kernel_rfl) (fun _ _ _ h => h) rfl (wt0 rfl) (x_sadd rfl rfl (by first | omega | (simp only [List.length_append, List.length_cons, List.length_nil]; omega) | (simp; omega))) rfl rfl fun a_74 HE75 => ?_
        refine dr_one (i := 9) (ls' := #[true, true, true, true, true, true, true, true, true, true, false, false]) rfl (by kernel_rfl) rfl fun K_76 hK77 => ?_
        refine st_lit (m := 1) (cs := [.string (bs (((Go.Lib.itoa e27.1) ++ [47]) ++ (Go.Lib.itoa e27.2)))]) (e := 9) HE75 HH70 (run_lit ts_78 HE75 (vs := [.string (bs (((Go.Lib.itoa e27.1) ++ [47]) ++ (Go.Lib.itoa e27.2)))]) rfl rfl (by simp [Value.cells]) rfl (by decide)) (wt0 rfl) rfl rfl fun q31 a_78 w' HE79 HH80 => hK77 _ _ (by exact HH80.sel [1] (by decide) rfl) ?_
        have HS81 := HH80.sel [1] (by decide) rfl
        refine dr_one (i := 10) (ls' := #[true, true, true, true, true, true, true, true, true, true, true, false]) rfl (by kernel_rfl) rfl fun K_82 hK83 => ?_
        refine st_app1F (((Go.Lib.itoa e27.1) ++ [47]) ++ (Go.Lib.itoa e27.2)) HE79 HH80 ts_78 [2, 0, 1] (by decide) rfl (fun _ => (oS (by first | omega | (simp only [List.length_append, List.length_cons, List.length_nil]; omega) | (simp; omega)))) rfl rfl (by simp [Value.oneCell']) (by unfold maxLen; first | omega | (simp; done) | (simp; omega)) (by first | omega | (simp; done) | (simp; omega)) (wt0 rfl) rfl fun A32 c33 S34 a_84 w' HE85 HH86 => hK83 _ _ (by exact HH86.sel [1] (by decide) rfl) ?_
        have HS87 := HH86.sel [1] (by decide) rfl
        refine dr_take (i := 11) (ls' := #[true, true, true, true, true, true, true, true, true, true, true, true]) HE85 HS87 rfl (by kernel_rfl) (by kernel_rfl) (by kernel_rfl) (fun _ _ _ h => h) rfl (wt0 rfl) (x_assign rfl) rfl rfl fun a_88 HE89 => ?_
        refine dr_done (by kernel_rfl) ?_
        clear HH47 a_42 HE43 a_50 HE51 a_52 HE53 a_54 HE55 a_56 HE57 HH48 a_58 HE59 HS49 a_63 HE64 K_60 hK61 HH62 a_66 HE67 HS65 a_71 HE72 K_68 hK69 a_74 HE75 HH70 HS73 K_76 hK77 a_78 HE79 HH80 HS81 a_84 HE85 hK83 K_82
        refine blk_n ?_
        refine nrm ?_
        refine rg ?_
        refine pl_x HE89 HH86 (wt0 rfl) (x_add rfl rfl (by exact ⟨by omega, by omega⟩)) rfl rfl fun a_90 HE91 => ?_
        refine pl_x HE91 HH86 (wt0 rfl) (x_move rfl) rfl rfl fun a_92 HE93 => ?_
        refine wpList_nil ?_
        clear a_88 HE89 a_90 HE91
        have E35 : (a0.take (k + 1)).map fracT = ((a0.take k).map fracT ++ [(((Go.Lib.itoa e27.1) ++ [47]) ++ (Go.Lib.itoa e27.2))]) := by
          first | (rw [List.take_succ_eq_append_getElem (by omega), List.map_append, ← xe27]; rfl) | (rw [List.take_succ_eq_append_getElem (by omega), List.map_append, ← xe27]; simp [fracT, hc26])
        exact nrm ⟨a0.length - (k + 1), (by omega), k + 1, A32, c33, S34, rfl, HE93.sub ⟨(by rw [E35]; rfl), (lkI rfl (by first | rfl | omega | (simp [hc22, p25_0, hc26, xe27]; done))), rfl, rfl, trivial⟩, ((HH86.sel [0] (by decide) rfl).to (by first | rfl | (rw [E35]; done) | (rw [E35]; rfl) | (simp only [E35]; done) | (simp only [E35]; rfl) | (rw [E35]; simp only [List.length_set]; done))), (by first | omega | assumption | (simp; done) | simp_all)⟩
      · refine wp_exit ?_
        refine (thn_exit (thn_exit (blk_hit ?_)))
        refine nrm ?_
        refine wp_seq ?_
        refine rg ?_
        refine pl_x HE35 HH33 (wt0 rfl) (x_move rfl) rfl rfl fun a_94 HE95 => ?_
        refine pl fun K_96 hK97 => ?_
        refine st_call HE95 (wt0 rfl) rfl rfl rfl en_144 rfl rfl (Join_Str _ _ ((a0.take k).map fracT) ([32]) _ (HH33.vecSl (i := 0) rfl) (by first | omega | (simp; done)) (by first | omega | (simp [Go.Lib.join, List.intercalate]; omega))) fun e w' hr => ?_
        have hAr36_0 := (by first | omega | (simp [Go.Lib.join, List.intercalate]; omega) : (Go.Lib.join ((a0.take k).map fracT) ([32])).length ≤ 1000000000)
        obtain ⟨rfl, hbr36⟩ := hr
        have HH98 := HH33.on hbr36
        refine ⟨_, rfl, fun a_99 HE100 => hK97 _ _ ?_⟩
        refine pl_x HE100 HH98 (wt0 rfl) (x_assign rfl) rfl rfl fun a_101 HE102 => ?_
        refine wpList_nil ?_
        clear a_34 HE35 HH33 a_94 HE95 a_99 HE100 hK97 K_96
        refine nrm ?_
        refine wp_ret ?_
        refine ret1 HE102 rfl (rv_tmp rfl) ?_
        have hF : (fracsText a0) = (Go.Lib.join ((a0.take k).map fracT) ([32])) := by
          unfold fracsText; first | (rw [if_neg (by simp [hc22, p25_0, hc26])]; done) | (rw [if_pos ‹_›]; unfold fracsT; rw [List.take_of_length_le (by omega)])
        exact ⟨by first | (rw [hF] <;> rfl) | rfl | (rw [hF]; simp only [Ending.returned.injEq, Value.slice.injEq, true_and, and_true]; first | omega | (simp; done)) | (rw [hF]; simp; omega), HH98.below⟩

open Go.Lib in
def isDg (c : UInt8) : Bool := decide (48 ≤ c.toNat) && decide (c.toNat ≤ 57)

open Go.Lib in
def dgv (c : UInt8) : Nat := c.toNat - 48

open Go.Lib in
/-- What digits spell, on from acc. -/
def valD (acc : Nat) (l : List UInt8) : Nat := l.foldl (fun a c => a * 10 + dgv c) acc

open Go.Lib in
theorem valD_cons (acc : Nat) (c : UInt8) (r : List UInt8) : valD acc (c :: r) = valD (acc * 10 + dgv c) r := by unfold valD; rw [List.foldl_cons]

open Go.Lib in
theorem valD_nil (acc : Nat) : valD acc [] = acc := by unfold valD; rw [List.foldl_nil]

open Go.Lib in
theorem valD_snoc (l : List UInt8) (c : UInt8) (acc : Nat) : valD acc (l ++ [c]) = valD acc l * 10 + dgv c := by
  unfold valD; rw [List.foldl_append, List.foldl_cons, List.foldl_nil]

open Go.Lib in
theorem dgv_def (c : UInt8) : dgv c = c.toNat - 48 := rfl

open Go.Lib in
theorem valD_one (c : UInt8) : valD 0 [c] = c.toNat - 48 := by rw [valD_cons, valD_nil, dgv_def]; omega

open Go.Lib in
theorem valD_ge (l : List UInt8) : ∀ acc : Nat, acc ≤ valD acc l := by
  induction l with
  | nil => intro acc; rw [valD_nil]; exact Nat.le_refl _
  | cons c l ih => intro acc; rw [valD_cons]; exact Nat.le_trans (by omega) (ih _)

open Go.Lib in
theorem val_arith {a d p v : Nat} (hd : d ≤ 57) (h1 : v < (a * 10 + (d - 48) + 1) * p) : v < (a + 1) * (p * 10) := by
  refine Nat.lt_of_lt_of_le h1 ?_
  rw [Nat.mul_comm p 10, ← Nat.mul_assoc]
  exact Nat.mul_le_mul_right _ (by omega)

open Go.Lib in
theorem isDg_iff {c : UInt8} : isDg c = true ↔ 48 ≤ c.toNat ∧ c.toNat ≤ 57 := by unfold isDg; simp

open Go.Lib in
theorem valD_lt (l : List UInt8) : ∀ acc : Nat, l.all isDg = true → valD acc l < (acc + 1) * 10 ^ l.length := by
  induction l with
  | nil => intro acc _; rw [List.length_nil, Nat.pow_zero, Nat.mul_one, valD_nil]; exact Nat.lt_succ_self _
  | cons c l ih =>
    intro acc h
    rw [List.all_cons, Bool.and_eq_true] at h
    rw [List.length_cons, Nat.pow_succ, valD_cons]
    exact val_arith (isDg_iff.1 h.1).2 (ih _ h.2)

open Go.Lib in
theorem dec_val : ∀ (n : Nat) (l : List UInt8), l.length = n → l ≠ [] → l.all isDg = true → (l.head? = some 48 → l.length = 1) → decDigits (valD 0 l) = l
  | 0, l, hl, hn, _, _ => absurd (List.eq_nil_of_length_eq_zero hl) hn
  | n + 1, l, hl, hn, hd, h0 => by
    obtain ⟨q, c, rfl⟩ : ∃ q c, l = q ++ [c] := ⟨l.dropLast, l.getLast hn, (List.dropLast_concat_getLast hn).symm⟩
    rw [List.all_append, Bool.and_eq_true] at hd
    have hc : 48 ≤ c.toNat ∧ c.toNat ≤ 57 := by have := hd.2; rw [List.all_cons, List.all_nil, Bool.and_true] at this; exact isDg_iff.1 this
    have hcc : UInt8.ofNat (48 + (c.toNat - 48)) = c := by rw [show 48 + (c.toNat - 48) = c.toNat from by omega]; simp
    rw [valD_snoc, dgv_def]
    by_cases hq : q = []
    · subst hq
      have e0 : valD 0 ([] : List UInt8) * 10 + (c.toNat - 48) = c.toNat - 48 := by rw [valD_nil]; omega
      rw [e0, decDigits, dif_pos (by omega), hcc, List.nil_append]
    · have hq1 : q.head? ≠ some 48 := by
        intro e
        have := h0 (by cases q with | nil => exact absurd rfl hq | cons _ _ => simpa using e)
        rw [List.length_append] at this
        have : q.length = 0 := by simp at this; exact absurd this hq
        exact hq (List.eq_nil_of_length_eq_zero this)
      have ih := dec_val n q (by rw [List.length_append] at hl; simp at hl; omega) hq hd.1 (fun e => absurd e hq1)
      have hpos : 1 ≤ valD 0 q := by
        cases q with
        | nil => exact absurd rfl hq
        | cons d q =>
          have hd1 := hd.1
          rw [List.all_cons, Bool.and_eq_true] at hd1
          have hdd : 48 ≤ d.toNat ∧ d.toNat ≤ 57 := isDg_iff.1 hd1.1
          have hne : d ≠ 48 := fun e => hq1 (by rw [e]; rfl)
          have hne2 : d.toNat ≠ 48 := fun e => hne (UInt8.toNat_inj.1 e)
          rw [valD_cons, dgv_def]
          exact Nat.le_trans (by omega) (valD_ge q _)
      rw [decDigits, dif_neg (by omega), show (valD 0 q * 10 + (c.toNat - 48)) / 10 = valD 0 q from by omega, show (valD 0 q * 10 + (c.toNat - 48)) % 10 = c.toNat - 48 from by omega, ih, hcc]

open Go.Lib in
theorem dec_dig (n : Nat) : (decDigits n).all isDg = true ∧ decDigits n ≠ [] ∧ valD 0 (decDigits n) = n ∧ ((decDigits n).head? = some 48 → n = 0) := by
  induction n using Nat.strongRecOn with
  | _ n ih =>
    by_cases h : n < 10
    · rw [decDigits, dif_pos h]
      have e : (UInt8.ofNat (48 + n)).toNat = 48 + n := by simp; omega
      refine ⟨by rw [List.all_cons, List.all_nil, Bool.and_true]; exact isDg_iff.2 (by rw [e]; omega), by simp, by rw [valD_one, e]; omega, ?_⟩
      intro h2
      simp only [List.head?_cons, Option.some.injEq] at h2
      have := congrArg UInt8.toNat h2
      rw [e] at this
      have h3 : (48 : UInt8).toNat = 48 := rfl
      omega
    · obtain ⟨h1, h2, h3, h4⟩ := ih (n / 10) (by omega)
      rw [decDigits, dif_neg h]
      have e : (UInt8.ofNat (48 + n % 10)).toNat = 48 + n % 10 := by simp; omega
      refine ⟨by rw [List.all_append, h1, List.all_cons, List.all_nil, Bool.and_true, Bool.true_and]; exact isDg_iff.2 (by rw [e]; omega), by simp, by rw [valD_snoc, h3, dgv_def, e]; omega, ?_⟩
      intro h5
      have h6 : (decDigits (n / 10)).head? = some 48 := by
        cases hq : decDigits (n / 10) with
        | nil => exact absurd hq h2
        | cons a b => rw [hq] at h5; exact h5
      have := h4 h6
      omega

open Go.Lib in
theorem parse_dig (M : Nat) (l : List UInt8) : ∀ acc : Nat, l.all isDg = true → valD acc l ≤ M → valD acc l < 18446744073709551615 → parseUintM M acc l = .ok (valD acc l) := by
  induction l with
  | nil => intro acc _ _ _; rw [valD_nil, parseUintM]
  | cons c l ih =>
    intro acc h h1 h2
    rw [List.all_cons, Bool.and_eq_true] at h
    have hc := isDg_iff.1 h.1
    have hg := valD_ge l (acc * 10 + dgv c)
    rw [valD_cons] at h1 h2 ⊢
    have hd := dgv_def c
    rw [parseUintM, if_pos hc, ← hd, if_neg (by omega), if_neg (by omega)]
    exact ih _ h.2 h1 h2

open Go.Lib in
/-- The part of a numeral behind its sign. -/
def unsg (s : List UInt8) : List UInt8 := if s.head? = some 45 then s.tail else s

open Go.Lib in
/-- A numeral of at most 18 digits, in its one form. -/
def okNum (s : List UInt8) : Bool := decide (unsg s ≠ []) && decide ((unsg s).length ≤ 18) && (unsg s).all isDg && !(decide ((unsg s).head? = some 48) && decide (1 < s.length))

open Go.Lib in
def numOf (s : List UInt8) : Int := if s.head? = some 45 then -(valD 0 (unsg s) : Int) else (valD 0 (unsg s) : Int)

open Go.Lib in
def numC (s : List UInt8) : Int × Bool := if okNum s = true then (numOf s, true) else (0, false)

open Go.Lib in
/-- The program's way. -/
def numR (s : List UInt8) : Int × Bool :=
  match parseIntB 64 s with
  | .ok v => if itoa v = s ∧ (unsg s).length ≤ 18 then (v, true) else (0, false)
  | _ => (0, false)

open Go.Lib in
theorem okNum_iff (s : List UInt8) : okNum s = true ↔ unsg s ≠ [] ∧ (unsg s).length ≤ 18 ∧ (unsg s).all isDg = true ∧ ¬ ((unsg s).head? = some 48 ∧ 1 < s.length) := by
  unfold okNum
  simp only [Bool.and_eq_true, decide_eq_true_eq, Bool.not_eq_true', Bool.and_eq_false_iff, decide_eq_false_iff_not]
  constructor
  · rintro ⟨⟨⟨h1, h2⟩, h3⟩, h4⟩; exact ⟨h1, h2, h3, fun ⟨a, b⟩ => h4.elim (fun h => h a) (fun h => h b)⟩
  · rintro ⟨h1, h2, h3, h4⟩
    refine ⟨⟨⟨h1, h2⟩, h3⟩, ?_⟩
    by_cases a : (unsg s).head? = some 48
    · exact .inr fun b => h4 ⟨a, b⟩
    · exact .inl a

open Go.Lib in
theorem dig_head {l : List UInt8} (h : l.all isDg = true) : l.head? ≠ some 45 := by
  cases l with
  | nil => simp
  | cons c l =>
    rw [List.all_cons, Bool.and_eq_true] at h
    intro e
    simp only [List.head?_cons, Option.some.injEq] at e
    have := h.1
    rw [e] at this
    exact absurd this (by decide)

open Go.Lib in
/-- The one form of a number has it again. -/
theorem okNum_itoa {v : Int} (h : -1000000000000000000 < v ∧ v < 1000000000000000000) : okNum (itoa v) = true ∧ numOf (itoa v) = v := by
  have key : ∀ n : Nat, n < 1000000000000000000 → (decDigits n).length ≤ 18 := by
    intro n hn
    rw [decDigits_length]
    exact nDigits_le 17 n (by simpa using hn)
  by_cases hv : v < 0
  · obtain ⟨h1, h2, h3, h4⟩ := dec_dig v.natAbs
    have e : itoa v = 45 :: decDigits v.natAbs := by unfold itoa; rw [if_pos hv]
    rw [e]
    have eu : unsg (45 :: decDigits v.natAbs) = decDigits v.natAbs := rfl
    refine ⟨(okNum_iff _).2 ?_, ?_⟩
    · rw [eu]
      exact ⟨h2, key _ (by omega), h1, fun hq => by have := h4 hq.1; omega⟩
    · unfold numOf
      rw [eu, List.head?_cons, if_pos rfl, h3]; omega
  · obtain ⟨h1, h2, h3, h4⟩ := dec_dig v.toNat
    have e : itoa v = decDigits v.toNat := by unfold itoa; rw [if_neg hv]
    rw [e]
    have eu : unsg (decDigits v.toNat) = decDigits v.toNat := by unfold unsg; rw [if_neg (dig_head h1)]
    refine ⟨(okNum_iff _).2 ?_, ?_⟩
    · rw [eu]
      refine ⟨h2, key _ (by omega), h1, fun hq => ?_⟩
      have h5 := h4 hq.1
      rw [h5] at hq
      rw [decDigits, dif_pos (by omega)] at hq
      exact absurd hq.2 (by simp)
    · unfold numOf
      rw [eu, if_neg (dig_head h1), h3]; omega

open Go.Lib in
theorem itoa_num {s : List UInt8} (h : okNum s = true) : itoa (numOf s) = s ∧ -1000000000000000000 < numOf s ∧ numOf s < 1000000000000000000 := by
  obtain ⟨h1, h2, h3, h4⟩ := (okNum_iff s).1 h
  have hb := valD_lt (unsg s) 0 h3
  have hb2 : valD 0 (unsg s) < 1000000000000000000 := by
    refine Nat.lt_of_lt_of_le hb ?_
    have := Nat.pow_le_pow_right (n := 10) (by omega) h2
    omega
  by_cases hs : s.head? = some 45
  · have eu : unsg s = s.tail := by unfold unsg; rw [if_pos hs]
    have es : s = 45 :: s.tail := by cases s with | nil => cases hs | cons c r => simp at hs; rw [hs]; rfl
    have hl : 1 < s.length := by rw [es]; rw [eu] at h1; cases hq : s.tail with | nil => exact absurd hq h1 | cons _ _ => simp
    have hne : ¬ (unsg s).head? = some 48 := fun e => h4 ⟨e, hl⟩
    have hd := dec_val _ (unsg s) rfl h1 h3 (fun e => absurd e hne)
    have hpos : valD 0 (unsg s) ≠ 0 := by
      intro e0
      rw [e0] at hd
      have : decDigits 0 = [48] := by rw [decDigits, dif_pos (by omega)]; rfl
      rw [this] at hd
      exact hne (by rw [← hd]; rfl)
    unfold numOf
    rw [if_pos hs]
    refine ⟨?_, by omega, by omega⟩
    unfold itoa
    rw [if_pos (by omega), show (-(valD 0 (unsg s) : Int)).natAbs = valD 0 (unsg s) from by omega, hd, eu]
    exact es.symm
  · have eu : unsg s = s := by unfold unsg; rw [if_neg hs]
    have hd := dec_val _ (unsg s) rfl h1 h3 (fun e => by
      rw [eu] at e ⊢
      rcases Nat.lt_or_ge 1 s.length with hl | hl
      · exact absurd ⟨by rw [eu]; exact e, hl⟩ h4
      · have : s.length ≠ 0 := fun e0 => h1 (by rw [eu]; exact List.eq_nil_of_length_eq_zero e0)
        omega)
    unfold numOf
    rw [if_neg hs]
    refine ⟨?_, by omega, by omega⟩
    unfold itoa
    rw [if_neg (by omega), Int.toNat_natCast, hd, eu]

open Go.Lib in
theorem parse_num {s : List UInt8} (h : okNum s = true) : parseIntB 64 s = .ok (numOf s) := by
  obtain ⟨h1, h2, h3, h4⟩ := (okNum_iff s).1 h
  have hb := valD_lt (unsg s) 0 h3
  have hb2 : valD 0 (unsg s) < 1000000000000000000 := by
    refine Nat.lt_of_lt_of_le hb ?_
    have := Nat.pow_le_pow_right (n := 10) (by omega) h2
    omega
  have hp : parseUintB 64 (unsg s) = .ok (valD 0 (unsg s)) := by
    unfold parseUintB
    rw [if_neg h1]
    exact parse_dig _ _ 0 h3 (by omega) (by omega)
  by_cases hs : s.head? = some 45
  · have eu : unsg s = s.tail := by unfold unsg; rw [if_pos hs]
    have es : s = 45 :: s.tail := by cases s with | nil => cases hs | cons c r => simp at hs; rw [hs]; rfl
    rw [eu] at hp hb2
    unfold numOf
    rw [if_pos hs, eu]
    conv => lhs; rw [es]
    rw [parseIntB_minus, hp, signedC, if_neg (by omega)]
  · have eu : unsg s = s := by unfold unsg; rw [if_neg hs]
    rw [eu] at hp hb2 h1 h3
    unfold numOf
    rw [if_neg hs, eu]
    cases s with
    | nil => exact absurd rfl h1
    | cons c r =>
      rw [List.all_cons, Bool.and_eq_true] at h3
      have hc : 48 ≤ c.toNat ∧ c.toNat ≤ 57 := isDg_iff.1 h3.1
      rw [parseIntB_plain 64 c r (by omega) (by omega), hp, signlessC, if_neg (by omega)]

open Go.Lib in
theorem numR_eq (s : List UInt8) : numR s = numC s := by
  unfold numC
  by_cases h : okNum s = true
  · rw [if_pos h]
    unfold numR
    rw [parse_num h]
    exact if_pos ⟨(itoa_num h).1, ((okNum_iff s).1 h).2.1⟩
  · rw [if_neg h]
    unfold numR
    split
    · rename_i v hv
      rw [if_neg]
      rintro ⟨h1, h2⟩
      have hb := parseIntB_bounds hv
      apply h
      have hsm : -1000000000000000000 < v ∧ v < 1000000000000000000 := by
        have hk : ∀ n : Nat, (decDigits n).length ≤ 18 → n < 1000000000000000000 := by
          intro n hn
          rw [decDigits_length] at hn
          have := lt_pow_nDigits n
          have h5 := Nat.pow_le_pow_right (n := 10) (by omega) hn
          omega
        by_cases hv0 : v < 0
        · have e : itoa v = 45 :: decDigits v.natAbs := by unfold itoa; rw [if_pos hv0]
          have : unsg s = decDigits v.natAbs := by rw [← h1, e]; rfl
          rw [this] at h2
          have := hk _ h2
          omega
        · have e : itoa v = decDigits v.toNat := by unfold itoa; rw [if_neg hv0]
          have : unsg s = decDigits v.toNat := by rw [← h1, e]; unfold unsg; rw [if_neg (dig_head (dec_dig _).1)]
          rw [this] at h2
          have := hk _ h2
          omega
      rw [← h1]
      exact (okNum_itoa hsm).1
    · rfl

open Go.Lib in
/-- A text divided at each byte c. -/
def splitR (c : UInt8) : List UInt8 → List (List UInt8)
  | [] => [[]]
  | b :: l => if b = c then [] :: splitR c l else match splitR c l with
    | p :: r => (b :: p) :: r
    | [] => [[b]]

open Go.Lib in
theorem splitR_nil (c : UInt8) : splitR c [] = [[]] := by rw [splitR]

open Go.Lib in
theorem splitR_eq (c : UInt8) (l : List UInt8) : splitR c (c :: l) = [] :: splitR c l := by rw [splitR, if_pos rfl]

open Go.Lib in
theorem splitR_ne {b c : UInt8} (h : ¬ b = c) {l p : List UInt8} {r : List (List UInt8)} (e : splitR c l = p :: r) : splitR c (b :: l) = (b :: p) :: r := by rw [splitR, if_neg h, e]

open Go.Lib in
theorem splitR_some (c : UInt8) (l : List UInt8) : ∃ p r, splitR c l = p :: r := by
  cases l with
  | nil => exact ⟨_, _, splitR_nil c⟩
  | cons b l =>
    by_cases h : b = c
    · subst h; exact ⟨_, _, splitR_eq b l⟩
    · rw [splitR, if_neg h]
      split
      · exact ⟨_, _, rfl⟩
      · exact ⟨_, _, rfl⟩

open Go.Lib in
theorem index_one_ne {b c : UInt8} (l : List UInt8) (h : ¬ b = c) : index (b :: l) [c] = if index l [c] == -1 then -1 else index l [c] + 1 := by
  have hp : ([c] : List UInt8).isPrefixOf (b :: l) = false := by simp [List.isPrefixOf]; exact fun e => h e.symm
  rw [index, hp]; simp

open Go.Lib in
theorem index_one_eq (c : UInt8) (l : List UInt8) : index (c :: l) [c] = 0 := by rw [index]; simp [List.isPrefixOf]

open Go.Lib in
theorem split_one (c : UInt8) : ∀ s : List UInt8, splitK [c] 0 (count s [c]) s = splitR c s
  | [] => by rw [count_miss (by simp [index]), splitR_nil]; rfl
  | b :: l => by
    have ih := split_one c l
    by_cases h : b = c
    · subst h
      rw [count_cons_eq, Nat.add_comm, splitK, if_neg (by rw [index_one_eq]; decide), index_one_eq, splitR_eq, ← ih]
      simp
    · rw [count_cons_ne b c l h]
      cases hk : count l [c] with
      | zero =>
        rw [hk] at ih
        have e : splitR c l = l :: [] := by rw [← ih]; rfl
        rw [splitR_ne h e]; rfl
      | succ k =>
        rw [hk] at ih
        obtain ⟨j, hj⟩ := index_of_count (s := l) (old := [c]) (by omega)
        have hm : ¬ (index l [c] == -1) = true := by rw [hj]; intro e; have := beq_iff_eq.1 e; omega
        rw [splitK, if_neg hm, hj] at ih
        have hj2 : index (b :: l) [c] = ((j + 1 : Nat) : Int) := by rw [index_one_ne l h, if_neg hm, hj]; omega
        rw [splitR_ne h ih.symm, splitK, if_neg (by rw [hj2]; intro e; have := beq_iff_eq.1 e; omega), hj2]
        simp

open Go.Lib in
/-- A text cut at the first byte c. -/
def cutR (c : UInt8) : List UInt8 → List UInt8 × List UInt8 × Bool
  | [] => ([], [], false)
  | b :: l => if b = c then ([], l, true) else (b :: (cutR c l).1, (cutR c l).2)

open Go.Lib in
theorem cut_one (c : UInt8) : ∀ s : List UInt8, cut s [c] = cutR c s
  | [] => by simp [cut, index, cutR]
  | b :: l => by
    have ih := cut_one c l
    unfold cut at ih ⊢
    rw [cutR]
    by_cases h : b = c
    · subst h
      rw [index_one_eq, if_pos (by decide), if_pos rfl]; simp
    · rw [if_neg h, ← ih]
      have hge := index_ge l [c]
      by_cases hm : index l [c] = -1
      · rw [index_one_ne l h, hm]; simp
      · obtain ⟨j, hj⟩ : ∃ j : Nat, index l [c] = j := ⟨(index l [c]).toNat, by omega⟩
        have hm2 : ¬ (index l [c] == -1) = true := fun e => hm (beq_iff_eq.1 e)
        have hj2 : index (b :: l) [c] = ((j + 1 : Nat) : Int) := by rw [index_one_ne l h, if_neg hm2, hj]; omega
        rw [hj2, hj, if_pos (by omega), if_pos (by omega)]
        simp

open Go.Lib in
theorem cutR_len (c : UInt8) : ∀ s : List UInt8, (cutR c s).1.length + (cutR c s).2.1.length ≤ s.length
  | [] => by simp [cutR]
  | b :: l => by
    have ih := cutR_len c l
    rw [cutR]
    split
    · simp
    · simp only [List.length_cons]; omega

open Go.Lib in
theorem splitR_no {c : UInt8} : ∀ {l : List UInt8}, c ∉ l → splitR c l = [l]
  | [], _ => splitR_nil c
  | b :: l, h => by
    have h1 := splitR_no (c := c) (l := l) fun hm => h (List.mem_cons_of_mem _ hm)
    exact splitR_ne (fun e => h (by rw [e]; exact List.mem_cons_self)) h1

open Go.Lib in
theorem splitR_app {c : UInt8} {r : List UInt8} : ∀ {p : List UInt8}, c ∉ p → splitR c (p ++ c :: r) = p :: splitR c r
  | [], _ => splitR_eq c r
  | b :: l, h => splitR_ne (fun e => h (by rw [e]; exact List.mem_cons_self)) (splitR_app (p := l) fun hm => h (List.mem_cons_of_mem _ hm))

open Go.Lib in
/-- Pieces without c, joined by c, are divided into themselves. -/
theorem splitR_join {c : UInt8} {x : List UInt8} : ∀ {r : List (List UInt8)}, (∀ p ∈ x :: r, c ∉ p) → splitR c (join (x :: r) [c]) = x :: r
  | [], h => by rw [join_one]; exact splitR_no (h x (by simp))
  | y :: r, h => by
    have ih := splitR_join (x := y) (r := r) fun p hp => h p (List.mem_cons_of_mem _ hp)
    have e : join (x :: y :: r) [c] = x ++ c :: join (y :: r) [c] := by rw [join_cons, join_cons]; simp [joinTail]
    rw [e, splitR_app (h x (by simp)), ih]

open Go.Lib in
theorem splitR_len (c : UInt8) : ∀ l : List UInt8, (splitR c l).length ≤ l.length + 1 ∧ 1 ≤ (splitR c l).length
  | [] => by rw [splitR_nil]; simp
  | b :: l => by
    obtain ⟨h1, h2⟩ := splitR_len c l
    obtain ⟨p, r, e⟩ := splitR_some c l
    by_cases h : b = c
    · subst h; rw [splitR_eq]; simp only [List.length_cons]; omega
    · rw [splitR_ne h e]; rw [e] at h1 h2; simp only [List.length_cons] at h1 h2 ⊢; omega

open Go.Lib in
theorem splitR_piece (c : UInt8) : ∀ (l : List UInt8), ∀ p ∈ splitR c l, p.length ≤ l.length
  | [], p, hp => by rw [splitR_nil] at hp; rw [List.mem_singleton.1 hp]; simp
  | b :: l, p, hp => by
    obtain ⟨q, r, e⟩ := splitR_some c l
    by_cases h : b = c
    · subst h
      rw [splitR_eq] at hp
      rcases List.mem_cons.1 hp with rfl | hp
      · simp
      · have := splitR_piece b l p hp; simp only [List.length_cons]; omega
    · rw [splitR_ne h e] at hp
      rcases List.mem_cons.1 hp with rfl | hp
      · have := splitR_piece c l q (by rw [e]; simp); simp only [List.length_cons]; omega
      · have := splitR_piece c l p (by rw [e]; exact List.mem_cons_of_mem _ hp); simp only [List.length_cons]; omega

open Go.Lib in
theorem cutR_app {c : UInt8} {r : List UInt8} : ∀ {p : List UInt8}, c ∉ p → cutR c (p ++ c :: r) = (p, r, true)
  | [], _ => by rw [List.nil_append, cutR, if_pos rfl]
  | b :: l, h => by rw [List.cons_append, cutR, if_neg (fun e => h (by rw [e]; exact List.mem_cons_self)), cutR_app (p := l) fun hm => h (List.mem_cons_of_mem _ hm)]

open Go.Lib in
def IfVar (w : World) (n : String) : Prop := ∃ tp p, w.var? Tryz.prog n = some #[.iface tp p]

open Go.Lib in
def MaxAt (w : World) : Prop := ∃ m, w.cell? ⟨0, 0, none⟩ = some (.int .i64 m)

open Go.Lib in
/-- What the library's readers look up. -/
def Glob2 (w : World) : Prop := Glob w ∧ (IfVar w "strconv.ErrSyntax" ∧ IfVar w "strconv.ErrRange") ∧ MaxAt w

open Go.Lib in
theorem synNum : Tryz.prog.globalNamed "strconv.ErrSyntax" = some 1 := by kernel_rfl

open Go.Lib in
theorem rngNum : Tryz.prog.globalNamed "strconv.ErrRange" = some 2 := by kernel_rfl

open Go.Lib in
theorem ifvar_below {w w' : World} {n : String} {g : Nat} (hg : Tryz.prog.globalNamed n = some g) (h : IfVar w n) (hb : Below w.heap.size w w') : IfVar w' n := by
  obtain ⟨tp, p, h⟩ := h
  refine ⟨tp, p, ?_⟩
  unfold World.var? at h ⊢
  rw [hg] at h ⊢
  simp only [Option.bind_some] at h ⊢
  have hlt : g < w.heap.size := by
    rcases Nat.lt_or_ge g w.heap.size with hlt | hge
    · exact hlt
    · rw [Array.getElem?_eq_none hge] at h; cases h
  rw [hb.block g hlt]
  exact h

open Go.Lib in
theorem max_below {w w' : World} (h : MaxAt w) (hb : Below w.heap.size w w') : MaxAt w' := by
  obtain ⟨m, h⟩ := h
  refine ⟨m, ?_⟩
  unfold World.cell? at h ⊢
  have hlt : 0 < w.heap.size := by
    rcases Nat.lt_or_ge 0 w.heap.size with hlt | hge
    · exact hlt
    · rw [Array.getElem?_eq_none hge] at h; cases h
  rw [hb.block _ hlt]
  exact h

open Go.Lib in
theorem Held.glob2 {w0 w : World} {rs : List Res} (h : Held Nob w0 rs w) (hG : Glob2 w0) : Glob2 w := ⟨h.glob hG.1, ⟨ifvar_below synNum hG.2.1.1 h.below, ifvar_below rngNum hG.2.1.2 h.below⟩, max_below hG.2.2 h.below⟩

open Go.Lib in
def shelf_C174_ren : Go.Shelf.Ren := ⟨fun | 174 => 119 | 247 => 162 | 245 => 163 | 287 => 198 | 279 => 199 | 280 => 200 | 281 => 201 | 282 => 202 | 321 => 218 | 322 => 219 | 316 => 220 | 171 => 222 | 205 => 221 | 243 => 234 | 246 => 203 | 283 => 223 | 284 => 224 | 285 => 225 | 286 => 226 | 129 => 236 | 317 => 235 | 318 => 237 | 319 => 238 | 320 => 239 | 337 => 240 | 338 => 241 | n => n, fun | 9 => 9 | 3 => 3 | 2 => 2 | 75 => 144 | 85 => 145 | 4 => 4 | 167 => 215 | 5 => 5 | 53 => 216 | 175 => 217 | 46 => 210 | 168 => 219 | 37 => 22 | 0 => 0 | 210 => 240 | 21 => 21 | 127 => 231 | 145 => 254 | 143 => 252 | 171 => 243 | 173 => 246 | 212 => 256 | 51 => 234 | 20 => 20 | 213 => 257 | 232 => 264 | 233 => 265 | 80 => 205 | n => n, fun | 15 => 1 | 16 => 2 | 17 => 3 | 18 => 6 | 19 => 7 | n => n⟩

open Go.Lib in
theorem shelf_C174 : Go.Proofs.LaysC.n174 Tryz.prog shelf_C174_ren := {
  mixed := by kernel_rfl
  f129 := Tryz.func236.trans (congrArg some (by kernel_rfl))
  f171 := Tryz.func222.trans (congrArg some (by kernel_rfl))
  f174 := Tryz.func119.trans (congrArg some (by kernel_rfl))
  f205 := Tryz.func221.trans (congrArg some (by kernel_rfl))
  f243 := Tryz.func234.trans (congrArg some (by kernel_rfl))
  f245 := Tryz.func163.trans (congrArg some (by kernel_rfl))
  f246 := Tryz.func203.trans (congrArg some (by kernel_rfl))
  f247 := Tryz.func162.trans (congrArg some (by kernel_rfl))
  f279 := Tryz.func199.trans (congrArg some (by kernel_rfl))
  f280 := Tryz.func200.trans (congrArg some (by kernel_rfl))
  f281 := Tryz.func201.trans (congrArg some (by kernel_rfl))
  f282 := Tryz.func202.trans (congrArg some (by kernel_rfl))
  f283 := Tryz.func223.trans (congrArg some (by kernel_rfl))
  f284 := Tryz.func224.trans (congrArg some (by kernel_rfl))
  f285 := Tryz.func225.trans (congrArg some (by kernel_rfl))
  f286 := Tryz.func226.trans (congrArg some (by kernel_rfl))
  f287 := Tryz.func198.trans (congrArg some (by kernel_rfl))
  f316 := Tryz.func220.trans (congrArg some (by kernel_rfl))
  f317 := Tryz.func235.trans (congrArg some (by kernel_rfl))
  f318 := Tryz.func237.trans (congrArg some (by kernel_rfl))
  f319 := Tryz.func238.trans (congrArg some (by kernel_rfl))
  f320 := Tryz.func239.trans (congrArg some (by kernel_rfl))
  f321 := Tryz.func218.trans (congrArg some (by kernel_rfl))
  f322 := Tryz.func219.trans (congrArg some (by kernel_rfl))
  f337 := Tryz.func240.trans (congrArg some (by kernel_rfl))
  f338 := Tryz.func241.trans (congrArg some (by kernel_rfl))
  t0 := Tryz.underlying0
  a0 := Tryz.isAgg0
  z0 := Tryz.sizeOf0
  v0 := Tryz.zeroValue0
  t2 := Tryz.underlying2
  a2 := Tryz.isAgg2
  z2 := Tryz.sizeOf2
  v2 := Tryz.zeroValue2
  t3 := Tryz.underlying3
  a3 := Tryz.isAgg3
  z3 := Tryz.sizeOf3
  v3 := Tryz.zeroValue3
  t4 := Tryz.underlying4
  a4 := Tryz.isAgg4
  z4 := Tryz.sizeOf4
  v4 := Tryz.zeroValue4
  t5 := Tryz.underlying5
  a5 := Tryz.isAgg5
  z5 := Tryz.sizeOf5
  v5 := Tryz.zeroValue5
  t9 := Tryz.underlying9
  a9 := Tryz.isAgg9
  z9 := Tryz.sizeOf9
  v9 := Tryz.zeroValue9
  t20 := Tryz.underlying20
  a20 := Tryz.isAgg20
  z20 := Tryz.sizeOf20
  v20 := Tryz.zeroValue20
  t21 := Tryz.underlying21
  a21 := Tryz.isAgg21
  z21 := Tryz.sizeOf21
  v21 := Tryz.zeroValue21
  t37 := Tryz.underlying22
  a37 := Tryz.isAgg22
  z37 := Tryz.sizeOf22
  v37 := Tryz.zeroValue22
  t46 := Tryz.underlying210
  a46 := Tryz.isAgg210
  z46 := Tryz.sizeOf210
  v46 := Tryz.zeroValue210
  t51 := Tryz.underlying234
  a51 := Tryz.isAgg234
  z51 := Tryz.sizeOf234
  v51 := Tryz.zeroValue234
  t53 := Tryz.underlying216
  a53 := Tryz.isAgg216
  z53 := Tryz.sizeOf216
  v53 := Tryz.zeroValue216
  t75 := Tryz.underlying144
  a75 := Tryz.isAgg144
  z75 := Tryz.sizeOf144
  v75 := Tryz.zeroValue144
  t85 := Tryz.underlying145
  a85 := Tryz.isAgg145
  z85 := Tryz.sizeOf145
  v85 := Tryz.zeroValue145
  t127 := Tryz.underlying231
  a127 := Tryz.isAgg231
  z127 := Tryz.sizeOf231
  v127 := Tryz.zeroValue231
  t143 := Tryz.underlying252
  a143 := Tryz.isAgg252
  z143 := Tryz.sizeOf252
  v143 := Tryz.zeroValue252
  t145 := Tryz.underlying254
  a145 := Tryz.isAgg254
  z145 := Tryz.sizeOf254
  v145 := Tryz.zeroValue254
  t167 := Tryz.underlying215
  a167 := Tryz.isAgg215
  z167 := Tryz.sizeOf215
  v167 := Tryz.zeroValue215
  t168 := Tryz.underlying219
  a168 := Tryz.isAgg219
  z168 := Tryz.sizeOf219
  v168 := Tryz.zeroValue219
  t171 := Tryz.underlying243
  a171 := Tryz.isAgg243
  z171 := Tryz.sizeOf243
  v171 := Tryz.zeroValue243
  t173 := Tryz.underlying246
  a173 := Tryz.isAgg246
  z173 := Tryz.sizeOf246
  v173 := Tryz.zeroValue246
  t175 := Tryz.underlying217
  a175 := Tryz.isAgg217
  z175 := Tryz.sizeOf217
  v175 := Tryz.zeroValue217
  t210 := Tryz.underlying240
  a210 := Tryz.isAgg240
  z210 := Tryz.sizeOf240
  v210 := Tryz.zeroValue240
  t212 := Tryz.underlying256
  a212 := Tryz.isAgg256
  z212 := Tryz.sizeOf256
  v212 := Tryz.zeroValue256
  t213 := Tryz.underlying257
  a213 := Tryz.isAgg257
  z213 := Tryz.sizeOf257
  t232 := Tryz.underlying264
  a232 := Tryz.isAgg264
  z232 := Tryz.sizeOf264
  v232 := Tryz.zeroValue264
  t233 := Tryz.underlying265
  a233 := Tryz.isAgg265
  z233 := Tryz.sizeOf265
  v233 := Tryz.zeroValue265
  g15 := by kernel_rfl
  g16 := by kernel_rfl
  g17 := by kernel_rfl
  g18 := by kernel_rfl
  g19 := by kernel_rfl
  t80 := Tryz.underlying205
  a80 := Tryz.isAgg205
  z80 := Tryz.sizeOf205
  v80 := Tryz.zeroValue205
  i0 := by kernel_rfl
  i2 := by kernel_rfl
  i3 := by kernel_rfl
  i4 := by kernel_rfl
  i5 := by kernel_rfl
  i9 := by kernel_rfl
  i20 := by kernel_rfl
  i21 := by kernel_rfl
  i37 := by kernel_rfl
  i46 := by kernel_rfl
  i51 := by kernel_rfl
  i53 := by kernel_rfl
  i75 := by kernel_rfl
  i80 := by kernel_rfl
  i85 := by kernel_rfl
  i127 := by kernel_rfl
  i143 := by kernel_rfl
  i145 := by kernel_rfl
  i167 := by kernel_rfl
  i168 := by kernel_rfl
  i171 := by kernel_rfl
  i173 := by kernel_rfl
  i175 := by kernel_rfl
  i210 := by kernel_rfl
  i212 := by kernel_rfl
  i232 := by kernel_rfl
  i233 := by kernel_rfl
  m15 := by kernel_rfl
  m16 := by kernel_rfl
  m17 := by kernel_rfl
  m18 := by kernel_rfl
  m19 := by kernel_rfl
  c0 := by kernel_rfl
  c2 := by kernel_rfl
  c3 := by kernel_rfl
  c4 := by kernel_rfl
  c5 := by kernel_rfl
  c9 := by kernel_rfl
  c20 := by kernel_rfl
  c21 := by kernel_rfl
  c37 := by kernel_rfl
  c46 := by kernel_rfl
  c51 := by kernel_rfl
  c53 := by kernel_rfl
  c75 := by kernel_rfl
  c80 := by kernel_rfl
  c85 := by kernel_rfl
  c127 := by kernel_rfl
  c143 := by kernel_rfl
  c145 := by kernel_rfl
  c167 := by kernel_rfl
  c168 := by kernel_rfl
  c171 := by kernel_rfl
  c173 := by kernel_rfl
  c175 := by kernel_rfl
  c210 := by kernel_rfl
  c212 := by kernel_rfl
  c213 := by kernel_rfl
  c232 := by kernel_rfl
  c233 := by kernel_rfl }

open Go.Lib in
def shelf_146_ren : Go.Shelf.Ren := ⟨fun | 146 => 78 | 221 => 128 | 268 => 170 | 138 => 171 | 143 => 172 | 195 => 209 | 197 => 210 | 218 => 211 | 219 => 161 | 260 => 229 | 217 => 196 | 225 => 191 | 224 => 190 | 267 => 197 | 266 => 216 | 314 => 217 | n => n, fun | 9 => 9 | 31 => 78 | 3 => 3 | 4 => 4 | 0 => 0 | 105 => 228 | 21 => 21 | 5 => 5 | 46 => 210 | 119 => 259 | 139 => 262 | 138 => 261 | 146 => 235 | 51 => 234 | n => n, fun | 1 => 0 | 3 => 4 | 4 => 5 | n => n⟩

open Go.Lib in
theorem shelf_146 : Go.Proofs.Lays.n146 Tryz.prog shelf_146_ren := {
  mixed := by kernel_rfl
  f138 := Tryz.func171.trans (congrArg some (by kernel_rfl))
  f143 := Tryz.func172.trans (congrArg some (by kernel_rfl))
  f146 := Tryz.func78.trans (congrArg some (by kernel_rfl))
  f195 := Tryz.func209.trans (congrArg some (by kernel_rfl))
  f197 := Tryz.func210.trans (congrArg some (by kernel_rfl))
  f217 := Tryz.func196.trans (congrArg some (by kernel_rfl))
  f218 := Tryz.func211.trans (congrArg some (by kernel_rfl))
  f219 := Tryz.func161.trans (congrArg some (by kernel_rfl))
  f221 := Tryz.func128.trans (congrArg some (by kernel_rfl))
  f224 := Tryz.func190.trans (congrArg some (by kernel_rfl))
  f225 := Tryz.func191.trans (congrArg some (by kernel_rfl))
  f260 := Tryz.func229.trans (congrArg some (by kernel_rfl))
  f266 := Tryz.func216.trans (congrArg some (by kernel_rfl))
  f267 := Tryz.func197.trans (congrArg some (by kernel_rfl))
  f268 := Tryz.func170.trans (congrArg some (by kernel_rfl))
  f314 := Tryz.func217.trans (congrArg some (by kernel_rfl))
  t0 := Tryz.underlying0
  a0 := Tryz.isAgg0
  z0 := Tryz.sizeOf0
  v0 := Tryz.zeroValue0
  t3 := Tryz.underlying3
  a3 := Tryz.isAgg3
  z3 := Tryz.sizeOf3
  v3 := Tryz.zeroValue3
  t4 := Tryz.underlying4
  a4 := Tryz.isAgg4
  z4 := Tryz.sizeOf4
  v4 := Tryz.zeroValue4
  t5 := Tryz.underlying5
  a5 := Tryz.isAgg5
  z5 := Tryz.sizeOf5
  v5 := Tryz.zeroValue5
  t9 := Tryz.underlying9
  a9 := Tryz.isAgg9
  z9 := Tryz.sizeOf9
  v9 := Tryz.zeroValue9
  t21 := Tryz.underlying21
  a21 := Tryz.isAgg21
  z21 := Tryz.sizeOf21
  v21 := Tryz.zeroValue21
  t31 := Tryz.underlying78
  a31 := Tryz.isAgg78
  z31 := Tryz.sizeOf78
  v31 := Tryz.zeroValue78
  t46 := Tryz.underlying210
  a46 := Tryz.isAgg210
  z46 := Tryz.sizeOf210
  v46 := Tryz.zeroValue210
  t51 := Tryz.underlying234
  a51 := Tryz.isAgg234
  z51 := Tryz.sizeOf234
  v51 := Tryz.zeroValue234
  t105 := Tryz.underlying228
  a105 := Tryz.isAgg228
  z105 := Tryz.sizeOf228
  v105 := Tryz.zeroValue228
  t119 := Tryz.underlying259
  a119 := Tryz.isAgg259
  z119 := Tryz.sizeOf259
  t138 := Tryz.underlying261
  a138 := Tryz.isAgg261
  z138 := Tryz.sizeOf261
  v138 := Tryz.zeroValue261
  t139 := Tryz.underlying262
  a139 := Tryz.isAgg262
  z139 := Tryz.sizeOf262
  v139 := Tryz.zeroValue262
  t146 := Tryz.underlying235
  a146 := Tryz.isAgg235
  z146 := Tryz.sizeOf235
  v146 := Tryz.zeroValue235
  g1 := by kernel_rfl
  g3 := by kernel_rfl
  g4 := by kernel_rfl }

open Go.Lib in
def shelf_145_ren : Go.Shelf.Ren := ⟨fun | 145 => 69 | 220 => 118 | 219 => 161 | 217 => 196 | 225 => 191 | 224 => 190 | 267 => 197 | 266 => 216 | 314 => 217 | n => n, fun | 9 => 9 | 4 => 4 | 59 => 103 | 3 => 3 | 5 => 5 | 46 => 210 | 146 => 235 | 51 => 234 | n => n, fun | 1 => 0 | n => n⟩

open Go.Lib in
theorem shelf_145 : Go.Proofs.Lays.n145 Tryz.prog shelf_145_ren := {
  mixed := by kernel_rfl
  f145 := Tryz.func69.trans (congrArg some (by kernel_rfl))
  f217 := Tryz.func196.trans (congrArg some (by kernel_rfl))
  f219 := Tryz.func161.trans (congrArg some (by kernel_rfl))
  f220 := Tryz.func118.trans (congrArg some (by kernel_rfl))
  f224 := Tryz.func190.trans (congrArg some (by kernel_rfl))
  f225 := Tryz.func191.trans (congrArg some (by kernel_rfl))
  f266 := Tryz.func216.trans (congrArg some (by kernel_rfl))
  f267 := Tryz.func197.trans (congrArg some (by kernel_rfl))
  f314 := Tryz.func217.trans (congrArg some (by kernel_rfl))
  t3 := Tryz.underlying3
  a3 := Tryz.isAgg3
  z3 := Tryz.sizeOf3
  v3 := Tryz.zeroValue3
  t4 := Tryz.underlying4
  a4 := Tryz.isAgg4
  z4 := Tryz.sizeOf4
  v4 := Tryz.zeroValue4
  t5 := Tryz.underlying5
  a5 := Tryz.isAgg5
  z5 := Tryz.sizeOf5
  v5 := Tryz.zeroValue5
  t9 := Tryz.underlying9
  a9 := Tryz.isAgg9
  z9 := Tryz.sizeOf9
  v9 := Tryz.zeroValue9
  t46 := Tryz.underlying210
  a46 := Tryz.isAgg210
  z46 := Tryz.sizeOf210
  v46 := Tryz.zeroValue210
  t51 := Tryz.underlying234
  a51 := Tryz.isAgg234
  z51 := Tryz.sizeOf234
  v51 := Tryz.zeroValue234
  t59 := Tryz.underlying103
  a59 := Tryz.isAgg103
  z59 := Tryz.sizeOf103
  v59 := Tryz.zeroValue103
  t146 := Tryz.underlying235
  a146 := Tryz.isAgg235
  z146 := Tryz.sizeOf235
  v146 := Tryz.zeroValue235
  g1 := by kernel_rfl }

open Go.Lib in
def shelf_101_ren : Go.Shelf.Ren := ⟨fun | 101 => 121 | 208 => 165 | 206 => 204 | n => n, fun | 9 => 9 | 4 => 4 | 3 => 3 | n => n, fun | n => n⟩

open Go.Lib in
theorem shelf_101 : Go.Proofs.Lays.n101 Tryz.prog shelf_101_ren := {
  mixed := by kernel_rfl
  f101 := Tryz.func121.trans (congrArg some (by kernel_rfl))
  f206 := Tryz.func204.trans (congrArg some (by kernel_rfl))
  f208 := Tryz.func165.trans (congrArg some (by kernel_rfl))
  t3 := Tryz.underlying3
  a3 := Tryz.isAgg3
  z3 := Tryz.sizeOf3
  v3 := Tryz.zeroValue3
  t4 := Tryz.underlying4
  a4 := Tryz.isAgg4
  z4 := Tryz.sizeOf4
  v4 := Tryz.zeroValue4
  t9 := Tryz.underlying9
  a9 := Tryz.isAgg9
  z9 := Tryz.sizeOf9
  v9 := Tryz.zeroValue9 }

open Go.Lib in
/-- An error value that is nil or not. -/
def IsErr (v : Value) (b : Bool) : Prop := if b = true then ∃ t x, v = .iface t x else v = .nilIface

open Go.Lib in
theorem x_neqNil {P : Program} {S : World → Prop} {L : List (Nat × Value)} {d : Option Tmp} {t t' : TypeId} {x : Operand} {v : Value} {r : Bool} {ty : TypeId} {pos : String} {af : Array Edge} {g : Option (Nat × Bool)} (hv : IsErr v r) (hi : P.isIface t = true) (hx : ev L x = some v) : XS P S L ⟨d, .binOp .neq t x (.const .nilIface) t', ty, pos, af, g⟩ (.bool r) := fun _ a w hE _ => by
  have hn : a.eval (.const .nilIface) = Value.nilIface := rfl
  cases r with
  | true =>
    obtain ⟨u, y, rfl⟩ := hv
    have hg : (eqGuard .neq t x (.const .nilIface) (.iface u y) .nilIface).run P w = .ok () w := rfl
    simp only [execOp, hE.ev hx, hn, Sem.run_bind, hg, Result.andThen_ok, run_neq_iface_nil w t hi u y, Sem.run_pure]
  | false =>
    obtain rfl := hv
    have hg : (eqGuard .neq t x (.const .nilIface) .nilIface .nilIface).run P w = .ok () w := by
      cases x <;> rfl
    simp only [execOp, hE.ev hx, hn, Sem.run_bind, hg, Result.andThen_ok, run_neq_nil_nil_at w t hi, Sem.run_pure]

open Go.Lib in
def parI (s : List UInt8) : Int × Bool := match parseIntB 64 s with
  | .ok v => (v, false)
  | .range => (Go.Lib.intSat 64 s, true)
  | _ => (0, true)

open Go.Lib in
theorem bs_list (s : List UInt8) : (bs s).data.toList = s := by simp [bs]

open Go.Lib in
theorem ParseInt_64 (a0 : List UInt8) (a1 a2 : Int) (w : World) (hG : Glob2 w) (s0 : a0.length ≤ 1000000000) (s1 : a1 = 10) (s2 : a2 = 64) :
    Calls Tryz.prog 119 #[.string (bs a0), .int .i64 a1, .int .i64 a2] w fun e w' => ∃ er, e = .returned (.tuple #[.int .i64 (parI a0).1, er]) ∧ IsErr er (parI a0).2 ∧ Below w.heap.size w w' := by
  subst s1; subst s2
  have hz := bs_size a0
  have hl := bs_list a0
  cases hp : parseIntB 64 a0 with
  | ok v =>
    refine (show Calls Tryz.prog 119 #[.string (bs a0), .int .i64 10, .int .i64 64] w _ from Any.strconv_ParseInt_10_at64_ok shelf_C174 (bs a0) (by omega) v (by rw [hl]; exact hp) w).mono ?_
    rintro e w' ⟨rfl, h⟩
    unfold parI; rw [hp]
    refine ⟨_, rfl, rfl, ?_⟩
    rcases h with rfl | ⟨t, rfl⟩
    · exact Below.refl _ _
    · exact Go.Lib.bytesWorld_below _ _ _
  | range =>
    obtain ⟨tp, p, hv⟩ := hG.2.1.2
    refine (show Calls Tryz.prog 119 #[.string (bs a0), .int .i64 10, .int .i64 64] w _ from Any.strconv_ParseInt_10_at64_range_var shelf_C174 (bs a0) (by omega) (by rw [hl]; exact hp) tp p w hv).mono ?_
    rintro e w' ⟨N, rfl, _, _, h⟩
    unfold parI; rw [hp]
    rw [hl]
    exact ⟨_, rfl, ⟨_, _, rfl⟩, h⟩
  | _ =>
    obtain ⟨tp, p, hv⟩ := hG.2.1.1
    refine (show Calls Tryz.prog 119 #[.string (bs a0), .int .i64 10, .int .i64 64] w _ from Any.strconv_ParseInt_10_at64_syntax_var shelf_C174 (bs a0) (by omega) (by rw [hl]; exact hp) tp p w hv).mono ?_
    rintro e w' ⟨N, rfl, _, _, h⟩
    unfold parI; rw [hp]
    exact ⟨_, rfl, ⟨_, _, rfl⟩, h⟩

open Go.Lib in
theorem so_txt_alloc (w : World) (t : TypeId) (xs : List (List UInt8)) (h : ∀ x ∈ xs, x.length ≤ 9223372036854775807) (hl : xs.length ≤ 1000000000000) : So eTxt (w.alloc (.cells (xs.map fun x => Value.string (bs x)).toArray t)) (Fr w (w.alloc (.cells (xs.map fun x => Value.string (bs x)).toArray t))) (some ⟨w.heap.size, 0, none⟩) xs.length xs := by
  refine ⟨Nat.le_refl _, by unfold maxLen; omega, fun _ => ⟨w.heap.size, 0, t, (xs.map fun x => Value.string (bs x)).toArray, fun _ _ => False, rfl, ⟨Nat.le_refl _, by simp⟩, Blk.new _ _ _, fun _ _ h => h.elim, fun _ _ _ h => h.elim, fun i x hx => ⟨[.string (bs x)], ⟨rfl, h x (List.mem_of_getElem? hx)⟩, fun j v hj => ?_⟩⟩⟩
  match j, hj with
  | 0, hj =>
    simp only [List.getElem?_cons_zero, Option.some.injEq] at hj
    subst hj
    simp [eTxt, hx]

open Go.Lib in
theorem split_bs (c : UInt8) (s : List UInt8) : (splitB (bs [c]) 0 (countB (bs s) (bs [c])) (bs s)).map Value.string = (splitR c s).map fun x => Value.string (bs x) := by
  have h1 := splitB_data (bs [c]) 0 (countB (bs s) (bs [c])) (bs s)
  have h2 : countB (bs s) (bs [c]) = count s [c] := by unfold countB; rw [bs_list, bs_list]
  rw [bs_list, bs_list, h2, split_one] at h1
  rw [← h1, List.map_map, h2]
  exact List.map_congr_left fun x _ => by simp [bs_eta]

open Go.Lib in
theorem split_count (c : UInt8) (s : List UInt8) : countB (bs s) (bs [c]) + 1 = (splitR c s).length := by
  have h := congrArg List.length (split_bs c s)
  rw [List.length_map, List.length_map, splitB_all (bs [c]) (by rw [bs_size]; simp) 0 _ (bs s) rfl] at h
  exact h

open Go.Lib in
theorem Split_1 (a0 a1 : List UInt8) (c : UInt8) (w : World) (hG : Glob2 w) (s0 : a0.length ≤ 1000000000) (s1 : a1 = [c]) :
    Calls Tryz.prog 78 #[.string (bs a0), .string (bs a1)] w fun e w' => ∃ A' c', e = .returned (.slice A' (splitR c a0).length c') ∧ So eTxt w' (Fr w w') A' c' (splitR c a0) ∧ Below w.heap.size w w' := by
  subst s1
  have hz := bs_size a0
  have h1 := splitR_len c a0
  obtain ⟨m, hm⟩ := hG.2.2
  refine (show Calls Tryz.prog 78 #[.string (bs a0), .string (bs [c])] w _ from Any.strings_Split shelf_146 (by kernel_rfl) (bs a0) (bs [c]) m w (by omega) hm (by rw [bs_size]; simp)).mono ?_
  rintro e w' ⟨rfl, rfl⟩
  rw [split_bs, split_count]
  exact ⟨_, _, rfl, so_txt_alloc w _ _ (fun x hx => by have := splitR_piece c a0 x hx; omega) (by omega), (Below.refl _ w).alloc (Nat.le_refl _) _⟩

open Go.Lib in
theorem Cut_1 (a0 a1 : List UInt8) (c : UInt8) (w : World) (hG : Glob2 w) (s0 : a0.length ≤ 1000000000) (s1 : a1 = [c]) :
    Calls Tryz.prog 69 #[.string (bs a0), .string (bs a1)] w fun e w' => e = .returned (.tuple #[.string (bs (cutR c a0).1), .string (bs (cutR c a0).2.1), .bool (cutR c a0).2.2]) ∧ Below w.heap.size w w' := by
  subst s1
  have hz := bs_size a0
  obtain ⟨m, hm⟩ := hG.2.2
  refine (show Calls Tryz.prog 69 #[.string (bs a0), .string (bs [c])] w _ from Any.strings_Cut shelf_145 (bs a0) (bs [c]) m w (by omega) hm).mono ?_
  rintro e w' ⟨rfl, n, rfl⟩
  rw [bs_list, bs_list, cut_one]
  exact ⟨rfl, ⟨rfl, rfl, rfl, Nat.le_refl _, fun _ _ => rfl⟩⟩

open Go.Lib in
theorem TrimMinus (a0 a1 : List UInt8) (w : World) (s1 : a1 = [45]) :
    Calls Tryz.prog 121 #[.string (bs a0), .string (bs a1)] w fun e w' => e = .returned (.string (bs (unsg a0))) ∧ Below w.heap.size w w' := by
  subst s1
  refine (show Calls Tryz.prog 121 #[.string (bs a0), .string (bs [45])] w _ from Any.strings_TrimPrefix shelf_101 (bs a0) (bs [45]) w).mono ?_
  rintro e w' ⟨rfl, rfl⟩
  refine ⟨?_, Below.refl _ _⟩
  rw [bs_list, bs_list]
  have : trimPrefix a0 [45] = unsg a0 := by
    unfold trimPrefix unsg
    cases a0 with
    | nil => simp [hasPrefix]
    | cons x r =>
      by_cases h : x = 45
      · subst h; simp [hasPrefix, List.isPrefixOf]
      · have h2 : ¬ (45 : UInt8) = x := fun e => h e.symm
        simp [hasPrefix, h, h2, List.isPrefixOf]
  rw [this]

open Go.Lib in
theorem unsg_len (s : List UInt8) : (unsg s).length ≤ s.length := by
  unfold unsg; split
  · simp
  · exact Nat.le_refl _

open Go.Lib in
theorem parI_bd {s : List UInt8} (h : (parI s).2 = false) : -9223372036854775808 ≤ (parI s).1 ∧ (parI s).1 ≤ 9223372036854775807 := by
  unfold parI at h ⊢
  cases hp : parseIntB 64 s with
  | ok v => have := parseIntB_bounds hp; rw [hp] at h; simp only; omega
  | _ => rw [hp] at h; exact absurd h (by simp)

open Go.Lib in
theorem numR_def (s : List UInt8) : numR s = if (parI s).2 = true then (0, false) else if Go.Lib.itoa (parI s).1 = s ∧ (unsg s).length ≤ 18 then ((parI s).1, true) else (0, false) := by
  unfold numR parI
  cases hp : parseIntB 64 s with
  | ok v => simp
  | _ => simp

open Go.Lib in
theorem numC_bd (s : List UInt8) : -1000000000000000000 < (numC s).1 ∧ (numC s).1 < 1000000000000000000 := by
  unfold numC
  split
  · rename_i h; exact (itoa_num h).2
  · decide

open Go.Lib in
theorem numR_bd (s : List UInt8) : -1000000000000000000 < (numR s).1 ∧ (numR s).1 < 1000000000000000000 := by rw [numR_eq]; exact numC_bd s

open Go.Lib in
theorem map_snoc {α β : Type} (f : α → β) {l : List α} {k : Nat} (hk : k < l.length) {e : α} (he : e = l[k]) : (l.take (k + 1)).map f = (l.take k).map f ++ [f e] := by
  rw [List.take_succ_eq_append_getElem hk, List.map_append, ← he]; rfl

open Go.Lib in
theorem ff {b : Bool} (h : b = true) (h2 : b = false) : False := by rw [h] at h2; exact Bool.noConfusion h2

open Go.Lib in
theorem itoa_no {c : UInt8} (h45 : ¬ c = 45) (hd : isDg c = false) (v : Int) : c ∉ Go.Lib.itoa v := by
  have key : ∀ n : Nat, c ∉ decDigits n := fun n hm => ff (List.all_eq_true.1 (dec_dig n).1 c hm) hd
  unfold Go.Lib.itoa
  split
  · intro hm
    rcases List.mem_cons.1 hm with hm | hm
    · exact h45 hm
    · exact key _ hm
  · exact key _

open Go.Lib in
theorem numC_itoa {v : Int} (h : -1000000000000000000 < v ∧ v < 1000000000000000000) : numC (Go.Lib.itoa v) = (v, true) := by
  obtain ⟨h1, h2⟩ := okNum_itoa h
  unfold numC; rw [if_pos h1, h2]

open Go.Lib in
theorem numR_itoa {v : Int} (h : -1000000000000000000 < v ∧ v < 1000000000000000000) : numR (Go.Lib.itoa v) = (v, true) := by rw [numR_eq]; exact numC_itoa h

open Go.Lib in
set_option maxRecDepth 100000 in
set_option maxHeartbeats 4000000 in
theorem impl_ReadDecimal (a0 : List UInt8) (w : World) (hG : Glob2 w) (s0 : a0.length ≤ 2000000) :
    Calls Tryz.prog 70 #[.string (bs a0)] w fun e w' => e = .returned (.tuple #[.int .i64 (numR a0).1, .bool (numR a0).2]) ∧ Below w.heap.size w w' := by
  have HH1 := Held.start Nob w
  refine enter (n := 26) Tryz.func70 rfl rfl rfl fun a_2 HE3 => ?_
  refine wp_seq ?_
  refine rg ?_
  refine pl_x HE3 HH1 (wt0 rfl) (x_assign rfl) rfl rfl fun a_4 HE5 => ?_
  refine pl_x HE5 HH1 (wt0 rfl) (x_assign rfl) rfl rfl fun a_6 HE7 => ?_
  refine wpList_nil ?_
  clear a_2 HE3 a_4 HE5
  refine nrm ?_
  refine wp_seq ?_
  refine rg ?_
  refine pl_x HE7 HH1 (wt0 rfl) (x_move rfl) rfl rfl fun a_8 HE9 => ?_
  refine pl fun K_10 hK11 => ?_
  refine st_call HE9 (wt0 rfl) rfl rfl rfl en_119 rfl rfl (ParseInt_64 a0 10 64 _ (HH1.glob2 hG) (by omega) (by rfl) (by rfl)) fun e w' hr => ?_
  obtain ⟨err21_1, rfl, her21_1, hbr21⟩ := hr
  have HH12 := HH1.on hbr21
  refine ⟨_, rfl, fun a_13 HE14 => hK11 _ _ ?_⟩
  refine pl_x HE14 HH12 (wt0 rfl) (x_move rfl) rfl rfl fun a_15 HE16 => ?_
  refine pl_x HE16 HH12 (wt0 rfl) (x_extract rfl rfl) rfl rfl fun a_17 HE18 => ?_
  refine pl_x HE18 HH12 (wt0 rfl) (x_extract rfl rfl) rfl rfl fun a_19 HE20 => ?_
  refine pl_x HE20 HH12 (wt0 rfl) (x_assign rfl) rfl rfl fun a_21 HE22 => ?_
  refine pl_x HE22 HH12 (wt0 rfl) (x_assign rfl) rfl rfl fun a_23 HE24 => ?_
  refine wpList_nil ?_
  clear a_6 HE7 HH1 a_8 HE9 a_13 HE14 a_15 HE16 a_17 HE18 a_19 HE20 a_21 HE22 hK11 K_10
  refine nrm ?_
  refine wp_seq ?_
  refine wp_seq ?_
  refine rg ?_
  refine pl_x HE24 HH12 (wt0 rfl) (x_move rfl) rfl rfl fun a_25 HE26 => ?_
  refine pl_x HE26 HH12 (wt0 rfl) (x_neqNil her21_1 (by kernel_rfl) rfl) rfl rfl fun a_27 HE28 => ?_
  refine pl_x HE28 HH12 (wt0 rfl) (x_move rfl) rfl rfl fun a_29 HE30 => ?_
  rcases Bool.eq_false_or_eq_true ((parI a0).2) with hc22 | hc22
  · refine pl_no HE30 (wtF HE30 rfl rfl rfl hc22) rfl rfl fun a_31 HE32 => ?_
    refine pl_no HE32 (wtF HE32 rfl rfl rfl hc22) rfl rfl fun a_33 HE34 => ?_
    refine pl_no HE34 (wtF HE34 rfl rfl rfl hc22) rfl rfl fun a_35 HE36 => ?_
    refine pl_no HE36 (wtF HE36 rfl rfl rfl hc22) rfl rfl fun a_37 HE38 => ?_
    refine pl_x HE38 HH12 (wt0 rfl) (x_pickT rfl hc22 rfl) rfl rfl fun a_39 HE40 => ?_
    refine pl_x HE40 HH12 (wt0 rfl) (x_move rfl) rfl rfl fun a_41 HE42 => ?_
    refine pl_no HE42 (wtF HE42 rfl rfl rfl rfl) rfl rfl fun a_43 HE44 => ?_
    refine pl_no HE44 (wtF HE44 rfl rfl rfl rfl) rfl rfl fun a_45 HE46 => ?_
    refine pl_no HE46 (wtF HE46 rfl rfl rfl rfl) rfl rfl fun a_47 HE48 => ?_
    refine pl_no HE48 (wtF HE48 rfl rfl rfl rfl) rfl rfl fun a_49 HE50 => ?_
    refine pl_x HE50 HH12 (wt0 rfl) (x_pickT rfl rfl rfl) rfl rfl fun a_51 HE52 => ?_
    refine wpList_nil ?_
    clear a_23 HE24 a_25 HE26 a_27 HE28 a_29 HE30 a_31 HE32 a_33 HE34 a_35 HE36 a_37 HE38 a_39 HE40 a_41 HE42 a_43 HE44 a_45 HE46 a_47 HE48 a_49 HE50
    refine nrm ?_
    refine cndT HE52 rfl rfl ?_
    refine wp_seq ?_
    refine rg ?_
    refine pl_x HE52 HH12 (wt0 rfl) (x_assign rfl) rfl rfl fun a_53 HE54 => ?_
    refine pl_x HE54 HH12 (wt0 rfl) (x_assign rfl) rfl rfl fun a_55 HE56 => ?_
    refine wpList_nil ?_
    clear a_51 HE52 a_53 HE54
    refine nrm ?_
    refine wp_ret ?_
    refine (thn_ret ?_)
    refine ret2 HE56 rfl (rv_tmp rfl) (rv_tmp rfl) ?_
    have hF : (numR a0) = (0, false) := by
      rw [numR_def]; first | (simp [hc22]; done) | (simp [hc22]; omega)
    exact ⟨by first | (rw [hF] <;> rfl) | rfl | (rw [hF]; simp only [Ending.returned.injEq, Value.slice.injEq, true_and, and_true]; first | omega | (simp; done)) | (rw [hF]; simp; omega), HH12.below⟩
  · have q0 := parI_bd hc22
    refine pl_x HE30 HH12 (wtT HE30 rfl rfl rfl hc22) (x_move rfl) rfl rfl fun a_57 HE58 => ?_
    refine pl fun K_59 hK60 => ?_
    refine st_call HE58 (wtT HE58 rfl rfl rfl hc22) rfl rfl rfl en_120 rfl rfl (impl_Decimal ((parI a0).1) _ (HH12.glob hG.1) (by omega)) fun e w' hr => ?_
    have hAr23_0 := itoa_len (n := ((parI a0).1)) (by omega)
    obtain ⟨rfl, hbr23⟩ := hr
    have HH61 := HH12.on hbr23
    refine ⟨_, rfl, fun a_62 HE63 => hK60 _ _ ?_⟩
    refine pl_x HE63 HH61 (wtT HE63 rfl rfl rfl hc22) (x_move rfl) rfl rfl fun a_64 HE65 => ?_
    refine pl_x HE65 HH61 (wtT HE65 rfl rfl rfl hc22) (x_sneqB rfl rfl) rfl rfl fun a_66 HE67 => ?_
    refine pl_x HE67 HH61 (wt0 rfl) (x_pickF rfl hc22 rfl) rfl rfl fun a_68 HE69 => ?_
    refine pl_x HE69 HH61 (wt0 rfl) (x_move rfl) rfl rfl fun a_70 HE71 => ?_
    by_cases hc24 : (Go.Lib.itoa ((parI a0).1)) = a0
    · refine pl_x HE71 HH61 (wtT HE71 rfl rfl rfl (not_f (decide_eq_true hc24))) (x_move rfl) rfl rfl fun a_72 HE73 => ?_
      refine pl fun K_74 hK75 => ?_
      refine st_call HE73 (wtT HE73 rfl rfl rfl (not_f (decide_eq_true hc24))) rfl rfl rfl en_121 rfl rfl (TrimMinus a0 ([45]) _ (by rfl)) fun e w' hr => ?_
      have hAr25_0 := unsg_len a0
      obtain ⟨rfl, hbr25⟩ := hr
      have HH76 := HH61.on hbr25
      refine ⟨_, rfl, fun a_77 HE78 => hK75 _ _ ?_⟩
      refine pl_x HE78 HH76 (wtT HE78 rfl rfl rfl (not_f (decide_eq_true hc24))) (x_lenB Tryz.underlying9 rfl) rfl rfl fun a_79 HE80 => ?_
      refine pl_x HE80 HH76 (wtT HE80 rfl rfl rfl (not_f (decide_eq_true hc24))) (x_gtr rfl rfl) rfl rfl fun a_81 HE82 => ?_
      refine pl_x HE82 HH76 (wt0 rfl) (x_pickF rfl (not_f (decide_eq_true hc24)) rfl) rfl rfl fun a_83 HE84 => ?_
      refine wpList_nil ?_
      clear a_23 HE24 a_25 HE26 a_27 HE28 a_29 HE30 HH12 a_57 HE58 a_62 HE63 a_64 HE65 a_66 HE67 a_68 HE69 a_70 HE71 K_59 hK60 HH61 a_72 HE73 a_77 HE78 a_79 HE80 a_81 HE82 hK75 K_74
      refine nrm ?_
      refine cnd_d HE84 rfl (fun hc26 => ?_) (fun hc26 => ?_)
      · refine wp_seq ?_
        refine rg ?_
        refine pl_x HE84 HH76 (wt0 rfl) (x_assign rfl) rfl rfl fun a_85 HE86 => ?_
        refine pl_x HE86 HH76 (wt0 rfl) (x_assign rfl) rfl rfl fun a_87 HE88 => ?_
        refine wpList_nil ?_
        clear a_83 HE84 a_85 HE86
        refine nrm ?_
        refine wp_ret ?_
        refine (thn_ret ?_)
        refine ret2 HE88 rfl (rv_tmp rfl) (rv_tmp rfl) ?_
        have hF : (numR a0) = (0, false) := by
          rw [numR_def]; first | (simp [hc22, hc24, hc26]; done) | (simp [hc22, hc24, hc26]; omega)
        exact ⟨by first | (rw [hF] <;> rfl) | rfl | (rw [hF]; simp only [Ending.returned.injEq, Value.slice.injEq, true_and, and_true]; first | omega | (simp; done)) | (rw [hF]; simp; omega), HH76.below⟩
      · refine wp_skip ?_
        refine nrm ?_
        refine wp_seq ?_
        refine rg ?_
        refine pl_x HE84 HH76 (wt0 rfl) (x_move rfl) rfl rfl fun a_89 HE90 => ?_
        refine pl_x HE90 HH76 (wt0 rfl) (x_assign rfl) rfl rfl fun a_91 HE92 => ?_
        refine pl_x HE92 HH76 (wt0 rfl) (x_assign rfl) rfl rfl fun a_93 HE94 => ?_
        refine wpList_nil ?_
        clear a_83 HE84 a_89 HE90 a_91 HE92
        refine nrm ?_
        refine wp_ret ?_
        refine ret2 HE94 rfl (rv_tmp rfl) (rv_tmp rfl) ?_
        have hF : (numR a0) = ((parI a0).1, true) := by
          rw [numR_def]; first | (simp [hc22, hc24, hc26]; done) | (simp [hc22, hc24, hc26]; omega)
        exact ⟨by first | (rw [hF] <;> rfl) | rfl | (rw [hF]; simp only [Ending.returned.injEq, Value.slice.injEq, true_and, and_true]; first | omega | (simp; done)) | (rw [hF]; simp; omega), HH76.below⟩
    · refine pl_no HE71 (wtF HE71 rfl rfl rfl (not_t (decide_eq_false hc24))) rfl rfl fun a_95 HE96 => ?_
      refine pl_no HE96 (wtF HE96 rfl rfl rfl (not_t (decide_eq_false hc24))) rfl rfl fun a_97 HE98 => ?_
      refine pl_no HE98 (wtF HE98 rfl rfl rfl (not_t (decide_eq_false hc24))) rfl rfl fun a_99 HE100 => ?_
      refine pl_no HE100 (wtF HE100 rfl rfl rfl (not_t (decide_eq_false hc24))) rfl rfl fun a_101 HE102 => ?_
      refine pl_x HE102 HH61 (wt0 rfl) (x_pickT rfl (not_t (decide_eq_false hc24)) rfl) rfl rfl fun a_103 HE104 => ?_
      refine wpList_nil ?_
      clear a_23 HE24 a_25 HE26 a_27 HE28 a_29 HE30 HH12 a_57 HE58 a_62 HE63 a_64 HE65 a_66 HE67 a_68 HE69 a_70 HE71 a_95 HE96 a_97 HE98 a_99 HE100 a_101 HE102 hK60 K_59
      refine nrm ?_
      refine cndT HE104 rfl rfl ?_
      refine wp_seq ?_
      refine rg ?_
      refine pl_x HE104 HH61 (wt0 rfl) (x_assign rfl) rfl rfl fun a_105 HE106 => ?_
      refine pl_x HE106 HH61 (wt0 rfl) (x_assign rfl) rfl rfl fun a_107 HE108 => ?_
      refine wpList_nil ?_
      clear a_103 HE104 a_105 HE106
      refine nrm ?_
      refine wp_ret ?_
      refine (thn_ret ?_)
      refine ret2 HE108 rfl (rv_tmp rfl) (rv_tmp rfl) ?_
      have hF : (numR a0) = (0, false) := by
        rw [numR_def]; first | (simp [hc22, hc24]; done) | (simp [hc22, hc24]; omega)
      exact ⟨by first | (rw [hF] <;> rfl) | rfl | (rw [hF]; simp only [Ending.returned.injEq, Value.slice.injEq, true_and, and_true]; first | omega | (simp; done)) | (rw [hF]; simp; omega), HH61.below⟩

open Go.Lib in
def fracI (w : List UInt8) : tFraction := ((numR (cutR 47 w).1).1, (numR (cutR 47 w).2.1).1)

open Go.Lib in
def rdFrI (s : List UInt8) : List tFraction × Bool := if validFrac ((splitR 32 s).map fracI) = true ∧ fracsText ((splitR 32 s).map fracI) = s then ((splitR 32 s).map fracI, true) else ([], false)

open Go.Lib in
theorem rdFrI_yes {s : List UInt8} {k : Nat} (hk : (splitR 32 s).length ≤ k) {l : List tFraction} (hl : l = ((splitR 32 s).take k).map fracI) : rdFrI s = if validFrac l = true ∧ fracsText l = s then (l, true) else ([], false) := by
  rw [List.take_of_length_le hk] at hl
  unfold rdFrI
  rw [← hl]

open Go.Lib in
theorem fracT_no {c : UInt8} (h45 : ¬ c = 45) (h47 : ¬ c = 47) (hd : isDg c = false) (f : tFraction) : c ∉ fracT f := by
  unfold fracT
  intro h
  simp only [List.mem_append, List.mem_singleton] at h
  rcases h with (h | h) | h
  · exact itoa_no h45 hd _ h
  · exact h47 h
  · exact itoa_no h45 hd _ h

open Go.Lib in
theorem split_fracs {l : List tFraction} (hl : l ≠ []) : splitR 32 (fracsT l) = l.map fracT := by
  cases l with
  | nil => exact absurd rfl hl
  | cons f l =>
    unfold fracsT
    rw [List.map_cons]
    refine splitR_join fun p hp => ?_
    rw [← List.map_cons] at hp
    obtain ⟨u, _, rfl⟩ := List.mem_map.1 hp
    exact fracT_no (by decide) (by decide) (by decide) u

open Go.Lib in
theorem fracI_T {f : tFraction} (h : (1 ≤ f.1 ∧ f.1 ≤ 999999) ∧ 1 ≤ f.2 ∧ f.2 ≤ 999999) : fracI (fracT f) = f := by
  have e : cutR 47 (fracT f) = (Go.Lib.itoa f.1, Go.Lib.itoa f.2, true) := by
    unfold fracT
    rw [List.append_assoc]
    exact cutR_app (itoa_no (by decide) (by decide) _)
  unfold fracI
  rw [e]
  show ((numR (Go.Lib.itoa f.1)).1, (numR (Go.Lib.itoa f.2)).1) = f
  rw [numR_itoa (by omega), numR_itoa (by omega)]

open Go.Lib in
theorem fracs_ok {l : List tFraction} (h : validFrac l = true) : fracsText l = fracsT l ∧ l ≠ [] := by
  refine ⟨by unfold fracsText; rw [if_pos h], ?_⟩
  rintro rfl
  exact absurd h (by decide)

open Go.Lib in
set_option maxRecDepth 100000 in
set_option maxHeartbeats 4000000 in
theorem impl_ReadFractions (a0 : List UInt8) (w : World) (hG : Glob2 w) (s0 : a0.length ≤ 2000000) :
    Calls Tryz.prog 47 #[.string (bs a0)] w fun e w' => ∃ (A0' : Option Addr) (c0' : Nat), e = .returned (.tuple #[.slice A0' (rdFrI a0).1.length c0', .bool (rdFrI a0).2]) ∧ So eFraction w' (Fr w w') A0' c0' (rdFrI a0).1 ∧ Below w.heap.size w w' := by
  have HH1 := Held.start Nob w
  refine enter (n := 53) Tryz.func47 rfl rfl rfl fun a_2 HE3 => ?_
  refine wp_seq ?_
  refine rg ?_
  refine pl_x HE3 HH1 (wt0 rfl) (x_assign rfl) rfl rfl fun a_4 HE5 => ?_
  refine pl_x HE5 HH1 (wt0 rfl) (x_assign rfl) rfl rfl fun a_6 HE7 => ?_
  refine wpList_nil ?_
  clear a_2 HE3 a_4 HE5
  refine nrm ?_
  refine wp_seq ?_
  refine rg ?_
  refine pl fun K_8 hK9 => ?_
  refine st_lit (m := 0) (cs := []) (e := 134) HE7 HH1 (run_lit ts_29 HE7 (vs := []) rfl rfl (by simp [Value.cells]) rfl (by decide)) (wt0 rfl) rfl rfl fun q21 a_10 w' HE11 HH12 => hK9 _ _ ?_
  refine pl_x HE11 HH12 (wt0 rfl) (x_assign rfl) rfl rfl fun a_13 HE14 => ?_
  refine wpList_nil ?_
  clear a_6 HE7 HH1 a_10 HE11 hK9 K_8
  refine nrm ?_
  refine wp_seq ?_
  refine wp_seq ?_
  refine rg ?_
  refine pl_x HE14 HH12 (wt0 rfl) (x_move rfl) rfl rfl fun a_15 HE16 => ?_
  refine pl fun K_17 hK18 => ?_
  refine st_call HE16 (wt0 rfl) rfl rfl rfl en_78 rfl rfl (Split_1 a0 ([32]) 32 _ (HH12.glob2 hG) (by omega) (by rfl)) fun e w' hr => ?_
  have hAr22_0 := splitR_len 32 a0
  have hAr22_1 := splitR_piece 32 a0
  obtain ⟨Ar22_0, cr22_0, rfl, hor22_0, hbr22⟩ := hr
  obtain ⟨Sr22, HH19⟩ := HH12.newS hbr22 hor22_0
  refine ⟨_, rfl, fun a_20 HE21 => hK18 _ _ ?_⟩
  refine pl_x HE21 HH19 (wt0 rfl) (x_len Tryz.underlying78 rfl) rfl rfl fun a_22 HE23 => ?_
  refine pl_x HE23 HH19 (wt0 rfl) (x_move rfl) rfl rfl fun a_24 HE25 => ?_
  refine wpList_nil ?_
  clear a_13 HE14 HH12 a_15 HE16 a_20 HE21 a_22 HE23 hK18 K_17
  refine nrm ?_
  refine wp_block ?_
  have HH26 := HH19.sel [1, 0] (by decide) rfl
  have HH27 := Held.vecFlat (E := eFraction) (xs := []) (css := []) HH26 rfl (Nat.zero_le _) (fun i x hx => by simp at hx)
  refine lp (fun m a w' => ∃ (k : Nat) (A_4 : Option Addr) (c_4 : Nat) (S_4 : Nat → Prop), m = (splitR 32 a0).length - k ∧ Env 53 [(4, .slice A_4 (List.length (((splitR 32 a0).take k).map fracI)) c_4), (15, .int .i64 (k : Int)), (0, .string (bs a0)), (13, .slice Ar22_0 ((splitR 32 a0).length) cr22_0), (14, .int .i64 (((splitR 32 a0).length : Int)))] a ∧ Held Nob w [rVec eFraction 134 S_4 A_4 c_4 (((splitR 32 a0).take k).map fracI), rSo eTxt Sr22 Ar22_0 cr22_0 (splitR 32 a0)] w' ∧ (k ≤ (splitR 32 a0).length)) ((splitR 32 a0).length - (0)) ?_ ?_
  · have E23 : ((splitR 32 a0).take 0).map fracI = ([] : List tFraction) := by
      simp
    exact ⟨0, (some ⟨q21, 0, none⟩), (List.length (α := tFraction) []), (fun b => b = q21), rfl, HE25.sub ⟨(by rw [E23]; rfl), (lkI rfl (by first | rfl | omega | (simp []; done))), rfl, rfl, rfl, trivial⟩, ((HH27.sel [0, 1] (by decide) rfl).to (by first | rfl | (rw [E23]; done) | (rw [E23]; rfl) | (simp only [E23]; done) | (simp only [E23]; rfl) | (rw [E23]; simp only [List.length_set]; done))), (by first | omega | assumption | (simp; done) | simp_all)⟩
  · rintro m a_28 w' ⟨k, A_4, c_4, S_4, rfl, HE29, HH30, p24_0⟩
    have hn0 : (((splitR 32 a0).take k).map fracI).length ≤ a0.length + 1 := by have := splitR_len 32 a0; rw [List.length_map, List.length_take]; omega
    refine wp_seq ?_
    refine rg ?_
    refine pl_x HE29 HH30 (wt0 rfl) (x_lss rfl rfl) rfl rfl fun a_31 HE32 => ?_
    refine wpList_nil ?_
    clear HH19 HH26 a_24 HE25 HH27 a_28 HE29
    refine nrm ?_
    refine wp_seq ?_
    refine cnd_d HE32 rfl (fun hc25 => ?_) (fun hc25 => ?_)
    · refine wp_skip ?_
      refine nrm ?_
      refine wp_seq ?_
      refine wp_block ?_
      refine wp_seq ?_
      refine rg ?_
      have ke26 : k < (splitR 32 a0).length := by omega
      obtain ⟨be26, fe26, rfl⟩ := el_own HH30 (i := 1) rfl ke26
      refine pl_x HE32 HH30 (wt0 rfl) (x_indexAddr ts_78 rfl rfl rfl rfl ke26) rfl rfl fun a_33 HE34 => ?_
      obtain ⟨y27, xy27⟩ : ∃ y_, y_ = (splitR 32 a0)[k]'(by first | exact ke26 | (simp only [List.length_set]; exact ke26) | omega | (simp only [List.length_set]; omega) | (simp; omega)) := ⟨_, rfl⟩
      have jy27 : List.length y27 ≤ 9223372036854775807 := by rw [xy27]; exact i_ownS HH30 1 rfl _
      have hx0 := xy27
      have hl0 := splitR_piece 32 a0 y27 (by rw [xy27]; exact List.getElem_mem _)
      refine pl_x HE34 HH30 (wt0 rfl) (x_load1 tv_9 rfl (c_ownS 1 rfl (by first | exact ke26 | (simp only [List.length_set]; exact ke26) | omega | (simp only [List.length_set]; omega) | (simp; omega)) xy27.symm)) rfl rfl fun a_35 HE36 => ?_
      refine pl_x HE36 HH30 (wt0 rfl) (x_assign rfl) rfl rfl fun a_37 HE38 => ?_
      refine wpList_nil ?_
      clear a_31 HE32 a_33 HE34 a_35 HE36
      refine nrm ?_
      refine wp_seq ?_
      refine rg ?_
      refine pl_x HE38 HH30 (wt0 rfl) (x_move rfl) rfl rfl fun a_39 HE40 => ?_
      refine pl fun K_41 hK42 => ?_
      refine st_call HE40 (wt0 rfl) rfl rfl rfl en_69 rfl rfl (Cut_1 y27 ([47]) 47 _ (HH30.glob2 hG) (by omega) (by rfl)) fun e w' hr => ?_
      have hAr28_0 := cutR_len 47 y27
      obtain ⟨rfl, hbr28⟩ := hr
      have HH43 := HH30.on hbr28
      refine ⟨_, rfl, fun a_44 HE45 => hK42 _ _ ?_⟩
      refine pl_x HE45 HH43 (wt0 rfl) (x_move rfl) rfl rfl fun a_46 HE47 => ?_
      refine pl_x HE47 HH43 (wt0 rfl) (x_extract rfl rfl) rfl rfl fun a_48 HE49 => ?_
      refine pl_x HE49 HH43 (wt0 rfl) (x_extract rfl rfl) rfl rfl fun a_50 HE51 => ?_
      refine pl_x HE51 HH43 (wt0 rfl) (x_extract rfl rfl) rfl rfl fun a_52 HE53 => ?_
      refine pl_x HE53 HH43 (wt0 rfl) (x_assign rfl) rfl rfl fun a_54 HE55 => ?_
      refine pl_x HE55 HH43 (wt0 rfl) (x_assign rfl) rfl rfl fun a_56 HE57 => ?_
      refine pl_x HE57 HH43 (wt0 rfl) (x_assign rfl) rfl rfl fun a_58 HE59 => ?_
      refine wpList_nil ?_
      clear a_37 HE38 HH30 a_39 HE40 a_44 HE45 a_46 HE47 a_48 HE49 a_50 HE51 a_52 HE53 a_54 HE55 a_56 HE57 hK42 K_41
      refine nrm ?_
      refine wp_seq ?_
      refine rg ?_
      refine pl_x HE59 HH43 (wt0 rfl) (show XS _ _ _ _ (.agg #[.int .i64 (0), .int .i64 (0)]) from x_build (vs := []) tb_134 rfl (by simp [Value.oneCell'])) rfl rfl fun a_60 HE61 => ?_
      refine pl fun K_62 hK63 => ?_
      refine st_alloc HE61 HH43 tv_134 (wt0 rfl) rfl fun q29 a_64 w' HE65 HH66 => hK63 _ _ ?_
      refine pl fun K_67 hK68 => ?_
      refine st_store (vs := [.int .i64 (0), .int .i64 (0)]) 0 HE65 HH66 tv_134 rfl rfl rfl rfl rfl rfl (by simp [Value.oneCell']) (wt0 rfl) fun w' HH69 => hK68 _ _ ?_
      refine wpList_nil ?_
      clear a_58 HE59 a_60 HE61 HH43 K_62 hK63 HH66 hK68 K_67
      refine nrm ?_
      refine wp_seq ?_
      refine rg ?_
      refine pl_x HE65 HH69 (wt0 rfl) (x_move rfl) rfl rfl fun a_70 HE71 => ?_
      refine pl fun K_72 hK73 => ?_
      refine st_call HE71 (wt0 rfl) rfl rfl rfl en_70 rfl rfl (impl_ReadDecimal ((cutR 47 y27).1) _ (HH69.glob2 hG) (by omega)) fun e w' hr => ?_
      have hAr30_0 := numR_bd ((cutR 47 y27).1)
      obtain ⟨rfl, hbr30⟩ := hr
      have HH74 := HH69.on hbr30
      refine ⟨_, rfl, fun a_75 HE76 => hK73 _ _ ?_⟩
      refine pl_x HE76 HH74 (wt0 rfl) (x_move rfl) rfl rfl fun a_77 HE78 => ?_
      refine pl_x HE78 HH74 (wt0 rfl) (x_extract rfl rfl) rfl rfl fun a_79 HE80 => ?_
      refine pl_x HE80 HH74 (wt0 rfl) (x_extract rfl rfl) rfl rfl fun a_81 HE82 => ?_
      refine pl_x HE82 HH74 (wt0 rfl) (x_fieldAddr fa_134_0 rfl) rfl rfl fun a_83 HE84 => ?_
      refine pl fun K_85 hK86 => ?_
      refine st_store (vs := [.int .i64 ((numR ((cutR 47 y27).1)).1)]) 0 HE84 HH74 tv_2 rfl rfl rfl rfl rfl rfl (by simp [Value.oneCell']) (wt0 rfl) fun w' HH87 => hK86 _ _ ?_
      refine wpList_nil ?_
      clear a_64 HE65 HH69 a_70 HE71 a_75 HE76 a_77 HE78 a_79 HE80 a_81 HE82 K_72 hK73 HH74 hK86 K_85
      refine nrm ?_
      refine wp_seq ?_
      refine rg ?_
      refine pl_x HE84 HH87 (wt0 rfl) (x_move rfl) rfl rfl fun a_88 HE89 => ?_
      refine pl fun K_90 hK91 => ?_
      refine st_call HE89 (wt0 rfl) rfl rfl rfl en_70 rfl rfl (impl_ReadDecimal ((cutR 47 y27).2.1) _ (HH87.glob2 hG) (by omega)) fun e w' hr => ?_
      have hAr31_0 := numR_bd ((cutR 47 y27).2.1)
      obtain ⟨rfl, hbr31⟩ := hr
      have HH92 := HH87.on hbr31
      refine ⟨_, rfl, fun a_93 HE94 => hK91 _ _ ?_⟩
      refine pl_x HE94 HH92 (wt0 rfl) (x_move rfl) rfl rfl fun a_95 HE96 => ?_
      refine pl_x HE96 HH92 (wt0 rfl) (x_extract rfl rfl) rfl rfl fun a_97 HE98 => ?_
      refine pl_x HE98 HH92 (wt0 rfl) (x_extract rfl rfl) rfl rfl fun a_99 HE100 => ?_
      refine pl_x HE100 HH92 (wt0 rfl) (x_fieldAddr fa_134_1 rfl) rfl rfl fun a_101 HE102 => ?_
      refine pl fun K_103 hK104 => ?_
      refine st_store (vs := [.int .i64 ((numR ((cutR 47 y27).2.1)).1)]) 0 HE102 HH92 tv_2 rfl rfl rfl rfl rfl rfl (by simp [Value.oneCell']) (wt0 rfl) fun w' HH105 => hK104 _ _ ?_
      refine wpList_nil ?_
      clear a_83 HE84 HH87 a_88 HE89 a_93 HE94 a_95 HE96 a_97 HE98 a_99 HE100 K_90 hK91 HH92 hK104 K_103
      refine nrm ?_
      refine rg ?_
      refine pl_x HE102 HH105 (wt0 rfl) (x_move rfl) rfl rfl fun a_106 HE107 => ?_
      refine pl_x HE107 HH105 (wt0 rfl) (x_loadN (cs := [.int .i64 ((numR ((cutR 47 y27).1)).1), .int .i64 ((numR ((cutR 47 y27).2.1)).1)]) tv_134 rfl rfl (c_blkN 0 rfl)) rfl rfl fun a_108 HE109 => ?_
      refine pl fun K_110 hK111 => ?_
      refine st_lit (m := 1) (cs := [.int .i64 ((numR ((cutR 47 y27).1)).1), .int .i64 ((numR ((cutR 47 y27).2.1)).1)]) (e := 134) HE109 HH105 (run_lit ts_29 HE109 (vs := [.agg #[.int .i64 ((numR ((cutR 47 y27).1)).1), .int .i64 ((numR ((cutR 47 y27).2.1)).1)]]) rfl rfl (by simp [Value.cells]) rfl (by decide)) (wt0 rfl) rfl rfl fun q32 a_112 w' HE113 HH114 => hK111 _ _ ?_
      refine pl fun K_115 hK116 => ?_
      refine st_app1F ((numR ((cutR 47 y27).1)).1, (numR ((cutR 47 y27).2.1)).1) HE113 HH114 ts_29 [2, 0, 1, 3] (by decide) rfl (fun _ => (oPrN (oI (by exact ⟨by omega, by omega⟩)) (oI (by exact ⟨by omega, by omega⟩)))) rfl rfl (by simp [Value.oneCell']) (by unfold maxLen; first | omega | (simp; done) | (simp; omega)) (by first | omega | (simp; done) | (simp; omega)) (wt0 rfl) rfl fun A33 c34 S35 a_117 w' HE118 HH119 => hK116 _ _ ?_
      refine pl_x HE118 HH119 (wt0 rfl) (x_assign rfl) rfl rfl fun a_120 HE121 => ?_
      refine wpList_nil ?_
      clear a_101 HE102 a_106 HE107 a_108 HE109 HH105 K_110 hK111 a_112 HE113 HH114 a_117 HE118 hK116 K_115
      refine blk_n ?_
      refine nrm ?_
      refine rg ?_
      refine pl_x HE121 HH119 (wt0 rfl) (x_add rfl rfl (by exact ⟨by omega, by omega⟩)) rfl rfl fun a_122 HE123 => ?_
      refine pl_x HE123 HH119 (wt0 rfl) (x_move rfl) rfl rfl fun a_124 HE125 => ?_
      refine wpList_nil ?_
      clear a_120 HE121 a_122 HE123
      have E36 : ((splitR 32 a0).take (k + 1)).map fracI = (((splitR 32 a0).take k).map fracI ++ [((numR ((cutR 47 y27).1)).1, (numR ((cutR 47 y27).2.1)).1)]) := by
        exact map_snoc _ (by omega) hx0
      exact nrm ⟨(splitR 32 a0).length - (k + 1), (by omega), k + 1, A33, c34, S35, rfl, HE125.sub ⟨(by rw [E36]; rfl), (lkI rfl (by first | rfl | omega | (simp [p24_0, hc25, xy27]; done))), rfl, rfl, rfl, trivial⟩, ((HH119.sel [0, 2] (by decide) rfl).to (by first | rfl | (rw [E36]; done) | (rw [E36]; rfl) | (simp only [E36]; done) | (simp only [E36]; rfl) | (rw [E36]; simp only [List.length_set]; done))), (by first | omega | assumption | (simp; done) | simp_all)⟩
    · refine wp_exit ?_
      refine (thn_exit (thn_exit (blk_hit ?_)))
      refine nrm ?_
      refine wp_seq ?_
      refine wp_seq ?_
      refine rg ?_
      refine pl_x HE32 HH30 (wt0 rfl) (x_move rfl) rfl rfl fun a_126 HE127 => ?_
      refine pl fun K_128 hK129 => ?_
      refine st_call HE127 (wt0 rfl) rfl rfl rfl en_48 rfl rfl (impl_ValidFractions _ _ (((splitR 32 a0).take k).map fracI) _ (HH30.vecSl (i := 0) rfl)) fun e w' hr => ?_
      obtain ⟨rfl, hbr37⟩ := hr
      have HH130 := HH30.on hbr37
      refine ⟨_, rfl, fun a_131 HE132 => hK129 _ _ ?_⟩
      refine pl_x HE132 HH130 (wt0 rfl) (x_not rfl) rfl rfl fun a_133 HE134 => ?_
      refine pl_x HE134 HH130 (wt0 rfl) (x_move rfl) rfl rfl fun a_135 HE136 => ?_
      rcases Bool.eq_false_or_eq_true ((validFrac (((splitR 32 a0).take k).map fracI))) with hc38 | hc38
      · refine pl_x HE136 HH130 (wtT HE136 rfl rfl rfl (not_f hc38)) (x_move rfl) rfl rfl fun a_137 HE138 => ?_
        refine pl fun K_139 hK140 => ?_
        refine st_call HE138 (wtT HE138 rfl rfl rfl (not_f hc38)) rfl rfl rfl en_106 rfl rfl (impl_FractionsText _ _ (((splitR 32 a0).take k).map fracI) _ (HH130.vecSl (i := 0) rfl) (HH130.glob hG.1)) fun e w' hr => ?_
        obtain ⟨rfl, hbr39⟩ := hr
        have HH141 := HH130.on hbr39
        refine ⟨_, rfl, fun a_142 HE143 => hK140 _ _ ?_⟩
        refine pl_x HE143 HH141 (wtT HE143 rfl rfl rfl (not_f hc38)) (x_move rfl) rfl rfl fun a_144 HE145 => ?_
        refine pl_x HE145 HH141 (wtT HE145 rfl rfl rfl (not_f hc38)) (x_sneqB rfl rfl) rfl rfl fun a_146 HE147 => ?_
        refine pl_x HE147 HH141 (wt0 rfl) (x_pickF rfl (not_f hc38) rfl) rfl rfl fun a_148 HE149 => ?_
        refine wpList_nil ?_
        clear a_31 HE32 HH30 a_126 HE127 a_131 HE132 a_133 HE134 a_135 HE136 K_128 hK129 HH130 a_137 HE138 a_142 HE143 a_144 HE145 a_146 HE147 hK140 K_139
        refine nrm ?_
        refine cnd_nd HE149 rfl (fun hc40 => ?_) (fun hc40 => ?_)
        · refine wp_seq ?_
          refine rg ?_
          refine pl_x HE149 HH141 (wt0 rfl) (x_assign rfl) rfl rfl fun a_150 HE151 => ?_
          refine pl_x HE151 HH141 (wt0 rfl) (x_assign rfl) rfl rfl fun a_152 HE153 => ?_
          refine wpList_nil ?_
          clear a_148 HE149 a_150 HE151
          refine nrm ?_
          refine wp_ret ?_
          refine (thn_ret ?_)
          refine ret2 HE153 rfl (rv_tmp rfl) (rv_tmp rfl) ?_
          have hF : (rdFrI a0) = ([], false) := by
            rw [rdFrI_yes (k := k) (by omega) rfl]; first | (rw [if_pos ⟨by assumption, by assumption⟩]; done) | (rw [if_neg (fun hh => ff hh.1 (by assumption))]; done) | (rw [if_neg (fun hh => absurd hh.2 (by assumption))]; done)
          exact ⟨none, 0, by first | (rw [hF] <;> rfl) | rfl | (rw [hF]; simp only [Ending.returned.injEq, Value.slice.injEq, true_and, and_true]; first | omega | (simp; done)) | (rw [hF]; simp; omega), by rw [hF]; exact (So.nil (Nat.zero_le _)), HH141.below⟩
        · refine wp_skip ?_
          refine nrm ?_
          refine wp_seq ?_
          refine rg ?_
          refine pl_x HE149 HH141 (wt0 rfl) (x_move rfl) rfl rfl fun a_154 HE155 => ?_
          refine pl_x HE155 HH141 (wt0 rfl) (x_assign rfl) rfl rfl fun a_156 HE157 => ?_
          refine pl_x HE157 HH141 (wt0 rfl) (x_assign rfl) rfl rfl fun a_158 HE159 => ?_
          refine wpList_nil ?_
          clear a_148 HE149 a_154 HE155 a_156 HE157
          refine nrm ?_
          refine wp_ret ?_
          refine ret2 HE159 rfl (rv_tmp rfl) (rv_tmp rfl) ?_
          have HH160 := HH141.vecSo
          have hF : (rdFrI a0) = (((splitR 32 a0).take k).map fracI, true) := by
            rw [rdFrI_yes (k := k) (by omega) rfl]; first | (rw [if_pos ⟨by assumption, by assumption⟩]; done) | (rw [if_neg (fun hh => ff hh.1 (by assumption))]; done) | (rw [if_neg (fun hh => absurd hh.2 (by assumption))]; done)
          exact ⟨A_4, c_4, by first | (rw [hF] <;> rfl) | rfl | (rw [hF]; simp only [Ending.returned.injEq, Value.slice.injEq, true_and, and_true]; first | omega | (simp; done)) | (rw [hF]; simp; omega), by rw [hF]; exact (HH160.so (i := 0) rfl), HH160.below⟩
      · refine pl_no HE136 (wtF HE136 rfl rfl rfl (not_t hc38)) rfl rfl fun a_161 HE162 => ?_
        refine pl_no HE162 (wtF HE162 rfl rfl rfl (not_t hc38)) rfl rfl fun a_163 HE164 => ?_
        refine pl_no HE164 (wtF HE164 rfl rfl rfl (not_t hc38)) rfl rfl fun a_165 HE166 => ?_
        refine pl_no HE166 (wtF HE166 rfl rfl rfl (not_t hc38)) rfl rfl fun a_167 HE168 => ?_
        refine pl_x HE168 HH130 (wt0 rfl) (x_pickT rfl (not_t hc38) rfl) rfl rfl fun a_169 HE170 => ?_
        refine wpList_nil ?_
        clear a_31 HE32 HH30 a_126 HE127 a_131 HE132 a_133 HE134 a_135 HE136 a_161 HE162 a_163 HE164 a_165 HE166 a_167 HE168 hK129 K_128
        refine nrm ?_
        refine cndT HE170 rfl rfl ?_
        refine wp_seq ?_
        refine rg ?_
        refine pl_x HE170 HH130 (wt0 rfl) (x_assign rfl) rfl rfl fun a_171 HE172 => ?_
        refine pl_x HE172 HH130 (wt0 rfl) (x_assign rfl) rfl rfl fun a_173 HE174 => ?_
        refine wpList_nil ?_
        clear a_169 HE170 a_171 HE172
        refine nrm ?_
        refine wp_ret ?_
        refine (thn_ret ?_)
        refine ret2 HE174 rfl (rv_tmp rfl) (rv_tmp rfl) ?_
        have hF : (rdFrI a0) = ([], false) := by
          rw [rdFrI_yes (k := k) (by omega) rfl]; first | (rw [if_pos ⟨by assumption, by assumption⟩]; done) | (rw [if_neg (fun hh => ff hh.1 (by assumption))]; done) | (rw [if_neg (fun hh => absurd hh.2 (by assumption))]; done)
        exact ⟨none, 0, by first | (rw [hF] <;> rfl) | rfl | (rw [hF]; simp only [Ending.returned.injEq, Value.slice.injEq, true_and, and_true]; first | omega | (simp; done)) | (rw [hF]; simp; omega), by rw [hF]; exact (So.nil (Nat.zero_le _)), HH130.below⟩

open Go.Lib in
def mk2 : List Int → List tFraction
  | a :: b :: r => (a, b) :: mk2 r
  | _ => []

open Go.Lib in
def knownL (k : Int) : List tFraction := if k = 0 then mk2 [3, 2] else if k = 1 then mk2 [455, 33, 11, 13, 1, 11, 3, 7, 11, 2, 1, 3] else mk2 [17, 91, 78, 85, 19, 51, 23, 38, 29, 33, 77, 29, 95, 23, 77, 19, 1, 17, 11, 13, 13, 11, 15, 14, 15, 2, 55, 1]

open Go.Lib in
def known (k : Int) : List tFraction × Int := if withinB k 0 2 = true then (knownL k, 0) else ([], 2)

open Go.Lib in
theorem rdFrI_T {l : List tFraction} (hv : validFrac l = true) : rdFrI (fracsT l) = (l, true) := by
  obtain ⟨h1, h2⟩ := fracs_ok hv
  obtain ⟨h3, h4⟩ := validFrac_facts hv
  have eI : (l.map fracT).map fracI = l := by
    rw [List.map_map]
    exact (List.map_congr_left fun f hf => fracI_T (h4 f hf)).trans (List.map_id l)
  unfold rdFrI
  rw [split_fracs h2, eI]
  exact if_pos ⟨hv, h1⟩

open Go.Lib in
theorem known_at {k : Int} (h : 0 ≤ k ∧ k ≤ 2) : rdFrI (fracsT (knownL k)) = (knownL k, true) := by
  apply rdFrI_T
  obtain rfl | rfl | rfl : k = 0 ∨ k = 1 ∨ k = 2 := by omega
  · decide +kernel
  · decide +kernel
  · decide +kernel

open Go.Lib in
def txts : List (List UInt8) := [fracsT (mk2 [3, 2]), fracsT (mk2 [455, 33, 11, 13, 1, 11, 3, 7, 11, 2, 1, 3]), fracsT (mk2 [17, 91, 78, 85, 19, 51, 23, 38, 29, 33, 77, 29, 95, 23, 77, 19, 1, 17, 11, 13, 13, 11, 15, 14, 15, 2, 55, 1])]

open Go.Lib in
theorem known_txt {k : Int} (h : 0 ≤ k ∧ k ≤ 2) {l : List (List UInt8)} (hl : l = txts) {y : List UInt8} (hi : k.toNat < l.length) (hy : y = l[k.toNat]) : rdFrI y = (knownL k, true) ∧ y.length ≤ 1000 := by
  subst hl
  have e : y = fracsT (knownL k) := by
    rw [hy]
    obtain rfl | rfl | rfl : k = 0 ∨ k = 1 ∨ k = 2 := by omega
    · rfl
    · rfl
    · rfl
  have h2 := known_at h
  rw [← e] at h2
  refine ⟨h2, ?_⟩
  rw [e]
  obtain rfl | rfl | rfl : k = 0 ∨ k = 1 ∨ k = 2 := by omega
  · decide +kernel
  · decide +kernel
  · decide +kernel

open Go.Lib in
set_option maxRecDepth 100000 in
set_option maxHeartbeats 4000000 in
theorem impl_size_Txt (A0 : Option Addr) (c0 : Nat) (a0 : (List (List UInt8))) (w : World) (h0 : Sl eTxt w (Old w) A0 c0 a0) :
    Calls Tryz.prog 46 #[.slice A0 a0.length c0] w fun e w' => e = .returned (.int .i64 (List.length a0 : Int)) ∧ Below w.heap.size w w' := by
  have l0 := h0.len
  have HH1 := Held.start Nob w
  refine enter (n := 5) Tryz.func46 rfl rfl rfl fun a_2 HE3 => ?_
  refine wp_seq ?_
  refine rg ?_
  refine pl_x HE3 HH1 (wt0 rfl) (x_assign rfl) rfl rfl fun a_4 HE5 => ?_
  refine wpList_nil ?_
  clear a_2 HE3
  refine nrm ?_
  refine wp_seq ?_
  refine rg ?_
  refine pl_x HE5 HH1 (wt0 rfl) (x_move rfl) rfl rfl fun a_6 HE7 => ?_
  refine pl_x HE7 HH1 (wt0 rfl) (x_len Tryz.underlying78 rfl) rfl rfl fun a_8 HE9 => ?_
  refine pl_x HE9 HH1 (wt0 rfl) (x_assign rfl) rfl rfl fun a_10 HE11 => ?_
  refine wpList_nil ?_
  clear a_4 HE5 a_6 HE7 a_8 HE9
  refine nrm ?_
  refine wp_ret ?_
  refine ret1 HE11 rfl (rv_tmp rfl) ?_
  have hF : (List.length a0 : Int) = (a0.length : Int) := by
    rfl
  exact ⟨by first | (rw [hF] <;> rfl) | rfl | (rw [hF]; simp only [Ending.returned.injEq, Value.slice.injEq, true_and, and_true]; first | omega | (simp; done)) | (rw [hF]; simp; omega), HH1.below⟩

open Go.Lib in
set_option maxRecDepth 100000 in
set_option maxHeartbeats 4000000 in
theorem impl_KnownFractions (a0 : Int) (w : World) (hG : Glob2 w) :
    Calls Tryz.prog 12 #[.int .i64 a0] w fun e w' => ∃ (A0' : Option Addr) (c0' : Nat), e = .returned (.tuple #[.slice A0' (known a0).1.length c0', .int .i64 (known a0).2]) ∧ So eFraction w' (Fr w w') A0' c0' (known a0).1 ∧ Below w.heap.size w w' := by
  have HH1 := Held.start Nob w
  refine enter (n := 23) Tryz.func12 rfl rfl rfl fun a_2 HE3 => ?_
  refine wp_seq ?_
  refine rg ?_
  refine pl_x HE3 HH1 (wt0 rfl) (x_assign rfl) rfl rfl fun a_4 HE5 => ?_
  refine pl_x HE5 HH1 (wt0 rfl) (x_assign rfl) rfl rfl fun a_6 HE7 => ?_
  refine wpList_nil ?_
  clear a_2 HE3 a_4 HE5
  refine nrm ?_
  refine wp_seq ?_
  refine rg ?_
  refine pl fun K_8 hK9 => ?_
  refine st_lit (m := 3) (cs := [.string (bs ([51, 47, 50])), .string (bs ([52, 53, 53, 47, 51, 51, 32, 49, 49, 47, 49, 51, 32, 49, 47, 49, 49, 32, 51, 47, 55, 32, 49, 49, 47, 50, 32, 49, 47, 51])), .string (bs ([49, 55, 47, 57, 49, 32, 55, 56, 47, 56, 53, 32, 49, 57, 47, 53, 49, 32, 50, 51, 47, 51, 56, 32, 50, 57, 47, 51, 51, 32, 55, 55, 47, 50, 57, 32, 57, 53, 47, 50, 51, 32, 55, 55, 47, 49, 57, 32, 49, 47, 49, 55, 32, 49, 49, 47, 49, 51, 32, 49, 51, 47, 49, 49, 32, 49, 53, 47, 49, 52, 32, 49, 53, 47, 50, 32, 53, 53, 47, 49]))]) (e := 9) HE7 HH1 (run_lit ts_78 HE7 (vs := [.string (bs ([51, 47, 50])), .string (bs ([52, 53, 53, 47, 51, 51, 32, 49, 49, 47, 49, 51, 32, 49, 47, 49, 49, 32, 51, 47, 55, 32, 49, 49, 47, 50, 32, 49, 47, 51])), .string (bs ([49, 55, 47, 57, 49, 32, 55, 56, 47, 56, 53, 32, 49, 57, 47, 53, 49, 32, 50, 51, 47, 51, 56, 32, 50, 57, 47, 51, 51, 32, 55, 55, 47, 50, 57, 32, 57, 53, 47, 50, 51, 32, 55, 55, 47, 49, 57, 32, 49, 47, 49, 55, 32, 49, 49, 47, 49, 51, 32, 49, 51, 47, 49, 49, 32, 49, 53, 47, 49, 52, 32, 49, 53, 47, 50, 32, 53, 53, 47, 49]))]) rfl rfl (by simp [Value.cells]) rfl (by decide)) (wt0 rfl) rfl rfl fun q21 a_10 w' HE11 HH12 => hK9 _ _ ?_
  refine pl_x HE11 HH12 (wt0 rfl) (x_assign rfl) rfl rfl fun a_13 HE14 => ?_
  refine wpList_nil ?_
  clear a_6 HE7 HH1 a_10 HE11 hK9 K_8
  refine nrm ?_
  refine wp_seq ?_
  refine wp_seq ?_
  refine rg ?_
  refine pl_x HE14 HH12 (wt0 rfl) (x_move rfl) rfl rfl fun a_15 HE16 => ?_
  refine pl_x HE16 HH12 (wt0 rfl) (x_move rfl) rfl rfl fun a_17 HE18 => ?_
  refine pl fun K_19 hK20 => ?_
  have HH21 := Held.vecFlat (E := eTxt) (xs := [[51, 47, 50], [52, 53, 53, 47, 51, 51, 32, 49, 49, 47, 49, 51, 32, 49, 47, 49, 49, 32, 51, 47, 55, 32, 49, 49, 47, 50, 32, 49, 47, 51], [49, 55, 47, 57, 49, 32, 55, 56, 47, 56, 53, 32, 49, 57, 47, 53, 49, 32, 50, 51, 47, 51, 56, 32, 50, 57, 47, 51, 51, 32, 55, 55, 47, 50, 57, 32, 57, 53, 47, 50, 51, 32, 55, 55, 47, 49, 57, 32, 49, 47, 49, 55, 32, 49, 49, 47, 49, 51, 32, 49, 51, 47, 49, 49, 32, 49, 53, 47, 49, 52, 32, 49, 53, 47, 50, 32, 53, 53, 47, 49]]) (css := [[.string (bs ([51, 47, 50]))], [.string (bs ([52, 53, 53, 47, 51, 51, 32, 49, 49, 47, 49, 51, 32, 49, 47, 49, 49, 32, 51, 47, 55, 32, 49, 49, 47, 50, 32, 49, 47, 51]))], [.string (bs ([49, 55, 47, 57, 49, 32, 55, 56, 47, 56, 53, 32, 49, 57, 47, 53, 49, 32, 50, 51, 47, 51, 56, 32, 50, 57, 47, 51, 51, 32, 55, 55, 47, 50, 57, 32, 57, 53, 47, 50, 51, 32, 55, 55, 47, 49, 57, 32, 49, 47, 49, 55, 32, 49, 49, 47, 49, 51, 32, 49, 51, 47, 49, 49, 32, 49, 53, 47, 49, 52, 32, 49, 53, 47, 50, 32, 53, 53, 47, 49]))]]) HH12 rfl (by unfold maxLen; simp) (fun i x hx => by match i with | 0 => exact ⟨_, rfl, fun _ => by simp at hx; subst hx; exact (oS (by first | omega | (simp only [List.length_append, List.length_cons, List.length_nil]; omega) | (simp; omega)))⟩ | 1 => exact ⟨_, rfl, fun _ => by simp at hx; subst hx; exact (oS (by first | omega | (simp only [List.length_append, List.length_cons, List.length_nil]; omega) | (simp; omega)))⟩ | 2 => exact ⟨_, rfl, fun _ => by simp at hx; subst hx; exact (oS (by first | omega | (simp only [List.length_append, List.length_cons, List.length_nil]; omega) | (simp; omega)))⟩ | i + 3 => simp at hx)
  refine st_call HE18 (wt0 rfl) rfl rfl rfl en_46 rfl rfl (impl_size_Txt _ _ ([[51, 47, 50], [52, 53, 53, 47, 51, 51, 32, 49, 49, 47, 49, 51, 32, 49, 47, 49, 49, 32, 51, 47, 55, 32, 49, 49, 47, 50, 32, 49, 47, 51], [49, 55, 47, 57, 49, 32, 55, 56, 47, 56, 53, 32, 49, 57, 47, 53, 49, 32, 50, 51, 47, 51, 56, 32, 50, 57, 47, 51, 51, 32, 55, 55, 47, 50, 57, 32, 57, 53, 47, 50, 51, 32, 55, 55, 47, 49, 57, 32, 49, 47, 49, 55, 32, 49, 49, 47, 49, 51, 32, 49, 51, 47, 49, 49, 32, 49, 53, 47, 49, 52, 32, 49, 53, 47, 50, 32, 53, 53, 47, 49]] : List (List UInt8)) _ (HH21.vecSl (i := 0) rfl)) fun e w' hr => ?_
  obtain ⟨rfl, hbr22⟩ := hr
  have HH22 := HH21.on hbr22
  refine ⟨_, rfl, fun a_23 HE24 => hK20 _ _ ?_⟩
  have HE25 := HE24.castI (t := 10) (y := (3 : Int)) rfl (by rfl)
  refine pl_x HE25 HH22 (wt0 rfl) (x_sub rfl rfl (by exact ⟨by omega, by omega⟩)) rfl rfl fun a_26 HE27 => ?_
  refine pl fun K_28 hK29 => ?_
  refine st_call HE27 (wt0 rfl) rfl rfl rfl en_42 rfl rfl (impl_within a0 0 (3 - 1) _ ) fun e w' hr => ?_
  obtain ⟨rfl, rfl⟩ := hr
  refine ⟨_, rfl, fun a_30 HE31 => hK29 _ _ ?_⟩
  refine pl_x HE31 HH22 (wt0 rfl) (x_not rfl) rfl rfl fun a_32 HE33 => ?_
  refine wpList_nil ?_
  clear a_13 HE14 a_15 HE16 HH12 HH21 a_17 HE18 HE24 a_23 HE25 K_19 hK20 a_26 HE27 a_30 HE31 hK29 K_28
  refine nrm ?_
  refine cnd_nb HE33 rfl (fun hc24 => ?_) (fun hc24 => ?_)
  · refine wp_seq ?_
    refine rg ?_
    refine pl_x HE33 HH22 (wt0 rfl) (x_assign rfl) rfl rfl fun a_34 HE35 => ?_
    refine pl_x HE35 HH22 (wt0 rfl) (x_assign rfl) rfl rfl fun a_36 HE37 => ?_
    refine wpList_nil ?_
    clear a_32 HE33 a_34 HE35
    refine nrm ?_
    refine wp_ret ?_
    refine (thn_ret ?_)
    refine ret2 HE37 rfl (rv_tmp rfl) (rv_tmp rfl) ?_
    have hF : (known a0) = ([], 2) := by
      first | (rw [hk0.1]; unfold known; rw [if_pos (withinB_true.2 (by omega))]; done) | (unfold known; exact if_neg (fun hh => ff hh hc24))
    exact ⟨none, 0, by first | (rw [hF] <;> rfl) | rfl | (rw [hF]; simp only [Ending.returned.injEq, Value.slice.injEq, true_and, and_true]; first | omega | (simp; done)) | (rw [hF]; simp; omega), by rw [hF]; exact (So.nil (Nat.zero_le _)), HH22.below⟩
  · have hw := withinB_true.1 hc24
    refine wp_skip ?_
    refine nrm ?_
    refine wp_seq ?_
    refine rg ?_
    refine pl_x HE33 HH22 (wt0 rfl) (x_move rfl) rfl rfl fun a_38 HE39 => ?_
    refine pl_x HE39 HH22 (wt0 rfl) (x_move rfl) rfl rfl fun a_40 HE41 => ?_
    have HH42 := HH22.vecSo
    have ke25 : (a0).toNat < 3 := by omega
    refine pl_x HE41 HH42 (wt0 rfl) (x_indexAddr ts_78 rfl rfl rfl (by omega) ke25) rfl rfl fun a_43 HE44 => ?_
    obtain ⟨y26, xy26⟩ : ∃ y_, y_ = ([[51, 47, 50], [52, 53, 53, 47, 51, 51, 32, 49, 49, 47, 49, 51, 32, 49, 47, 49, 49, 32, 51, 47, 55, 32, 49, 49, 47, 50, 32, 49, 47, 51], [49, 55, 47, 57, 49, 32, 55, 56, 47, 56, 53, 32, 49, 57, 47, 53, 49, 32, 50, 51, 47, 51, 56, 32, 50, 57, 47, 51, 51, 32, 55, 55, 47, 50, 57, 32, 57, 53, 47, 50, 51, 32, 55, 55, 47, 49, 57, 32, 49, 47, 49, 55, 32, 49, 49, 47, 49, 51, 32, 49, 51, 47, 49, 49, 32, 49, 53, 47, 49, 52, 32, 49, 53, 47, 50, 32, 53, 53, 47, 49]] : List (List UInt8))[(a0).toNat]'(by first | exact ke25 | (simp only [List.length_set]; exact ke25) | omega | (simp only [List.length_set]; omega) | (simp; omega)) := ⟨_, rfl⟩
    have jy26 : List.length y26 ≤ 9223372036854775807 := by rw [xy26]; exact i_ownS HH42 0 rfl _
    have hk0 := known_txt (k := a0) (by omega) (by decide +kernel) _ xy26
    refine pl_x HE44 HH42 (wt0 rfl) (x_load1 tv_9 rfl (c_ownS 0 rfl (by first | exact ke25 | (simp only [List.length_set]; exact ke25) | omega | (simp only [List.length_set]; omega) | (simp; omega)) xy26.symm)) rfl rfl fun a_45 HE46 => ?_
    refine pl fun K_47 hK48 => ?_
    refine st_call HE46 (wt0 rfl) rfl rfl rfl en_47 rfl rfl (impl_ReadFractions y26 _ (HH42.glob2 hG) (by omega)) fun e w' hr => ?_
    obtain ⟨Ar27_0, cr27_0, rfl, hor27_0, hbr27⟩ := hr
    obtain ⟨Sr27, HH49⟩ := HH42.newS hbr27 hor27_0
    refine ⟨_, rfl, fun a_50 HE51 => hK48 _ _ ?_⟩
    refine pl_x HE51 HH49 (wt0 rfl) (x_move rfl) rfl rfl fun a_52 HE53 => ?_
    refine pl_x HE53 HH49 (wt0 rfl) (x_extract rfl rfl) rfl rfl fun a_54 HE55 => ?_
    refine pl_x HE55 HH49 (wt0 rfl) (x_extract rfl rfl) rfl rfl fun a_56 HE57 => ?_
    refine pl_x HE57 HH49 (wt0 rfl) (x_assign rfl) rfl rfl fun a_58 HE59 => ?_
    refine pl_x HE59 HH49 (wt0 rfl) (x_assign rfl) rfl rfl fun a_60 HE61 => ?_
    refine wpList_nil ?_
    clear a_32 HE33 a_38 HE39 HH22 a_40 HE41 a_43 HE44 HH42 a_45 HE46 a_50 HE51 a_52 HE53 a_54 HE55 a_56 HE57 a_58 HE59 hK48 K_47
    refine nrm ?_
    refine wp_seq ?_
    refine rg ?_
    refine pl_x HE61 HH49 (wt0 rfl) (x_move rfl) rfl rfl fun a_62 HE63 => ?_
    refine pl_x HE63 HH49 (wt0 rfl) (x_assign rfl) rfl rfl fun a_64 HE65 => ?_
    refine pl_x HE65 HH49 (wt0 rfl) (x_assign rfl) rfl rfl fun a_66 HE67 => ?_
    refine wpList_nil ?_
    clear a_60 HE61 a_62 HE63 a_64 HE65
    refine nrm ?_
    refine wp_ret ?_
    refine ret2 HE67 rfl (rv_tmp rfl) (rv_tmp rfl) ?_
    have hF : (known a0) = ((rdFrI y26).1, 0) := by
      first | (rw [hk0.1]; unfold known; rw [if_pos (withinB_true.2 (by omega))]; done) | (unfold known; exact if_neg (fun hh => ff hh hc24))
    exact ⟨Ar27_0, cr27_0, by first | (rw [hF] <;> rfl) | rfl | (rw [hF]; simp only [Ending.returned.injEq, Value.slice.injEq, true_and, and_true]; first | omega | (simp; done)) | (rw [hF]; simp; omega), by rw [hF]; exact (HH49.so (i := 0) rfl), HH49.below⟩

def digsK : Nat → Nat → List Int
  | 0, _ => []
  | f + 1, n => if n = 0 then [] else ((n % 1000000 : Nat) : Int) :: digsK f (n / 1000000)

theorem digs_K : ∀ (f n : Nat), n < 1000000 ^ f → digs n = digsK f n
  | 0, n, h => by
    have : n = 0 := by simpa using h
    rw [this, digs_zero]; rfl
  | f + 1, n, h => by
    rw [digs, digsK]
    split
    · rfl
    · rw [digs_K f (n / 1000000) (by rw [Nat.pow_succ] at h; omega)]

def mulK (n : List Int) (u : Int) : List Int := digsK 41 (val n * u).toNat

theorem mulN_K {n : List Int} {u : Int} (hn : limbs n) (hl : n.length ≤ 40) (hu : 1 ≤ u ∧ u ≤ 999999) : mulN n [u] = mulK n u := by
  have e : val [u] = u := by simp [val]
  unfold mulN mulK
  rw [e]
  refine digs_K 41 _ ?_
  have h1 := val_lt hn
  have h2 := pow_mono6 hl
  have h3 : val n * u ≤ val n * 1000000 := Int.mul_le_mul_of_nonneg_left (by omega) h1.1
  have h4 : (1000000 : Int) ^ 41 = 1000000 ^ 40 * 1000000 := Int.pow_succ _ _
  have h5 : val n * 1000000 < 1000000 ^ 41 := by rw [h4]; exact Int.mul_lt_mul_of_pos_right (by omega) (by omega)
  have h6 : ((1000000 ^ 41 : Nat) : Int) = (1000000 : Int) ^ 41 := by rw [Int.natCast_pow]; rfl
  omega

def stepK : List tFraction → List Int → Int → Option (List Int × Int)
  | [], _, _ => none
  | f :: fs, n, k => if (divN (mulK n f.1) f.2).2 = 0 then some ((divN (mulK n f.1) f.2).1, k) else stepK fs n (k + 1)

theorem stepFr_K : ∀ (l : List tFraction) (n : List Int) (k : Int), okFr l → limbs n → n.length ≤ 40 → stepFr l n k = stepK l n k
  | [], _, _, _, _, _ => rfl
  | f :: fs, n, k, ho, hn, hl => by
    have h1 := ho f (by simp)
    rw [stepFr, stepK, mulN_K hn hl h1.1, stepFr_K fs n (k + 1) (fun x hx => ho x (List.mem_cons_of_mem _ hx)) hn hl]

def stepIK (l : List tFraction) (n : List Int) : List Int × Int := (stepK l n 0).getD (n, -1)

theorem stepFI_K {l : List tFraction} {n : List Int} (ho : okFr l) (hn : limbs n) (hl : n.length ≤ 40) : stepFI l n = stepIK l n := by
  unfold stepFI stepIK
  rw [stepFr_K l n 0 ho hn hl]

def runK (l : List tFraction) : Nat → List Int → Int → List Int × Int × Bool × Int
  | 0, y, k => (y, k, decide ((stepIK l y).2 < 0), 0)
  | g + 1, y, k => if (stepIK l y).2 < 0 then (y, k, true, 0) else if 40 < ((stepIK l y).1.length : Int) then ([], 0, false, 5) else runK l g (stepIK l y).1 (k + 1)

theorem runFr_K {l : List tFraction} (ho : okFr l) : ∀ (g : Nat) (y : List Int) (k : Int), limbs y → y.length ≤ 40 → runFr l g y k = runK l g y k
  | 0, y, k, hn, hl => by rw [runFr, runK, stepFI_K ho hn hl]
  | g + 1, y, k, hn, hl => by
    have h0 := stepFI_K ho hn hl
    rw [runFr, runK, ← h0]
    split
    · rfl
    · rename_i h1
      split
      · rfl
      · rename_i h2
        exact runFr_K ho g _ _ (stepFI_facts ho hn (by omega)).1 (by omega)

def runPK (l : List tFraction) (p : Int) : Nat → List Int → Int → List Int → List Int × Int × Bool × Int × List Int
  | 0, y, k, s => (y, k, decide ((stepIK l y).2 < 0), 0, (powSeen y p s).2)
  | f + 1, y, k, s => if (powSeen y p s).1 = false ∨ (stepIK l y).2 < 0 then (y, k, decide ((stepIK l y).2 < 0), 0, (powSeen y p s).2) else if 40 < ((stepIK l y).1.length : Int) then ([], 0, false, 5, (powSeen y p s).2) else runPK l p f (stepIK l y).1 (k + 1) (powSeen y p s).2

theorem runPw_K {l : List tFraction} (ho : okFr l) (p : Int) : ∀ (g : Nat) (y : List Int) (k : Int) (s : List Int), limbs y → y.length ≤ 40 → runPw l p g y k s = runPK l p g y k s
  | 0, y, k, s, hn, hl => by rw [runPw, runPK, stepFI_K ho hn hl]
  | g + 1, y, k, s, hn, hl => by
    have h0 := stepFI_K ho hn hl
    rw [runPw, runPK, ← h0]
    split
    · rfl
    · rename_i h1
      split
      · rfl
      · rename_i h2
        have h3 : ¬ (stepFI l y).2 < 0 := fun h => h1 (.inr h)
        exact runPw_K ho p g _ _ _ (stepFI_facts ho hn (by omega)).1 (by omega)

def powN (a : List Int) : Nat → List Int
  | 0 => [1]
  | e + 1 => mulN (powN a e) a

theorem powN_val {a : List Int} (ha : limbs a) : ∀ e : Nat, limbs (powN a e) ∧ val (powN a e) = val a ^ e
  | 0 => ⟨by intro x hx; simp only [powN, List.mem_cons, List.not_mem_nil, or_false] at hx; omega, by simp [powN, val]⟩
  | e + 1 => by
    obtain ⟨h1, h2⟩ := powN_val ha e
    refine ⟨mulN_limbs _ _, ?_⟩
    have h3 := (val_lt h1).1
    have h4 := (val_lt ha).1
    rw [powN]
    unfold mulN
    rw [val_digs, Int.toNat_of_nonneg (Int.mul_nonneg h3 h4), h2, Int.pow_succ]

theorem powN_len {a : List Int} (ha : limbs a) (hl : a.length = 1) : ∀ e : Nat, (powN a e).length ≤ e + 1
  | 0 => by simp [powN]
  | e + 1 => by
    have h1 := powN_len ha hl e
    have h2 := mulN_len (powN_val ha e).1 ha
    rw [powN]
    omega

def powNat (a : List Int) (e : Int) : List Int × Int := (powN a e.toNat, 0)

def mulNats (a b : List Int) : List Int × Int := if isNat a = true ∧ isNat b = true then (if 40 < ((mulN a b).length : Int) then ([], 5) else (mulN a b, 0)) else ([], 1)

def nn (a b : Int) : List Int := mulN (powN [2] a.toNat) (powN [3] b.toNat)

def nnK (a b : Nat) : List Int := digsK 41 (2 ^ a * 3 ^ b)

theorem one_limbs {x : Int} (h : 0 ≤ x ∧ x ≤ 999999) : limbs [x] := fun y hy => by
  simp only [List.mem_cons, List.not_mem_nil, or_false] at hy; omega

theorem nn_K {a b : Nat} (ha : a < 6) (hb : b < 5) : nn (a : Int) (b : Int) = nnK a b := by
  have h1 := (powN_val (one_limbs (x := 2) (by omega)) a).2
  have h2 := (powN_val (one_limbs (x := 3) (by omega)) b).2
  have e1 : val [(2 : Int)] = 2 := by simp [val]
  have e2 : val [(3 : Int)] = 3 := by simp [val]
  unfold nn nnK mulN
  rw [Int.toNat_natCast, Int.toNat_natCast, h1, h2, e1, e2]
  have e3 : ((2 : Int) ^ a * 3 ^ b).toNat = 2 ^ a * 3 ^ b := by
    rw [show (2 : Int) ^ a * 3 ^ b = ((2 ^ a * 3 ^ b : Nat) : Int) from by rw [Int.natCast_mul, Int.natCast_pow, Int.natCast_pow]; rfl, Int.toNat_natCast]
  rw [e3]
  refine digs_K 41 _ ?_
  have h3 : 2 ^ a ≤ 2 ^ 5 := Nat.pow_le_pow_right (by omega) (by omega)
  have h4 : 3 ^ b ≤ 3 ^ 4 := Nat.pow_le_pow_right (by omega) (by omega)
  have h5 : 2 ^ a * 3 ^ b ≤ 2 ^ 5 * 3 ^ 4 := Nat.mul_le_mul h3 h4
  exact Nat.lt_of_le_of_lt h5 (by decide)

def runR (k m a b : Int) : List Int × Int × Bool × Int := runFracs (knownL k) (nn a b) m

def runRK (k : Int) (m a b : Nat) : List Int × Int × Bool × Int := runK (knownL k) m (nnK a b) 0

end Go.Proofs.YtcfdkckchbdafaaGreatDoor
