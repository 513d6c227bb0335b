/- What the proof of FnKnown needs: contracts of the functions that it reaches, each once. -/
import Derived.Test.YtcfdkckchbdafaaGreatDoorProg
import Derived.Test.YtcfdkckchbdafaaGreatDoorQMem
import Derived.Test.YtcfdkckchbdafaaGreatDoorQOpen
import Derived.Test.YtcfdkckchbdafaaGreatDoorLFnKnowna
import Derived.Test.YtcfdkckchbdafaaGreatDoorLFnKnownb
import Derived.WalkKit
import Derived.WalkSpells
import Derived.Below
import Derived.LoopTactic
import Derived.Outline
import Derived.Deep.QuietTactic
import Derived.BigQuiet
import Derived.Deep.LoopGhost
import Derived.Handy
import Derived.Lib.Hide
import Derived.Shelf.Abstract
import Derived.StillTailTactics
import Derived.OwnWalk
import Derived.Maps.AppendAt
import Derived.RegionTactic
import Derived.Deep.RegionHeld3
import Derived.IntWalk
import Derived.Deep.Upon
import Derived.Laws.OwnMore
import Derived.Maps.AppendAt
import Derived.Laws.BytesString
import Derived.Laws.Strings
import Derived.Lib.Bytes
import Derived.Lib.Strings
import Derived.Lib.FrozenHead
import Derived.Lib.RuneBytes
import Derived.Lib.LaidTab
import Derived.Laws.StructEq
import Derived.Lib.SliceRun
import Derived.Lib.AppendZeros
import Derived.Lib.ItoaLen
import Derived.Lib.Join
import Derived.Shelf.Strconv.Itoa4
import Derived.Shelf.Strings.OnBuilder
import Derived.Shelf.Strings.BuilderK
import Derived.Shelf.Strings.BuilderRune
import Derived.Shelf.LaysM
import Derived.Ground.NamesProg
import Derived.Lib.ParseIntBTie
import Derived.Lib.SplitLaws
import Derived.Lib.Replace
import Derived.Shelf.LaysC
import Derived.Shelf.Strconv.ErrVarParseInt
import Derived.Shelf.Strconv.ParseIntPublic10
import Derived.Shelf.Strings.Prefix
import Derived.Shelf.Strings.Cut
import Derived.Shelf.Strings.Split
import Derived.Shelf.Strings.Replace
import Derived.Shelf.Small.Wraps
import Derived.Stop.IfaceNil
namespace Go.Proofs.YtcfdkckchbdafaaGreatDoor
open Go.RowKit

set_option maxRecDepth 100000 in
set_option maxHeartbeats 4000000 in
theorem impl_runFractions (A0 : Option Addr) (c0 : Nat) (a0 : (List tFraction)) (A1 : Option Addr) (c1 : Nat) (a1 : (List Int)) (a2 : Int) (w : World) (h0 : Sl eFraction w (Old w) A0 c0 a0) (h1 : Sl eInt w (Old w) A1 c1 a1) (s0 : okFr a0) (s1 : limbs a1) (s2 : a1.length ≤ 40) (s3 : a0.length ≤ 100) (s4 : 0 ≤ a2 ∧ a2 ≤ 20000) :
    Calls Tryz.prog 51 #[.slice A0 a0.length c0, .slice A1 a1.length c1, .int .i64 a2, .func (.func 52) #[] #[]] w fun e w' => ∃ (A0' : Option Addr) (c0' : Nat), e = .returned (.tuple #[.slice A0' (runFI a0 a1 a2).1.length c0', .int .i64 (runFI a0 a1 a2).2.1, .bool (runFI a0 a1 a2).2.2.1, .int .i64 (runFI a0 a1 a2).2.2.2]) ∧ So eInt w' (Fr w w') A0' c0' (runFI a0 a1 a2).1 ∧ Below w.heap.size w w' := by
  have l0 := h0.len
  have l1 := h1.len
  have HH1 := Held.start Nob w
  refine enter (n := 46) Tryz.func51 rfl rfl rfl fun a_2 HE3 => ?_
  refine wp_seq ?_
  refine rg ?_
  refine pl_x HE3 HH1 (wt0 rfl) (x_assign rfl) rfl rfl fun a_4 HE5 => ?_
  refine pl_x HE5 HH1 (wt0 rfl) (x_assign rfl) rfl rfl fun a_6 HE7 => ?_
  refine pl_x HE7 HH1 (wt0 rfl) (x_assign rfl) rfl rfl fun a_8 HE9 => ?_
  refine pl_x HE9 HH1 (wt0 rfl) (x_assign rfl) rfl rfl fun a_10 HE11 => ?_
  refine wpList_nil ?_
  clear a_2 HE3 a_4 HE5 a_6 HE7 a_8 HE9
  refine nrm ?_
  refine wp_seq ?_
  refine rg ?_
  refine pl_x HE11 HH1 (wt0 rfl) (x_move rfl) rfl rfl fun a_12 HE13 => ?_
  refine pl fun K_14 hK15 => ?_
  refine st_call HE13 (wt0 rfl) rfl rfl rfl en_58 rfl rfl (Clone_Int64 _ _ a1 _ (HH1.old h1) (by omega)) fun e w' hr => ?_
  obtain ⟨Ar21_0, cr21_0, rfl, hor21_0, hbr21⟩ := hr
  obtain ⟨Sr21, HH16⟩ := HH1.newS hbr21 hor21_0
  refine ⟨_, rfl, fun a_17 HE18 => hK15 _ _ ?_⟩
  refine pl_x HE18 HH16 (wt0 rfl) (x_assign rfl) rfl rfl fun a_19 HE20 => ?_
  refine wpList_nil ?_
  clear a_10 HE11 HH1 a_12 HE13 a_17 HE18 hK15 K_14
  refine nrm ?_
  refine wp_seq ?_
  refine rg ?_
  refine pl_x HE20 HH16 (wt0 rfl) (x_assign rfl) rfl rfl fun a_21 HE22 => ?_
  refine wpList_nil ?_
  clear a_19 HE20
  refine nrm ?_
  refine wp_block ?_
  refine lp (fun m a w' => ∃ (k : Nat) (y : List Int) (A_1 : Option Addr) (c_1 : Nat) (S_1 : Nat → Prop), m = (a2 - (k : Int)).toNat ∧ Env 46 [(1, .slice A_1 (List.length y) c_1), (12, .int .i64 (k : Int)), (0, .slice A0 (a0.length) c0), (2, .int .i64 (a2)), (3, .func (.func 52) #[] #[])] a ∧ Held Nob w [rSo eInt S_1 A_1 c_1 y] w' ∧ ((k : Int) ≤ a2) ∧ (limbs y) ∧ (y.length ≤ 40) ∧ (runFI a0 a1 a2 = runFr a0 (a2 - k).toNat y k)) ((a2 - ((0) : Int)).toNat) ?_ ?_
  · exact ⟨0, a1, Ar21_0, cr21_0, Sr21, rfl, HE22.sub ⟨rfl, (lkI rfl (by first | rfl | omega | (simp []; done))), rfl, rfl, rfl, trivial⟩, (HH16.sel [0] (by decide) rfl), (by first | omega | assumption | (simp; done) | simp_all), (by exact s1), (by exact s2), (by unfold runFI; simp)⟩
  · rintro m a_23 w' ⟨k, y, A_1, c_1, S_1, rfl, HE24, HH25, p22_0, p22_1, p22_2, p22_3⟩
    refine wp_seq ?_
    refine wp_block ?_
    refine wp_seq ?_
    refine rg ?_
    refine pl_x HE24 HH25 (wt0 rfl) (x_move rfl) rfl rfl fun a_26 HE27 => ?_
    refine pl_x HE27 HH25 (wt0 rfl) (x_move rfl) rfl rfl fun a_28 HE29 => ?_
    refine pl fun K_30 hK31 => ?_
    refine st_call HE29 (wt0 rfl) rfl rfl rfl en_110 rfl rfl (impl_stepFractions _ _ a0 _ _ y _ (HH25.old h0) (HH25.sl (i := 0) rfl) (by first | assumption | exact hV.2) (by first | assumption | exact hP.1) (by omega) (by omega)) fun e w' hr => ?_
    obtain ⟨Ar23_0, cr23_0, Sr23_0, rfl, hbr23⟩ := hr
    have HH32 := HH25.app hbr23
    clear hbr23
    have HH33 : Held Nob w ([rIf (0 ≤ (stepFI a0 y).2) (rSo eInt Sr23_0 Ar23_0 cr23_0 ((stepFI a0 y).1)), rSo eInt S_1 A_1 c_1 y]) _ := HH32
    refine ⟨_, rfl, fun a_34 HE35 => hK31 _ _ ?_⟩
    refine pl_x HE35 HH33 (wt0 rfl) (x_move rfl) rfl rfl fun a_36 HE37 => ?_
    refine pl_x HE37 HH33 (wt0 rfl) (x_extract rfl rfl) rfl rfl fun a_38 HE39 => ?_
    refine pl_x HE39 HH33 (wt0 rfl) (x_extract rfl rfl) rfl rfl fun a_40 HE41 => ?_
    refine pl_x HE41 HH33 (wt0 rfl) (x_assign rfl) rfl rfl fun a_42 HE43 => ?_
    refine pl_x HE43 HH33 (wt0 rfl) (x_assign rfl) rfl rfl fun a_44 HE45 => ?_
    refine wpList_nil ?_
    clear a_21 HE22 HH16 a_23 HE24 a_26 HE27 HH25 HH32 a_28 HE29 a_34 HE35 a_36 HE37 a_38 HE39 a_40 HE41 a_42 HE43 hK31 K_30
    refine nrm ?_
    refine wp_seq ?_
    refine wp_seq ?_
    refine rg ?_
    refine pl_x HE45 HH33 (wt0 rfl) (x_move rfl) rfl rfl fun a_46 HE47 => ?_
    refine pl_x HE47 HH33 (wt0 rfl) (x_move rfl) rfl rfl fun a_48 HE49 => ?_
    refine pl fun K_50 hK51 => ?_
    refine st_call HE49 (wt0 rfl) rfl rfl rfl en_52 rfl rfl (impl_RunFractions1 _ _ y _ (HH33.sl (i := 1) rfl)) fun e w' hr => ?_
    obtain ⟨rfl, rfl⟩ := hr
    refine ⟨_, rfl, fun a_52 HE53 => hK51 _ _ ?_⟩
    refine pl_x HE53 HH33 (wt0 rfl) (x_not rfl) rfl rfl fun a_54 HE55 => ?_
    refine pl_x HE55 HH33 (wt0 rfl) (x_move rfl) rfl rfl fun a_56 HE57 => ?_
    refine pl_x HE57 HH33 (wtT HE57 rfl rfl rfl rfl) (x_move rfl) rfl rfl fun a_58 HE59 => ?_
    refine pl_x HE59 HH33 (wtT HE59 rfl rfl rfl rfl) (x_lss rfl rfl) rfl rfl fun a_60 HE61 => ?_
    refine pl_x HE61 HH33 (wt0 rfl) (x_pickF rfl rfl rfl) rfl rfl fun a_62 HE63 => ?_
    refine pl_x HE63 HH33 (wt0 rfl) (x_move rfl) rfl rfl fun a_64 HE65 => ?_
    by_cases hc25 : (stepFI a0 y).2 < 0
    · refine pl_no HE65 (wtF HE65 rfl rfl rfl (decide_eq_true hc25)) rfl rfl fun a_66 HE67 => ?_
      refine pl_no HE67 (wtF HE67 rfl rfl rfl (decide_eq_true hc25)) rfl rfl fun a_68 HE69 => ?_
      refine pl_no HE69 (wtF HE69 rfl rfl rfl (decide_eq_true hc25)) rfl rfl fun a_70 HE71 => ?_
      refine pl_x HE71 HH33 (wt0 rfl) (x_pickT rfl (decide_eq_true hc25) rfl) rfl rfl fun a_72 HE73 => ?_
      refine wpList_nil ?_
      clear a_44 HE45 a_46 HE47 a_48 HE49 a_52 HE53 a_54 HE55 a_56 HE57 a_58 HE59 a_60 HE61 a_62 HE63 a_64 HE65 a_66 HE67 a_68 HE69 a_70 HE71 hK51 K_50
      refine nrm ?_
      refine cndT HE73 rfl rfl ?_
      refine wp_seq ?_
      refine rg ?_
      refine pl_x HE73 HH33 (wt0 rfl) (x_move rfl) rfl rfl fun a_74 HE75 => ?_
      refine pl_x HE75 HH33 (wt0 rfl) (x_move rfl) rfl rfl fun a_76 HE77 => ?_
      refine pl_x HE77 HH33 (wt0 rfl) (x_move rfl) rfl rfl fun a_78 HE79 => ?_
      refine pl_x HE79 HH33 (wt0 rfl) (x_lss rfl rfl) rfl rfl fun a_80 HE81 => ?_
      refine pl_x HE81 HH33 (wt0 rfl) (x_assign rfl) rfl rfl fun a_82 HE83 => ?_
      refine pl_x HE83 HH33 (wt0 rfl) (x_assign rfl) rfl rfl fun a_84 HE85 => ?_
      refine pl_x HE85 HH33 (wt0 rfl) (x_assign rfl) rfl rfl fun a_86 HE87 => ?_
      refine pl_x HE87 HH33 (wt0 rfl) (x_assign rfl) rfl rfl fun a_88 HE89 => ?_
      refine wpList_nil ?_
      clear a_72 HE73 a_74 HE75 a_76 HE77 a_78 HE79 a_80 HE81 a_82 HE83 a_84 HE85 a_86 HE87
      refine nrm ?_
      refine wp_ret ?_
      refine (thn_ret (blk_ret (thn_ret (thn_ret (blk_ret ?_)))))
      refine ret4 HE89 rfl (rv_tmp rfl) (rv_tmp rfl) (rv_tmp rfl) (rv_tmp rfl) ?_
      have hF : (runFI a0 a1 a2) = (y, (k : Int), decide ((stepFI a0 y).2 < 0), 0) := by
        rw [p22_3, runFr_eq]; grind
      exact ⟨A_1, c_1, by first | (rw [hF] <;> rfl) | rfl | (rw [hF]; simp only [Ending.returned.injEq, Value.slice.injEq, true_and, and_true]; first | omega | (simp; done)) | (rw [hF]; simp; omega), by rw [hF]; exact (HH33.so (i := 1) rfl), HH33.below⟩
    · refine pl_x HE65 HH33 (wtT HE65 rfl rfl rfl (decide_eq_false hc25)) (x_move rfl) rfl rfl fun a_90 HE91 => ?_
      refine pl_x HE91 HH33 (wtT HE91 rfl rfl rfl (decide_eq_false hc25)) (x_move rfl) rfl rfl fun a_92 HE93 => ?_
      refine pl_x HE93 HH33 (wtT HE93 rfl rfl rfl (decide_eq_false hc25)) (x_eql rfl rfl) rfl rfl fun a_94 HE95 => ?_
      refine pl_x HE95 HH33 (wt0 rfl) (x_pickF rfl (decide_eq_false hc25) rfl) rfl rfl fun a_96 HE97 => ?_
      refine wpList_nil ?_
      clear a_44 HE45 a_46 HE47 a_48 HE49 a_52 HE53 a_54 HE55 a_56 HE57 a_58 HE59 a_60 HE61 a_62 HE63 a_64 HE65 a_90 HE91 a_92 HE93 a_94 HE95 hK51 K_50
      refine nrm ?_
      refine cnd_e HE97 rfl (fun hc26 => ?_) (fun hc26 => ?_)
      · refine wp_seq ?_
        refine rg ?_
        refine pl_x HE97 HH33 (wt0 rfl) (x_move rfl) rfl rfl fun a_98 HE99 => ?_
        refine pl_x HE99 HH33 (wt0 rfl) (x_move rfl) rfl rfl fun a_100 HE101 => ?_
        refine pl_x HE101 HH33 (wt0 rfl) (x_move rfl) rfl rfl fun a_102 HE103 => ?_
        refine pl_x HE103 HH33 (wt0 rfl) (x_lss rfl rfl) rfl rfl fun a_104 HE105 => ?_
        refine pl_x HE105 HH33 (wt0 rfl) (x_assign rfl) rfl rfl fun a_106 HE107 => ?_
        refine pl_x HE107 HH33 (wt0 rfl) (x_assign rfl) rfl rfl fun a_108 HE109 => ?_
        refine pl_x HE109 HH33 (wt0 rfl) (x_assign rfl) rfl rfl fun a_110 HE111 => ?_
        refine pl_x HE111 HH33 (wt0 rfl) (x_assign rfl) rfl rfl fun a_112 HE113 => ?_
        refine wpList_nil ?_
        clear a_96 HE97 a_98 HE99 a_100 HE101 a_102 HE103 a_104 HE105 a_106 HE107 a_108 HE109 a_110 HE111
        refine nrm ?_
        refine wp_ret ?_
        refine (thn_ret (blk_ret (thn_ret (thn_ret (blk_ret ?_)))))
        refine ret4 HE113 rfl (rv_tmp rfl) (rv_tmp rfl) (rv_tmp rfl) (rv_tmp rfl) ?_
        have hF : (runFI a0 a1 a2) = (y, (k : Int), decide ((stepFI a0 y).2 < 0), 0) := by
          rw [p22_3, runFr_eq]; grind
        exact ⟨A_1, c_1, by first | (rw [hF] <;> rfl) | rfl | (rw [hF]; simp only [Ending.returned.injEq, Value.slice.injEq, true_and, and_true]; first | omega | (simp; done)) | (rw [hF]; simp; omega), by rw [hF]; exact (HH33.so (i := 1) rfl), HH33.below⟩
      · refine wp_skip ?_
        refine nrm ?_
        refine wp_seq ?_
        refine wp_seq ?_
        refine rg ?_
        refine pl_x HE97 HH33 (wt0 rfl) (x_move rfl) rfl rfl fun a_114 HE115 => ?_
        refine pl_x HE115 HH33 (wt0 rfl) (x_len Tryz.underlying25 rfl) rfl rfl fun a_116 HE117 => ?_
        refine pl_x HE117 HH33 (wt0 rfl) (x_gtr rfl rfl) rfl rfl fun a_118 HE119 => ?_
        refine wpList_nil ?_
        clear a_96 HE97 a_114 HE115 a_116 HE117
        refine nrm ?_
        refine cnd_d HE119 rfl (fun hc27 => ?_) (fun hc27 => ?_)
        · refine wp_seq ?_
          refine rg ?_
          refine pl_x HE119 HH33 (wt0 rfl) (x_assign rfl) rfl rfl fun a_120 HE121 => ?_
          refine pl_x HE121 HH33 (wt0 rfl) (x_assign rfl) rfl rfl fun a_122 HE123 => ?_
          refine pl_x HE123 HH33 (wt0 rfl) (x_assign rfl) rfl rfl fun a_124 HE125 => ?_
          refine pl_x HE125 HH33 (wt0 rfl) (x_assign rfl) rfl rfl fun a_126 HE127 => ?_
          refine wpList_nil ?_
          clear a_118 HE119 a_120 HE121 a_122 HE123 a_124 HE125
          refine nrm ?_
          refine wp_ret ?_
          refine (thn_ret (blk_ret (thn_ret (thn_ret (blk_ret ?_)))))
          refine ret4 HE127 rfl (rv_tmp rfl) (rv_tmp rfl) (rv_tmp rfl) (rv_tmp rfl) ?_
          have hF : (runFI a0 a1 a2) = ([], 0, false, 5) := by
            rw [p22_3, runFr_eq]; grind
          exact ⟨none, 0, by first | (rw [hF] <;> rfl) | rfl | (rw [hF]; simp only [Ending.returned.injEq, Value.slice.injEq, true_and, and_true]; first | omega | (simp; done)) | (rw [hF]; simp; omega), by rw [hF]; exact (So.nil (Nat.zero_le _)), HH33.below⟩
        · refine wp_skip ?_
          refine nrm ?_
          refine rg ?_
          refine pl_x HE119 HH33 (wt0 rfl) (x_move rfl) rfl rfl fun a_128 HE129 => ?_
          refine pl_x HE129 HH33 (wt0 rfl) (x_assign rfl) rfl rfl fun a_130 HE131 => ?_
          refine wpList_nil ?_
          clear a_118 HE119 a_128 HE129
          refine blk_n ?_
          refine nrm ?_
          refine rg ?_
          refine pl_x HE131 HH33 (wt0 rfl) (x_move rfl) rfl rfl fun a_132 HE133 => ?_
          refine pl_x HE133 HH33 (wt0 rfl) (x_add rfl rfl (by exact ⟨by omega, by omega⟩)) rfl rfl fun a_134 HE135 => ?_
          refine pl_x HE135 HH33 (wt0 rfl) (x_assign rfl) rfl rfl fun a_136 HE137 => ?_
          refine wpList_nil ?_
          clear a_130 HE131 a_132 HE133 a_134 HE135
          have HH138 := HH33.ofIf (by first | assumption | omega | (simp [p22_0, p22_1, p22_2, p22_3, hc25, hc26, hc27]; done))
          have E28 : ((stepFI a0 y).1) = (stepFI a0 y).1 := by
            first | rfl | simp
          exact nrm ⟨(a2 - ((k + 1) : Int)).toNat, (by omega), k + 1, (stepFI a0 y).1, Ar23_0, cr23_0, Sr23_0, rfl, HE137.sub ⟨(by rw [E28]; rfl), (lkI rfl (by first | rfl | omega | (simp [p22_0, p22_1, p22_2, p22_3, hc25, hc26, hc27]; done))), rfl, rfl, rfl, trivial⟩, ((HH138.sel [0] (by decide) rfl).to (by first | rfl | (rw [E28]; done) | (rw [E28]; rfl) | (simp only [E28]; done) | (simp only [E28]; rfl) | (rw [E28]; simp only [List.length_set]; done))), (by first | omega | assumption | (simp; done) | simp_all), (by exact (stepFI_facts s0 p22_1 (by omega)).1), (by omega), (by rw [p22_3, runFr_step (g := (a2 - ((k + 1 : Nat) : Int)).toNat) (by omega) (by omega) (by omega)]; rfl)⟩

set_option maxRecDepth 100000 in
set_option maxHeartbeats 4000000 in
theorem impl_RunFractions (A0 : Option Addr) (c0 : Nat) (a0 : (List tFraction)) (A1 : Option Addr) (c1 : Nat) (a1 : (List Int)) (a2 : Int) (w : World) (h0 : Sl eFraction w (Old w) A0 c0 a0) (h1 : Sl eInt w (Old w) A1 c1 a1) :
    Calls Tryz.prog 13 #[.slice A0 a0.length c0, .slice A1 a1.length c1, .int .i64 a2] w fun e w' => ∃ (A0' : Option Addr) (c0' : Nat), e = .returned (.tuple #[.slice A0' (runFracs a0 a1 a2).1.length c0', .int .i64 (runFracs a0 a1 a2).2.1, .bool (runFracs a0 a1 a2).2.2.1, .int .i64 (runFracs a0 a1 a2).2.2.2]) ∧ So eInt w' (Fr w w') A0' c0' (runFracs a0 a1 a2).1 ∧ Below w.heap.size w w' := by
  have l0 := h0.len
  have l1 := h1.len
  have HH1 := Held.start Nob w
  refine enter (n := 29) Tryz.func13 rfl rfl rfl fun a_2 HE3 => ?_
  refine wp_seq ?_
  refine rg ?_
  refine pl_x HE3 HH1 (wt0 rfl) (x_assign rfl) rfl rfl fun a_4 HE5 => ?_
  refine pl_x HE5 HH1 (wt0 rfl) (x_assign rfl) rfl rfl fun a_6 HE7 => ?_
  refine pl_x HE7 HH1 (wt0 rfl) (x_assign rfl) rfl rfl fun a_8 HE9 => ?_
  refine pl_x HE9 HH1 (wt0 rfl) (x_assign rfl) rfl rfl fun a_10 HE11 => ?_
  refine wpList_nil ?_
  clear a_2 HE3 a_4 HE5 a_6 HE7 a_8 HE9
  refine nrm ?_
  refine wp_seq ?_
  refine wp_seq ?_
  refine rg ?_
  refine pl_x HE11 HH1 (wt0 rfl) (x_move rfl) rfl rfl fun a_12 HE13 => ?_
  refine pl fun K_14 hK15 => ?_
  refine st_call HE13 (wt0 rfl) rfl rfl rfl en_48 rfl rfl (impl_ValidFractions _ _ a0 _ (HH1.old h0)) fun e w' hr => ?_
  obtain ⟨rfl, hbr21⟩ := hr
  have HH16 := HH1.on hbr21
  refine ⟨_, rfl, fun a_17 HE18 => hK15 _ _ ?_⟩
  refine pl_x HE18 HH16 (wt0 rfl) (x_not rfl) rfl rfl fun a_19 HE20 => ?_
  refine pl_x HE20 HH16 (wt0 rfl) (x_move rfl) rfl rfl fun a_21 HE22 => ?_
  rcases Bool.eq_false_or_eq_true ((validFrac a0)) with hc22 | hc22
  · have hV := validFrac_facts hc22
    refine pl_x HE22 HH16 (wtT HE22 rfl rfl rfl (not_f hc22)) (x_move rfl) rfl rfl fun a_23 HE24 => ?_
    refine pl fun K_25 hK26 => ?_
    refine st_call HE24 (wtT HE24 rfl rfl rfl (not_f hc22)) rfl rfl rfl en_49 rfl rfl (impl_isPositive _ _ a1 _ (HH16.old h1)) fun e w' hr => ?_
    obtain ⟨rfl, rfl⟩ := hr
    refine ⟨_, rfl, fun a_27 HE28 => hK26 _ _ ?_⟩
    refine pl_x HE28 HH16 (wtT HE28 rfl rfl rfl (not_f hc22)) (x_not rfl) rfl rfl fun a_29 HE30 => ?_
    refine pl_x HE30 HH16 (wt0 rfl) (x_pickF rfl (not_f hc22) rfl) rfl rfl fun a_31 HE32 => ?_
    refine wpList_nil ?_
    clear a_10 HE11 HH1 a_12 HE13 a_17 HE18 a_19 HE20 a_21 HE22 K_14 hK15 a_23 HE24 a_27 HE28 a_29 HE30 hK26 K_25
    refine nrm ?_
    refine cnd_nb HE32 rfl (fun hc24 => ?_) (fun hc24 => ?_)
    · refine wp_seq ?_
      refine rg ?_
      refine pl_x HE32 HH16 (wt0 rfl) (x_assign rfl) rfl rfl fun a_33 HE34 => ?_
      refine pl_x HE34 HH16 (wt0 rfl) (x_assign rfl) rfl rfl fun a_35 HE36 => ?_
      refine pl_x HE36 HH16 (wt0 rfl) (x_assign rfl) rfl rfl fun a_37 HE38 => ?_
      refine pl_x HE38 HH16 (wt0 rfl) (x_assign rfl) rfl rfl fun a_39 HE40 => ?_
      refine wpList_nil ?_
      clear a_31 HE32 a_33 HE34 a_35 HE36 a_37 HE38
      refine nrm ?_
      refine wp_ret ?_
      refine (thn_ret ?_)
      refine ret4 HE40 rfl (rv_tmp rfl) (rv_tmp rfl) (rv_tmp rfl) (rv_tmp rfl) ?_
      have hF : (runFracs a0 a1 a2) = ([], 0, false, 1) := by
        first | (simp [runFracs, hc22, hc24]; done) | grind [runFracs]
      exact ⟨none, 0, by first | (rw [hF] <;> rfl) | rfl | (rw [hF]; simp only [Ending.returned.injEq, Value.slice.injEq, true_and, and_true]; first | omega | (simp; done)) | (rw [hF]; simp; omega), by rw [hF]; exact (So.nil (Nat.zero_le _)), HH16.below⟩
    · have hP := isPos_facts hc24
      refine wp_skip ?_
      refine nrm ?_
      refine wp_seq ?_
      refine wp_seq ?_
      refine rg ?_
      refine pl_x HE32 HH16 (wt0 rfl) (x_move rfl) rfl rfl fun a_41 HE42 => ?_
      refine pl fun K_43 hK44 => ?_
      refine st_call HE42 (wt0 rfl) rfl rfl rfl en_50 rfl rfl (impl_budgetOk a2 _ ) fun e w' hr => ?_
      obtain ⟨rfl, rfl⟩ := hr
      refine ⟨_, rfl, fun a_45 HE46 => hK44 _ _ ?_⟩
      refine pl_x HE46 HH16 (wt0 rfl) (x_not rfl) rfl rfl fun a_47 HE48 => ?_
      refine wpList_nil ?_
      clear a_31 HE32 a_41 HE42 a_45 HE46 hK44 K_43
      refine nrm ?_
      refine cnd_nb HE48 rfl (fun hc26 => ?_) (fun hc26 => ?_)
      · refine wp_seq ?_
        refine rg ?_
        refine pl_x HE48 HH16 (wt0 rfl) (x_assign rfl) rfl rfl fun a_49 HE50 => ?_
        refine pl_x HE50 HH16 (wt0 rfl) (x_assign rfl) rfl rfl fun a_51 HE52 => ?_
        refine pl_x HE52 HH16 (wt0 rfl) (x_assign rfl) rfl rfl fun a_53 HE54 => ?_
        refine pl_x HE54 HH16 (wt0 rfl) (x_assign rfl) rfl rfl fun a_55 HE56 => ?_
        refine wpList_nil ?_
        clear a_47 HE48 a_49 HE50 a_51 HE52 a_53 HE54
        refine nrm ?_
        refine wp_ret ?_
        refine (thn_ret ?_)
        refine ret4 HE56 rfl (rv_tmp rfl) (rv_tmp rfl) (rv_tmp rfl) (rv_tmp rfl) ?_
        have hF : (runFracs a0 a1 a2) = ([], 0, false, 2) := by
          first | (simp [runFracs, hc22, hc24, hc26]; done) | grind [runFracs]
        exact ⟨none, 0, by first | (rw [hF] <;> rfl) | rfl | (rw [hF]; simp only [Ending.returned.injEq, Value.slice.injEq, true_and, and_true]; first | omega | (simp; done)) | (rw [hF]; simp; omega), by rw [hF]; exact (So.nil (Nat.zero_le _)), HH16.below⟩
      · have hBu := budgetB_le hc26
        refine wp_skip ?_
        refine nrm ?_
        refine wp_seq ?_
        refine rg ?_
        refine pl_x HE48 HH16 (wt0 rfl) (x_move rfl) rfl rfl fun a_57 HE58 => ?_
        refine pl_x HE58 HH16 (wt0 rfl) (x_move rfl) rfl rfl fun a_59 HE60 => ?_
        refine pl_x HE60 HH16 (wt0 rfl) (x_move rfl) rfl rfl fun a_61 HE62 => ?_
        refine pl fun K_63 hK64 => ?_
        refine st_call HE62 (wt0 rfl) rfl rfl rfl en_51 rfl rfl (impl_runFractions _ _ a0 _ _ a1 a2 _ (HH16.old h0) (HH16.old h1) (by exact hV.2) (by exact hP.1) (by omega) (by omega) (by omega)) fun e w' hr => ?_
        obtain ⟨Ar27_0, cr27_0, rfl, hor27_0, hbr27⟩ := hr
        obtain ⟨Sr27, HH65⟩ := HH16.newS hbr27 hor27_0
        refine ⟨_, rfl, fun a_66 HE67 => hK64 _ _ ?_⟩
        refine pl_x HE67 HH65 (wt0 rfl) (x_extract rfl rfl) rfl rfl fun a_68 HE69 => ?_
        refine pl_x HE69 HH65 (wt0 rfl) (x_extract rfl rfl) rfl rfl fun a_70 HE71 => ?_
        refine pl_x HE71 HH65 (wt0 rfl) (x_extract rfl rfl) rfl rfl fun a_72 HE73 => ?_
        refine pl_x HE73 HH65 (wt0 rfl) (x_extract rfl rfl) rfl rfl fun a_74 HE75 => ?_
        refine pl_x HE75 HH65 (wt0 rfl) (x_assign rfl) rfl rfl fun a_76 HE77 => ?_
        refine pl_x HE77 HH65 (wt0 rfl) (x_assign rfl) rfl rfl fun a_78 HE79 => ?_
        refine pl_x HE79 HH65 (wt0 rfl) (x_assign rfl) rfl rfl fun a_80 HE81 => ?_
        refine pl_x HE81 HH65 (wt0 rfl) (x_assign rfl) rfl rfl fun a_82 HE83 => ?_
        refine wpList_nil ?_
        clear a_47 HE48 a_57 HE58 a_59 HE60 HH16 a_61 HE62 a_66 HE67 a_68 HE69 a_70 HE71 a_72 HE73 a_74 HE75 a_76 HE77 a_78 HE79 a_80 HE81 hK64 K_63
        refine nrm ?_
        refine wp_ret ?_
        refine ret4 HE83 rfl (rv_tmp rfl) (rv_tmp rfl) (rv_tmp rfl) (rv_tmp rfl) ?_
        have hF : (runFracs a0 a1 a2) = ((runFI a0 a1 a2).1, (runFI a0 a1 a2).2.1, (runFI a0 a1 a2).2.2.1, (runFI a0 a1 a2).2.2.2) := by
          first | (simp [runFracs, hc22, hc24, hc26]; done) | grind [runFracs]
        exact ⟨Ar27_0, cr27_0, by first | (rw [hF] <;> rfl) | rfl | (rw [hF]; simp only [Ending.returned.injEq, Value.slice.injEq, true_and, and_true]; first | omega | (simp; done)) | (rw [hF]; simp; omega), by rw [hF]; exact (HH65.so (i := 0) rfl), HH65.below⟩
  · refine pl_no HE22 (wtF HE22 rfl rfl rfl (not_t hc22)) rfl rfl fun a_84 HE85 => ?_
    refine pl_no HE85 (wtF HE85 rfl rfl rfl (not_t hc22)) rfl rfl fun a_86 HE87 => ?_
    refine pl_no HE87 (wtF HE87 rfl rfl rfl (not_t hc22)) rfl rfl fun a_88 HE89 => ?_
    refine pl_x HE89 HH16 (wt0 rfl) (x_pickT rfl (not_t hc22) rfl) rfl rfl fun a_90 HE91 => ?_
    refine wpList_nil ?_
    clear a_10 HE11 HH1 a_12 HE13 a_17 HE18 a_19 HE20 a_21 HE22 a_84 HE85 a_86 HE87 a_88 HE89 hK15 K_14
    refine nrm ?_
    refine cndT HE91 rfl rfl ?_
    refine wp_seq ?_
    refine rg ?_
    refine pl_x HE91 HH16 (wt0 rfl) (x_assign rfl) rfl rfl fun a_92 HE93 => ?_
    refine pl_x HE93 HH16 (wt0 rfl) (x_assign rfl) rfl rfl fun a_94 HE95 => ?_
    refine pl_x HE95 HH16 (wt0 rfl) (x_assign rfl) rfl rfl fun a_96 HE97 => ?_
    refine pl_x HE97 HH16 (wt0 rfl) (x_assign rfl) rfl rfl fun a_98 HE99 => ?_
    refine wpList_nil ?_
    clear a_90 HE91 a_92 HE93 a_94 HE95 a_96 HE97
    refine nrm ?_
    refine wp_ret ?_
    refine (thn_ret ?_)
    refine ret4 HE99 rfl (rv_tmp rfl) (rv_tmp rfl) (rv_tmp rfl) (rv_tmp rfl) ?_
    have hF : (runFracs a0 a1 a2) = ([], 0, false, 1) := by
      first | (simp [runFracs, hc22]; done) | grind [runFracs]
    exact ⟨none, 0, by first | (rw [hF] <;> rfl) | rfl | (rw [hF]; simp only [Ending.returned.injEq, Value.slice.injEq, true_and, and_true]; first | omega | (simp; done)) | (rw [hF]; simp; omega), by rw [hF]; exact (So.nil (Nat.zero_le _)), HH16.below⟩

theorem trimZ_last : ∀ xs : List Int, trimZ xs = [] ∨ (trimZ xs)[(trimZ xs).length - 1]?.getD 0 ≠ 0
  | [] => .inl rfl
  | x :: xs => by
    rw [trimZ_cons]
    split
    · exact .inl rfl
    · rename_i h
      right
      rcases trimZ_last xs with h1 | h1
      · rw [h1]
        simp
        intro h2
        exact h ⟨h2, h1⟩
      · cases hq : trimZ xs with
        | nil => rw [hq] at h1; simp at h1
        | cons y ys => rw [hq] at h1; simpa using h1

theorem val_divW {d : Int} (hd : 0 < d) : ∀ xs : List Int, val (divW d xs).1 * d + (divW d xs).2 = val xs
  | [] => by simp [divW, val]
  | x :: xs => by
    have ih := val_divW hd xs
    rw [divW, val, val, ← ih]
    have h1 := Int.emod_def ((divW d xs).2 * 1000000 + x) d
    simp only
    generalize val (divW d xs).1 = q at *
    generalize (divW d xs).2 = r at *
    generalize (r * 1000000 + x) / d = u at *
    generalize (r * 1000000 + x) % d = v at *
    grind

theorem val_trimZ : ∀ xs : List Int, val (trimZ xs) = val xs
  | [] => rfl
  | x :: xs => by
    have ih := val_trimZ xs
    rw [trimZ_cons]
    split
    · rename_i h
      rw [h.2] at ih
      show val [] = x + 1000000 * val xs
      rw [← ih, h.1]; rfl
    · rw [val, val, ih]

theorem val_divN {d : Int} (hd : 0 < d) (a : List Int) : val (divN a d).1 * d + (divN a d).2 = val a := by
  show val (trimZ (divW d a).1) * d + (divW d a).2 = val a
  rw [val_trimZ]; exact val_divW hd a

theorem allW_of_limbs {xs : List Int} (h : limbs xs) : allW xs 0 999999 = true := allW_of h

theorem isNat_trim {xs : List Int} (h : limbs xs) (hl : xs.length ≤ 40) : isNat (trimZ xs) = true := by
  have h1 := trimZ_len xs
  unfold isNat
  rw [decide_eq_true (by omega), allW_of_limbs fun x hx => h x (trimZ_mem hx)]
  rcases trimZ_last xs with h2 | h2
  · rw [h2]; simp
  · rw [show ((trimZ xs)[(trimZ xs).length - 1]?.getD 0 != 0) = true from by simpa using h2]; simp

theorem val_pos : ∀ {xs : List Int}, limbs xs → xs ≠ [] → xs[xs.length - 1]?.getD 0 ≠ 0 → 0 < val xs
  | [x], h, _, hl => by
    have := h x (by simp)
    simp at hl
    simp [val]; omega
  | x :: y :: xs, h, _, hl => by
    have h1 := val_pos (xs := y :: xs) (fun z hz => h z (List.mem_cons_of_mem _ hz)) (by simp) (by simpa using hl)
    have h2 := h x (by simp)
    rw [val]; omega

def NatP (n : List Int) : Prop := limbs n ∧ n.length ≤ 40 ∧ 0 < val n ∧ isNat n = true

theorem isPos_NatP {n : List Int} (h : isPos n = true) : NatP n := by
  obtain ⟨h1, h2, h3⟩ := isPos_facts h
  have h4 : isNat n = true := by unfold isPos at h; simp at h; exact h.1
  refine ⟨h1, h2, ?_, h4⟩
  unfold isNat at h4
  simp only [Bool.and_eq_true, Bool.or_eq_true, beq_iff_eq, bne_iff_ne] at h4
  exact val_pos h1 (by intro e; subst e; simp at h3) (by rcases h4.2 with h5 | h5
                                                         · omega
                                                         · exact h5)

theorem NatP_pos {n : List Int} (h : NatP n) : 0 < n.length := by
  refine Nat.pos_of_ne_zero fun e => ?_
  have : n = [] := List.length_eq_zero_iff.1 e
  subst this
  exact absurd h.2.2.1 (by simp [val])

theorem pow6_two : ∀ n : Nat, (1000000 : Int) ^ n ≤ 2 ^ (20 * n)
  | 0 => by simp
  | n + 1 => by
    have ih := pow6_two n
    have h1 := pow_pos6 n
    have e1 : (1000000 : Int) ^ (n + 1) = 1000000 ^ n * 1000000 := Int.pow_succ _ _
    have e2 : (2 : Int) ^ (20 * (n + 1)) = 2 ^ (20 * n) * 1048576 := by
      rw [show 20 * (n + 1) = 20 * n + 20 from by omega, Int.pow_add]; rfl
    rw [e1, e2]
    generalize (1000000 : Int) ^ n = a at *
    generalize (2 : Int) ^ (20 * n) = b at *
    omega

theorem two_mono {m n : Nat} (h : m ≤ n) : (2 : Int) ^ m ≤ 2 ^ n := by
  obtain ⟨d, rfl⟩ := Nat.le.dest h
  rw [Int.pow_add]
  have h1 : (0 : Int) < 2 ^ m := Int.pow_pos (by decide)
  have h2 : (0 : Int) < 2 ^ d := Int.pow_pos (by decide)
  have : (2 : Int) ^ m * 1 ≤ 2 ^ m * 2 ^ d := Int.mul_le_mul_of_nonneg_left (by omega) (by omega)
  omega

theorem NatP_lt {n : List Int} (h : NatP n) : val n < 2 ^ (800 - 0) := by
  have h1 := (val_lt h.1).2
  have h2 := pow6_two n.length
  have h3 : (2 : Int) ^ (20 * n.length) ≤ 2 ^ (800 - 0) := two_mono (by have := h.2.1; omega)
  exact Int.lt_of_lt_of_le h1 (Int.le_trans h2 h3)

def valF : Nat → List Int → Int → Int
  | 0, _, _ => 0
  | g + 1, n, p => if (divN n p).2 = 0 then 1 + valF g (divN n p).1 p else 0

def valP (n : List Int) (p : Int) : Int := valF 800 n p

theorem valF_step {k : Nat} {y : List Int} {p : Int} (hk : k < 800) (h : (divN y p).2 = 0) : valF (800 - k) y p = 1 + valF (800 - (k + 1)) (divN y p).1 p := by
  rw [show 800 - k = (800 - (k + 1)) + 1 from by omega, valF, if_pos h]

theorem valF_stop {g : Nat} {y : List Int} {p : Int} (h : ¬ (divN y p).2 = 0) : valF g y p = 0 := by
  cases g with
  | zero => rfl
  | succ g => rw [valF, if_neg h]

theorem NatP_div {y : List Int} {p : Int} (hp : 2 ≤ p ∧ p ≤ 999999) (h : NatP y) (hr : (divN y p).2 = 0) : NatP (divN y p).1 ∧ 2 * val (divN y p).1 ≤ val y := by
  have h1 := val_divN (by omega : 0 < p) y
  rw [hr] at h1
  have h2 := divN_limbs (by omega : 0 < p) h.1
  have h3 := divN_len y p
  have h4 := val_lt h2
  have h5 : 0 < val (divN y p).1 := by
    refine Classical.byContradiction fun hn => ?_
    have h0 : val (divN y p).1 = 0 := by omega
    rw [h0] at h1
    have := h.2.2.1
    omega
  refine ⟨⟨h2, by have := h.2.1; omega, h5, isNat_trim (divW_limbs (by omega) h.1) (by rw [divW_len]; exact h.2.1)⟩, ?_⟩
  have : val (divN y p).1 * 2 ≤ val (divN y p).1 * p := Int.mul_le_mul_of_nonneg_left hp.1 (by omega)
  omega

theorem val_step {k : Nat} {y : List Int} {p : Int} (hp : 2 ≤ p ∧ p ≤ 999999) (h : NatP y) (hv : val y < 2 ^ (800 - k)) (hr : (divN y p).2 = 0) : k < 800 ∧ NatP (divN y p).1 ∧ val (divN y p).1 < 2 ^ (800 - (k + 1)) := by
  have h1 := NatP_div hp h hr
  have hk : k < 800 := by
    refine Classical.byContradiction fun hn => ?_
    rw [show 800 - k = 0 from by omega] at hv
    have := h.2.2.1
    simp at hv; omega
  refine ⟨hk, h1.1, ?_⟩
  rw [show 800 - k = (800 - (k + 1)) + 1 from by omega, Int.pow_succ] at hv
  omega

def valuationOf (n : List Int) (p : Int) : Int × Int := if isNat n = true then (if 0 < n.length ∧ 2 ≤ p ∧ p ≤ 999999 then (valP n p, 0) else (0, 2)) else (0, 1)

/-- No divisor from d on. -/
def noDiv (n d : Int) : Nat → Bool
  | 0 => true
  | g + 1 => if d * d ≤ n then (if n % d = 0 then false else noDiv n (d + 1) g) else true

def primeB (n : Int) : Bool := noDiv n 2 2000 && decide (2 ≤ n)

theorem sq_le {d n : Int} (hd : 0 ≤ d) (hn : n ≤ 999999) (h : d * d ≤ n) : d ≤ 999 := by
  refine Classical.byContradiction fun hc => ?_
  have : 1000 * 1000 ≤ d * d := Int.mul_le_mul (by omega) (by omega) (by omega) hd
  omega

theorem sq_bd {d : Int} (hd : 0 ≤ d ∧ d ≤ 2000) : 0 ≤ d * d ∧ d * d ≤ 4000000 :=
  ⟨Int.mul_nonneg hd.1 hd.1, Int.mul_le_mul hd.2 hd.2 hd.1 (by omega)⟩

theorem noDiv_eq (n d : Int) {f g : Nat} (hf : f = g + 1) : noDiv n d f = if d * d ≤ n then (if n % d = 0 then false else noDiv n (d + 1) g) else true := by subst hf; rfl

set_option maxRecDepth 100000 in
set_option maxHeartbeats 4000000 in
theorem impl_ValuationOf (A0 : Option Addr) (c0 : Nat) (a0 : (List Int)) (a1 : Int) (w : World) (h0 : Sl eInt w (Old w) A0 c0 a0) :
    Calls Tryz.prog 59 #[.slice A0 a0.length c0, .int .i64 a1] w fun e w' => e = .returned (.tuple #[.int .i64 (valuationOf a0 a1).1, .int .i64 (valuationOf a0 a1).2]) ∧ Below w.heap.size w w' := by
  have l0 := h0.len
  have HH1 := Held.start Nob w
  refine enter (n := 32) Tryz.func59 rfl rfl rfl fun a_2 HE3 => ?_
  refine wp_seq ?_
  refine rg ?_
  refine pl_x HE3 HH1 (wt0 rfl) (x_assign rfl) rfl rfl fun a_4 HE5 => ?_
  refine pl_x HE5 HH1 (wt0 rfl) (x_assign rfl) rfl rfl fun a_6 HE7 => ?_
  refine wpList_nil ?_
  clear a_2 HE3 a_4 HE5
  refine nrm ?_
  refine wp_seq ?_
  refine wp_seq ?_
  refine rg ?_
  refine pl_x HE7 HH1 (wt0 rfl) (x_move rfl) rfl rfl fun a_8 HE9 => ?_
  refine pl fun K_10 hK11 => ?_
  refine st_call HE9 (wt0 rfl) rfl rfl rfl en_41 rfl rfl (impl_IsNatural _ _ a0 _ (HH1.old h0)) fun e w' hr => ?_
  obtain ⟨rfl, rfl⟩ := hr
  refine ⟨_, rfl, fun a_12 HE13 => hK11 _ _ ?_⟩
  refine pl_x HE13 HH1 (wt0 rfl) (x_not rfl) rfl rfl fun a_14 HE15 => ?_
  refine wpList_nil ?_
  clear a_6 HE7 a_8 HE9 a_12 HE13 hK11 K_10
  refine nrm ?_
  refine cnd_nb HE15 rfl (fun hc22 => ?_) (fun hc22 => ?_)
  · refine wp_seq ?_
    refine rg ?_
    refine pl_x HE15 HH1 (wt0 rfl) (x_assign rfl) rfl rfl fun a_16 HE17 => ?_
    refine pl_x HE17 HH1 (wt0 rfl) (x_assign rfl) rfl rfl fun a_18 HE19 => ?_
    refine wpList_nil ?_
    clear a_14 HE15 a_16 HE17
    refine nrm ?_
    refine wp_ret ?_
    refine (thn_ret ?_)
    refine ret2 HE19 rfl (rv_tmp rfl) (rv_tmp rfl) ?_
    have hF : (valuationOf a0 a1) = (0, 1) := by
      first | (simp [valuationOf, hc22]; done) | (unfold valuationOf; rw [if_pos ‹_›, if_neg (by grind [withinB])]; done) | (unfold valuationOf; rw [if_pos ‹_›, if_pos (by omega), p0_3, valF_stop (by omega)]; simp)
    exact ⟨by first | (rw [hF] <;> rfl) | rfl | (rw [hF]; simp only [Ending.returned.injEq, Value.slice.injEq, true_and, and_true]; first | omega | (simp; done)) | (rw [hF]; simp; omega), HH1.below⟩
  · refine wp_skip ?_
    refine nrm ?_
    refine wp_seq ?_
    refine wp_seq ?_
    refine rg ?_
    refine pl_x HE15 HH1 (wt0 rfl) (x_move rfl) rfl rfl fun a_20 HE21 => ?_
    refine pl_x HE21 HH1 (wt0 rfl) (x_len Tryz.underlying25 rfl) rfl rfl fun a_22 HE23 => ?_
    refine pl_x HE23 HH1 (wt0 rfl) (x_eql rfl rfl) rfl rfl fun a_24 HE25 => ?_
    refine pl_x HE25 HH1 (wt0 rfl) (x_move rfl) rfl rfl fun a_26 HE27 => ?_
    by_cases hc23 : (a0.length : Int) = 0
    · refine pl_no HE27 (wtF HE27 rfl rfl rfl (beq_t hc23)) rfl rfl fun a_28 HE29 => ?_
      refine pl_no HE29 (wtF HE29 rfl rfl rfl (beq_t hc23)) rfl rfl fun a_30 HE31 => ?_
      refine pl_no HE31 (wtF HE31 rfl rfl rfl (beq_t hc23)) rfl rfl fun a_32 HE33 => ?_
      refine pl_x HE33 HH1 (wt0 rfl) (x_pickT rfl (beq_t hc23) rfl) rfl rfl fun a_34 HE35 => ?_
      refine wpList_nil ?_
      clear a_14 HE15 a_20 HE21 a_22 HE23 a_24 HE25 a_26 HE27 a_28 HE29 a_30 HE31 a_32 HE33
      refine nrm ?_
      refine cndT HE35 rfl rfl ?_
      refine wp_seq ?_
      refine rg ?_
      refine pl_x HE35 HH1 (wt0 rfl) (x_assign rfl) rfl rfl fun a_36 HE37 => ?_
      refine pl_x HE37 HH1 (wt0 rfl) (x_assign rfl) rfl rfl fun a_38 HE39 => ?_
      refine wpList_nil ?_
      clear a_34 HE35 a_36 HE37
      refine nrm ?_
      refine wp_ret ?_
      refine (thn_ret ?_)
      refine ret2 HE39 rfl (rv_tmp rfl) (rv_tmp rfl) ?_
      have hF : (valuationOf a0 a1) = (0, 2) := by
        first | (simp [valuationOf, hc22, hc23]; done) | (unfold valuationOf; rw [if_pos ‹_›, if_neg (by grind [withinB])]; done) | (unfold valuationOf; rw [if_pos ‹_›, if_pos (by omega), p0_3, valF_stop (by omega)]; simp)
      exact ⟨by first | (rw [hF] <;> rfl) | rfl | (rw [hF]; simp only [Ending.returned.injEq, Value.slice.injEq, true_and, and_true]; first | omega | (simp; done)) | (rw [hF]; simp; omega), HH1.below⟩
    · refine pl_x HE27 HH1 (wtT HE27 rfl rfl rfl (beq_f hc23)) (x_move rfl) rfl rfl fun a_40 HE41 => ?_
      refine pl fun K_42 hK43 => ?_
      refine st_call HE41 (wtT HE41 rfl rfl rfl (beq_f hc23)) rfl rfl rfl en_42 rfl rfl (impl_within a1 2 999999 _ ) fun e w' hr => ?_
      obtain ⟨rfl, rfl⟩ := hr
      refine ⟨_, rfl, fun a_44 HE45 => hK43 _ _ ?_⟩
      refine pl_x HE45 HH1 (wtT HE45 rfl rfl rfl (beq_f hc23)) (x_not rfl) rfl rfl fun a_46 HE47 => ?_
      refine pl_x HE47 HH1 (wt0 rfl) (x_pickF rfl (beq_f hc23) rfl) rfl rfl fun a_48 HE49 => ?_
      refine wpList_nil ?_
      clear a_14 HE15 a_20 HE21 a_22 HE23 a_24 HE25 a_26 HE27 a_40 HE41 a_44 HE45 a_46 HE47 hK43 K_42
      refine nrm ?_
      refine cnd_nb HE49 rfl (fun hc25 => ?_) (fun hc25 => ?_)
      · refine wp_seq ?_
        refine rg ?_
        refine pl_x HE49 HH1 (wt0 rfl) (x_assign rfl) rfl rfl fun a_50 HE51 => ?_
        refine pl_x HE51 HH1 (wt0 rfl) (x_assign rfl) rfl rfl fun a_52 HE53 => ?_
        refine wpList_nil ?_
        clear a_48 HE49 a_50 HE51
        refine nrm ?_
        refine wp_ret ?_
        refine (thn_ret ?_)
        refine ret2 HE53 rfl (rv_tmp rfl) (rv_tmp rfl) ?_
        have hF : (valuationOf a0 a1) = (0, 2) := by
          first | (simp [valuationOf, hc22, hc23, hc25]; done) | (unfold valuationOf; rw [if_pos ‹_›, if_neg (by grind [withinB])]; done) | (unfold valuationOf; rw [if_pos ‹_›, if_pos (by omega), p0_3, valF_stop (by omega)]; simp)
        exact ⟨by first | (rw [hF] <;> rfl) | rfl | (rw [hF]; simp only [Ending.returned.injEq, Value.slice.injEq, true_and, and_true]; first | omega | (simp; done)) | (rw [hF]; simp; omega), HH1.below⟩
      · have hp := withinB_true.1 hc25
        have hN := isPos_NatP (n := a0) (by unfold isPos; simp [*]; omega)
        refine wp_skip ?_
        refine nrm ?_
        refine wp_seq ?_
        refine rg ?_
        refine pl_x HE49 HH1 (wt0 rfl) (x_assign rfl) rfl rfl fun a_54 HE55 => ?_
        refine wpList_nil ?_
        clear a_48 HE49
        refine nrm ?_
        refine wp_block ?_
        have HH56 := HH1.noIf (p := False) (rSo eInt Nob A0 c0 a0) id
        refine lp (fun m a w' => ∃ (k : Nat) (y : List Int) (A_0 : Option Addr) (c_0 : Nat) (S_0 : Nat → Prop) (P_0 : Prop), m = 800 - k ∧ Env 32 [(0, .slice A_0 (List.length y) c_0), (6, .int .i64 (k : Int)), (1, .int .i64 (a1))] a ∧ Held Nob w [rIf (P_0) (rSo eInt S_0 A_0 c_0 y)] w' ∧ (k ≤ 800) ∧ (NatP y) ∧ (val y < 2 ^ (800 - k)) ∧ (valP a0 a1 = k + valF (800 - k) y a1) ∧ (P_0 ∨ Sl eInt w (Old w) A_0 c_0 y)) (800 - (0)) ?_ ?_
        · exact ⟨0, a0, A0, c0, Nob, False, rfl, HE55.sub ⟨rfl, (lkI rfl (by first | rfl | omega | (simp [hc22, hc23, hc25]; done))), rfl, trivial⟩, (HH56.sel [0] (by decide) rfl), (by first | omega | assumption | (simp; done) | simp_all), (by exact hN), (by exact NatP_lt hN), (by unfold valP; simp), (.inr h0)⟩
        · rintro m a_57 w' ⟨k, y, A_0, c_0, S_0, P_0, rfl, HE58, HH59, p26_0, p26_1, p26_2, p26_3, ho_0⟩
          rcases ho_0 with ho_0 | ho_0
          · have HH60 := HH59.ofIf ho_0
            have hy := p26_1
            obtain ⟨hy1, hy2, hy3, hy4⟩ := hy
            refine wp_seq ?_
            refine wp_block ?_
            refine wp_seq ?_
            refine rg ?_
            refine pl_x HE58 HH60 (wt0 rfl) (x_move rfl) rfl rfl fun a_61 HE62 => ?_
            refine pl_x HE62 HH60 (wt0 rfl) (x_move rfl) rfl rfl fun a_63 HE64 => ?_
            refine pl fun K_65 hK66 => ?_
            refine st_call HE64 (wt0 rfl) rfl rfl rfl en_60 rfl rfl (impl_divideSmall _ _ y a1 _ (HH60.sl (i := 0) rfl) (by first | assumption | exact mulN_limbs _ _) (by omega) (by first | omega | exact Nat.le_trans (mulN_len (by assumption) (by intro x hx; simp at hx; omega)) (by simp; omega))) fun e w' hr => ?_
            obtain ⟨Ar27_0, cr27_0, rfl, hor27_0, hbr27⟩ := hr
            obtain ⟨Sr27, HH67⟩ := HH60.newS hbr27 hor27_0
            refine ⟨_, rfl, fun a_68 HE69 => hK66 _ _ ?_⟩
            refine pl_x HE69 HH67 (wt0 rfl) (x_move rfl) rfl rfl fun a_70 HE71 => ?_
            refine pl_x HE71 HH67 (wt0 rfl) (x_extract rfl rfl) rfl rfl fun a_72 HE73 => ?_
            refine pl_x HE73 HH67 (wt0 rfl) (x_extract rfl rfl) rfl rfl fun a_74 HE75 => ?_
            refine pl_x HE75 HH67 (wt0 rfl) (x_assign rfl) rfl rfl fun a_76 HE77 => ?_
            refine pl_x HE77 HH67 (wt0 rfl) (x_assign rfl) rfl rfl fun a_78 HE79 => ?_
            refine wpList_nil ?_
            clear HH1 a_54 HE55 HH56 HH59 a_57 HE58 a_61 HE62 HH60 a_63 HE64 a_68 HE69 a_70 HE71 a_72 HE73 a_74 HE75 a_76 HE77 hK66 K_65
            refine nrm ?_
            refine wp_seq ?_
            refine wp_seq ?_
            refine rg ?_
            refine pl_x HE79 HH67 (wt0 rfl) (x_move rfl) rfl rfl fun a_80 HE81 => ?_
            refine pl_x HE81 HH67 (wt0 rfl) (x_neq rfl rfl) rfl rfl fun a_82 HE83 => ?_
            refine wpList_nil ?_
            clear a_78 HE79 a_80 HE81
            refine nrm ?_
            refine cnd_ne HE83 rfl (fun hc28 => ?_) (fun hc28 => ?_)
            · refine wp_seq ?_
              refine rg ?_
              refine pl_x HE83 HH67 (wt0 rfl) (x_move rfl) rfl rfl fun a_84 HE85 => ?_
              refine pl_x HE85 HH67 (wt0 rfl) (x_assign rfl) rfl rfl fun a_86 HE87 => ?_
              refine pl_x HE87 HH67 (wt0 rfl) (x_assign rfl) rfl rfl fun a_88 HE89 => ?_
              refine wpList_nil ?_
              clear a_82 HE83 a_84 HE85 a_86 HE87
              refine nrm ?_
              refine wp_ret ?_
              refine (thn_ret (blk_ret (thn_ret (thn_ret (blk_ret ?_)))))
              refine ret2 HE89 rfl (rv_tmp rfl) (rv_tmp rfl) ?_
              have hF : (valuationOf a0 a1) = ((k : Int), 0) := by
                first | (simp [valuationOf, hc22, hc23, hc25, p26_0, p26_1, p26_2, p26_3, hc28]; done) | (unfold valuationOf; rw [if_pos ‹_›, if_neg (by grind [withinB])]; done) | (unfold valuationOf; rw [if_pos ‹_›, if_pos (by omega), p26_3, valF_stop (by omega)]; simp)
              exact ⟨by first | (rw [hF] <;> rfl) | rfl | (rw [hF]; simp only [Ending.returned.injEq, Value.slice.injEq, true_and, and_true]; first | omega | (simp; done)) | (rw [hF]; simp; omega), HH67.below⟩
            · refine wp_skip ?_
              refine nrm ?_
              refine rg ?_
              refine pl_x HE83 HH67 (wt0 rfl) (x_move rfl) rfl rfl fun a_90 HE91 => ?_
              refine pl_x HE91 HH67 (wt0 rfl) (x_assign rfl) rfl rfl fun a_92 HE93 => ?_
              refine wpList_nil ?_
              clear a_82 HE83 a_90 HE91
              refine blk_n ?_
              refine nrm ?_
              refine rg ?_
              refine pl_x HE93 HH67 (wt0 rfl) (x_move rfl) rfl rfl fun a_94 HE95 => ?_
              refine pl_x HE95 HH67 (wt0 rfl) (x_add rfl rfl (by exact ⟨by omega, by omega⟩)) rfl rfl fun a_96 HE97 => ?_
              refine pl_x HE97 HH67 (wt0 rfl) (x_assign rfl) rfl rfl fun a_98 HE99 => ?_
              refine wpList_nil ?_
              clear a_92 HE93 a_94 HE95 a_96 HE97
              have HH100 := HH67.toIf True
              have E29 : ((divN y a1).1) = (divN y a1).1 := by
                first | rfl | simp
              exact nrm ⟨800 - (k + 1), (by have := val_step hp p26_1 p26_2 (by omega); omega), k + 1, (divN y a1).1, Ar27_0, cr27_0, Sr27, True, rfl, HE99.sub ⟨(by rw [E29]; rfl), (lkI rfl (by first | rfl | omega | (simp [hc22, hc23, hc25, p26_0, p26_1, p26_2, p26_3, hc28]; done))), rfl, trivial⟩, ((HH100.sel [0] (by decide) rfl).to (by first | rfl | (rw [E29]; done) | (rw [E29]; rfl) | (simp only [E29]; done) | (simp only [E29]; rfl) | (rw [E29]; simp only [List.length_set]; done))), (by have := val_step hp p26_1 p26_2 (by omega); omega), (by exact (val_step hp p26_1 p26_2 (by omega)).2.1), (by exact (val_step hp p26_1 p26_2 (by omega)).2.2), (by rw [p26_3, valF_step (val_step hp p26_1 p26_2 (by omega)).1 (by omega)]; omega), (by first | exact .inl trivial | (rw [E29]; exact .inl trivial))⟩
          · have HH101 := HH59.sel [] (by decide) rfl
            have hy := p26_1
            obtain ⟨hy1, hy2, hy3, hy4⟩ := hy
            refine wp_seq ?_
            refine wp_block ?_
            refine wp_seq ?_
            refine rg ?_
            refine pl_x HE58 HH101 (wt0 rfl) (x_move rfl) rfl rfl fun a_102 HE103 => ?_
            refine pl_x HE103 HH101 (wt0 rfl) (x_move rfl) rfl rfl fun a_104 HE105 => ?_
            refine pl fun K_106 hK107 => ?_
            refine st_call HE105 (wt0 rfl) rfl rfl rfl en_60 rfl rfl (impl_divideSmall _ _ y a1 _ (HH101.old ho_0) (by first | assumption | exact mulN_limbs _ _) (by omega) (by first | omega | exact Nat.le_trans (mulN_len (by assumption) (by intro x hx; simp at hx; omega)) (by simp; omega))) fun e w' hr => ?_
            obtain ⟨Ar30_0, cr30_0, rfl, hor30_0, hbr30⟩ := hr
            obtain ⟨Sr30, HH108⟩ := HH101.newS hbr30 hor30_0
            refine ⟨_, rfl, fun a_109 HE110 => hK107 _ _ ?_⟩
            refine pl_x HE110 HH108 (wt0 rfl) (x_move rfl) rfl rfl fun a_111 HE112 => ?_
            refine pl_x HE112 HH108 (wt0 rfl) (x_extract rfl rfl) rfl rfl fun a_113 HE114 => ?_
            refine pl_x HE114 HH108 (wt0 rfl) (x_extract rfl rfl) rfl rfl fun a_115 HE116 => ?_
            refine pl_x HE116 HH108 (wt0 rfl) (x_assign rfl) rfl rfl fun a_117 HE118 => ?_
            refine pl_x HE118 HH108 (wt0 rfl) (x_assign rfl) rfl rfl fun a_119 HE120 => ?_
            refine wpList_nil ?_
            clear HH1 a_54 HE55 HH56 HH59 a_57 HE58 a_102 HE103 HH101 a_104 HE105 a_109 HE110 a_111 HE112 a_113 HE114 a_115 HE116 a_117 HE118 hK107 K_106
            refine nrm ?_
            refine wp_seq ?_
            refine wp_seq ?_
            refine rg ?_
            refine pl_x HE120 HH108 (wt0 rfl) (x_move rfl) rfl rfl fun a_121 HE122 => ?_
            refine pl_x HE122 HH108 (wt0 rfl) (x_neq rfl rfl) rfl rfl fun a_123 HE124 => ?_
            refine wpList_nil ?_
            clear a_119 HE120 a_121 HE122
            refine nrm ?_
            refine cnd_ne HE124 rfl (fun hc31 => ?_) (fun hc31 => ?_)
            · refine wp_seq ?_
              refine rg ?_
              refine pl_x HE124 HH108 (wt0 rfl) (x_move rfl) rfl rfl fun a_125 HE126 => ?_
              refine pl_x HE126 HH108 (wt0 rfl) (x_assign rfl) rfl rfl fun a_127 HE128 => ?_
              refine pl_x HE128 HH108 (wt0 rfl) (x_assign rfl) rfl rfl fun a_129 HE130 => ?_
              refine wpList_nil ?_
              clear a_123 HE124 a_125 HE126 a_127 HE128
              refine nrm ?_
              refine wp_ret ?_
              refine (thn_ret (blk_ret (thn_ret (thn_ret (blk_ret ?_)))))
              refine ret2 HE130 rfl (rv_tmp rfl) (rv_tmp rfl) ?_
              have hF : (valuationOf a0 a1) = ((k : Int), 0) := by
                first | (simp [valuationOf, hc22, hc23, hc25, p26_0, p26_1, p26_2, p26_3, hc31]; done) | (unfold valuationOf; rw [if_pos ‹_›, if_neg (by grind [withinB])]; done) | (unfold valuationOf; rw [if_pos ‹_›, if_pos (by omega), p26_3, valF_stop (by omega)]; simp)
              exact ⟨by first | (rw [hF] <;> rfl) | rfl | (rw [hF]; simp only [Ending.returned.injEq, Value.slice.injEq, true_and, and_true]; first | omega | (simp; done)) | (rw [hF]; simp; omega), HH108.below⟩
            · refine wp_skip ?_
              refine nrm ?_
              refine rg ?_
              refine pl_x HE124 HH108 (wt0 rfl) (x_move rfl) rfl rfl fun a_131 HE132 => ?_
              refine pl_x HE132 HH108 (wt0 rfl) (x_assign rfl) rfl rfl fun a_133 HE134 => ?_
              refine wpList_nil ?_
              clear a_123 HE124 a_131 HE132
              refine blk_n ?_
              refine nrm ?_
              refine rg ?_
              refine pl_x HE134 HH108 (wt0 rfl) (x_move rfl) rfl rfl fun a_135 HE136 => ?_
              refine pl_x HE136 HH108 (wt0 rfl) (x_add rfl rfl (by exact ⟨by omega, by omega⟩)) rfl rfl fun a_137 HE138 => ?_
              refine pl_x HE138 HH108 (wt0 rfl) (x_assign rfl) rfl rfl fun a_139 HE140 => ?_
              refine wpList_nil ?_
              clear a_133 HE134 a_135 HE136 a_137 HE138
              have HH141 := HH108.toIf True
              have E32 : ((divN y a1).1) = (divN y a1).1 := by
                first | rfl | simp
              exact nrm ⟨800 - (k + 1), (by have := val_step hp p26_1 p26_2 (by omega); omega), k + 1, (divN y a1).1, Ar30_0, cr30_0, Sr30, True, rfl, HE140.sub ⟨(by rw [E32]; rfl), (lkI rfl (by first | rfl | omega | (simp [hc22, hc23, hc25, p26_0, p26_1, p26_2, p26_3, hc31]; done))), rfl, trivial⟩, ((HH141.sel [0] (by decide) rfl).to (by first | rfl | (rw [E32]; done) | (rw [E32]; rfl) | (simp only [E32]; done) | (simp only [E32]; rfl) | (rw [E32]; simp only [List.length_set]; done))), (by have := val_step hp p26_1 p26_2 (by omega); omega), (by exact (val_step hp p26_1 p26_2 (by omega)).2.1), (by exact (val_step hp p26_1 p26_2 (by omega)).2.2), (by rw [p26_3, valF_step (val_step hp p26_1 p26_2 (by omega)).1 (by omega)]; omega), (by first | exact .inl trivial | (rw [E32]; exact .inl trivial))⟩

set_option maxRecDepth 100000 in
set_option maxHeartbeats 4000000 in
theorem impl_isPrime (a0 : Int) (w : World) (s0 : -9223372036854775808 ≤ a0 ∧ a0 ≤ 999999) :
    Calls Tryz.prog 57 #[.int .i64 a0] w fun e w' => e = .returned (.bool (primeB a0)) ∧ Below w.heap.size w w' := by
  have HH1 := Held.start Nob w
  refine enter (n := 17) Tryz.func57 rfl rfl rfl fun a_2 HE3 => ?_
  refine wp_seq ?_
  refine rg ?_
  refine pl_x HE3 HH1 (wt0 rfl) (x_assign rfl) rfl rfl fun a_4 HE5 => ?_
  refine wpList_nil ?_
  clear a_2 HE3
  refine nrm ?_
  refine wp_seq ?_
  refine wp_seq ?_
  refine rg ?_
  refine pl_x HE5 HH1 (wt0 rfl) (x_assign rfl) rfl rfl fun a_6 HE7 => ?_
  refine wpList_nil ?_
  clear a_4 HE5
  refine nrm ?_
  refine wp_block ?_
  refine lp (fun m a w' => ∃ (k : Nat), m = 1000 - k ∧ Env 17 [(3, .int .i64 ((k : Int) + 2)), (0, .int .i64 (a0))] a ∧ Held Nob w [] w' ∧ ((k : Int) ≤ 999) ∧ (noDiv a0 2 2000 = noDiv a0 ((k : Int) + 2) (2000 - k))) (1000 - (0)) ?_ ?_
  · exact ⟨0, rfl, HE7.sub ⟨(lkI rfl (by first | rfl | omega | (simp []; done))), rfl, trivial⟩, (HH1.sel [] (by decide) rfl), (by first | omega | assumption | (simp; done) | simp_all), (by rfl)⟩
  · rintro m a_8 w' ⟨k, rfl, HE9, HH10, p21_0, p21_1⟩
    have hsq := sq_bd (d := (k : Int) + 2) (by omega)
    have heq := noDiv_eq a0 ((k : Int) + 2) (f := 2000 - k) (g := 2000 - (k + 1)) (by omega)
    refine wp_seq ?_
    refine wp_seq ?_
    refine rg ?_
    refine pl_x HE9 HH10 (wt0 rfl) (x_move rfl) rfl rfl fun a_11 HE12 => ?_
    refine pl_x HE12 HH10 (wt0 rfl) (x_move rfl) rfl rfl fun a_13 HE14 => ?_
    refine pl_x HE14 HH10 (wt0 rfl) (x_mul rfl rfl (by exact ⟨by omega, by omega⟩)) rfl rfl fun a_15 HE16 => ?_
    refine pl_x HE16 HH10 (wt0 rfl) (x_move rfl) rfl rfl fun a_17 HE18 => ?_
    refine pl_x HE18 HH10 (wt0 rfl) (x_leq rfl rfl) rfl rfl fun a_19 HE20 => ?_
    refine wpList_nil ?_
    clear a_6 HE7 HH1 a_8 HE9 a_11 HE12 a_13 HE14 a_15 HE16 a_17 HE18
    refine nrm ?_
    refine cnd_d HE20 rfl (fun hc22 => ?_) (fun hc22 => ?_)
    · refine wp_skip ?_
      refine nrm ?_
      refine wp_seq ?_
      refine wp_block ?_
      refine wp_seq ?_
      refine rg ?_
      refine pl_x HE20 HH10 (wt0 rfl) (x_move rfl) rfl rfl fun a_21 HE22 => ?_
      refine pl_x HE22 HH10 (wt0 rfl) (x_move rfl) rfl rfl fun a_23 HE24 => ?_
      refine pl_x HE24 HH10 (wt0 rfl) (x_rem rfl rfl (by omega) (by omega)) rfl rfl fun a_25 HE26 => ?_
      refine pl_x HE26 HH10 (wt0 rfl) (x_eql rfl rfl) rfl rfl fun a_27 HE28 => ?_
      refine wpList_nil ?_
      clear a_19 HE20 a_21 HE22 a_23 HE24 a_25 HE26
      refine nrm ?_
      refine cnd_e HE28 rfl (fun hc23 => ?_) (fun hc23 => ?_)
      · refine wp_seq ?_
        refine rg ?_
        refine pl_x HE28 HH10 (wt0 rfl) (x_assign rfl) rfl rfl fun a_29 HE30 => ?_
        refine wpList_nil ?_
        clear a_27 HE28
        refine nrm ?_
        refine wp_ret ?_
        refine (blk_ret (thn_ret (thn_ret (blk_ret (thn_ret ?_)))))
        refine ret1 HE30 rfl (rv_tmp rfl) ?_
        have hF : (primeB a0) = false := by
          first | (unfold primeB; rw [p21_1, heq, if_pos (by omega), if_pos (by omega)]; rfl) | (unfold primeB; rw [p21_1, heq, if_neg (by omega)]; simp; done) | (unfold primeB; rw [p21_1, heq, if_neg (by omega)]; simp; omega) | (unfold primeB; rw [decide_eq_false (by omega)]; simp)
        exact ⟨by first | (rw [hF] <;> rfl) | rfl | (rw [hF]; simp only [Ending.returned.injEq, Value.slice.injEq, true_and, and_true]; first | omega | (simp; done)) | (rw [hF]; simp; omega), HH10.below⟩
      · refine wp_skip ?_
        refine blk_n ?_
        refine nrm ?_
        refine rg ?_
        refine pl_x HE28 HH10 (wt0 rfl) (x_move rfl) rfl rfl fun a_31 HE32 => ?_
        refine pl_x HE32 HH10 (wt0 rfl) (x_add rfl rfl (by exact ⟨by omega, by omega⟩)) rfl rfl fun a_33 HE34 => ?_
        refine pl_x HE34 HH10 (wt0 rfl) (x_assign rfl) rfl rfl fun a_35 HE36 => ?_
        refine wpList_nil ?_
        clear a_27 HE28 a_31 HE32 a_33 HE34
        exact nrm ⟨1000 - (k + 1), (by omega), k + 1, rfl, HE36.sub ⟨(lkI rfl (by first | rfl | omega | (simp [p21_0, p21_1, hc22, hc23]; done))), rfl, trivial⟩, (HH10.sel [] (by decide) rfl), (by have := sq_le (d := (k : Int) + 2) (n := a0) (by omega) (by omega) (by omega); omega), (by rw [p21_1, heq, if_pos (by omega), if_neg (by omega), show (((k + 1 : Nat) : Int) + 2) = (k : Int) + 2 + 1 from by omega])⟩
    · refine wp_exit ?_
      refine (thn_exit (thn_exit (blk_hit ?_)))
      refine nrm ?_
      refine wp_seq ?_
      refine rg ?_
      refine pl_x HE20 HH10 (wt0 rfl) (x_move rfl) rfl rfl fun a_37 HE38 => ?_
      refine pl_x HE38 HH10 (wt0 rfl) (x_geq rfl rfl) rfl rfl fun a_39 HE40 => ?_
      refine pl_x HE40 HH10 (wt0 rfl) (x_assign rfl) rfl rfl fun a_41 HE42 => ?_
      refine wpList_nil ?_
      clear a_19 HE20 a_37 HE38 a_39 HE40
      refine nrm ?_
      refine wp_ret ?_
      refine ret1 HE42 rfl (rv_tmp rfl) ?_
      have hF : (primeB a0) = decide (2 ≤ a0) := by
        first | (unfold primeB; rw [p21_1, heq, if_pos (by omega), if_pos (by omega)]; rfl) | (unfold primeB; rw [p21_1, heq, if_neg (by omega)]; simp; done) | (unfold primeB; rw [p21_1, heq, if_neg (by omega)]; simp; omega) | (unfold primeB; rw [decide_eq_false (by omega)]; simp)
      exact ⟨by first | (rw [hF] <;> rfl) | rfl | (rw [hF]; simp only [Ending.returned.injEq, Value.slice.injEq, true_and, and_true]; first | omega | (simp; done)) | (rw [hF]; simp; omega), HH10.below⟩

def valPc (n : List Int) (p : Int) : Int × Int := (valP n p, 0)

theorem impl_ValuationOfN (A : Option Addr) (c : Nat) (n : List Int) (p : Int) (w : World) (h : Sl eInt w (Old w) A c n) (hN : NatP n) (hp : 2 ≤ p ∧ p ≤ 999999) :
    Calls Tryz.prog 59 #[.slice A n.length c, .int .i64 p] w fun e w' => e = .returned (.tuple #[.int .i64 (valPc n p).1, .int .i64 (valPc n p).2]) ∧ Below w.heap.size w w' := by
  have h1 := impl_ValuationOf A c n p w h
  have h2 : valuationOf n p = valPc n p := by
    unfold valuationOf valPc
    rw [if_pos hN.2.2.2, if_pos ⟨NatP_pos hN, hp⟩]
  rwa [h2] at h1

def divE (p : Int) : Nat → List Int → List Int
  | 0, n => n
  | e + 1, n => divE p e (divN n p).1

theorem divE_snoc (p : Int) : ∀ (e : Nat) (n : List Int), divE p (e + 1) n = (divN (divE p e n) p).1
  | 0, _ => rfl
  | e + 1, n => by rw [divE, divE_snoc p e, divE]

theorem NatP_divE {p : Int} (hp : 2 ≤ p ∧ p ≤ 999999) : ∀ (g : Nat) (y : List Int) (j : Nat), NatP y → (j : Int) ≤ valF g y p → NatP (divE p j y)
  | _, y, 0, h, _ => h
  | 0, y, j + 1, h, hj => by rw [valF] at hj; omega
  | g + 1, y, j + 1, h, hj => by
    rw [valF] at hj
    split at hj
    · rename_i hr
      rw [divE]
      exact NatP_divE hp g _ j (NatP_div hp h hr).1 (by omega)
    · omega

theorem valF_bd (p : Int) : ∀ (g : Nat) (y : List Int), 0 ≤ valF g y p ∧ valF g y p ≤ g
  | 0, _ => by simp [valF]
  | g + 1, y => by
    have := valF_bd p g (divN y p).1
    rw [valF]
    split <;> omega

def expS (s : List Int × List Int) (p : Int) : List Int × List Int := (s.1 ++ [valP s.2 p], divE p (valP s.2 p).toNat s.2)

def expTo (ps : List Int) (n : List Int) : List Int × List Int := ps.foldl expS ([], n)

theorem expTo_succ {ps : List Int} {n : List Int} {k : Nat} (h : k < ps.length) : expTo (ps.take (k + 1)) n = expS (expTo (ps.take k) n) ps[k] := by
  unfold expTo
  rw [List.take_succ_eq_append_getElem h, List.foldl_append]; rfl

theorem expTo_len {n : List Int} : ∀ (k : Nat) {ps : List Int}, k ≤ ps.length → (expTo (ps.take k) n).1.length = k
  | 0, _, _ => rfl
  | k + 1, ps, h => by
    rw [expTo_succ (by omega), expS, List.length_append, expTo_len k (by omega)]; rfl

theorem NatP_exp {n : List Int} {ps : List Int} (hn : NatP n) (hp : ∀ p ∈ ps, 2 ≤ p ∧ p ≤ 999999) : ∀ k, k ≤ ps.length → NatP (expTo (ps.take k) n).2
  | 0, _ => hn
  | k + 1, h => by
    rw [expTo_succ (by omega)]
    have h1 := valF_bd ps[k] 800 (expTo (ps.take k) n).2
    exact NatP_divE (hp _ (List.getElem_mem _)) 800 _ _ (NatP_exp hn hp k (by omega)) (by show ((valF 800 _ _).toNat : Int) ≤ _; omega)

def risesB (xs : List Int) (lo hi : Int) : Bool := risB xs && allW xs lo hi

def notP (p : Int) : Bool := !primeB p

def expsAt (n ps : List Int) : List Int × List Int × Int :=
  if isPos n = true then (if ps.length ≤ 64 ∧ risesB ps 2 999999 = true ∧ ps.any notP = false then ((expTo ps n).1, (expTo ps n).2, 0) else ([], [], 2)) else ([], [], 1)

set_option maxRecDepth 100000 in
set_option maxHeartbeats 4000000 in
theorem impl_ExponentsAt1 (a0 : Int) (w : World) (s0 : -1000 ≤ a0 ∧ a0 ≤ 999999) :
    Calls Tryz.prog 56 #[.int .i64 a0] w fun e w' => e = .returned (.bool (notP a0)) ∧ Below w.heap.size w w' := by
  have HH1 := Held.start Nob w
  refine enter (n := 6) Tryz.func56 rfl rfl rfl fun a_2 HE3 => ?_
  refine wp_seq ?_
  refine rg ?_
  refine pl_x HE3 HH1 (wt0 rfl) (x_assign rfl) rfl rfl fun a_4 HE5 => ?_
  refine wpList_nil ?_
  clear a_2 HE3
  refine nrm ?_
  refine wp_seq ?_
  refine rg ?_
  refine pl_x HE5 HH1 (wt0 rfl) (x_move rfl) rfl rfl fun a_6 HE7 => ?_
  refine pl fun K_8 hK9 => ?_
  refine st_call HE7 (wt0 rfl) rfl rfl rfl en_57 rfl rfl (impl_isPrime a0 _ (by omega)) fun e w' hr => ?_
  obtain ⟨rfl, hbr21⟩ := hr
  have HH10 := HH1.on hbr21
  refine ⟨_, rfl, fun a_11 HE12 => hK9 _ _ ?_⟩
  refine pl_x HE12 HH10 (wt0 rfl) (x_not rfl) rfl rfl fun a_13 HE14 => ?_
  refine pl_x HE14 HH10 (wt0 rfl) (x_assign rfl) rfl rfl fun a_15 HE16 => ?_
  refine wpList_nil ?_
  clear a_4 HE5 HH1 a_6 HE7 a_11 HE12 a_13 HE14 hK9 K_8
  refine nrm ?_
  refine wp_ret ?_
  refine ret1 HE16 rfl (rv_tmp rfl) ?_
  have hF : (notP a0) = !(primeB a0) := by
    first | rfl | (simp [notP]; done) | (simp [notP]; omega) | grind [notP]
  exact ⟨by first | (rw [hF] <;> rfl) | rfl | (rw [hF]; simp only [Ending.returned.injEq, Value.slice.injEq, true_and, and_true]; first | omega | (simp; done)) | (rw [hF]; simp; omega), HH10.below⟩

set_option maxRecDepth 100000 in
set_option maxHeartbeats 4000000 in
theorem impl_ExponentsAt (A0 : Option Addr) (c0 : Nat) (a0 : (List Int)) (A1 : Option Addr) (c1 : Nat) (a1 : (List Int)) (w : World) (h0 : Sl eInt w (Old w) A0 c0 a0) (h1 : Sl eInt w (Old w) A1 c1 a1) :
    Calls Tryz.prog 14 #[.slice A0 a0.length c0, .slice A1 a1.length c1] w fun e w' => ∃ (A0' : Option Addr) (c0' : Nat) (S0' : Nat → Prop) (A1' : Option Addr) (c1' : Nat) (S1' : Nat → Prop), e = .returned (.tuple #[.slice A0' (expsAt a0 a1).1.length c0', .slice A1' (expsAt a0 a1).2.1.length c1', .int .i64 (expsAt a0 a1).2.2]) ∧ Held Nob w [rSo eInt S0' A0' c0' (expsAt a0 a1).1, rSo eInt S1' A1' c1' (expsAt a0 a1).2.1] w' := by
  have l0 := h0.len
  have l1 := h1.len
  have HH1 := Held.start Nob w
  refine enter (n := 65) Tryz.func14 rfl rfl rfl fun a_2 HE3 => ?_
  refine wp_seq ?_
  refine rg ?_
  refine pl_x HE3 HH1 (wt0 rfl) (x_assign rfl) rfl rfl fun a_4 HE5 => ?_
  refine pl_x HE5 HH1 (wt0 rfl) (x_assign rfl) rfl rfl fun a_6 HE7 => ?_
  refine pl_x HE7 HH1 (wt0 rfl) (x_assign rfl) rfl rfl fun a_8 HE9 => ?_
  refine wpList_nil ?_
  clear a_2 HE3 a_4 HE5 a_6 HE7
  refine nrm ?_
  refine wp_seq ?_
  refine wp_seq ?_
  refine rg ?_
  refine pl_x HE9 HH1 (wt0 rfl) (x_move rfl) rfl rfl fun a_10 HE11 => ?_
  refine pl fun K_12 hK13 => ?_
  refine st_call HE11 (wt0 rfl) rfl rfl rfl en_49 rfl rfl (impl_isPositive _ _ a0 _ (HH1.old h0)) fun e w' hr => ?_
  obtain ⟨rfl, rfl⟩ := hr
  refine ⟨_, rfl, fun a_14 HE15 => hK13 _ _ ?_⟩
  refine pl_x HE15 HH1 (wt0 rfl) (x_not rfl) rfl rfl fun a_16 HE17 => ?_
  refine wpList_nil ?_
  clear a_8 HE9 a_10 HE11 a_14 HE15 hK13 K_12
  refine nrm ?_
  refine cnd_nb HE17 rfl (fun hc22 => ?_) (fun hc22 => ?_)
  · refine wp_seq ?_
    refine rg ?_
    refine pl_x HE17 HH1 (wt0 rfl) (x_assign rfl) rfl rfl fun a_18 HE19 => ?_
    refine pl_x HE19 HH1 (wt0 rfl) (x_assign rfl) rfl rfl fun a_20 HE21 => ?_
    refine pl_x HE21 HH1 (wt0 rfl) (x_assign rfl) rfl rfl fun a_22 HE23 => ?_
    refine wpList_nil ?_
    clear a_16 HE17 a_18 HE19 a_20 HE21
    refine nrm ?_
    refine wp_ret ?_
    refine (thn_ret ?_)
    refine ret3 HE23 rfl (rv_tmp rfl) (rv_tmp rfl) (rv_tmp rfl) ?_
    have HH24 := HH1.vecNil eInt 2
    have HH25 := HH24.vecSo
    have HH26 := HH25.vecNil eInt 2
    have HH27 := HH26.vecSo
    have hF : (expsAt a0 a1) = ([], [], 1) := by
      first | (simp [expsAt, hc22]; done) | (unfold expsAt; rw [if_pos ‹_›, if_neg (by unfold risesB; grind)]; done) | (unfold expsAt; rw [if_pos ‹_›, if_pos (by unfold risesB; grind), show a1.take k = a1 from List.take_of_length_le (by omega)])
    exact ⟨_, _, _, _, _, _, by first | (rw [hF] <;> rfl) | rfl | (rw [hF]; simp only [Ending.returned.injEq, Value.slice.injEq, true_and, and_true]; first | omega | (simp; done)) | (rw [hF]; simp; omega), by rw [hF]; exact HH27.sel [1, 0] (by decide) rfl⟩
  · have hP := isPos_facts hc22
    have hP2 := isPos_NatP hc22
    refine wp_skip ?_
    refine nrm ?_
    refine wp_seq ?_
    refine wp_seq ?_
    refine rg ?_
    refine pl_x HE17 HH1 (wt0 rfl) (x_move rfl) rfl rfl fun a_28 HE29 => ?_
    refine pl_x HE29 HH1 (wt0 rfl) (x_len Tryz.underlying25 rfl) rfl rfl fun a_30 HE31 => ?_
    refine pl_x HE31 HH1 (wt0 rfl) (x_gtr rfl rfl) rfl rfl fun a_32 HE33 => ?_
    refine pl_x HE33 HH1 (wt0 rfl) (x_move rfl) rfl rfl fun a_34 HE35 => ?_
    by_cases hc23 : 64 < (a1.length : Int)
    · refine pl_no HE35 (wtF HE35 rfl rfl rfl (decide_eq_true hc23)) rfl rfl fun a_36 HE37 => ?_
      refine pl_no HE37 (wtF HE37 rfl rfl rfl (decide_eq_true hc23)) rfl rfl fun a_38 HE39 => ?_
      refine pl_no HE39 (wtF HE39 rfl rfl rfl (decide_eq_true hc23)) rfl rfl fun a_40 HE41 => ?_
      refine pl_x HE41 HH1 (wt0 rfl) (x_pickT rfl (decide_eq_true hc23) rfl) rfl rfl fun a_42 HE43 => ?_
      refine pl_x HE43 HH1 (wt0 rfl) (x_move rfl) rfl rfl fun a_44 HE45 => ?_
      refine pl_no HE45 (wtF HE45 rfl rfl rfl rfl) rfl rfl fun a_46 HE47 => ?_
      refine pl_no HE47 (wtF HE47 rfl rfl rfl rfl) rfl rfl fun a_48 HE49 => ?_
      refine pl_no HE49 (wtF HE49 rfl rfl rfl rfl) rfl rfl fun a_50 HE51 => ?_
      refine pl_x HE51 HH1 (wt0 rfl) (x_pickT rfl rfl rfl) rfl rfl fun a_52 HE53 => ?_
      refine pl_x HE53 HH1 (wt0 rfl) (x_move rfl) rfl rfl fun a_54 HE55 => ?_
      refine pl_no HE55 (wtF HE55 rfl rfl rfl rfl) rfl rfl fun a_56 HE57 => ?_
      refine pl_no HE57 (wtF HE57 rfl rfl rfl rfl) rfl rfl fun a_58 HE59 => ?_
      refine pl_x HE59 HH1 (wt0 rfl) (x_pickT rfl rfl rfl) rfl rfl fun a_60 HE61 => ?_
      refine wpList_nil ?_
      clear a_16 HE17 a_28 HE29 a_30 HE31 a_32 HE33 a_34 HE35 a_36 HE37 a_38 HE39 a_40 HE41 a_42 HE43 a_44 HE45 a_46 HE47 a_48 HE49 a_50 HE51 a_52 HE53 a_54 HE55 a_56 HE57 a_58 HE59
      refine nrm ?_
      refine cndT HE61 rfl rfl ?_
      refine wp_seq ?_
      refine rg ?_
      refine pl_x HE61 HH1 (wt0 rfl) (x_assign rfl) rfl rfl fun a_62 HE63 => ?_
      refine pl_x HE63 HH1 (wt0 rfl) (x_assign rfl) rfl rfl fun a_64 HE65 => ?_
      refine pl_x HE65 HH1 (wt0 rfl) (x_assign rfl) rfl rfl fun a_66 HE67 => ?_
      refine wpList_nil ?_
      clear a_60 HE61 a_62 HE63 a_64 HE65
      refine nrm ?_
      refine wp_ret ?_
      refine (thn_ret ?_)
      refine ret3 HE67 rfl (rv_tmp rfl) (rv_tmp rfl) (rv_tmp rfl) ?_
      have HH68 := HH1.vecNil eInt 2
      have HH69 := HH68.vecSo
      have HH70 := HH69.vecNil eInt 2
      have HH71 := HH70.vecSo
      have hF : (expsAt a0 a1) = ([], [], 2) := by
        first | (simp [expsAt, hc22, hc23]; done) | (unfold expsAt; rw [if_pos ‹_›, if_neg (by unfold risesB; grind)]; done) | (unfold expsAt; rw [if_pos ‹_›, if_pos (by unfold risesB; grind), show a1.take k = a1 from List.take_of_length_le (by omega)])
      exact ⟨_, _, _, _, _, _, by first | (rw [hF] <;> rfl) | rfl | (rw [hF]; simp only [Ending.returned.injEq, Value.slice.injEq, true_and, and_true]; first | omega | (simp; done)) | (rw [hF]; simp; omega), by rw [hF]; exact HH71.sel [1, 0] (by decide) rfl⟩
    · refine pl_x HE35 HH1 (wtT HE35 rfl rfl rfl (decide_eq_false hc23)) (x_move rfl) rfl rfl fun a_72 HE73 => ?_
      refine pl fun K_74 hK75 => ?_
      refine st_call HE73 (wtT HE73 rfl rfl rfl (decide_eq_false hc23)) rfl rfl rfl en_53 rfl rfl (impl_rising _ _ a1 _ (HH1.old h1)) fun e w' hr => ?_
      obtain ⟨rfl, hbr24⟩ := hr
      have HH76 := HH1.on hbr24
      refine ⟨_, rfl, fun a_77 HE78 => hK75 _ _ ?_⟩
      refine pl_x HE78 HH76 (wtT HE78 rfl rfl rfl (decide_eq_false hc23)) (x_not rfl) rfl rfl fun a_79 HE80 => ?_
      refine pl_x HE80 HH76 (wt0 rfl) (x_pickF rfl (decide_eq_false hc23) rfl) rfl rfl fun a_81 HE82 => ?_
      refine pl_x HE82 HH76 (wt0 rfl) (x_move rfl) rfl rfl fun a_83 HE84 => ?_
      rcases Bool.eq_false_or_eq_true ((risB a1)) with hc25 | hc25
      · refine pl_x HE84 HH76 (wtT HE84 rfl rfl rfl (not_f hc25)) (x_move rfl) rfl rfl fun a_85 HE86 => ?_
        refine pl fun K_87 hK88 => ?_
        refine st_call HE86 (wtT HE86 rfl rfl rfl (not_f hc25)) rfl rfl rfl en_54 rfl rfl (impl_allWithin _ _ a1 2 999999 _ (HH76.old h1)) fun e w' hr => ?_
        obtain ⟨rfl, rfl⟩ := hr
        refine ⟨_, rfl, fun a_89 HE90 => hK88 _ _ ?_⟩
        refine pl_x HE90 HH76 (wtT HE90 rfl rfl rfl (not_f hc25)) (x_not rfl) rfl rfl fun a_91 HE92 => ?_
        refine pl_x HE92 HH76 (wt0 rfl) (x_pickF rfl (not_f hc25) rfl) rfl rfl fun a_93 HE94 => ?_
        refine pl_x HE94 HH76 (wt0 rfl) (x_move rfl) rfl rfl fun a_95 HE96 => ?_
        rcases Bool.eq_false_or_eq_true ((allW a1 2 999999)) with hc27 | hc27
        · have hA := allW_mem hc27
          refine pl_x HE96 HH76 (wtT HE96 rfl rfl rfl (not_f hc27)) (x_move rfl) rfl rfl fun a_97 HE98 => ?_
          refine pl fun K_99 hK100 => ?_
          have hcl := ContainsFunc_Int64 notP 56 #[] _ _ a1 _ (HH76.old h1) en_56 (fun W x es hx hb hR => by obtain ⟨rfl, hI⟩ := hR; exact impl_ExponentsAt1 x  W  (by have := allW_mem ‹allW a1 2 999999 = true› x hx; omega))
          refine st_call HE98 (wtT HE98 rfl rfl rfl (not_f hc27)) rfl rfl rfl en_55 rfl rfl hcl fun e w' hr => ?_
          clear hcl
          obtain ⟨rfl, hbq⟩ := hr
          have HH101 := HH76.on hbq
          clear hbq
          refine ⟨_, rfl, fun a_102 HE103 => hK100 _ _ ?_⟩
          refine pl_x HE103 HH101 (wt0 rfl) (x_pickF rfl (not_f hc27) rfl) rfl rfl fun a_104 HE105 => ?_
          refine wpList_nil ?_
          clear a_16 HE17 a_28 HE29 a_30 HE31 a_32 HE33 a_34 HE35 HH1 a_72 HE73 a_77 HE78 a_79 HE80 a_81 HE82 a_83 HE84 K_74 hK75 a_85 HE86 a_89 HE90 a_91 HE92 a_93 HE94 a_95 HE96 K_87 hK88 HH76 a_97 HE98 a_102 HE103 hK100 K_99
          refine nrm ?_
          refine cnd_b HE105 rfl (fun hc28 => ?_) (fun hc28 => ?_)
          · refine wp_seq ?_
            refine rg ?_
            refine pl_x HE105 HH101 (wt0 rfl) (x_assign rfl) rfl rfl fun a_106 HE107 => ?_
            refine pl_x HE107 HH101 (wt0 rfl) (x_assign rfl) rfl rfl fun a_108 HE109 => ?_
            refine pl_x HE109 HH101 (wt0 rfl) (x_assign rfl) rfl rfl fun a_110 HE111 => ?_
            refine wpList_nil ?_
            clear a_104 HE105 a_106 HE107 a_108 HE109
            refine nrm ?_
            refine wp_ret ?_
            refine (thn_ret ?_)
            refine ret3 HE111 rfl (rv_tmp rfl) (rv_tmp rfl) (rv_tmp rfl) ?_
            have HH112 := HH101.vecNil eInt 2
            have HH113 := HH112.vecSo
            have HH114 := HH113.vecNil eInt 2
            have HH115 := HH114.vecSo
            have hF : (expsAt a0 a1) = ([], [], 2) := by
              first | (simp [expsAt, hc22, hc23, hc25, hc27, hc28]; done) | (unfold expsAt; rw [if_pos ‹_›, if_neg (by unfold risesB; grind)]; done) | (unfold expsAt; rw [if_pos ‹_›, if_pos (by unfold risesB; grind), show a1.take k = a1 from List.take_of_length_le (by omega)])
            exact ⟨_, _, _, _, _, _, by first | (rw [hF] <;> rfl) | rfl | (rw [hF]; simp only [Ending.returned.injEq, Value.slice.injEq, true_and, and_true]; first | omega | (simp; done)) | (rw [hF]; simp; omega), by rw [hF]; exact HH115.sel [1, 0] (by decide) rfl⟩
          · refine wp_skip ?_
            refine nrm ?_
            refine wp_seq ?_
            refine rg ?_
            refine pl fun K_116 hK117 => ?_
            refine st_lit (m := 0) (cs := []) (e := 2) HE105 HH101 (run_lit ts_25 HE105 (vs := []) rfl rfl (by simp [Value.cells]) rfl (by decide)) (wt0 rfl) rfl rfl fun q29 a_118 w' HE119 HH120 => hK117 _ _ ?_
            refine pl_x HE119 HH120 (wt0 rfl) (x_move rfl) rfl rfl fun a_121 HE122 => ?_
            refine pl fun K_123 hK124 => ?_
            refine st_call HE122 (wt0 rfl) rfl rfl rfl en_58 rfl rfl (Clone_Int64 _ _ a0 _ (HH120.old h0) (by omega)) fun e w' hr => ?_
            obtain ⟨Ar30_0, cr30_0, rfl, hor30_0, hbr30⟩ := hr
            obtain ⟨Sr30, HH125⟩ := HH120.newS hbr30 hor30_0
            refine ⟨_, rfl, fun a_126 HE127 => hK124 _ _ ?_⟩
            refine pl_x HE127 HH125 (wt0 rfl) (x_assign rfl) rfl rfl fun a_128 HE129 => ?_
            refine pl_x HE129 HH125 (wt0 rfl) (x_assign rfl) rfl rfl fun a_130 HE131 => ?_
            refine wpList_nil ?_
            clear a_104 HE105 HH101 a_118 HE119 K_116 hK117 HH120 a_121 HE122 a_126 HE127 a_128 HE129 hK124 K_123
            refine nrm ?_
            refine wp_seq ?_
            refine wp_seq ?_
            refine rg ?_
            refine pl_x HE131 HH125 (wt0 rfl) (x_move rfl) rfl rfl fun a_132 HE133 => ?_
            refine pl_x HE133 HH125 (wt0 rfl) (x_len Tryz.underlying25 rfl) rfl rfl fun a_134 HE135 => ?_
            refine pl_x HE135 HH125 (wt0 rfl) (x_move rfl) rfl rfl fun a_136 HE137 => ?_
            refine wpList_nil ?_
            clear a_130 HE131 a_132 HE133 a_134 HE135
            refine nrm ?_
            refine wp_block ?_
            have HH138 := HH125.sel [1, 0] (by decide) rfl
            have HH139 := Held.vecFlat (E := eInt) (xs := []) (css := []) HH138 rfl (Nat.zero_le _) (fun i x hx => by simp at hx)
            refine lp (fun m a w' => ∃ (k : Nat) (A_7 : Option Addr) (c_7 : Nat) (S_7 : Nat → Prop) (A_8 : Option Addr) (c_8 : Nat) (S_8 : Nat → Prop), m = a1.length - k ∧ Env 65 [(7, .slice A_7 (List.length ((expTo (a1.take k) a0).1)) c_7), (8, .slice A_8 (List.length ((expTo (a1.take k) a0).2)) c_8), (38, .int .i64 (k : Int)), (36, .slice A1 (a1.length) c1), (37, .int .i64 ((a1.length : Int)))] a ∧ Held Nob w [rVec eInt 2 S_7 A_7 c_7 ((expTo (a1.take k) a0).1), rSo eInt S_8 A_8 c_8 ((expTo (a1.take k) a0).2)] w' ∧ (k ≤ a1.length)) (a1.length - (0)) ?_ ?_
            · have E31 : (expTo (a1.take 0) a0).1 = ([] : List Int) := by
                first | rfl | simp
              have E32 : (expTo (a1.take 0) a0).2 = a0 := by
                first | rfl | simp
              exact ⟨0, (some ⟨q29, 0, none⟩), (List.length (α := Int) []), (fun b => b = q29), Ar30_0, cr30_0, Sr30, rfl, HE137.sub ⟨(by rw [E31]; rfl), (by rw [E32]; rfl), (lkI rfl (by first | rfl | omega | (simp [hc22, hc23, hc25, hc27, hc28]; done))), rfl, rfl, trivial⟩, ((HH139.sel [0, 1] (by decide) rfl).to (by first | rfl | (rw [E31, E32]; done) | (rw [E31, E32]; rfl) | (simp only [E31, E32]; done) | (simp only [E31, E32]; rfl) | (rw [E31, E32]; simp only [List.length_set]; done))), (by first | omega | assumption | (simp; done) | simp_all)⟩
            · rintro m a_140 w' ⟨k, A_7, c_7, S_7, A_8, c_8, S_8, rfl, HE141, HH142, p33_0⟩
              have hR := NatP_exp hP2 hA k p33_0
              have hR4 := hR.2.1
              have hRl := hR.1
              have ol := expTo_len (n := a0) k p33_0
              refine wp_seq ?_
              refine rg ?_
              refine pl_x HE141 HH142 (wt0 rfl) (x_lss rfl rfl) rfl rfl fun a_143 HE144 => ?_
              refine wpList_nil ?_
              clear HH125 HH138 a_136 HE137 HH139 a_140 HE141
              refine nrm ?_
              refine wp_seq ?_
              refine cnd_d HE144 rfl (fun hc34 => ?_) (fun hc34 => ?_)
              · refine wp_skip ?_
                refine nrm ?_
                refine wp_seq ?_
                refine wp_block ?_
                refine wp_seq ?_
                refine rg ?_
                have ke35 : k < a1.length := by omega
                obtain ⟨be35, fe35, ese35, Ae35, Re35, De35⟩ := el_old h1 ke35
                obtain ⟨e35, xe35⟩ : ∃ x_, x_ = a1[k] := ⟨_, rfl⟩
                rw [← xe35] at Re35
                have Qe35 := Re35
                obtain ⟨rfl, ie35⟩ := Re35
                have je35 := ie35; unfold I64 at je35
                have be35 := hA e35 (by rw [xe35]; exact List.getElem_mem _)
                have hp0 : a1[k]?.getD 0 = e35 := by rw [List.getElem?_eq_getElem ke35, xe35]; rfl
                have hvb := valF_bd e35 800 (expTo (a1.take k) a0).2
                have hvb2 : valP (expTo (a1.take k) a0).2 e35 = valF 800 (expTo (a1.take k) a0).2 e35 := rfl
                have hvc : (valPc (expTo (a1.take k) a0).2 e35).1 = valP (expTo (a1.take k) a0).2 e35 := rfl
                refine pl_x HE144 HH142 (wt0 rfl) (x_indexAddr ts_25 rfl rfl Ae35 rfl ke35) rfl rfl fun a_145 HE146 => ?_
                refine pl_x HE146 HH142 (wt0 rfl) (x_load1 tv_2 rfl (c_old (De35 0 _ rfl))) rfl rfl fun a_147 HE148 => ?_
                refine pl_x HE148 HH142 (wt0 rfl) (x_assign rfl) rfl rfl fun a_149 HE150 => ?_
                refine wpList_nil ?_
                clear a_143 HE144 a_145 HE146 a_147 HE148
                refine nrm ?_
                refine wp_seq ?_
                refine rg ?_
                refine pl_x HE150 HH142 (wt0 rfl) (x_move rfl) rfl rfl fun a_151 HE152 => ?_
                refine pl_x HE152 HH142 (wt0 rfl) (x_move rfl) rfl rfl fun a_153 HE154 => ?_
                refine pl fun K_155 hK156 => ?_
                refine st_call HE154 (wt0 rfl) rfl rfl rfl en_59 rfl rfl (impl_ValuationOfN _ _ ((expTo (a1.take k) a0).2) e35 _ (HH142.sl (i := 1) rfl) (by assumption) (by omega)) fun e w' hr => ?_
                obtain ⟨rfl, hbr36⟩ := hr
                have HH157 := HH142.on hbr36
                refine ⟨_, rfl, fun a_158 HE159 => hK156 _ _ ?_⟩
                refine pl_x HE159 HH157 (wt0 rfl) (x_move rfl) rfl rfl fun a_160 HE161 => ?_
                refine pl_x HE161 HH157 (wt0 rfl) (x_extract rfl rfl) rfl rfl fun a_162 HE163 => ?_
                refine pl_x HE163 HH157 (wt0 rfl) (x_extract rfl rfl) rfl rfl fun a_164 HE165 => ?_
                refine pl_x HE165 HH157 (wt0 rfl) (x_assign rfl) rfl rfl fun a_166 HE167 => ?_
                refine pl_x HE167 HH157 (wt0 rfl) (x_assign rfl) rfl rfl fun a_168 HE169 => ?_
                refine wpList_nil ?_
                clear a_149 HE150 a_151 HE152 HH142 a_153 HE154 a_158 HE159 a_160 HE161 a_162 HE163 a_164 HE165 a_166 HE167 hK156 K_155
                refine nrm ?_
                refine wp_seq ?_
                refine rg ?_
                refine pl_x HE169 HH157 (wt0 rfl) (x_move rfl) rfl rfl fun a_170 HE171 => ?_
                refine pl_x HE171 HH157 (wt0 rfl) (x_move rfl) rfl rfl fun a_172 HE173 => ?_
                refine pl fun K_174 hK175 => ?_
                refine st_lit (m := 1) (cs := [.int .i64 ((valPc ((expTo (a1.take k) a0).2) e35).1)]) (e := 2) HE173 HH157 (run_lit ts_25 HE173 (vs := [.int .i64 ((valPc ((expTo (a1.take k) a0).2) e35).1)]) rfl rfl (by simp [Value.cells]) rfl (by decide)) (wt0 rfl) rfl rfl fun q37 a_176 w' HE177 HH178 => hK175 _ _ ?_
                refine pl fun K_179 hK180 => ?_
                refine st_app1F ((valPc ((expTo (a1.take k) a0).2) e35).1) HE177 HH178 ts_25 [1, 0, 2] (by decide) rfl (fun _ => (oI (by exact ⟨by omega, by omega⟩))) rfl rfl (by simp [Value.oneCell']) (by unfold maxLen; first | omega | (simp; done) | (simp; omega)) (by first | omega | (simp; done) | (simp; omega)) (wt0 rfl) rfl fun A38 c39 S40 a_181 w' HE182 HH183 => hK180 _ _ ?_
                refine pl_x HE182 HH183 (wt0 rfl) (x_assign rfl) rfl rfl fun a_184 HE185 => ?_
                refine wpList_nil ?_
                clear a_168 HE169 a_170 HE171 a_172 HE173 HH157 K_174 hK175 a_176 HE177 HH178 a_181 HE182 hK180 K_179
                refine nrm ?_
                refine wp_seq ?_
                refine rg ?_
                refine pl_x HE185 HH183 (wt0 rfl) (x_move rfl) rfl rfl fun a_186 HE187 => ?_
                refine pl_x HE187 HH183 (wt0 rfl) (x_move rfl) rfl rfl fun a_188 HE189 => ?_
                refine wpList_nil ?_
                clear a_184 HE185 a_186 HE187
                refine nrm ?_
                refine wp_block ?_
                refine lp (fun m a w' => ∃ (j : Nat) (A_8 : Option Addr) (c_8 : Nat) (S_8 : Nat → Prop), m = (valP (expTo (a1.take k) a0).2 (a1[k]?.getD 0) - (j : Int)).toNat ∧ Env 65 [(8, .slice A_8 (List.length (divE (a1[k]?.getD 0) j (expTo (a1.take k) a0).2)) c_8), (53, .int .i64 (j : Int)), (7, .slice A38 (((expTo (a1.take k) a0).1 ++ [(valPc ((expTo (a1.take k) a0).2) e35).1]).length) c39), (10, .int .i64 (e35)), (36, .slice A1 (a1.length) c1), (37, .int .i64 ((a1.length : Int))), (38, .int .i64 ((k : Int))), (52, .int .i64 ((valPc ((expTo (a1.take k) a0).2) e35).1))] a ∧ Held Nob w [rSo eInt S_8 A_8 c_8 (divE (a1[k]?.getD 0) j (expTo (a1.take k) a0).2), rVec eInt 2 S40 A38 c39 ((expTo (a1.take k) a0).1 ++ [(valPc ((expTo (a1.take k) a0).2) e35).1])] w' ∧ ((j : Int) ≤ valP (expTo (a1.take k) a0).2 (a1[k]?.getD 0))) ((valP (expTo (a1.take k) a0).2 (a1[k]?.getD 0) - ((0) : Int)).toNat) ?_ ?_
                · have E41 : divE (a1[k]?.getD 0) 0 (expTo (a1.take k) a0).2 = (expTo (a1.take k) a0).2 := by
                    first | rfl | simp
                  exact ⟨0, A_8, c_8, S_8, rfl, HE189.sub ⟨(by rw [E41]; rfl), (lkI rfl (by first | rfl | omega | (simp [hc22, hc23, hc25, hc27, hc28, p33_0, hc34, xe35]; done))), rfl, rfl, rfl, rfl, rfl, rfl, trivial⟩, ((HH183.sel [1, 0] (by decide) rfl).to (by first | rfl | (rw [E41]; done) | (rw [E41]; rfl) | (simp only [E41]; done) | (simp only [E41]; rfl) | (rw [E41]; simp only [List.length_set]; done))), (by first | omega | assumption | (simp; done) | simp_all)⟩
                · rintro m a_190 w' ⟨j, A_8, c_8, S_8, rfl, HE191, HH192, p42_0⟩
                  have hD := NatP_divE (p := a1[k]?.getD 0) (by omega) 800 _ j hR p42_0
                  have hD2 := hD.2.1
                  have hD1 := hD.1
                  refine wp_seq ?_
                  refine rg ?_
                  refine pl_x HE191 HH192 (wt0 rfl) (x_lss rfl rfl) rfl rfl fun a_193 HE194 => ?_
                  refine wpList_nil ?_
                  clear a_188 HE189 HH183 a_190 HE191
                  refine nrm ?_
                  refine wp_seq ?_
                  refine cnd_d HE194 rfl (fun hc43 => ?_) (fun hc43 => ?_)
                  · refine wp_skip ?_
                    refine nrm ?_
                    refine wp_seq ?_
                    refine wp_block ?_
                    refine rg ?_
                    refine pl_x HE194 HH192 (wt0 rfl) (x_move rfl) rfl rfl fun a_195 HE196 => ?_
                    refine pl_x HE196 HH192 (wt0 rfl) (x_move rfl) rfl rfl fun a_197 HE198 => ?_
                    refine pl fun K_199 hK200 => ?_
                    refine st_call HE198 (wt0 rfl) rfl rfl rfl en_60 rfl rfl (impl_divideSmall _ _ (divE (a1[k]?.getD 0) j (expTo (a1.take k) a0).2) e35 _ (HH192.sl (i := 0) rfl) (by first | assumption | exact mulN_limbs _ _) (by omega) (by first | omega | exact Nat.le_trans (mulN_len (by assumption) (by intro x hx; simp at hx; omega)) (by simp; omega))) fun e w' hr => ?_
                    obtain ⟨Ar44_0, cr44_0, rfl, hor44_0, hbr44⟩ := hr
                    obtain ⟨Sr44, HH201⟩ := HH192.newS hbr44 hor44_0
                    refine ⟨_, rfl, fun a_202 HE203 => hK200 _ _ ?_⟩
                    refine pl_x HE203 HH201 (wt0 rfl) (x_move rfl) rfl rfl fun a_204 HE205 => ?_
                    refine pl_x HE205 HH201 (wt0 rfl) (x_extract rfl rfl) rfl rfl fun a_206 HE207 => ?_
                    refine pl_x HE207 HH201 (wt0 rfl) (x_extract rfl rfl) rfl rfl fun a_208 HE209 => ?_
                    refine pl_x HE209 HH201 (wt0 rfl) (x_assign rfl) rfl rfl fun a_210 HE211 => ?_
                    refine wpList_nil ?_
                    clear a_193 HE194 a_195 HE196 HH192 a_197 HE198 a_202 HE203 a_204 HE205 a_206 HE207 a_208 HE209 hK200 K_199
                    refine blk_n ?_
                    refine nrm ?_
                    refine rg ?_
                    refine pl_x HE211 HH201 (wt0 rfl) (x_add rfl rfl (by exact ⟨by omega, by omega⟩)) rfl rfl fun a_212 HE213 => ?_
                    refine pl_x HE213 HH201 (wt0 rfl) (x_move rfl) rfl rfl fun a_214 HE215 => ?_
                    refine wpList_nil ?_
                    clear a_210 HE211 a_212 HE213
                    have E45 : divE (a1[k]?.getD 0) (j + 1) (expTo (a1.take k) a0).2 = (divN (divE (a1[k]?.getD 0) j (expTo (a1.take k) a0).2) e35).1 := by
                      rw [divE_snoc, hp0]
                    exact nrm ⟨(valP (expTo (a1.take k) a0).2 (a1[k]?.getD 0) - ((j + 1) : Int)).toNat, (by rw [hp0] at *; omega), j + 1, Ar44_0, cr44_0, Sr44, rfl, HE215.sub ⟨(by rw [E45]; rfl), (lkI rfl (by first | rfl | omega | (simp [hc22, hc23, hc25, hc27, hc28, p33_0, hc34, xe35, p42_0, hc43]; done))), rfl, rfl, rfl, rfl, rfl, rfl, trivial⟩, ((HH201.sel [0, 2] (by decide) rfl).to (by first | rfl | (rw [E45]; done) | (rw [E45]; rfl) | (simp only [E45]; done) | (simp only [E45]; rfl) | (rw [E45]; simp only [List.length_set]; done))), (by rw [hp0] at *; omega)⟩
                  · refine wp_exit ?_
                    refine (thn_exit (thn_exit (blk_hit ?_)))
                    refine blk_n ?_
                    refine nrm ?_
                    refine rg ?_
                    refine pl_x HE194 HH192 (wt0 rfl) (x_add rfl rfl (by exact ⟨by omega, by omega⟩)) rfl rfl fun a_216 HE217 => ?_
                    refine pl_x HE217 HH192 (wt0 rfl) (x_move rfl) rfl rfl fun a_218 HE219 => ?_
                    refine wpList_nil ?_
                    clear a_193 HE194 a_216 HE217
                    have E46 : (expTo (a1.take (k + 1)) a0).1 = ((expTo (a1.take k) a0).1 ++ [(valPc ((expTo (a1.take k) a0).2) e35).1]) := by
                      rw [expTo_succ (by omega), ← xe35]; rfl
                    have E47 : (expTo (a1.take (k + 1)) a0).2 = divE (a1[k]?.getD 0) j (expTo (a1.take k) a0).2 := by
                      rw [expTo_succ (by omega), ← xe35]; show divE e35 (valP _ e35).toNat _ = _; rw [hp0, show (valP (expTo (a1.take k) a0).2 e35).toNat = j from by rw [hp0] at p42_0; omega]
                    exact nrm ⟨a1.length - (k + 1), (by omega), k + 1, A38, c39, S40, A_8, c_8, S_8, rfl, HE219.sub ⟨(by rw [E46]; rfl), (by rw [E47]; rfl), (lkI rfl (by first | rfl | omega | (simp [hc22, hc23, hc25, hc27, hc28, p33_0, hc34, xe35, p42_0, hc43]; done))), rfl, rfl, trivial⟩, ((HH192.sel [1, 0] (by decide) rfl).to (by first | rfl | (rw [E46, E47]; done) | (rw [E46, E47]; rfl) | (simp only [E46, E47]; done) | (simp only [E46, E47]; rfl) | (rw [E46, E47]; simp only [List.length_set]; done))), (by first | omega | assumption | (simp; done) | simp_all)⟩
              · refine wp_exit ?_
                refine (thn_exit (thn_exit (blk_hit ?_)))
                refine nrm ?_
                refine wp_seq ?_
                refine rg ?_
                refine pl_x HE144 HH142 (wt0 rfl) (x_move rfl) rfl rfl fun a_220 HE221 => ?_
                refine pl_x HE221 HH142 (wt0 rfl) (x_move rfl) rfl rfl fun a_222 HE223 => ?_
                refine pl_x HE223 HH142 (wt0 rfl) (x_assign rfl) rfl rfl fun a_224 HE225 => ?_
                refine pl_x HE225 HH142 (wt0 rfl) (x_assign rfl) rfl rfl fun a_226 HE227 => ?_
                refine pl_x HE227 HH142 (wt0 rfl) (x_assign rfl) rfl rfl fun a_228 HE229 => ?_
                refine wpList_nil ?_
                clear a_143 HE144 a_220 HE221 a_222 HE223 a_224 HE225 a_226 HE227
                refine nrm ?_
                refine wp_ret ?_
                refine ret3 HE229 rfl (rv_tmp rfl) (rv_tmp rfl) (rv_tmp rfl) ?_
                have HH230 := HH142.vecSo
                have hF : (expsAt a0 a1) = ((expTo (a1.take k) a0).1, (expTo (a1.take k) a0).2, 0) := by
                  first | (simp [expsAt, hc22, hc23, hc25, hc27, hc28, p33_0, hc34]; done) | (unfold expsAt; rw [if_pos ‹_›, if_neg (by unfold risesB; grind)]; done) | (unfold expsAt; rw [if_pos ‹_›, if_pos (by unfold risesB; grind), show a1.take k = a1 from List.take_of_length_le (by omega)])
                exact ⟨_, _, _, _, _, _, by first | (rw [hF] <;> rfl) | rfl | (rw [hF]; simp only [Ending.returned.injEq, Value.slice.injEq, true_and, and_true]; first | omega | (simp; done)) | (rw [hF]; simp; omega), by rw [hF]; exact HH230.sel [0, 1] (by decide) rfl⟩
        · refine pl_no HE96 (wtF HE96 rfl rfl rfl (not_t hc27)) rfl rfl fun a_231 HE232 => ?_
          refine pl_no HE232 (wtF HE232 rfl rfl rfl (not_t hc27)) rfl rfl fun a_233 HE234 => ?_
          refine pl_x HE234 HH76 (wt0 rfl) (x_pickT rfl (not_t hc27) rfl) rfl rfl fun a_235 HE236 => ?_
          refine wpList_nil ?_
          clear a_16 HE17 a_28 HE29 a_30 HE31 a_32 HE33 a_34 HE35 HH1 a_72 HE73 a_77 HE78 a_79 HE80 a_81 HE82 a_83 HE84 K_74 hK75 a_85 HE86 a_89 HE90 a_91 HE92 a_93 HE94 a_95 HE96 a_231 HE232 a_233 HE234 hK88 K_87
          refine nrm ?_
          refine cndT HE236 rfl rfl ?_
          refine wp_seq ?_
          refine rg ?_
          refine pl_x HE236 HH76 (wt0 rfl) (x_assign rfl) rfl rfl fun a_237 HE238 => ?_
          refine pl_x HE238 HH76 (wt0 rfl) (x_assign rfl) rfl rfl fun a_239 HE240 => ?_
          refine pl_x HE240 HH76 (wt0 rfl) (x_assign rfl) rfl rfl fun a_241 HE242 => ?_
          refine wpList_nil ?_
          clear a_235 HE236 a_237 HE238 a_239 HE240
          refine nrm ?_
          refine wp_ret ?_
          refine (thn_ret ?_)
          refine ret3 HE242 rfl (rv_tmp rfl) (rv_tmp rfl) (rv_tmp rfl) ?_
          have HH243 := HH76.vecNil eInt 2
          have HH244 := HH243.vecSo
          have HH245 := HH244.vecNil eInt 2
          have HH246 := HH245.vecSo
          have hF : (expsAt a0 a1) = ([], [], 2) := by
            first | (simp [expsAt, hc22, hc23, hc25, hc27]; done) | (unfold expsAt; rw [if_pos ‹_›, if_neg (by unfold risesB; grind)]; done) | (unfold expsAt; rw [if_pos ‹_›, if_pos (by unfold risesB; grind), show a1.take k = a1 from List.take_of_length_le (by omega)])
          exact ⟨_, _, _, _, _, _, by first | (rw [hF] <;> rfl) | rfl | (rw [hF]; simp only [Ending.returned.injEq, Value.slice.injEq, true_and, and_true]; first | omega | (simp; done)) | (rw [hF]; simp; omega), by rw [hF]; exact HH246.sel [1, 0] (by decide) rfl⟩
      · refine pl_no HE84 (wtF HE84 rfl rfl rfl (not_t hc25)) rfl rfl fun a_247 HE248 => ?_
        refine pl_no HE248 (wtF HE248 rfl rfl rfl (not_t hc25)) rfl rfl fun a_249 HE250 => ?_
        refine pl_no HE250 (wtF HE250 rfl rfl rfl (not_t hc25)) rfl rfl fun a_251 HE252 => ?_
        refine pl_x HE252 HH76 (wt0 rfl) (x_pickT rfl (not_t hc25) rfl) rfl rfl fun a_253 HE254 => ?_
        refine pl_x HE254 HH76 (wt0 rfl) (x_move rfl) rfl rfl fun a_255 HE256 => ?_
        refine pl_no HE256 (wtF HE256 rfl rfl rfl rfl) rfl rfl fun a_257 HE258 => ?_
        refine pl_no HE258 (wtF HE258 rfl rfl rfl rfl) rfl rfl fun a_259 HE260 => ?_
        refine pl_x HE260 HH76 (wt0 rfl) (x_pickT rfl rfl rfl) rfl rfl fun a_261 HE262 => ?_
        refine wpList_nil ?_
        clear a_16 HE17 a_28 HE29 a_30 HE31 a_32 HE33 a_34 HE35 HH1 a_72 HE73 a_77 HE78 a_79 HE80 a_81 HE82 a_83 HE84 a_247 HE248 a_249 HE250 a_251 HE252 a_253 HE254 a_255 HE256 a_257 HE258 a_259 HE260 hK75 K_74
        refine nrm ?_
        refine cndT HE262 rfl rfl ?_
        refine wp_seq ?_
        refine rg ?_
        refine pl_x HE262 HH76 (wt0 rfl) (x_assign rfl) rfl rfl fun a_263 HE264 => ?_
        refine pl_x HE264 HH76 (wt0 rfl) (x_assign rfl) rfl rfl fun a_265 HE266 => ?_
        refine pl_x HE266 HH76 (wt0 rfl) (x_assign rfl) rfl rfl fun a_267 HE268 => ?_
        refine wpList_nil ?_
        clear a_261 HE262 a_263 HE264 a_265 HE266
        refine nrm ?_
        refine wp_ret ?_
        refine (thn_ret ?_)
        refine ret3 HE268 rfl (rv_tmp rfl) (rv_tmp rfl) (rv_tmp rfl) ?_
        have HH269 := HH76.vecNil eInt 2
        have HH270 := HH269.vecSo
        have HH271 := HH270.vecNil eInt 2
        have HH272 := HH271.vecSo
        have hF : (expsAt a0 a1) = ([], [], 2) := by
          first | (simp [expsAt, hc22, hc23, hc25]; done) | (unfold expsAt; rw [if_pos ‹_›, if_neg (by unfold risesB; grind)]; done) | (unfold expsAt; rw [if_pos ‹_›, if_pos (by unfold risesB; grind), show a1.take k = a1 from List.take_of_length_le (by omega)])
        exact ⟨_, _, _, _, _, _, by first | (rw [hF] <;> rfl) | rfl | (rw [hF]; simp only [Ending.returned.injEq, Value.slice.injEq, true_and, and_true]; first | omega | (simp; done)) | (rw [hF]; simp; omega), by rw [hF]; exact HH272.sel [1, 0] (by decide) rfl⟩

def oneL : List Int := [1]

def powF (g : Nat) (y : List Int) (p e : Int) : Int := if eq_L (divE p (valF g y p).toNat y) oneL = true then e + valF g y p else -1

def powP (n : List Int) (p : Int) : Int := powF 800 n p 0

def powSeen (n : List Int) (p : Int) (l : List Int) : Bool × List Int := (decide (((if 0 ≤ powP n p then l ++ [powP n p] else l).length : Int) < 20), if 0 ≤ powP n p then l ++ [powP n p] else l)

def runPw (l : List tFraction) (p : Int) : Nat → List Int → Int → List Int → List Int × Int × Bool × Int × List Int
  | 0, y, k, s => (y, k, decide ((stepFI l y).2 < 0), 0, (powSeen y p s).2)
  | f + 1, y, k, s => if (powSeen y p s).1 = false ∨ (stepFI l y).2 < 0 then (y, k, decide ((stepFI l y).2 < 0), 0, (powSeen y p s).2) else if 40 < ((stepFI l y).1.length : Int) then ([], 0, false, 5, (powSeen y p s).2) else runPw l p f (stepFI l y).1 (k + 1) (powSeen y p s).2

theorem runPw_eq (l : List tFraction) (p : Int) (f : Nat) (y : List Int) (k : Int) (s : List Int) : runPw l p f y k s = if (powSeen y p s).1 = false ∨ (stepFI l y).2 < 0 ∨ f = 0 then (y, k, decide ((stepFI l y).2 < 0), 0, (powSeen y p s).2) else if 40 < ((stepFI l y).1.length : Int) then ([], 0, false, 5, (powSeen y p s).2) else runPw l p (f - 1) (stepFI l y).1 (k + 1) (powSeen y p s).2 := by
  cases f with
  | zero => simp [runPw]
  | succ f => simp [runPw]

theorem runPw_step {l : List tFraction} {p : Int} {f g : Nat} {y : List Int} {k : Int} {s : List Int} (hf : f = g + 1) (h0 : (powSeen y p s).1 = true) (h1 : ¬ (stepFI l y).2 < 0) (h2 : ¬ 40 < ((stepFI l y).1.length : Int)) : runPw l p f y k s = runPw l p g (stepFI l y).1 (k + 1) (powSeen y p s).2 := by
  subst hf; rw [runPw, if_neg (by simp [h0]; omega), if_neg h2]

def runFP (l : List tFraction) (n : List Int) (m p : Int) (s : List Int) : List Int × Int × Bool × Int × List Int := runPw l p m.toNat n 0 s

def powersSeen (l : List tFraction) (n : List Int) (p m : Int) : List Int × Int :=
  if validFrac l && isPos n then (if p ≤ 999999 ∧ primeB p = true ∧ budgetB m = true then (if (runFP l n m p []).2.2.2.1 = 0 then ((runFP l n m p []).2.2.2.2, 0) else ([], (runFP l n m p []).2.2.2.1)) else ([], 2)) else ([], 1)

theorem val_digs (n : Nat) : val (digs n) = n := by
  induction n using Nat.strongRecOn with
  | ind n ih =>
    rw [digs]
    split
    · rename_i h; subst h; rfl
    · rename_i h
      rw [val, ih (n / 1000000) (by omega)]
      omega

theorem isNat_trim2 {xs : List Int} (h : limbs xs) (hl : (trimZ xs).length ≤ 40) : isNat (trimZ xs) = true := by
  unfold isNat
  rw [decide_eq_true (by omega), allW_of_limbs fun x hx => h x (trimZ_mem hx)]
  rcases trimZ_last xs with h2 | h2
  · rw [h2]; simp
  · rw [show ((trimZ xs)[(trimZ xs).length - 1]?.getD 0 != 0) = true from by simpa using h2]; simp

theorem NatP_frac {n : List Int} {u d : Int} (hn : NatP n) (hu : 1 ≤ u ∧ u ≤ 999999) (hd : 1 ≤ d ∧ d ≤ 999999) (hr : (divN (mulN n [u]) d).2 = 0) (hl : (divN (mulN n [u]) d).1.length ≤ 40) : NatP (divN (mulN n [u]) d).1 := by
  have h1 := val_divN (by omega : 0 < d) (mulN n [u])
  have h2 := mulN_limbs n [u]
  have h3 : val (mulN n [u]) = val n * u := by
    unfold mulN
    rw [val_digs]
    have : val [u] = u := by simp [val]
    rw [this]
    have := Int.mul_pos hn.2.2.1 (by omega : 0 < u)
    omega
  have h4 := Int.mul_pos hn.2.2.1 (by omega : 0 < u)
  have h5 := val_lt (divN_limbs (by omega : 0 < d) h2)
  refine ⟨divN_limbs (by omega) h2, hl, ?_, isNat_trim2 (divW_limbs (by omega) h2) hl⟩
  refine Classical.byContradiction fun hc => ?_
  have h0 : val (divN (mulN n [u]) d).1 = 0 := by omega
  rw [h0, hr, h3] at h1
  omega

theorem NatP_stepFr : ∀ (l : List tFraction) (n : List Int) (k : Int) (r : List Int × Int), okFr l → NatP n → stepFr l n k = some r → r.1.length ≤ 40 → NatP r.1
  | [], _, _, _, _, _, h, _ => by cases h
  | f :: fs, n, k, r, ho, hn, h, hl => by
    rw [stepFr] at h
    have hf := ho f (by simp)
    split at h
    · rename_i hr
      cases h
      exact NatP_frac hn hf.1 hf.2 hr hl
    · exact NatP_stepFr fs n (k + 1) r (fun x hx => ho x (by simp [hx])) hn h hl

theorem NatP_step {l : List tFraction} {n : List Int} (ho : okFr l) (hn : NatP n) (h : ¬ (stepFI l n).2 < 0) (hl : ¬ 40 < ((stepFI l n).1.length : Int)) : NatP (stepFI l n).1 := by
  unfold stepFI at h hl ⊢
  cases hq : stepFr l n 0 with
  | none => rw [hq] at h; simp at h
  | some r => rw [hq] at hl; simp at hl; exact NatP_stepFr l n 0 r ho hn hq (by omega)

theorem powSeen_len (n : List Int) (p : Int) (l : List Int) : l.length ≤ (powSeen n p l).2.length ∧ (powSeen n p l).2.length ≤ l.length + 1 := by
  unfold powSeen
  split <;> simp

theorem powP_bd (n : List Int) (p : Int) : -1 ≤ powP n p ∧ powP n p ≤ 800 := by
  have := valF_bd p 800 n
  unfold powP powF
  split <;> omega

set_option maxRecDepth 100000 in
set_option maxHeartbeats 4000000 in
theorem impl_one  (w : World)  :
    Calls Tryz.prog 113 #[] w fun e w' => ∃ (A0' : Option Addr) (c0' : Nat), e = .returned (.slice A0' oneL.length c0') ∧ So eInt w' (Fr w w') A0' c0' oneL ∧ Below w.heap.size w w' := by
  have HH1 := Held.start Nob w
  refine enter (n := 2) Tryz.func113 rfl rfl rfl fun a_2 HE3 => ?_
  refine wp_seq ?_
  refine rg ?_
  refine pl_x HE3 HH1 (wt0 rfl) (x_assign rfl) rfl rfl fun a_4 HE5 => ?_
  refine wpList_nil ?_
  clear a_2 HE3
  refine nrm ?_
  refine wp_seq ?_
  refine rg ?_
  refine pl fun K_6 hK7 => ?_
  refine st_lit (m := 1) (cs := [.int .i64 (1)]) (e := 2) HE5 HH1 (run_lit ts_25 HE5 (vs := [.int .i64 (1)]) rfl rfl (by simp [Value.cells]) rfl (by decide)) (wt0 rfl) rfl rfl fun q21 a_8 w' HE9 HH10 => hK7 _ _ ?_
  refine pl_x HE9 HH10 (wt0 rfl) (x_assign rfl) rfl rfl fun a_11 HE12 => ?_
  refine wpList_nil ?_
  clear a_4 HE5 HH1 a_8 HE9 hK7 K_6
  refine nrm ?_
  refine wp_ret ?_
  refine ret1 HE12 rfl (rv_tmp rfl) ?_
  have HH13 := Held.vecFlat (E := eInt) (xs := [1]) (css := [[.int .i64 (1)]]) HH10 rfl (by unfold maxLen; simp) (fun i x hx => by match i with | 0 => exact ⟨_, rfl, fun _ => by simp at hx; subst hx; exact (oI (by exact ⟨by omega, by omega⟩))⟩ | i + 1 => simp at hx)
  have HH14 := HH13.vecSo
  have hF : oneL = ([1] : List Int) := by
    rfl
  exact ⟨(some ⟨q21, 0, none⟩), 1, by first | (rw [hF] <;> rfl) | rfl | (rw [hF]; simp only [Ending.returned.injEq, Value.slice.injEq, true_and, and_true]; first | omega | (simp; done)) | (rw [hF]; simp; omega), by rw [hF]; exact (HH14.so (i := 0) rfl), HH14.below⟩

set_option maxRecDepth 100000 in
set_option maxHeartbeats 4000000 in
theorem impl_powerOf (A0 : Option Addr) (c0 : Nat) (a0 : (List Int)) (a1 : Int) (w : World) (h0 : Sl eInt w (Old w) A0 c0 a0) (hN : NatP a0) (hp : 2 ≤ a1 ∧ a1 ≤ 999999) :
    Calls Tryz.prog 62 #[.slice A0 a0.length c0, .int .i64 a1] w fun e w' => e = .returned (.int .i64 (powP a0 a1)) ∧ Below w.heap.size w w' := by
  have l0 := h0.len
  have hN2 := hN.2.1
  have hN1 := hN.1
  have hvb := valF_bd a1 800 a0
  have hvb2 : valP a0 a1 = valF 800 a0 a1 := rfl
  have hvc : (valPc a0 a1).1 = valP a0 a1 := rfl
  have hpw : powP a0 a1 = if eq_L (divE a1 (valP a0 a1).toNat a0) oneL = true then valP a0 a1 else -1 := by unfold powP powF valP; simp
  have HH1 := Held.start Nob w
  refine enter (n := 28) Tryz.func62 rfl rfl rfl fun a_2 HE3 => ?_
  refine wp_seq ?_
  refine rg ?_
  refine pl_x HE3 HH1 (wt0 rfl) (x_assign rfl) rfl rfl fun a_4 HE5 => ?_
  refine wpList_nil ?_
  clear a_2 HE3
  refine nrm ?_
  refine wp_seq ?_
  refine rg ?_
  refine pl_x HE5 HH1 (wt0 rfl) (x_move rfl) rfl rfl fun a_6 HE7 => ?_
  refine pl_x HE7 HH1 (wt0 rfl) (x_move rfl) rfl rfl fun a_8 HE9 => ?_
  refine pl fun K_10 hK11 => ?_
  refine st_call HE9 (wt0 rfl) rfl rfl rfl en_59 rfl rfl (impl_ValuationOfN _ _ a0 a1 _ (HH1.old h0) (by assumption) (by omega)) fun e w' hr => ?_
  obtain ⟨rfl, hbr21⟩ := hr
  have HH12 := HH1.on hbr21
  refine ⟨_, rfl, fun a_13 HE14 => hK11 _ _ ?_⟩
  refine pl_x HE14 HH12 (wt0 rfl) (x_move rfl) rfl rfl fun a_15 HE16 => ?_
  refine pl_x HE16 HH12 (wt0 rfl) (x_extract rfl rfl) rfl rfl fun a_17 HE18 => ?_
  refine pl_x HE18 HH12 (wt0 rfl) (x_extract rfl rfl) rfl rfl fun a_19 HE20 => ?_
  refine pl_x HE20 HH12 (wt0 rfl) (x_assign rfl) rfl rfl fun a_21 HE22 => ?_
  refine pl_x HE22 HH12 (wt0 rfl) (x_assign rfl) rfl rfl fun a_23 HE24 => ?_
  refine wpList_nil ?_
  clear a_4 HE5 a_6 HE7 HH1 a_8 HE9 a_13 HE14 a_15 HE16 a_17 HE18 a_19 HE20 a_21 HE22 hK11 K_10
  refine nrm ?_
  refine wp_seq ?_
  refine wp_seq ?_
  refine rg ?_
  refine pl_x HE24 HH12 (wt0 rfl) (x_move rfl) rfl rfl fun a_25 HE26 => ?_
  refine pl_x HE26 HH12 (wt0 rfl) (x_move rfl) rfl rfl fun a_27 HE28 => ?_
  refine wpList_nil ?_
  clear a_23 HE24 a_25 HE26
  refine nrm ?_
  refine wp_block ?_
  have HH29 := HH12.noIf (p := False) (rSo eInt Nob A0 c0 a0) id
  refine lp (fun m a w' => ∃ (j : Nat) (A_0 : Option Addr) (c_0 : Nat) (S_0 : Nat → Prop) (P_0 : Prop), m = (valP a0 a1 - (j : Int)).toNat ∧ Env 28 [(0, .slice A_0 (List.length (divE a1 j a0)) c_0), (14, .int .i64 (j : Int)), (1, .int .i64 (a1)), (5, .int .i64 ((valPc a0 a1).1)), (13, .int .i64 ((valPc a0 a1).1))] a ∧ Held Nob w [rIf (P_0) (rSo eInt S_0 A_0 c_0 (divE a1 j a0))] w' ∧ ((j : Int) ≤ valP a0 a1) ∧ (P_0 ∨ Sl eInt w (Old w) A_0 c_0 (divE a1 j a0))) ((valP a0 a1 - ((0) : Int)).toNat) ?_ ?_
  · have E22 : divE a1 0 a0 = a0 := by
      first | rfl | simp
    exact ⟨0, A0, c0, Nob, False, rfl, HE28.sub ⟨(by rw [E22]; rfl), (lkI rfl (by first | rfl | omega | (simp []; done))), rfl, rfl, rfl, trivial⟩, ((HH29.sel [0] (by decide) rfl).to (by first | rfl | (rw [E22]; done) | (rw [E22]; rfl) | (simp only [E22]; done) | (simp only [E22]; rfl) | (rw [E22]; simp only [List.length_set]; done))), (by first | omega | assumption | (simp; done) | simp_all), (by first | exact .inr h0 | (rw [E22]; exact .inr h0))⟩
  · rintro m a_30 w' ⟨j, A_0, c_0, S_0, P_0, rfl, HE31, HH32, p23_0, ho_0⟩
    rcases ho_0 with ho_0 | ho_0
    · have HH33 := HH32.ofIf ho_0
      have hD := NatP_divE hp 800 a0 j hN p23_0
      have hD2 := hD.2.1
      have hD1 := hD.1
      refine wp_seq ?_
      refine rg ?_
      refine pl_x HE31 HH33 (wt0 rfl) (x_lss rfl rfl) rfl rfl fun a_34 HE35 => ?_
      refine wpList_nil ?_
      clear HH12 a_27 HE28 HH29 HH32 a_30 HE31
      refine nrm ?_
      refine wp_seq ?_
      refine cnd_d HE35 rfl (fun hc24 => ?_) (fun hc24 => ?_)
      · refine wp_skip ?_
        refine nrm ?_
        refine wp_seq ?_
        refine wp_block ?_
        refine rg ?_
        refine pl_x HE35 HH33 (wt0 rfl) (x_move rfl) rfl rfl fun a_36 HE37 => ?_
        refine pl_x HE37 HH33 (wt0 rfl) (x_move rfl) rfl rfl fun a_38 HE39 => ?_
        refine pl fun K_40 hK41 => ?_
        refine st_call HE39 (wt0 rfl) rfl rfl rfl en_60 rfl rfl (impl_divideSmall _ _ (divE a1 j a0) a1 _ (HH33.sl (i := 0) rfl) (by first | assumption | exact mulN_limbs _ _) (by omega) (by first | omega | exact Nat.le_trans (mulN_len (by assumption) (by intro x hx; simp at hx; omega)) (by simp; omega))) fun e w' hr => ?_
        obtain ⟨Ar25_0, cr25_0, rfl, hor25_0, hbr25⟩ := hr
        obtain ⟨Sr25, HH42⟩ := HH33.newS hbr25 hor25_0
        refine ⟨_, rfl, fun a_43 HE44 => hK41 _ _ ?_⟩
        refine pl_x HE44 HH42 (wt0 rfl) (x_move rfl) rfl rfl fun a_45 HE46 => ?_
        refine pl_x HE46 HH42 (wt0 rfl) (x_extract rfl rfl) rfl rfl fun a_47 HE48 => ?_
        refine pl_x HE48 HH42 (wt0 rfl) (x_extract rfl rfl) rfl rfl fun a_49 HE50 => ?_
        refine pl_x HE50 HH42 (wt0 rfl) (x_assign rfl) rfl rfl fun a_51 HE52 => ?_
        refine wpList_nil ?_
        clear a_34 HE35 a_36 HE37 HH33 a_38 HE39 a_43 HE44 a_45 HE46 a_47 HE48 a_49 HE50 hK41 K_40
        refine blk_n ?_
        refine nrm ?_
        refine rg ?_
        refine pl_x HE52 HH42 (wt0 rfl) (x_add rfl rfl (by exact ⟨by omega, by omega⟩)) rfl rfl fun a_53 HE54 => ?_
        refine pl_x HE54 HH42 (wt0 rfl) (x_move rfl) rfl rfl fun a_55 HE56 => ?_
        refine wpList_nil ?_
        clear a_51 HE52 a_53 HE54
        have HH57 := HH42.toIf True
        have E26 : divE a1 (j + 1) a0 = (divN (divE a1 j a0) a1).1 := by
          rw [divE_snoc]
        exact nrm ⟨(valP a0 a1 - ((j + 1) : Int)).toNat, (by omega), j + 1, Ar25_0, cr25_0, Sr25, True, rfl, HE56.sub ⟨(by rw [E26]; rfl), (lkI rfl (by first | rfl | omega | (simp [p23_0, hc24]; done))), rfl, rfl, rfl, trivial⟩, ((HH57.sel [0] (by decide) rfl).to (by first | rfl | (rw [E26]; done) | (rw [E26]; rfl) | (simp only [E26]; done) | (simp only [E26]; rfl) | (rw [E26]; simp only [List.length_set]; done))), (by first | omega | assumption | (simp; done) | simp_all), (by first | exact .inl trivial | (rw [E26]; exact .inl trivial))⟩
      · refine wp_exit ?_
        refine (thn_exit (thn_exit (blk_hit ?_)))
        refine nrm ?_
        refine wp_seq ?_
        refine wp_seq ?_
        refine rg ?_
        refine pl_x HE35 HH33 (wt0 rfl) (x_move rfl) rfl rfl fun a_58 HE59 => ?_
        refine pl fun K_60 hK61 => ?_
        refine st_call HE59 (wt0 rfl) rfl rfl rfl en_113 rfl rfl (impl_one  _ ) fun e w' hr => ?_
        obtain ⟨Ar27_0, cr27_0, rfl, hor27_0, hbr27⟩ := hr
        obtain ⟨Sr27, HH62⟩ := HH33.newS hbr27 hor27_0
        refine ⟨_, rfl, fun a_63 HE64 => hK61 _ _ ?_⟩
        refine pl fun K_65 hK66 => ?_
        refine st_call HE64 (wt0 rfl) rfl rfl rfl en_112 rfl rfl (slices_Equal _ _ _ _ (divE a1 j a0) oneL _ (HH62.sl (i := 1) rfl) (HH62.sl (i := 0) rfl)) fun e w' hr => ?_
        obtain ⟨rfl, hbr28⟩ := hr
        have HH67 := HH62.on hbr28.below
        refine ⟨_, rfl, fun a_68 HE69 => hK66 _ _ ?_⟩
        refine pl_x HE69 HH67 (wt0 rfl) (x_not rfl) rfl rfl fun a_70 HE71 => ?_
        refine wpList_nil ?_
        clear a_34 HE35 HH33 a_58 HE59 K_60 hK61 HH62 a_63 HE64 a_68 HE69 hK66 K_65
        refine nrm ?_
        refine cnd_nb HE71 rfl (fun hc29 => ?_) (fun hc29 => ?_)
        · refine wp_seq ?_
          refine rg ?_
          refine pl_x HE71 HH67 (wt0 rfl) (x_assign rfl) rfl rfl fun a_72 HE73 => ?_
          refine wpList_nil ?_
          clear a_70 HE71
          refine nrm ?_
          refine wp_ret ?_
          refine (thn_ret ?_)
          refine ret1 HE73 rfl (rv_tmp rfl) ?_
          have hF : (powP a0 a1) = -1 := by
            rw [hpw, show (valP a0 a1).toNat = j from by omega]; first | (rw [if_pos (by assumption), hvc]) | (rw [if_neg (by simp [p23_0, hc24, hc29])])
          exact ⟨by first | (rw [hF] <;> rfl) | rfl | (rw [hF]; simp only [Ending.returned.injEq, Value.slice.injEq, true_and, and_true]; first | omega | (simp; done)) | (rw [hF]; simp; omega), HH67.below⟩
        · refine wp_skip ?_
          refine nrm ?_
          refine wp_seq ?_
          refine rg ?_
          refine pl_x HE71 HH67 (wt0 rfl) (x_move rfl) rfl rfl fun a_74 HE75 => ?_
          refine pl_x HE75 HH67 (wt0 rfl) (x_assign rfl) rfl rfl fun a_76 HE77 => ?_
          refine wpList_nil ?_
          clear a_70 HE71 a_74 HE75
          refine nrm ?_
          refine wp_ret ?_
          refine ret1 HE77 rfl (rv_tmp rfl) ?_
          have hF : (powP a0 a1) = (valPc a0 a1).1 := by
            rw [hpw, show (valP a0 a1).toNat = j from by omega]; first | (rw [if_pos (by assumption), hvc]) | (rw [if_neg (by simp [p23_0, hc24, hc29])])
          exact ⟨by first | (rw [hF] <;> rfl) | rfl | (rw [hF]; simp only [Ending.returned.injEq, Value.slice.injEq, true_and, and_true]; first | omega | (simp; done)) | (rw [hF]; simp; omega), HH67.below⟩
    · have HH78 := HH32.sel [] (by decide) rfl
      have hD := NatP_divE hp 800 a0 j hN p23_0
      have hD2 := hD.2.1
      have hD1 := hD.1
      refine wp_seq ?_
      refine rg ?_
      refine pl_x HE31 HH78 (wt0 rfl) (x_lss rfl rfl) rfl rfl fun a_79 HE80 => ?_
      refine wpList_nil ?_
      clear HH12 a_27 HE28 HH29 HH32 a_30 HE31
      refine nrm ?_
      refine wp_seq ?_
      refine cnd_d HE80 rfl (fun hc30 => ?_) (fun hc30 => ?_)
      · refine wp_skip ?_
        refine nrm ?_
        refine wp_seq ?_
        refine wp_block ?_
        refine rg ?_
        refine pl_x HE80 HH78 (wt0 rfl) (x_move rfl) rfl rfl fun a_81 HE82 => ?_
        refine pl_x HE82 HH78 (wt0 rfl) (x_move rfl) rfl rfl fun a_83 HE84 => ?_
        refine pl fun K_85 hK86 => ?_
        refine st_call HE84 (wt0 rfl) rfl rfl rfl en_60 rfl rfl (impl_divideSmall _ _ (divE a1 j a0) a1 _ (HH78.old ho_0) (by first | assumption | exact mulN_limbs _ _) (by omega) (by first | omega | exact Nat.le_trans (mulN_len (by assumption) (by intro x hx; simp at hx; omega)) (by simp; omega))) fun e w' hr => ?_
        obtain ⟨Ar31_0, cr31_0, rfl, hor31_0, hbr31⟩ := hr
        obtain ⟨Sr31, HH87⟩ := HH78.newS hbr31 hor31_0
        refine ⟨_, rfl, fun a_88 HE89 => hK86 _ _ ?_⟩
        refine pl_x HE89 HH87 (wt0 rfl) (x_move rfl) rfl rfl fun a_90 HE91 => ?_
        refine pl_x HE91 HH87 (wt0 rfl) (x_extract rfl rfl) rfl rfl fun a_92 HE93 => ?_
        refine pl_x HE93 HH87 (wt0 rfl) (x_extract rfl rfl) rfl rfl fun a_94 HE95 => ?_
        refine pl_x HE95 HH87 (wt0 rfl) (x_assign rfl) rfl rfl fun a_96 HE97 => ?_
        refine wpList_nil ?_
        clear a_79 HE80 a_81 HE82 HH78 a_83 HE84 a_88 HE89 a_90 HE91 a_92 HE93 a_94 HE95 hK86 K_85
        refine blk_n ?_
        refine nrm ?_
        refine rg ?_
        refine pl_x HE97 HH87 (wt0 rfl) (x_add rfl rfl (by exact ⟨by omega, by omega⟩)) rfl rfl fun a_98 HE99 => ?_
        refine pl_x HE99 HH87 (wt0 rfl) (x_move rfl) rfl rfl fun a_100 HE101 => ?_
        refine wpList_nil ?_
        clear a_96 HE97 a_98 HE99
        have HH102 := HH87.toIf True
        have E32 : divE a1 (j + 1) a0 = (divN (divE a1 j a0) a1).1 := by
          rw [divE_snoc]
        exact nrm ⟨(valP a0 a1 - ((j + 1) : Int)).toNat, (by omega), j + 1, Ar31_0, cr31_0, Sr31, True, rfl, HE101.sub ⟨(by rw [E32]; rfl), (lkI rfl (by first | rfl | omega | (simp [p23_0, hc30]; done))), rfl, rfl, rfl, trivial⟩, ((HH102.sel [0] (by decide) rfl).to (by first | rfl | (rw [E32]; done) | (rw [E32]; rfl) | (simp only [E32]; done) | (simp only [E32]; rfl) | (rw [E32]; simp only [List.length_set]; done))), (by first | omega | assumption | (simp; done) | simp_all), (by first | exact .inl trivial | (rw [E32]; exact .inl trivial))⟩
      · refine wp_exit ?_
        refine (thn_exit (thn_exit (blk_hit ?_)))
        refine nrm ?_
        refine wp_seq ?_
        refine wp_seq ?_
        refine rg ?_
        refine pl_x HE80 HH78 (wt0 rfl) (x_move rfl) rfl rfl fun a_103 HE104 => ?_
        refine pl fun K_105 hK106 => ?_
        refine st_call HE104 (wt0 rfl) rfl rfl rfl en_113 rfl rfl (impl_one  _ ) fun e w' hr => ?_
        obtain ⟨Ar33_0, cr33_0, rfl, hor33_0, hbr33⟩ := hr
        obtain ⟨Sr33, HH107⟩ := HH78.newS hbr33 hor33_0
        refine ⟨_, rfl, fun a_108 HE109 => hK106 _ _ ?_⟩
        refine pl fun K_110 hK111 => ?_
        refine st_call HE109 (wt0 rfl) rfl rfl rfl en_112 rfl rfl (slices_Equal _ _ _ _ (divE a1 j a0) oneL _ (HH107.old ho_0) (HH107.sl (i := 0) rfl)) fun e w' hr => ?_
        obtain ⟨rfl, hbr34⟩ := hr
        have HH112 := HH107.on hbr34.below
        refine ⟨_, rfl, fun a_113 HE114 => hK111 _ _ ?_⟩
        refine pl_x HE114 HH112 (wt0 rfl) (x_not rfl) rfl rfl fun a_115 HE116 => ?_
        refine wpList_nil ?_
        clear a_79 HE80 HH78 a_103 HE104 K_105 hK106 HH107 a_108 HE109 a_113 HE114 hK111 K_110
        refine nrm ?_
        refine cnd_nb HE116 rfl (fun hc35 => ?_) (fun hc35 => ?_)
        · refine wp_seq ?_
          refine rg ?_
          refine pl_x HE116 HH112 (wt0 rfl) (x_assign rfl) rfl rfl fun a_117 HE118 => ?_
          refine wpList_nil ?_
          clear a_115 HE116
          refine nrm ?_
          refine wp_ret ?_
          refine (thn_ret ?_)
          refine ret1 HE118 rfl (rv_tmp rfl) ?_
          have hF : (powP a0 a1) = -1 := by
            rw [hpw, show (valP a0 a1).toNat = j from by omega]; first | (rw [if_pos (by assumption), hvc]) | (rw [if_neg (by simp [p23_0, hc30, hc35])])
          exact ⟨by first | (rw [hF] <;> rfl) | rfl | (rw [hF]; simp only [Ending.returned.injEq, Value.slice.injEq, true_and, and_true]; first | omega | (simp; done)) | (rw [hF]; simp; omega), HH112.below⟩
        · refine wp_skip ?_
          refine nrm ?_
          refine wp_seq ?_
          refine rg ?_
          refine pl_x HE116 HH112 (wt0 rfl) (x_move rfl) rfl rfl fun a_119 HE120 => ?_
          refine pl_x HE120 HH112 (wt0 rfl) (x_assign rfl) rfl rfl fun a_121 HE122 => ?_
          refine wpList_nil ?_
          clear a_115 HE116 a_119 HE120
          refine nrm ?_
          refine wp_ret ?_
          refine ret1 HE122 rfl (rv_tmp rfl) ?_
          have hF : (powP a0 a1) = (valPc a0 a1).1 := by
            rw [hpw, show (valP a0 a1).toNat = j from by omega]; first | (rw [if_pos (by assumption), hvc]) | (rw [if_neg (by simp [p23_0, hc30, hc35])])
          exact ⟨by first | (rw [hF] <;> rfl) | rfl | (rw [hF]; simp only [Ending.returned.injEq, Value.slice.injEq, true_and, and_true]; first | omega | (simp; done)) | (rw [hF]; simp; omega), HH112.below⟩

set_option maxRecDepth 100000 in
set_option maxHeartbeats 4000000 in
theorem impl_PowersSeen1 (M : Nat → Prop) (A0 : Option Addr) (c0 : Nat) (a0 : (List Int)) (p1 : Nat) (es1 : List Value) (a1 : Int) (p2 : Nat) (A2 : Option Addr) (c2 : Nat) (a2 : (List Int)) (S2 : Nat → Prop) (w : World) (HM : Held M w [rBlk p2 25 [.slice A2 a2.length c2], rVec eInt 2 S2 A2 c2 a2] w) (h0 : Sl eInt w (Out M w) A0 c0 a0) (h1 : eInt.R w (Out M w) es1 a1) (hq1 : ∀ j v, es1[j]? = some v → w.cell? ⟨p1, 0 + j, none⟩ = some v) (Nhq1 : ¬ M p1) (hN : NatP a0) (hp : 2 ≤ a1 ∧ a1 ≤ 999999) (s1 : a2.length ≤ 1000000) :
    Calls Tryz.prog 61 #[.slice A0 a0.length c0, .pointer (some ⟨p1, 0, none⟩), .pointer (some ⟨p2, 0, none⟩)] w fun e w' => ∃ (A2' : Option Addr) (c2' : Nat) (S2' : Nat → Prop), e = .returned (.bool ((powSeen a0 a1 a2).1)) ∧ Held M w [rBlk p2 25 [.slice A2' (List.length ((powSeen a0 a1 a2).2)) c2'], rVec eInt 2 S2' A2' c2' ((powSeen a0 a1 a2).2)] w' := by
  have l0 := h0.len
  have H1 := h1
  obtain ⟨rfl, iz1⟩ := h1
  have jz1 := iz1; unfold I64 at jz1
  have HH1 := HM
  have lv2 := (HH1.vecSl (i := 1) rfl).len
  have hpb := powP_bd a0 a1
  refine enter (n := 18) Tryz.func61 rfl rfl rfl fun a_2 HE3 => ?_
  refine wp_seq ?_
  refine rg ?_
  refine pl_x HE3 HH1 (wt0 rfl) (x_assign rfl) rfl rfl fun a_4 HE5 => ?_
  refine wpList_nil ?_
  clear a_2 HE3
  refine nrm ?_
  refine wp_seq ?_
  refine wp_seq ?_
  refine rg ?_
  refine pl_x HE5 HH1 (wt0 rfl) (x_move rfl) rfl rfl fun a_6 HE7 => ?_
  refine pl_x HE7 HH1 (wt0 rfl) (x_load1 tv_2 rfl (c_oldM Nhq1 (hq1 0 _ rfl))) rfl rfl fun a_8 HE9 => ?_
  refine pl fun K_10 hK11 => ?_
  refine st_call HE9 (wt0 rfl) rfl rfl rfl en_62 rfl rfl (impl_powerOf _ _ a0 a1 _ (HH1.oldM h0) (by assumption) (by omega)) fun e w' hr => ?_
  obtain ⟨rfl, hbr21⟩ := hr
  have HH12 := HH1.on hbr21
  refine ⟨_, rfl, fun a_13 HE14 => hK11 _ _ ?_⟩
  refine pl_x HE14 HH12 (wt0 rfl) (x_assign rfl) rfl rfl fun a_15 HE16 => ?_
  refine wpList_nil ?_
  clear a_4 HE5 a_6 HE7 HH1 a_8 HE9 a_13 HE14 hK11 K_10
  refine nrm ?_
  refine wp_seq ?_
  refine rg ?_
  refine pl_x HE16 HH12 (wt0 rfl) (x_move rfl) rfl rfl fun a_17 HE18 => ?_
  refine pl_x HE18 HH12 (wt0 rfl) (x_geq rfl rfl) rfl rfl fun a_19 HE20 => ?_
  refine wpList_nil ?_
  clear a_15 HE16 a_17 HE18
  refine nrm ?_
  refine cnd_d HE20 rfl (fun hc22 => ?_) (fun hc22 => ?_)
  · refine rg ?_
    refine pl_x HE20 HH12 (wt0 rfl) (x_load1 tv_25 rfl (c_blk 0 rfl rfl)) rfl rfl fun a_21 HE22 => ?_
    refine pl_x HE22 HH12 (wt0 rfl) (x_move rfl) rfl rfl fun a_23 HE24 => ?_
    refine pl fun K_25 hK26 => ?_
    refine st_lit (m := 1) (cs := [.int .i64 ((powP a0 a1))]) (e := 2) HE24 HH12 (run_lit ts_25 HE24 (vs := [.int .i64 ((powP a0 a1))]) rfl rfl (by simp [Value.cells]) rfl (by decide)) (wt0 rfl) rfl rfl fun q23 a_27 w' HE28 HH29 => hK26 _ _ ?_
    refine pl fun K_30 hK31 => ?_
    refine st_app1F (powP a0 a1) HE28 HH29 ts_25 [2, 0, 1] (by decide) rfl (fun _ => (oI (by exact ⟨by omega, by omega⟩))) rfl rfl (by simp [Value.oneCell']) (by unfold maxLen; first | omega | (simp; done) | (simp; omega)) (by first | omega | (simp; done) | (simp; omega)) (wt0 rfl) rfl fun A24 c25 S26 a_32 w' HE33 HH34 => hK31 _ _ ?_
    refine pl fun K_35 hK36 => ?_
    refine st_store (vs := [.slice A24 ((a2 ++ [(powP a0 a1)]).length) c25]) 1 HE33 HH34 tv_25 rfl rfl rfl rfl rfl rfl (by simp [Value.oneCell']) (wt0 rfl) fun w' HH37 => hK36 _ _ ?_
    refine wpList_nil ?_
    clear a_19 HE20 a_21 HE22 a_23 HE24 HH12 K_25 hK26 a_27 HE28 HH29 K_30 hK31 HH34 hK36 K_35
    refine nrm ?_
    refine wp_seq ?_
    refine rg ?_
    refine pl_x HE33 HH37 (wt0 rfl) (x_load1 tv_25 rfl (c_blk 1 rfl rfl)) rfl rfl fun a_38 HE39 => ?_
    refine pl_x HE39 HH37 (wt0 rfl) (x_len Tryz.underlying25 rfl) rfl rfl fun a_40 HE41 => ?_
    refine pl_x HE41 HH37 (wt0 rfl) (x_lss rfl rfl) rfl rfl fun a_42 HE43 => ?_
    refine pl_x HE43 HH37 (wt0 rfl) (x_assign rfl) rfl rfl fun a_44 HE45 => ?_
    refine wpList_nil ?_
    clear a_32 HE33 a_38 HE39 a_40 HE41 a_42 HE43
    refine nrm ?_
    refine wp_ret ?_
    refine ret1 HE45 rfl (rv_tmp rfl) ?_
    have hF : (powSeen a0 a1 a2) = (decide (((a2 ++ [(powP a0 a1)]).length : Int) < 20), (a2 ++ [(powP a0 a1)])) := by
      unfold powSeen; grind
    exact ⟨_, _, _, by first | (rw [hF] <;> rfl) | rfl | (rw [hF]; simp only [Ending.returned.injEq, Value.slice.injEq, true_and, and_true]; first | omega | (simp; done)) | (rw [hF]; simp; omega), by rw [hF]; exact HH37.sel [1, 0] (by decide) rfl⟩
  · refine wp_skip ?_
    refine nrm ?_
    refine wp_seq ?_
    refine rg ?_
    refine pl_x HE20 HH12 (wt0 rfl) (x_load1 tv_25 rfl (c_blk 0 rfl rfl)) rfl rfl fun a_46 HE47 => ?_
    refine pl_x HE47 HH12 (wt0 rfl) (x_len Tryz.underlying25 rfl) rfl rfl fun a_48 HE49 => ?_
    refine pl_x HE49 HH12 (wt0 rfl) (x_lss rfl rfl) rfl rfl fun a_50 HE51 => ?_
    refine pl_x HE51 HH12 (wt0 rfl) (x_assign rfl) rfl rfl fun a_52 HE53 => ?_
    refine wpList_nil ?_
    clear a_19 HE20 a_46 HE47 a_48 HE49 a_50 HE51
    refine nrm ?_
    refine wp_ret ?_
    refine ret1 HE53 rfl (rv_tmp rfl) ?_
    have hF : (powSeen a0 a1 a2) = (decide ((a2.length : Int) < 20), a2) := by
      unfold powSeen; grind
    exact ⟨_, _, _, by first | (rw [hF] <;> rfl) | rfl | (rw [hF]; simp only [Ending.returned.injEq, Value.slice.injEq, true_and, and_true]; first | omega | (simp; done)) | (rw [hF]; simp; omega), by rw [hF]; exact HH12.sel [0, 1] (by decide) rfl⟩

set_option maxRecDepth 100000 in
set_option maxHeartbeats 4000000 in
theorem impl_runFractionsP (M : Nat → Prop) (A0 : Option Addr) (c0 : Nat) (a0 : (List tFraction)) (A1 : Option Addr) (c1 : Nat) (a1 : (List Int)) (a2 : Int) (p4 : Nat) (es4 : List Value) (a4 : Int) (p5 : Nat) (A5 : Option Addr) (c5 : Nat) (a5 : (List Int)) (S5 : Nat → Prop) (w : World) (HM : Held M w [rBlk p5 25 [.slice A5 a5.length c5], rVec eInt 2 S5 A5 c5 a5] w) (h0 : Sl eFraction w (Out M w) A0 c0 a0) (h1 : Sl eInt w (Out M w) A1 c1 a1) (h4 : eInt.R w (Out M w) es4 a4) (hq4 : ∀ j v, es4[j]? = some v → w.cell? ⟨p4, 0 + j, none⟩ = some v) (Nhq4 : ¬ M p4) (s0 : okFr a0) (hN : NatP a1) (s3 : a0.length ≤ 100) (s4 : 0 ≤ a2 ∧ a2 ≤ 20000) (hp : 2 ≤ a4 ∧ a4 ≤ 999999) (s5 : a5.length ≤ 1000) :
    Calls Tryz.prog 51 #[.slice A0 a0.length c0, .slice A1 a1.length c1, .int .i64 a2, .func (.func 61) #[] #[.pointer (some ⟨p4, 0, none⟩), .pointer (some ⟨p5, 0, none⟩)]] w fun e w' => ∃ (AR0' : Option Addr) (cR0' : Nat) (SR0' : Nat → Prop) (A5' : Option Addr) (c5' : Nat) (S5' : Nat → Prop), e = .returned (.tuple #[.slice AR0' (runFP a0 a1 a2 a4 a5).1.length cR0', .int .i64 ((runFP a0 a1 a2 a4 a5).2.1), .bool ((runFP a0 a1 a2 a4 a5).2.2.1), .int .i64 ((runFP a0 a1 a2 a4 a5).2.2.2.1)]) ∧ Held M w [rSo eInt SR0' AR0' cR0' ((runFP a0 a1 a2 a4 a5).1), rBlk p5 25 [.slice A5' (List.length ((runFP a0 a1 a2 a4 a5).2.2.2.2)) c5'], rVec eInt 2 S5' A5' c5' ((runFP a0 a1 a2 a4 a5).2.2.2.2)] w' := by
  have l0 := h0.len
  have l1 := h1.len
  have H4 := h4
  obtain ⟨rfl, iz4⟩ := h4
  have jz4 := iz4; unfold I64 at jz4
  have HH1 := HM
  have lv5 := (HH1.vecSl (i := 1) rfl).len
  have hN1 := hN.1
  have hN2 := hN.2.1
  refine enter (n := 46) Tryz.func51 rfl rfl rfl fun a_2 HE3 => ?_
  refine wp_seq ?_
  refine rg ?_
  refine pl_x HE3 HH1 (wt0 rfl) (x_assign rfl) rfl rfl fun a_4 HE5 => ?_
  refine pl_x HE5 HH1 (wt0 rfl) (x_assign rfl) rfl rfl fun a_6 HE7 => ?_
  refine pl_x HE7 HH1 (wt0 rfl) (x_assign rfl) rfl rfl fun a_8 HE9 => ?_
  refine pl_x HE9 HH1 (wt0 rfl) (x_assign rfl) rfl rfl fun a_10 HE11 => ?_
  refine wpList_nil ?_
  clear a_2 HE3 a_4 HE5 a_6 HE7 a_8 HE9
  refine nrm ?_
  refine wp_seq ?_
  refine rg ?_
  refine pl_x HE11 HH1 (wt0 rfl) (x_move rfl) rfl rfl fun a_12 HE13 => ?_
  refine pl fun K_14 hK15 => ?_
  refine st_call HE13 (wt0 rfl) rfl rfl rfl en_58 rfl rfl (Clone_Int64 _ _ a1 _ (HH1.oldM h1) (by omega)) fun e w' hr => ?_
  obtain ⟨Ar21_0, cr21_0, rfl, hor21_0, hbr21⟩ := hr
  obtain ⟨Sr21, HH16⟩ := HH1.newS hbr21 hor21_0
  refine ⟨_, rfl, fun a_17 HE18 => hK15 _ _ ?_⟩
  refine pl_x HE18 HH16 (wt0 rfl) (x_assign rfl) rfl rfl fun a_19 HE20 => ?_
  refine wpList_nil ?_
  clear a_10 HE11 HH1 a_12 HE13 a_17 HE18 hK15 K_14
  refine nrm ?_
  refine wp_seq ?_
  refine rg ?_
  refine pl_x HE20 HH16 (wt0 rfl) (x_assign rfl) rfl rfl fun a_21 HE22 => ?_
  refine wpList_nil ?_
  clear a_19 HE20
  refine nrm ?_
  refine wp_block ?_
  refine lp (fun m a w' => ∃ (k : Nat) (y : List Int) (l : List Int) (A_1 : Option Addr) (c_1 : Nat) (S_1 : Nat → Prop) (A_1005_0 : Option Addr) (c_1005_0 : Nat) (S_1005_0 : Nat → Prop), m = (a2 - (k : Int)).toNat ∧ Env 46 [(1, .slice A_1 (List.length y) c_1), (12, .int .i64 (k : Int)), (0, .slice A0 (a0.length) c0), (2, .int .i64 (a2)), (3, .func (.func 61) #[] #[.pointer (some ⟨p4, 0, none⟩), .pointer (some ⟨p5, 0, none⟩)])] a ∧ Held M w [rSo eInt S_1 A_1 c_1 y, rVec eInt 2 S_1005_0 A_1005_0 c_1005_0 l, rBlk p5 25 [.slice A_1005_0 (List.length l) c_1005_0]] w' ∧ ((k : Int) ≤ a2) ∧ (NatP y) ∧ (runFP a0 a1 a2 a4 a5 = runPw a0 a4 (a2 - k).toNat y k l) ∧ (l.length ≤ 1000 + k)) ((a2 - ((0) : Int)).toNat) ?_ ?_
  · exact ⟨0, a1, a5, Ar21_0, cr21_0, Sr21, A5, c5, S5, rfl, HE22.sub ⟨rfl, (lkI rfl (by first | rfl | omega | (simp []; done))), rfl, rfl, rfl, trivial⟩, (HH16.sel [0, 2, 1] (by decide) rfl), (by first | omega | assumption | (simp; done) | simp_all), (by exact hN), (by unfold runFP; simp), (by first | omega | assumption | (simp; done) | simp_all)⟩
  · rintro m a_23 w' ⟨k, y, l, A_1, c_1, S_1, A_1005_0, c_1005_0, S_1005_0, rfl, HE24, HH25, p22_0, p22_1, p22_2, p22_3⟩
    have hy := p22_1
    obtain ⟨hy1, hy2, hy3, hy4⟩ := hy
    have hpl := powSeen_len y a4 l
    refine wp_seq ?_
    refine wp_block ?_
    refine wp_seq ?_
    refine rg ?_
    refine pl_x HE24 HH25 (wt0 rfl) (x_move rfl) rfl rfl fun a_26 HE27 => ?_
    refine pl_x HE27 HH25 (wt0 rfl) (x_move rfl) rfl rfl fun a_28 HE29 => ?_
    refine pl fun K_30 hK31 => ?_
    refine st_call HE29 (wt0 rfl) rfl rfl rfl en_110 rfl rfl (impl_stepFractions _ _ a0 _ _ y _ (HH25.oldM h0) (HH25.sl (i := 0) rfl) (by first | assumption | exact hV.2) (by first | assumption | exact hP.1) (by omega) (by omega)) fun e w' hr => ?_
    obtain ⟨Ar23_0, cr23_0, Sr23_0, rfl, hbr23⟩ := hr
    have HH32 := HH25.app hbr23
    clear hbr23
    have HH33 : Held M w ([rIf (0 ≤ (stepFI a0 y).2) (rSo eInt Sr23_0 Ar23_0 cr23_0 ((stepFI a0 y).1)), rSo eInt S_1 A_1 c_1 y, rVec eInt 2 S_1005_0 A_1005_0 c_1005_0 l, rBlk p5 25 [.slice A_1005_0 ((List.length l)) c_1005_0]]) _ := HH32
    refine ⟨_, rfl, fun a_34 HE35 => hK31 _ _ ?_⟩
    refine pl_x HE35 HH33 (wt0 rfl) (x_move rfl) rfl rfl fun a_36 HE37 => ?_
    refine pl_x HE37 HH33 (wt0 rfl) (x_extract rfl rfl) rfl rfl fun a_38 HE39 => ?_
    refine pl_x HE39 HH33 (wt0 rfl) (x_extract rfl rfl) rfl rfl fun a_40 HE41 => ?_
    refine pl_x HE41 HH33 (wt0 rfl) (x_assign rfl) rfl rfl fun a_42 HE43 => ?_
    refine pl_x HE43 HH33 (wt0 rfl) (x_assign rfl) rfl rfl fun a_44 HE45 => ?_
    refine wpList_nil ?_
    clear a_21 HE22 HH16 a_23 HE24 a_26 HE27 HH25 HH32 a_28 HE29 a_34 HE35 a_36 HE37 a_38 HE39 a_40 HE41 a_42 HE43 hK31 K_30
    refine nrm ?_
    refine wp_seq ?_
    refine wp_seq ?_
    refine rg ?_
    refine pl_x HE45 HH33 (wt0 rfl) (x_move rfl) rfl rfl fun a_46 HE47 => ?_
    refine pl_x HE47 HH33 (wt0 rfl) (x_move rfl) rfl rfl fun a_48 HE49 => ?_
    refine pl fun K_50 hK51 => ?_
    have HH52 := HH33.sel [3, 2, 0, 1] (by decide) rfl
    have HH53 : Held M w ([rBlk p5 25 [.slice A_1005_0 ((List.length l)) c_1005_0], rVec eInt 2 S_1005_0 A_1005_0 c_1005_0 l] ++ [rIf (0 ≤ (stepFI a0 y).2) (rSo eInt Sr23_0 Ar23_0 cr23_0 ((stepFI a0 y).1)), rSo eInt S_1 A_1 c_1 y]) _ := HH52
    refine st_callD HE49 (wt0 rfl) rfl rfl rfl en_61 rfl rfl (impl_PowersSeen1 (Foot [rBlk p5 25 [.slice A_1005_0 ((List.length l)) c_1005_0], rVec eInt 2 S_1005_0 A_1005_0 c_1005_0 l]) _ _ y _ [.int .i64 (a4)] a4 _ _ _ l _ _ HH53.focus (sl_of_r (HH53.lendR (i := 1) rfl)) (HH53.lendOM H4) (c_oldNM Nhq4 hq4 _ HH53) (HH53.nfOM Nhq4 (hq4 0 _ rfl)) (by assumption) (by omega) (by omega)) fun e w' hr => ?_
    obtain ⟨Ar24_0, cr24_0, Sr24_0, rfl, hbr24⟩ := hr
    have HH54 := HH53.back hbr24
    clear hbr24
    have HH55 : Held M w ([rBlk p5 25 [.slice Ar24_0 ((List.length ((powSeen y a4 l).2))) cr24_0], rVec eInt 2 Sr24_0 Ar24_0 cr24_0 ((powSeen y a4 l).2)] ++ [rIf (0 ≤ (stepFI a0 y).2) (rSo eInt Sr23_0 Ar23_0 cr23_0 ((stepFI a0 y).1)), rSo eInt S_1 A_1 c_1 y]) _ := HH54
    refine ⟨_, rfl, fun a_56 HE57 => hK51 _ _ ?_⟩
    refine pl_x HE57 HH55 (wt0 rfl) (x_not rfl) rfl rfl fun a_58 HE59 => ?_
    refine pl_x HE59 HH55 (wt0 rfl) (x_move rfl) rfl rfl fun a_60 HE61 => ?_
    rcases Bool.eq_false_or_eq_true ((powSeen y a4 l).1) with hc25 | hc25
    · refine pl_x HE61 HH55 (wtT HE61 rfl rfl rfl (not_f hc25)) (x_move rfl) rfl rfl fun a_62 HE63 => ?_
      refine pl_x HE63 HH55 (wtT HE63 rfl rfl rfl (not_f hc25)) (x_lss rfl rfl) rfl rfl fun a_64 HE65 => ?_
      refine pl_x HE65 HH55 (wt0 rfl) (x_pickF rfl (not_f hc25) rfl) rfl rfl fun a_66 HE67 => ?_
      refine pl_x HE67 HH55 (wt0 rfl) (x_move rfl) rfl rfl fun a_68 HE69 => ?_
      by_cases hc26 : (stepFI a0 y).2 < 0
      · refine pl_no HE69 (wtF HE69 rfl rfl rfl (decide_eq_true hc26)) rfl rfl fun a_70 HE71 => ?_
        refine pl_no HE71 (wtF HE71 rfl rfl rfl (decide_eq_true hc26)) rfl rfl fun a_72 HE73 => ?_
        refine pl_no HE73 (wtF HE73 rfl rfl rfl (decide_eq_true hc26)) rfl rfl fun a_74 HE75 => ?_
        refine pl_x HE75 HH55 (wt0 rfl) (x_pickT rfl (decide_eq_true hc26) rfl) rfl rfl fun a_76 HE77 => ?_
        refine wpList_nil ?_
        clear a_44 HE45 a_46 HE47 HH33 HH52 HH53 HH54 a_48 HE49 a_56 HE57 a_58 HE59 a_60 HE61 a_62 HE63 a_64 HE65 a_66 HE67 a_68 HE69 a_70 HE71 a_72 HE73 a_74 HE75 hK51 K_50
        refine nrm ?_
        refine cndT HE77 rfl rfl ?_
        refine wp_seq ?_
        refine rg ?_
        refine pl_x HE77 HH55 (wt0 rfl) (x_move rfl) rfl rfl fun a_78 HE79 => ?_
        refine pl_x HE79 HH55 (wt0 rfl) (x_move rfl) rfl rfl fun a_80 HE81 => ?_
        refine pl_x HE81 HH55 (wt0 rfl) (x_move rfl) rfl rfl fun a_82 HE83 => ?_
        refine pl_x HE83 HH55 (wt0 rfl) (x_lss rfl rfl) rfl rfl fun a_84 HE85 => ?_
        refine pl_x HE85 HH55 (wt0 rfl) (x_assign rfl) rfl rfl fun a_86 HE87 => ?_
        refine pl_x HE87 HH55 (wt0 rfl) (x_assign rfl) rfl rfl fun a_88 HE89 => ?_
        refine pl_x HE89 HH55 (wt0 rfl) (x_assign rfl) rfl rfl fun a_90 HE91 => ?_
        refine pl_x HE91 HH55 (wt0 rfl) (x_assign rfl) rfl rfl fun a_92 HE93 => ?_
        refine wpList_nil ?_
        clear a_76 HE77 a_78 HE79 a_80 HE81 a_82 HE83 a_84 HE85 a_86 HE87 a_88 HE89 a_90 HE91
        refine nrm ?_
        refine wp_ret ?_
        refine (thn_ret (blk_ret (thn_ret (thn_ret (blk_ret ?_)))))
        refine ret4 HE93 rfl (rv_tmp rfl) (rv_tmp rfl) (rv_tmp rfl) (rv_tmp rfl) ?_
        have hF : (runFP a0 a1 a2 a4 a5) = (y, (k : Int), decide ((stepFI a0 y).2 < 0), 0, (powSeen y a4 l).2) := by
          rw [p22_2, runPw_eq]; grind
        exact ⟨_, _, _, _, _, _, by first | (rw [hF] <;> rfl) | rfl | (rw [hF]; simp only [Ending.returned.injEq, Value.slice.injEq, true_and, and_true]; first | omega | (simp; done)) | (rw [hF]; simp; omega), by rw [hF]; exact HH55.sel [3, 0, 1] (by decide) rfl⟩
      · refine pl_x HE69 HH55 (wtT HE69 rfl rfl rfl (decide_eq_false hc26)) (x_move rfl) rfl rfl fun a_94 HE95 => ?_
        refine pl_x HE95 HH55 (wtT HE95 rfl rfl rfl (decide_eq_false hc26)) (x_move rfl) rfl rfl fun a_96 HE97 => ?_
        refine pl_x HE97 HH55 (wtT HE97 rfl rfl rfl (decide_eq_false hc26)) (x_eql rfl rfl) rfl rfl fun a_98 HE99 => ?_
        refine pl_x HE99 HH55 (wt0 rfl) (x_pickF rfl (decide_eq_false hc26) rfl) rfl rfl fun a_100 HE101 => ?_
        refine wpList_nil ?_
        clear a_44 HE45 a_46 HE47 HH33 HH52 HH53 HH54 a_48 HE49 a_56 HE57 a_58 HE59 a_60 HE61 a_62 HE63 a_64 HE65 a_66 HE67 a_68 HE69 a_94 HE95 a_96 HE97 a_98 HE99 hK51 K_50
        refine nrm ?_
        refine cnd_e HE101 rfl (fun hc27 => ?_) (fun hc27 => ?_)
        · refine wp_seq ?_
          refine rg ?_
          refine pl_x HE101 HH55 (wt0 rfl) (x_move rfl) rfl rfl fun a_102 HE103 => ?_
          refine pl_x HE103 HH55 (wt0 rfl) (x_move rfl) rfl rfl fun a_104 HE105 => ?_
          refine pl_x HE105 HH55 (wt0 rfl) (x_move rfl) rfl rfl fun a_106 HE107 => ?_
          refine pl_x HE107 HH55 (wt0 rfl) (x_lss rfl rfl) rfl rfl fun a_108 HE109 => ?_
          refine pl_x HE109 HH55 (wt0 rfl) (x_assign rfl) rfl rfl fun a_110 HE111 => ?_
          refine pl_x HE111 HH55 (wt0 rfl) (x_assign rfl) rfl rfl fun a_112 HE113 => ?_
          refine pl_x HE113 HH55 (wt0 rfl) (x_assign rfl) rfl rfl fun a_114 HE115 => ?_
          refine pl_x HE115 HH55 (wt0 rfl) (x_assign rfl) rfl rfl fun a_116 HE117 => ?_
          refine wpList_nil ?_
          clear a_100 HE101 a_102 HE103 a_104 HE105 a_106 HE107 a_108 HE109 a_110 HE111 a_112 HE113 a_114 HE115
          refine nrm ?_
          refine wp_ret ?_
          refine (thn_ret (blk_ret (thn_ret (thn_ret (blk_ret ?_)))))
          refine ret4 HE117 rfl (rv_tmp rfl) (rv_tmp rfl) (rv_tmp rfl) (rv_tmp rfl) ?_
          have hF : (runFP a0 a1 a2 a4 a5) = (y, (k : Int), decide ((stepFI a0 y).2 < 0), 0, (powSeen y a4 l).2) := by
            rw [p22_2, runPw_eq]; grind
          exact ⟨_, _, _, _, _, _, by first | (rw [hF] <;> rfl) | rfl | (rw [hF]; simp only [Ending.returned.injEq, Value.slice.injEq, true_and, and_true]; first | omega | (simp; done)) | (rw [hF]; simp; omega), by rw [hF]; exact HH55.sel [3, 0, 1] (by decide) rfl⟩
        · refine wp_skip ?_
          refine nrm ?_
          refine wp_seq ?_
          refine wp_seq ?_
          refine rg ?_
          refine pl_x HE101 HH55 (wt0 rfl) (x_move rfl) rfl rfl fun a_118 HE119 => ?_
          refine pl_x HE119 HH55 (wt0 rfl) (x_len Tryz.underlying25 rfl) rfl rfl fun a_120 HE121 => ?_
          refine pl_x HE121 HH55 (wt0 rfl) (x_gtr rfl rfl) rfl rfl fun a_122 HE123 => ?_
          refine wpList_nil ?_
          clear a_100 HE101 a_118 HE119 a_120 HE121
          refine nrm ?_
          refine cnd_d HE123 rfl (fun hc28 => ?_) (fun hc28 => ?_)
          · refine wp_seq ?_
            refine rg ?_
            refine pl_x HE123 HH55 (wt0 rfl) (x_assign rfl) rfl rfl fun a_124 HE125 => ?_
            refine pl_x HE125 HH55 (wt0 rfl) (x_assign rfl) rfl rfl fun a_126 HE127 => ?_
            refine pl_x HE127 HH55 (wt0 rfl) (x_assign rfl) rfl rfl fun a_128 HE129 => ?_
            refine pl_x HE129 HH55 (wt0 rfl) (x_assign rfl) rfl rfl fun a_130 HE131 => ?_
            refine wpList_nil ?_
            clear a_122 HE123 a_124 HE125 a_126 HE127 a_128 HE129
            refine nrm ?_
            refine wp_ret ?_
            refine (thn_ret (blk_ret (thn_ret (thn_ret (blk_ret ?_)))))
            refine ret4 HE131 rfl (rv_tmp rfl) (rv_tmp rfl) (rv_tmp rfl) (rv_tmp rfl) ?_
            have HH132 := HH55.vecNil eInt 2
            have HH133 := HH132.vecSo
            have hF : (runFP a0 a1 a2 a4 a5) = ([], 0, false, 5, (powSeen y a4 l).2) := by
              rw [p22_2, runPw_eq]; grind
            exact ⟨_, _, _, _, _, _, by first | (rw [hF] <;> rfl) | rfl | (rw [hF]; simp only [Ending.returned.injEq, Value.slice.injEq, true_and, and_true]; first | omega | (simp; done)) | (rw [hF]; simp; omega), by rw [hF]; exact HH133.sel [0, 1, 2] (by decide) rfl⟩
          · refine wp_skip ?_
            refine nrm ?_
            refine rg ?_
            refine pl_x HE123 HH55 (wt0 rfl) (x_move rfl) rfl rfl fun a_134 HE135 => ?_
            refine pl_x HE135 HH55 (wt0 rfl) (x_assign rfl) rfl rfl fun a_136 HE137 => ?_
            refine wpList_nil ?_
            clear a_122 HE123 a_134 HE135
            refine blk_n ?_
            refine nrm ?_
            refine rg ?_
            refine pl_x HE137 HH55 (wt0 rfl) (x_move rfl) rfl rfl fun a_138 HE139 => ?_
            refine pl_x HE139 HH55 (wt0 rfl) (x_add rfl rfl (by exact ⟨by omega, by omega⟩)) rfl rfl fun a_140 HE141 => ?_
            refine pl_x HE141 HH55 (wt0 rfl) (x_assign rfl) rfl rfl fun a_142 HE143 => ?_
            refine wpList_nil ?_
            clear a_136 HE137 a_138 HE139 a_140 HE141
            have HH144 := HH55.sel [2, 0, 1, 3] (by decide) rfl
            have HH145 := HH144.ofIf (by first | assumption | omega | (simp [p22_0, p22_1, p22_2, p22_3, hc25, hc26, hc27, hc28]; done))
            have E29 : ((stepFI a0 y).1) = (stepFI a0 y).1 := by
              first | rfl | simp
            have E30 : ((powSeen y a4 l).2) = (powSeen y a4 l).2 := by
              first | rfl | simp
            exact nrm ⟨(a2 - ((k + 1) : Int)).toNat, (by omega), k + 1, (stepFI a0 y).1, (powSeen y a4 l).2, Ar23_0, cr23_0, Sr23_0, Ar24_0, cr24_0, Sr24_0, rfl, HE143.sub ⟨(by rw [E29]; rfl), (lkI rfl (by first | rfl | omega | (simp [p22_0, p22_1, p22_2, p22_3, hc25, hc26, hc27, hc28]; done))), rfl, rfl, rfl, trivial⟩, ((HH145.sel [0, 2, 1] (by decide) rfl).to (by first | rfl | (rw [E29, E30]; done) | (rw [E29, E30]; rfl) | (simp only [E29, E30]; done) | (simp only [E29, E30]; rfl) | (rw [E29, E30]; simp only [List.length_set]; done))), (by first | omega | assumption | (simp; done) | simp_all), (by exact NatP_step s0 p22_1 (by omega) (by omega)), (by rw [p22_2, runPw_step (g := (a2 - ((k + 1 : Nat) : Int)).toNat) (by omega) (by assumption) (by omega) (by omega)]; rfl), (by omega)⟩
    · refine pl_no HE61 (wtF HE61 rfl rfl rfl (not_t hc25)) rfl rfl fun a_146 HE147 => ?_
      refine pl_no HE147 (wtF HE147 rfl rfl rfl (not_t hc25)) rfl rfl fun a_148 HE149 => ?_
      refine pl_x HE149 HH55 (wt0 rfl) (x_pickT rfl (not_t hc25) rfl) rfl rfl fun a_150 HE151 => ?_
      refine pl_x HE151 HH55 (wt0 rfl) (x_move rfl) rfl rfl fun a_152 HE153 => ?_
      refine pl_no HE153 (wtF HE153 rfl rfl rfl rfl) rfl rfl fun a_154 HE155 => ?_
      refine pl_no HE155 (wtF HE155 rfl rfl rfl rfl) rfl rfl fun a_156 HE157 => ?_
      refine pl_no HE157 (wtF HE157 rfl rfl rfl rfl) rfl rfl fun a_158 HE159 => ?_
      refine pl_x HE159 HH55 (wt0 rfl) (x_pickT rfl rfl rfl) rfl rfl fun a_160 HE161 => ?_
      refine wpList_nil ?_
      clear a_44 HE45 a_46 HE47 HH33 HH52 HH53 HH54 a_48 HE49 a_56 HE57 a_58 HE59 a_60 HE61 a_146 HE147 a_148 HE149 a_150 HE151 a_152 HE153 a_154 HE155 a_156 HE157 a_158 HE159 hK51 K_50
      refine nrm ?_
      refine cndT HE161 rfl rfl ?_
      refine wp_seq ?_
      refine rg ?_
      refine pl_x HE161 HH55 (wt0 rfl) (x_move rfl) rfl rfl fun a_162 HE163 => ?_
      refine pl_x HE163 HH55 (wt0 rfl) (x_move rfl) rfl rfl fun a_164 HE165 => ?_
      refine pl_x HE165 HH55 (wt0 rfl) (x_move rfl) rfl rfl fun a_166 HE167 => ?_
      refine pl_x HE167 HH55 (wt0 rfl) (x_lss rfl rfl) rfl rfl fun a_168 HE169 => ?_
      refine pl_x HE169 HH55 (wt0 rfl) (x_assign rfl) rfl rfl fun a_170 HE171 => ?_
      refine pl_x HE171 HH55 (wt0 rfl) (x_assign rfl) rfl rfl fun a_172 HE173 => ?_
      refine pl_x HE173 HH55 (wt0 rfl) (x_assign rfl) rfl rfl fun a_174 HE175 => ?_
      refine pl_x HE175 HH55 (wt0 rfl) (x_assign rfl) rfl rfl fun a_176 HE177 => ?_
      refine wpList_nil ?_
      clear a_160 HE161 a_162 HE163 a_164 HE165 a_166 HE167 a_168 HE169 a_170 HE171 a_172 HE173 a_174 HE175
      refine nrm ?_
      refine wp_ret ?_
      refine (thn_ret (blk_ret (thn_ret (thn_ret (blk_ret ?_)))))
      refine ret4 HE177 rfl (rv_tmp rfl) (rv_tmp rfl) (rv_tmp rfl) (rv_tmp rfl) ?_
      have hF : (runFP a0 a1 a2 a4 a5) = (y, (k : Int), decide ((stepFI a0 y).2 < 0), 0, (powSeen y a4 l).2) := by
        rw [p22_2, runPw_eq]; grind
      exact ⟨_, _, _, _, _, _, by first | (rw [hF] <;> rfl) | rfl | (rw [hF]; simp only [Ending.returned.injEq, Value.slice.injEq, true_and, and_true]; first | omega | (simp; done)) | (rw [hF]; simp; omega), by rw [hF]; exact HH55.sel [3, 0, 1] (by decide) rfl⟩

end Go.Proofs.YtcfdkckchbdafaaGreatDoor
