/- What the proof of FnExactReadMachine needs: contracts of the functions that it reaches, each once. -/
import Derived.Test.YthfihlfjphiihaaGreatDoorProg
import Derived.Test.YthfihlfjphiihaaGreatDoorQMem
import Derived.Test.YthfihlfjphiihaaGreatDoorQOpen
import Derived.Test.YthfihlfjphiihaaGreatDoorLReadMachinea
import Derived.Test.YthfihlfjphiihaaGreatDoorLReadMachineb
import Derived.Test.YthfihlfjphiihaaGreatDoorLReadMachinec
import Derived.Test.YthfihlfjphiihaaGreatDoorLReadMachined
import Derived.WalkKit
import Derived.WalkSpells
import Derived.Below
import Derived.LoopTactic
import Derived.Outline
import Derived.Deep.QuietTactic
import Derived.BigQuiet
import Derived.Deep.LoopGhost
import Derived.Handy
import Derived.Lib.Hide
import Derived.Shelf.Abstract
import Derived.StillTailTactics
import Derived.OwnWalk
import Derived.Maps.AppendAt
import Derived.RegionTactic
import Derived.Deep.RegionHeld3
import Derived.IntWalk
import Derived.Deep.Upon
import Derived.Laws.OwnMore
import Derived.Maps.AppendAt
import Derived.Laws.Small
import Derived.Laws.BytesString
import Derived.Laws.Strings
import Derived.Lib.Bytes
import Derived.Lib.Strings
import Derived.Lib.FrozenHead
import Derived.Lib.RuneBytes
import Derived.Lib.LaidTab
import Derived.Laws.StructEq
import Derived.Lib.MapLaws
import Derived.Lib.OthersKept
import Derived.Laws.RangeAny
import Derived.Scope
import Derived.RangeFuncNested
import Derived.RangeFuncBound
import Derived.RangeFuncCalls
import Derived.RangeFuncLeaves
import Derived.OwnWalkIn
import Derived.TacticsInMore
import Derived.Lib.ItoaLen
import Derived.Lib.Join
import Derived.Shelf.Strconv.Itoa4
import Derived.Shelf.Strings.OnBuilder
import Derived.Shelf.Strings.BuilderK
import Derived.Shelf.Strings.BuilderRune
import Derived.Shelf.LaysM
import Derived.Ground.NamesProg
import Derived.Lib.ParseIntBTie
import Derived.Lib.SplitLaws
import Derived.Lib.Replace
import Derived.Shelf.LaysC
import Derived.Shelf.Strconv.ErrVarParseInt
import Derived.Shelf.Strconv.ParseIntPublic10
import Derived.Shelf.Strings.Prefix
import Derived.Shelf.Strings.Cut
import Derived.Shelf.Strings.Split
import Derived.Shelf.Strings.Replace
import Derived.Shelf.Small.Wraps
import Derived.Stop.IfaceNil
import Derived.Shelf.Small.Utf8
import Derived.Shelf.Strings.Runes
import Derived.Lib.IndexAny
import Derived.Shelf.Strings.IndexAnyAll
namespace Go.Proofs.YthfihlfjphiihaaGreatDoor
open Go.RowKit

open Go.Lib in
set_option maxRecDepth 100000 in
set_option maxHeartbeats 4000000 in
theorem spec_l01Number (a0 : List UInt8) (w : World) (s0 : a0.length ≤ 2000000) :
    Calls Tryz.prog 36 #[.string (bs a0)] w fun e w' => e = .returned (.tuple #[.int .i64 (numC a0).1, .bool (numC a0).2]) ∧ Below w.heap.size w w' := by
  have HH1 := Held.start Nob w
  refine enter (n := 62) Tryz.func36 rfl rfl rfl fun a_2 HE3 => ?_
  refine wp_seq ?_
  refine rg ?_
  refine pl_x HE3 HH1 (wt0 rfl) (x_assign rfl) rfl rfl fun a_4 HE5 => ?_
  refine pl_x HE5 HH1 (wt0 rfl) (x_assign rfl) rfl rfl fun a_6 HE7 => ?_
  refine wpList_nil ?_
  clear a_2 HE3 a_4 HE5
  refine nrm ?_
  refine wp_seq ?_
  refine rg ?_
  refine pl_x HE7 HH1 (wt0 rfl) (x_assign rfl) rfl rfl fun a_8 HE9 => ?_
  refine wpList_nil ?_
  clear a_6 HE7
  refine nrm ?_
  refine wp_seq ?_
  refine wp_seq ?_
  refine rg ?_
  refine pl_x HE9 HH1 (wt0 rfl) (x_move rfl) rfl rfl fun a_10 HE11 => ?_
  refine pl_x HE11 HH1 (wt0 rfl) (x_lenB Tryz.underlying9 rfl) rfl rfl fun a_12 HE13 => ?_
  refine pl_x HE13 HH1 (wt0 rfl) (x_gtr rfl rfl) rfl rfl fun a_14 HE15 => ?_
  refine pl_x HE15 HH1 (wt0 rfl) (x_move rfl) rfl rfl fun a_16 HE17 => ?_
  by_cases hc21 : 0 < (List.length a0 : Int)
  · have w0 : 0 < a0.length := by omega
    refine pl_x HE17 HH1 (wtT HE17 rfl rfl rfl (decide_eq_true hc21)) (x_move rfl) rfl rfl fun a_18 HE19 => ?_
    have ke22 : 0 < List.length a0 := by first | omega | (simp only [List.length_cons, List.length_nil]; omega)
    obtain ⟨e22, xe22⟩ : ∃ x_, x_ = a0[0] := ⟨_, rfl⟩
    have je22 : 0 ≤ (e22.toNat : Int) ∧ (e22.toNat : Int) ≤ 255 := by have := e22.toNat_lt; omega
    refine pl_x HE19 HH1 (wtT HE19 rfl rfl rfl (decide_eq_true hc21)) (x_idxB Tryz.underlying9 rfl rfl rfl ke22 xe22) rfl rfl fun a_20 HE21 => ?_
    refine pl_x HE21 HH1 (wtT HE21 rfl rfl rfl (decide_eq_true hc21)) (x_eql rfl rfl) rfl rfl fun a_22 HE23 => ?_
    refine pl_x HE23 HH1 (wt0 rfl) (x_pickT rfl (decide_eq_true hc21) rfl) rfl rfl fun a_24 HE25 => ?_
    refine wpList_nil ?_
    clear a_8 HE9 a_10 HE11 a_12 HE13 a_14 HE15 a_16 HE17 a_18 HE19 a_20 HE21 a_22 HE23
    refine nrm ?_
    refine cnd_e HE25 rfl (fun hc23 => ?_) (fun hc23 => ?_)
    · have o0 := ofP_neg (by omega) xe22 hc23
      refine rg ?_
      refine pl_x HE25 HH1 (wt0 rfl) (x_assign rfl) rfl rfl fun a_26 HE27 => ?_
      refine wpList_nil ?_
      clear a_24 HE25
      refine nrm ?_
      refine wp_seq ?_
      refine wp_seq ?_
      refine rg ?_
      refine pl_x HE27 HH1 (wt0 rfl) (x_move rfl) rfl rfl fun a_28 HE29 => ?_
      refine pl_x HE29 HH1 (wt0 rfl) (x_lenB Tryz.underlying9 rfl) rfl rfl fun a_30 HE31 => ?_
      refine pl_x HE31 HH1 (wt0 rfl) (x_move rfl) rfl rfl fun a_32 HE33 => ?_
      refine pl_x HE33 HH1 (wt0 rfl) (x_eql rfl rfl) rfl rfl fun a_34 HE35 => ?_
      refine pl_x HE35 HH1 (wt0 rfl) (x_move rfl) rfl rfl fun a_36 HE37 => ?_
      by_cases hc24 : (List.length a0 : Int) = 1
      · refine pl_no HE37 (wtF HE37 rfl rfl rfl (beq_t hc24)) rfl rfl fun a_38 HE39 => ?_
        refine pl_no HE39 (wtF HE39 rfl rfl rfl (beq_t hc24)) rfl rfl fun a_40 HE41 => ?_
        refine pl_no HE41 (wtF HE41 rfl rfl rfl (beq_t hc24)) rfl rfl fun a_42 HE43 => ?_
        refine pl_no HE43 (wtF HE43 rfl rfl rfl (beq_t hc24)) rfl rfl fun a_44 HE45 => ?_
        refine pl_no HE45 (wtF HE45 rfl rfl rfl (beq_t hc24)) rfl rfl fun a_46 HE47 => ?_
        refine pl_x HE47 HH1 (wt0 rfl) (x_pickT rfl (beq_t hc24) rfl) rfl rfl fun a_48 HE49 => ?_
        refine pl_x HE49 HH1 (wt0 rfl) (x_move rfl) rfl rfl fun a_50 HE51 => ?_
        refine pl_no HE51 (wtF HE51 rfl rfl rfl rfl) rfl rfl fun a_52 HE53 => ?_
        refine pl_no HE53 (wtF HE53 rfl rfl rfl rfl) rfl rfl fun a_54 HE55 => ?_
        refine pl_no HE55 (wtF HE55 rfl rfl rfl rfl) rfl rfl fun a_56 HE57 => ?_
        refine pl_no HE57 (wtF HE57 rfl rfl rfl rfl) rfl rfl fun a_58 HE59 => ?_
        refine pl_no HE59 (wtF HE59 rfl rfl rfl rfl) rfl rfl fun a_60 HE61 => ?_
        refine pl_no HE61 (wtU HE61 rfl rfl rfl) rfl rfl fun a_62 HE63 => ?_
        refine pl_no HE63 (wtU HE63 rfl rfl rfl) rfl rfl fun a_64 HE65 => ?_
        refine pl_no HE65 (wtU HE65 rfl rfl rfl) rfl rfl fun a_66 HE67 => ?_
        refine pl_no HE67 (wtF HE67 rfl rfl rfl rfl) rfl rfl fun a_68 HE69 => ?_
        refine pl_x HE69 HH1 (wt0 rfl) (x_pickT rfl rfl rfl) rfl rfl fun a_70 HE71 => ?_
        refine wpList_nil ?_
        clear a_26 HE27 a_28 HE29 a_30 HE31 a_32 HE33 a_34 HE35 a_36 HE37 a_38 HE39 a_40 HE41 a_42 HE43 a_44 HE45 a_46 HE47 a_48 HE49 a_50 HE51 a_52 HE53 a_54 HE55 a_56 HE57 a_58 HE59 a_60 HE61 a_62 HE63 a_64 HE65 a_66 HE67 a_68 HE69
        refine nrm ?_
        refine cndT HE71 rfl rfl ?_
        refine wp_seq ?_
        refine rg ?_
        refine pl_x HE71 HH1 (wt0 rfl) (x_assign rfl) rfl rfl fun a_72 HE73 => ?_
        refine pl_x HE73 HH1 (wt0 rfl) (x_assign rfl) rfl rfl fun a_74 HE75 => ?_
        refine wpList_nil ?_
        clear a_70 HE71 a_72 HE73
        refine nrm ?_
        refine wp_ret ?_
        refine (thn_ret ?_)
        refine ret2 HE75 rfl (rv_tmp rfl) (rv_tmp rfl) ?_
        have hF : (numC a0) = (0, false) := by
          first | exact numC_len0 (by omega) | exact numC_len18 (by omega) | exact numC_zero (by omega) (by omega) xe22 (by omega) (by omega) | exact numC_dig (by omega) (by omega) xe22 (by omega) | (exfalso; omega) | (rw [numC_yes (i := i) (by omega) (numC_ok (by omega) (by omega) (by omega) z0 (by omega) (by omega) p0_2), o0]; simp)
        exact ⟨by first | (rw [hF] <;> rfl) | rfl | (rw [hF]; simp only [Ending.returned.injEq, Value.slice.injEq, true_and, and_true]; first | omega | (simp; done)) | (rw [hF]; simp; omega), HH1.below⟩
      · refine pl_x HE37 HH1 (wtT HE37 rfl rfl rfl (beq_f hc24)) (x_move rfl) rfl rfl fun a_76 HE77 => ?_
        refine pl_x HE77 HH1 (wtT HE77 rfl rfl rfl (beq_f hc24)) (x_lenB Tryz.underlying9 rfl) rfl rfl fun a_78 HE79 => ?_
        refine pl_x HE79 HH1 (wtT HE79 rfl rfl rfl (beq_f hc24)) (x_move rfl) rfl rfl fun a_80 HE81 => ?_
        refine pl_x HE81 HH1 (wtT HE81 rfl rfl rfl (beq_f hc24)) (x_sub rfl rfl (by exact ⟨by omega, by omega⟩)) rfl rfl fun a_82 HE83 => ?_
        refine pl_x HE83 HH1 (wtT HE83 rfl rfl rfl (beq_f hc24)) (x_gtr rfl rfl) rfl rfl fun a_84 HE85 => ?_
        refine pl_x HE85 HH1 (wt0 rfl) (x_pickF rfl (beq_f hc24) rfl) rfl rfl fun a_86 HE87 => ?_
        refine pl_x HE87 HH1 (wt0 rfl) (x_move rfl) rfl rfl fun a_88 HE89 => ?_
        by_cases hc25 : 18 < ((List.length a0 : Int) - 1)
        · refine pl_no HE89 (wtF HE89 rfl rfl rfl (decide_eq_true hc25)) rfl rfl fun a_90 HE91 => ?_
          refine pl_no HE91 (wtF HE91 rfl rfl rfl (decide_eq_true hc25)) rfl rfl fun a_92 HE93 => ?_
          refine pl_no HE93 (wtF HE93 rfl rfl rfl (decide_eq_true hc25)) rfl rfl fun a_94 HE95 => ?_
          refine pl_no HE95 (wtF HE95 rfl rfl rfl (decide_eq_true hc25)) rfl rfl fun a_96 HE97 => ?_
          refine pl_no HE97 (wtF HE97 rfl rfl rfl (decide_eq_true hc25)) rfl rfl fun a_98 HE99 => ?_
          refine pl_no HE99 (wtU HE99 rfl rfl rfl) rfl rfl fun a_100 HE101 => ?_
          refine pl_no HE101 (wtU HE101 rfl rfl rfl) rfl rfl fun a_102 HE103 => ?_
          refine pl_no HE103 (wtU HE103 rfl rfl rfl) rfl rfl fun a_104 HE105 => ?_
          refine pl_no HE105 (wtF HE105 rfl rfl rfl (decide_eq_true hc25)) rfl rfl fun a_106 HE107 => ?_
          refine pl_x HE107 HH1 (wt0 rfl) (x_pickT rfl (decide_eq_true hc25) rfl) rfl rfl fun a_108 HE109 => ?_
          refine wpList_nil ?_
          clear a_26 HE27 a_28 HE29 a_30 HE31 a_32 HE33 a_34 HE35 a_36 HE37 a_76 HE77 a_78 HE79 a_80 HE81 a_82 HE83 a_84 HE85 a_86 HE87 a_88 HE89 a_90 HE91 a_92 HE93 a_94 HE95 a_96 HE97 a_98 HE99 a_100 HE101 a_102 HE103 a_104 HE105 a_106 HE107
          refine nrm ?_
          refine cndT HE109 rfl rfl ?_
          refine wp_seq ?_
          refine rg ?_
          refine pl_x HE109 HH1 (wt0 rfl) (x_assign rfl) rfl rfl fun a_110 HE111 => ?_
          refine pl_x HE111 HH1 (wt0 rfl) (x_assign rfl) rfl rfl fun a_112 HE113 => ?_
          refine wpList_nil ?_
          clear a_108 HE109 a_110 HE111
          refine nrm ?_
          refine wp_ret ?_
          refine (thn_ret ?_)
          refine ret2 HE113 rfl (rv_tmp rfl) (rv_tmp rfl) ?_
          have hF : (numC a0) = (0, false) := by
            first | exact numC_len0 (by omega) | exact numC_len18 (by omega) | exact numC_zero (by omega) (by omega) xe22 (by omega) (by omega) | exact numC_dig (by omega) (by omega) xe22 (by omega) | (exfalso; omega) | (rw [numC_yes (i := i) (by omega) (numC_ok (by omega) (by omega) (by omega) z0 (by omega) (by omega) p0_2), o0]; simp)
          exact ⟨by first | (rw [hF] <;> rfl) | rfl | (rw [hF]; simp only [Ending.returned.injEq, Value.slice.injEq, true_and, and_true]; first | omega | (simp; done)) | (rw [hF]; simp; omega), HH1.below⟩
        · refine pl_x HE89 HH1 (wtT HE89 rfl rfl rfl (decide_eq_false hc25)) (x_move rfl) rfl rfl fun a_114 HE115 => ?_
          refine pl_x HE115 HH1 (wtT HE115 rfl rfl rfl (decide_eq_false hc25)) (x_move rfl) rfl rfl fun a_116 HE117 => ?_
          have ke26 : 1 < List.length a0 := by first | omega | (simp only [List.length_cons, List.length_nil]; omega)
          obtain ⟨e26, xe26⟩ : ∃ x_, x_ = a0[1] := ⟨_, rfl⟩
          have je26 : 0 ≤ (e26.toNat : Int) ∧ (e26.toNat : Int) ≤ 255 := by have := e26.toNat_lt; omega
          refine pl_x HE117 HH1 (wtT HE117 rfl rfl rfl (decide_eq_false hc25)) (x_idxB Tryz.underlying9 rfl rfl rfl ke26 xe26) rfl rfl fun a_118 HE119 => ?_
          refine pl_x HE119 HH1 (wtT HE119 rfl rfl rfl (decide_eq_false hc25)) (x_eql rfl rfl) rfl rfl fun a_120 HE121 => ?_
          refine pl_x HE121 HH1 (wtT HE121 rfl rfl rfl (decide_eq_false hc25)) (x_move rfl) rfl rfl fun a_122 HE123 => ?_
          by_cases hc27 : (e26.toNat : Int) = 48
          · have z0 := xe26
            refine pl_x HE123 HH1 (wtT HE123 rfl rfl rfl (beq_t hc27)) (x_move rfl) rfl rfl fun a_124 HE125 => ?_
            refine pl_x HE125 HH1 (wtT HE125 rfl rfl rfl (beq_t hc27)) (x_lenB Tryz.underlying9 rfl) rfl rfl fun a_126 HE127 => ?_
            refine pl_x HE127 HH1 (wtT HE127 rfl rfl rfl (beq_t hc27)) (x_gtr rfl rfl) rfl rfl fun a_128 HE129 => ?_
            refine pl_x HE129 HH1 (wtT HE129 rfl rfl rfl (decide_eq_false hc25)) (x_pickT rfl (beq_t hc27) rfl) rfl rfl fun a_130 HE131 => ?_
            refine pl_x HE131 HH1 (wt0 rfl) (x_pickF rfl (decide_eq_false hc25) rfl) rfl rfl fun a_132 HE133 => ?_
            refine wpList_nil ?_
            clear a_26 HE27 a_28 HE29 a_30 HE31 a_32 HE33 a_34 HE35 a_36 HE37 a_76 HE77 a_78 HE79 a_80 HE81 a_82 HE83 a_84 HE85 a_86 HE87 a_88 HE89 a_114 HE115 a_116 HE117 a_118 HE119 a_120 HE121 a_122 HE123 a_124 HE125 a_126 HE127 a_128 HE129 a_130 HE131
            refine nrm ?_
            refine cnd_d HE133 rfl (fun hc28 => ?_) (fun hc28 => ?_)
            · refine wp_seq ?_
              refine rg ?_
              refine pl_x HE133 HH1 (wt0 rfl) (x_assign rfl) rfl rfl fun a_134 HE135 => ?_
              refine pl_x HE135 HH1 (wt0 rfl) (x_assign rfl) rfl rfl fun a_136 HE137 => ?_
              refine wpList_nil ?_
              clear a_132 HE133 a_134 HE135
              refine nrm ?_
              refine wp_ret ?_
              refine (thn_ret ?_)
              refine ret2 HE137 rfl (rv_tmp rfl) (rv_tmp rfl) ?_
              have hF : (numC a0) = (0, false) := by
                first | exact numC_len0 (by omega) | exact numC_len18 (by omega) | exact numC_zero (by omega) (by omega) xe26 (by omega) (by omega) | exact numC_dig (by omega) (by omega) xe26 (by omega) | (exfalso; omega) | (rw [numC_yes (i := i) (by omega) (numC_ok (by omega) (by omega) (by omega) z0 (by omega) (by omega) p0_2), o0]; simp)
              exact ⟨by first | (rw [hF] <;> rfl) | rfl | (rw [hF]; simp only [Ending.returned.injEq, Value.slice.injEq, true_and, and_true]; first | omega | (simp; done)) | (rw [hF]; simp; omega), HH1.below⟩
            · refine wp_skip ?_
              refine nrm ?_
              refine wp_seq ?_
              refine rg ?_
              refine pl_x HE133 HH1 (wt0 rfl) (x_assign rfl) rfl rfl fun a_138 HE139 => ?_
              refine wpList_nil ?_
              clear a_132 HE133
              refine nrm ?_
              refine wp_seq ?_
              refine wp_seq ?_
              refine rg ?_
              refine pl_x HE139 HH1 (wt0 rfl) (x_move rfl) rfl rfl fun a_140 HE141 => ?_
              refine pl_x HE141 HH1 (wt0 rfl) (x_assign rfl) rfl rfl fun a_142 HE143 => ?_
              refine wpList_nil ?_
              clear a_138 HE139 a_140 HE141
              refine nrm ?_
              refine wp_block ?_
              refine lp (fun m a w' => ∃ (i : Nat), m = a0.length - i ∧ Env 62 [(5, .int .i64 (valD 0 (dgs a0 i) : Int)), (6, .int .i64 (i : Int)), (0, .string (bs a0)), (4, .int .i64 (1))] a ∧ Held Nob w [] w' ∧ (ofP a0 ≤ i) ∧ (i ≤ a0.length) ∧ ((dgs a0 i).all isDg = true)) (a0.length - (ofP a0)) ?_ ?_
              · exact ⟨ofP a0, rfl, HE143.sub ⟨(lkI rfl (by rw [dgs_zero, valD_nil]; rfl)), (lkI rfl (by omega)), rfl, rfl, trivial⟩, (HH1.sel [] (by decide) rfl), (by first | omega | assumption | (simp; done) | simp_all), (by first | omega | assumption | (simp; done) | simp_all), (by rw [dgs_zero]; rfl)⟩
              · rintro m a_144 w' ⟨i, rfl, HE145, HH146, p29_0, p29_1, p29_2⟩
                refine wp_seq ?_
                refine wp_seq ?_
                refine rg ?_
                refine pl_x HE145 HH146 (wt0 rfl) (x_move rfl) rfl rfl fun a_147 HE148 => ?_
                refine pl_x HE148 HH146 (wt0 rfl) (x_move rfl) rfl rfl fun a_149 HE150 => ?_
                refine pl_x HE150 HH146 (wt0 rfl) (x_lenB Tryz.underlying9 rfl) rfl rfl fun a_151 HE152 => ?_
                refine pl_x HE152 HH146 (wt0 rfl) (x_lss rfl rfl) rfl rfl fun a_153 HE154 => ?_
                refine wpList_nil ?_
                clear a_142 HE143 HH1 a_144 HE145 a_147 HE148 a_149 HE150 a_151 HE152
                refine nrm ?_
                refine cnd_d HE154 rfl (fun hc30 => ?_) (fun hc30 => ?_)
                · have nb := dgs_bd p29_2 (by omega) (by omega)
                  refine wp_skip ?_
                  refine nrm ?_
                  refine wp_seq ?_
                  refine wp_block ?_
                  refine wp_seq ?_
                  refine wp_seq ?_
                  refine rg ?_
                  refine pl_x HE154 HH146 (wt0 rfl) (x_move rfl) rfl rfl fun a_155 HE156 => ?_
                  refine pl_x HE156 HH146 (wt0 rfl) (x_move rfl) rfl rfl fun a_157 HE158 => ?_
                  have ke31 : i < List.length a0 := by first | omega | (simp only [List.length_cons, List.length_nil]; omega)
                  obtain ⟨e31, xe31⟩ : ∃ x_, x_ = a0[i] := ⟨_, rfl⟩
                  have je31 : 0 ≤ (e31.toNat : Int) ∧ (e31.toNat : Int) ≤ 255 := by have := e31.toNat_lt; omega
                  refine pl_x HE158 HH146 (wt0 rfl) (x_idxB Tryz.underlying9 rfl rfl rfl ke31 xe31) rfl rfl fun a_159 HE160 => ?_
                  refine pl fun K_161 hK162 => ?_
                  refine st_call HE160 (wt0 rfl) rfl rfl rfl en_35 rfl rfl (spec_l01Digit (e31.toNat : Int) _ ) fun e w' hr => ?_
                  obtain ⟨rfl, hbr32⟩ := hr
                  have HH163 := HH146.on hbr32
                  refine ⟨_, rfl, fun a_164 HE165 => hK162 _ _ ?_⟩
                  refine pl_x HE165 HH163 (wt0 rfl) (x_not rfl) rfl rfl fun a_166 HE167 => ?_
                  refine wpList_nil ?_
                  clear a_153 HE154 a_155 HE156 a_157 HE158 HH146 a_159 HE160 a_164 HE165 hK162 K_161
                  refine nrm ?_
                  refine cnd_nb HE167 rfl (fun hc33 => ?_) (fun hc33 => ?_)
                  · have d0 := hc33
                    unfold digB at d0
                    simp only [Bool.and_eq_false_iff, decide_eq_false_iff_not] at d0
                    refine wp_seq ?_
                    refine rg ?_
                    refine pl_x HE167 HH163 (wt0 rfl) (x_assign rfl) rfl rfl fun a_168 HE169 => ?_
                    refine pl_x HE169 HH163 (wt0 rfl) (x_assign rfl) rfl rfl fun a_170 HE171 => ?_
                    refine wpList_nil ?_
                    clear a_166 HE167 a_168 HE169
                    refine nrm ?_
                    refine wp_ret ?_
                    refine (thn_ret (blk_ret (thn_ret (thn_ret (blk_ret (thn_ret ?_))))))
                    refine ret2 HE171 rfl (rv_tmp rfl) (rv_tmp rfl) ?_
                    have hF : (numC a0) = (0, false) := by
                      first | exact numC_len0 (by omega) | exact numC_len18 (by omega) | exact numC_zero (by omega) (by omega) xe31 (by omega) (by omega) | exact numC_dig (by omega) (by omega) xe31 (by omega) | (exfalso; omega) | (rw [numC_yes (i := i) (by omega) (numC_ok (by omega) (by omega) (by omega) z0 (by omega) (by omega) p29_2), o0]; simp)
                    exact ⟨by first | (rw [hF] <;> rfl) | rfl | (rw [hF]; simp only [Ending.returned.injEq, Value.slice.injEq, true_and, and_true]; first | omega | (simp; done)) | (rw [hF]; simp; omega), HH163.below⟩
                  · have d0 := hc33
                    unfold digB at d0
                    simp only [Bool.and_eq_true, decide_eq_true_eq] at d0
                    refine wp_skip ?_
                    refine nrm ?_
                    refine rg ?_
                    refine pl_x HE167 HH163 (wt0 rfl) (x_move rfl) rfl rfl fun a_172 HE173 => ?_
                    refine pl_x HE173 HH163 (wt0 rfl) (x_mul rfl rfl (by exact ⟨by omega, by omega⟩)) rfl rfl fun a_174 HE175 => ?_
                    refine pl_x HE175 HH163 (wt0 rfl) (x_move rfl) rfl rfl fun a_176 HE177 => ?_
                    refine pl_x HE177 HH163 (wt0 rfl) (x_move rfl) rfl rfl fun a_178 HE179 => ?_
                    refine pl_x HE179 HH163 (wt0 rfl) (x_idxB Tryz.underlying9 rfl rfl rfl ke31 xe31) rfl rfl fun a_180 HE181 => ?_
                    refine pl_x HE181 HH163 (wt0 rfl) (x_sub8 rfl rfl (by constructor <;> omega)) rfl rfl fun a_182 HE183 => ?_
                    refine pl_x HE183 HH163 (wt0 rfl) (x_conv Tryz.underlying5 Tryz.underlying2 rfl (by exact ⟨by omega, by omega⟩)) rfl rfl fun a_184 HE185 => ?_
                    refine pl_x HE185 HH163 (wt0 rfl) (x_add rfl rfl (by exact ⟨by omega, by omega⟩)) rfl rfl fun a_186 HE187 => ?_
                    refine pl_x HE187 HH163 (wt0 rfl) (x_assign rfl) rfl rfl fun a_188 HE189 => ?_
                    refine wpList_nil ?_
                    clear a_166 HE167 a_172 HE173 a_174 HE175 a_176 HE177 a_178 HE179 a_180 HE181 a_182 HE183 a_184 HE185 a_186 HE187
                    refine blk_n ?_
                    refine nrm ?_
                    refine rg ?_
                    refine pl_x HE189 HH163 (wt0 rfl) (x_move rfl) rfl rfl fun a_190 HE191 => ?_
                    refine pl_x HE191 HH163 (wt0 rfl) (x_add rfl rfl (by exact ⟨by omega, by omega⟩)) rfl rfl fun a_192 HE193 => ?_
                    refine pl_x HE193 HH163 (wt0 rfl) (x_assign rfl) rfl rfl fun a_194 HE195 => ?_
                    refine wpList_nil ?_
                    clear a_188 HE189 a_190 HE191 a_192 HE193
                    exact nrm ⟨a0.length - (i + 1), (by omega), i + 1, rfl, HE195.sub ⟨(lkI rfl (by rw [dgs_step (by omega) (by omega) xe31, valD_snoc, dgv_def]; omega)), (lkI rfl (by first | rfl | omega | (simp [hc21, xe22, hc23, hc24, hc25, xe26, hc27, hc28, p29_0, p29_1, p29_2, hc30, xe31, hc33]; done))), rfl, rfl, trivial⟩, (HH163.sel [] (by decide) rfl), (by first | omega | assumption | (simp; done) | simp_all), (by first | omega | assumption | (simp; done) | simp_all), (by exact dgs_all p29_2 (by omega) (by omega) xe31 (by omega))⟩
                · have nb := dgs_bd18 p29_2 (by omega)
                  refine wp_exit ?_
                  refine (thn_exit (thn_exit (blk_hit ?_)))
                  refine nrm ?_
                  refine wp_seq ?_
                  refine wp_seq ?_
                  refine rg ?_
                  refine pl_x HE154 HH146 (wt0 rfl) (x_move rfl) rfl rfl fun a_196 HE197 => ?_
                  refine pl_x HE197 HH146 (wt0 rfl) (x_eql rfl rfl) rfl rfl fun a_198 HE199 => ?_
                  refine wpList_nil ?_
                  clear a_153 HE154 a_196 HE197
                  refine nrm ?_
                  refine cndT HE199 rfl (beq_t rfl) ?_
                  refine rg ?_
                  refine pl_x HE199 HH146 (wt0 rfl) (x_move rfl) rfl rfl fun a_200 HE201 => ?_
                  refine pl_x HE201 HH146 (wt0 rfl) (x_neg rfl (by exact ⟨by omega, by omega⟩)) rfl rfl fun a_202 HE203 => ?_
                  refine pl_x HE203 HH146 (wt0 rfl) (x_assign rfl) rfl rfl fun a_204 HE205 => ?_
                  refine wpList_nil ?_
                  clear a_198 HE199 a_200 HE201 a_202 HE203
                  refine nrm ?_
                  refine wp_seq ?_
                  refine rg ?_
                  refine pl_x HE205 HH146 (wt0 rfl) (x_move rfl) rfl rfl fun a_206 HE207 => ?_
                  refine pl_x HE207 HH146 (wt0 rfl) (x_assign rfl) rfl rfl fun a_208 HE209 => ?_
                  refine pl_x HE209 HH146 (wt0 rfl) (x_assign rfl) rfl rfl fun a_210 HE211 => ?_
                  refine wpList_nil ?_
                  clear a_204 HE205 a_206 HE207 a_208 HE209
                  refine nrm ?_
                  refine wp_ret ?_
                  refine ret2 HE211 rfl (rv_tmp rfl) (rv_tmp rfl) ?_
                  have hF : (numC a0) = (-(valD 0 (dgs a0 i) : Int), true) := by
                    first | exact numC_len0 (by omega) | exact numC_len18 (by omega) | exact numC_zero (by omega) (by omega) xe26 (by omega) (by omega) | exact numC_dig (by omega) (by omega) xe26 (by omega) | (exfalso; omega) | (rw [numC_yes (i := i) (by omega) (numC_ok (by omega) (by omega) (by omega) z0 (by omega) (by omega) p29_2), o0]; simp)
                  exact ⟨by first | (rw [hF] <;> rfl) | rfl | (rw [hF]; simp only [Ending.returned.injEq, Value.slice.injEq, true_and, and_true]; first | omega | (simp; done)) | (rw [hF]; simp; omega), HH146.below⟩
          · have z0 := xe26
            refine pl_no HE123 (wtF HE123 rfl rfl rfl (beq_f hc27)) rfl rfl fun a_212 HE213 => ?_
            refine pl_no HE213 (wtF HE213 rfl rfl rfl (beq_f hc27)) rfl rfl fun a_214 HE215 => ?_
            refine pl_no HE215 (wtF HE215 rfl rfl rfl (beq_f hc27)) rfl rfl fun a_216 HE217 => ?_
            refine pl_x HE217 HH1 (wtT HE217 rfl rfl rfl (decide_eq_false hc25)) (x_pickF rfl (beq_f hc27) rfl) rfl rfl fun a_218 HE219 => ?_
            refine pl_x HE219 HH1 (wt0 rfl) (x_pickF rfl (decide_eq_false hc25) rfl) rfl rfl fun a_220 HE221 => ?_
            refine wpList_nil ?_
            clear a_26 HE27 a_28 HE29 a_30 HE31 a_32 HE33 a_34 HE35 a_36 HE37 a_76 HE77 a_78 HE79 a_80 HE81 a_82 HE83 a_84 HE85 a_86 HE87 a_88 HE89 a_114 HE115 a_116 HE117 a_118 HE119 a_120 HE121 a_122 HE123 a_212 HE213 a_214 HE215 a_216 HE217 a_218 HE219
            refine nrm ?_
            refine cndF HE221 rfl rfl ?_
            refine wp_skip ?_
            refine nrm ?_
            refine wp_seq ?_
            refine rg ?_
            refine pl_x HE221 HH1 (wt0 rfl) (x_assign rfl) rfl rfl fun a_222 HE223 => ?_
            refine wpList_nil ?_
            clear a_220 HE221
            refine nrm ?_
            refine wp_seq ?_
            refine wp_seq ?_
            refine rg ?_
            refine pl_x HE223 HH1 (wt0 rfl) (x_move rfl) rfl rfl fun a_224 HE225 => ?_
            refine pl_x HE225 HH1 (wt0 rfl) (x_assign rfl) rfl rfl fun a_226 HE227 => ?_
            refine wpList_nil ?_
            clear a_222 HE223 a_224 HE225
            refine nrm ?_
            refine wp_block ?_
            refine lp (fun m a w' => ∃ (i : Nat), m = a0.length - i ∧ Env 62 [(5, .int .i64 (valD 0 (dgs a0 i) : Int)), (6, .int .i64 (i : Int)), (0, .string (bs a0)), (4, .int .i64 (1))] a ∧ Held Nob w [] w' ∧ (ofP a0 ≤ i) ∧ (i ≤ a0.length) ∧ ((dgs a0 i).all isDg = true)) (a0.length - (ofP a0)) ?_ ?_
            · exact ⟨ofP a0, rfl, HE227.sub ⟨(lkI rfl (by rw [dgs_zero, valD_nil]; rfl)), (lkI rfl (by omega)), rfl, rfl, trivial⟩, (HH1.sel [] (by decide) rfl), (by first | omega | assumption | (simp; done) | simp_all), (by first | omega | assumption | (simp; done) | simp_all), (by rw [dgs_zero]; rfl)⟩
            · rintro m a_228 w' ⟨i, rfl, HE229, HH230, p34_0, p34_1, p34_2⟩
              refine wp_seq ?_
              refine wp_seq ?_
              refine rg ?_
              refine pl_x HE229 HH230 (wt0 rfl) (x_move rfl) rfl rfl fun a_231 HE232 => ?_
              refine pl_x HE232 HH230 (wt0 rfl) (x_move rfl) rfl rfl fun a_233 HE234 => ?_
              refine pl_x HE234 HH230 (wt0 rfl) (x_lenB Tryz.underlying9 rfl) rfl rfl fun a_235 HE236 => ?_
              refine pl_x HE236 HH230 (wt0 rfl) (x_lss rfl rfl) rfl rfl fun a_237 HE238 => ?_
              refine wpList_nil ?_
              clear a_226 HE227 HH1 a_228 HE229 a_231 HE232 a_233 HE234 a_235 HE236
              refine nrm ?_
              refine cnd_d HE238 rfl (fun hc35 => ?_) (fun hc35 => ?_)
              · have nb := dgs_bd p34_2 (by omega) (by omega)
                refine wp_skip ?_
                refine nrm ?_
                refine wp_seq ?_
                refine wp_block ?_
                refine wp_seq ?_
                refine wp_seq ?_
                refine rg ?_
                refine pl_x HE238 HH230 (wt0 rfl) (x_move rfl) rfl rfl fun a_239 HE240 => ?_
                refine pl_x HE240 HH230 (wt0 rfl) (x_move rfl) rfl rfl fun a_241 HE242 => ?_
                have ke36 : i < List.length a0 := by first | omega | (simp only [List.length_cons, List.length_nil]; omega)
                obtain ⟨e36, xe36⟩ : ∃ x_, x_ = a0[i] := ⟨_, rfl⟩
                have je36 : 0 ≤ (e36.toNat : Int) ∧ (e36.toNat : Int) ≤ 255 := by have := e36.toNat_lt; omega
                refine pl_x HE242 HH230 (wt0 rfl) (x_idxB Tryz.underlying9 rfl rfl rfl ke36 xe36) rfl rfl fun a_243 HE244 => ?_
                refine pl fun K_245 hK246 => ?_
                refine st_call HE244 (wt0 rfl) rfl rfl rfl en_35 rfl rfl (spec_l01Digit (e36.toNat : Int) _ ) fun e w' hr => ?_
                obtain ⟨rfl, hbr37⟩ := hr
                have HH247 := HH230.on hbr37
                refine ⟨_, rfl, fun a_248 HE249 => hK246 _ _ ?_⟩
                refine pl_x HE249 HH247 (wt0 rfl) (x_not rfl) rfl rfl fun a_250 HE251 => ?_
                refine wpList_nil ?_
                clear a_237 HE238 a_239 HE240 a_241 HE242 HH230 a_243 HE244 a_248 HE249 hK246 K_245
                refine nrm ?_
                refine cnd_nb HE251 rfl (fun hc38 => ?_) (fun hc38 => ?_)
                · have d0 := hc38
                  unfold digB at d0
                  simp only [Bool.and_eq_false_iff, decide_eq_false_iff_not] at d0
                  refine wp_seq ?_
                  refine rg ?_
                  refine pl_x HE251 HH247 (wt0 rfl) (x_assign rfl) rfl rfl fun a_252 HE253 => ?_
                  refine pl_x HE253 HH247 (wt0 rfl) (x_assign rfl) rfl rfl fun a_254 HE255 => ?_
                  refine wpList_nil ?_
                  clear a_250 HE251 a_252 HE253
                  refine nrm ?_
                  refine wp_ret ?_
                  refine (thn_ret (blk_ret (thn_ret (thn_ret (blk_ret (thn_ret ?_))))))
                  refine ret2 HE255 rfl (rv_tmp rfl) (rv_tmp rfl) ?_
                  have hF : (numC a0) = (0, false) := by
                    first | exact numC_len0 (by omega) | exact numC_len18 (by omega) | exact numC_zero (by omega) (by omega) xe36 (by omega) (by omega) | exact numC_dig (by omega) (by omega) xe36 (by omega) | (exfalso; omega) | (rw [numC_yes (i := i) (by omega) (numC_ok (by omega) (by omega) (by omega) z0 (by omega) (by omega) p34_2), o0]; simp)
                  exact ⟨by first | (rw [hF] <;> rfl) | rfl | (rw [hF]; simp only [Ending.returned.injEq, Value.slice.injEq, true_and, and_true]; first | omega | (simp; done)) | (rw [hF]; simp; omega), HH247.below⟩
                · have d0 := hc38
                  unfold digB at d0
                  simp only [Bool.and_eq_true, decide_eq_true_eq] at d0
                  refine wp_skip ?_
                  refine nrm ?_
                  refine rg ?_
                  refine pl_x HE251 HH247 (wt0 rfl) (x_move rfl) rfl rfl fun a_256 HE257 => ?_
                  refine pl_x HE257 HH247 (wt0 rfl) (x_mul rfl rfl (by exact ⟨by omega, by omega⟩)) rfl rfl fun a_258 HE259 => ?_
                  refine pl_x HE259 HH247 (wt0 rfl) (x_move rfl) rfl rfl fun a_260 HE261 => ?_
                  refine pl_x HE261 HH247 (wt0 rfl) (x_move rfl) rfl rfl fun a_262 HE263 => ?_
                  refine pl_x HE263 HH247 (wt0 rfl) (x_idxB Tryz.underlying9 rfl rfl rfl ke36 xe36) rfl rfl fun a_264 HE265 => ?_
                  refine pl_x HE265 HH247 (wt0 rfl) (x_sub8 rfl rfl (by constructor <;> omega)) rfl rfl fun a_266 HE267 => ?_
                  refine pl_x HE267 HH247 (wt0 rfl) (x_conv Tryz.underlying5 Tryz.underlying2 rfl (by exact ⟨by omega, by omega⟩)) rfl rfl fun a_268 HE269 => ?_
                  refine pl_x HE269 HH247 (wt0 rfl) (x_add rfl rfl (by exact ⟨by omega, by omega⟩)) rfl rfl fun a_270 HE271 => ?_
                  refine pl_x HE271 HH247 (wt0 rfl) (x_assign rfl) rfl rfl fun a_272 HE273 => ?_
                  refine wpList_nil ?_
                  clear a_250 HE251 a_256 HE257 a_258 HE259 a_260 HE261 a_262 HE263 a_264 HE265 a_266 HE267 a_268 HE269 a_270 HE271
                  refine blk_n ?_
                  refine nrm ?_
                  refine rg ?_
                  refine pl_x HE273 HH247 (wt0 rfl) (x_move rfl) rfl rfl fun a_274 HE275 => ?_
                  refine pl_x HE275 HH247 (wt0 rfl) (x_add rfl rfl (by exact ⟨by omega, by omega⟩)) rfl rfl fun a_276 HE277 => ?_
                  refine pl_x HE277 HH247 (wt0 rfl) (x_assign rfl) rfl rfl fun a_278 HE279 => ?_
                  refine wpList_nil ?_
                  clear a_272 HE273 a_274 HE275 a_276 HE277
                  exact nrm ⟨a0.length - (i + 1), (by omega), i + 1, rfl, HE279.sub ⟨(lkI rfl (by rw [dgs_step (by omega) (by omega) xe36, valD_snoc, dgv_def]; omega)), (lkI rfl (by first | rfl | omega | (simp [hc21, xe22, hc23, hc24, hc25, xe26, hc27, p34_0, p34_1, p34_2, hc35, xe36, hc38]; done))), rfl, rfl, trivial⟩, (HH247.sel [] (by decide) rfl), (by first | omega | assumption | (simp; done) | simp_all), (by first | omega | assumption | (simp; done) | simp_all), (by exact dgs_all p34_2 (by omega) (by omega) xe36 (by omega))⟩
              · have nb := dgs_bd18 p34_2 (by omega)
                refine wp_exit ?_
                refine (thn_exit (thn_exit (blk_hit ?_)))
                refine nrm ?_
                refine wp_seq ?_
                refine wp_seq ?_
                refine rg ?_
                refine pl_x HE238 HH230 (wt0 rfl) (x_move rfl) rfl rfl fun a_280 HE281 => ?_
                refine pl_x HE281 HH230 (wt0 rfl) (x_eql rfl rfl) rfl rfl fun a_282 HE283 => ?_
                refine wpList_nil ?_
                clear a_237 HE238 a_280 HE281
                refine nrm ?_
                refine cndT HE283 rfl (beq_t rfl) ?_
                refine rg ?_
                refine pl_x HE283 HH230 (wt0 rfl) (x_move rfl) rfl rfl fun a_284 HE285 => ?_
                refine pl_x HE285 HH230 (wt0 rfl) (x_neg rfl (by exact ⟨by omega, by omega⟩)) rfl rfl fun a_286 HE287 => ?_
                refine pl_x HE287 HH230 (wt0 rfl) (x_assign rfl) rfl rfl fun a_288 HE289 => ?_
                refine wpList_nil ?_
                clear a_282 HE283 a_284 HE285 a_286 HE287
                refine nrm ?_
                refine wp_seq ?_
                refine rg ?_
                refine pl_x HE289 HH230 (wt0 rfl) (x_move rfl) rfl rfl fun a_290 HE291 => ?_
                refine pl_x HE291 HH230 (wt0 rfl) (x_assign rfl) rfl rfl fun a_292 HE293 => ?_
                refine pl_x HE293 HH230 (wt0 rfl) (x_assign rfl) rfl rfl fun a_294 HE295 => ?_
                refine wpList_nil ?_
                clear a_288 HE289 a_290 HE291 a_292 HE293
                refine nrm ?_
                refine wp_ret ?_
                refine ret2 HE295 rfl (rv_tmp rfl) (rv_tmp rfl) ?_
                have hF : (numC a0) = (-(valD 0 (dgs a0 i) : Int), true) := by
                  first | exact numC_len0 (by omega) | exact numC_len18 (by omega) | exact numC_zero (by omega) (by omega) xe26 (by omega) (by omega) | exact numC_dig (by omega) (by omega) xe26 (by omega) | (exfalso; omega) | (rw [numC_yes (i := i) (by omega) (numC_ok (by omega) (by omega) (by omega) z0 (by omega) (by omega) p34_2), o0]; simp)
                exact ⟨by first | (rw [hF] <;> rfl) | rfl | (rw [hF]; simp only [Ending.returned.injEq, Value.slice.injEq, true_and, and_true]; first | omega | (simp; done)) | (rw [hF]; simp; omega), HH230.below⟩
    · have o0 := ofP_pos (by omega) xe22 hc23
      refine wp_skip ?_
      refine nrm ?_
      refine wp_seq ?_
      refine wp_seq ?_
      refine rg ?_
      refine pl_x HE25 HH1 (wt0 rfl) (x_move rfl) rfl rfl fun a_296 HE297 => ?_
      refine pl_x HE297 HH1 (wt0 rfl) (x_lenB Tryz.underlying9 rfl) rfl rfl fun a_298 HE299 => ?_
      refine pl_x HE299 HH1 (wt0 rfl) (x_move rfl) rfl rfl fun a_300 HE301 => ?_
      refine pl_x HE301 HH1 (wt0 rfl) (x_eql rfl rfl) rfl rfl fun a_302 HE303 => ?_
      refine pl_x HE303 HH1 (wt0 rfl) (x_move rfl) rfl rfl fun a_304 HE305 => ?_
      by_cases hc39 : (List.length a0 : Int) = 0
      · refine pl_no HE305 (wtF HE305 rfl rfl rfl (beq_t hc39)) rfl rfl fun a_306 HE307 => ?_
        refine pl_no HE307 (wtF HE307 rfl rfl rfl (beq_t hc39)) rfl rfl fun a_308 HE309 => ?_
        refine pl_no HE309 (wtF HE309 rfl rfl rfl (beq_t hc39)) rfl rfl fun a_310 HE311 => ?_
        refine pl_no HE311 (wtF HE311 rfl rfl rfl (beq_t hc39)) rfl rfl fun a_312 HE313 => ?_
        refine pl_no HE313 (wtF HE313 rfl rfl rfl (beq_t hc39)) rfl rfl fun a_314 HE315 => ?_
        refine pl_x HE315 HH1 (wt0 rfl) (x_pickT rfl (beq_t hc39) rfl) rfl rfl fun a_316 HE317 => ?_
        refine pl_x HE317 HH1 (wt0 rfl) (x_move rfl) rfl rfl fun a_318 HE319 => ?_
        refine pl_no HE319 (wtF HE319 rfl rfl rfl rfl) rfl rfl fun a_320 HE321 => ?_
        refine pl_no HE321 (wtF HE321 rfl rfl rfl rfl) rfl rfl fun a_322 HE323 => ?_
        refine pl_no HE323 (wtF HE323 rfl rfl rfl rfl) rfl rfl fun a_324 HE325 => ?_
        refine pl_no HE325 (wtF HE325 rfl rfl rfl rfl) rfl rfl fun a_326 HE327 => ?_
        refine pl_no HE327 (wtF HE327 rfl rfl rfl rfl) rfl rfl fun a_328 HE329 => ?_
        refine pl_no HE329 (wtU HE329 rfl rfl rfl) rfl rfl fun a_330 HE331 => ?_
        refine pl_no HE331 (wtU HE331 rfl rfl rfl) rfl rfl fun a_332 HE333 => ?_
        refine pl_no HE333 (wtU HE333 rfl rfl rfl) rfl rfl fun a_334 HE335 => ?_
        refine pl_no HE335 (wtF HE335 rfl rfl rfl rfl) rfl rfl fun a_336 HE337 => ?_
        refine pl_x HE337 HH1 (wt0 rfl) (x_pickT rfl rfl rfl) rfl rfl fun a_338 HE339 => ?_
        refine wpList_nil ?_
        clear a_24 HE25 a_296 HE297 a_298 HE299 a_300 HE301 a_302 HE303 a_304 HE305 a_306 HE307 a_308 HE309 a_310 HE311 a_312 HE313 a_314 HE315 a_316 HE317 a_318 HE319 a_320 HE321 a_322 HE323 a_324 HE325 a_326 HE327 a_328 HE329 a_330 HE331 a_332 HE333 a_334 HE335 a_336 HE337
        refine nrm ?_
        refine cndT HE339 rfl rfl ?_
        refine wp_seq ?_
        refine rg ?_
        refine pl_x HE339 HH1 (wt0 rfl) (x_assign rfl) rfl rfl fun a_340 HE341 => ?_
        refine pl_x HE341 HH1 (wt0 rfl) (x_assign rfl) rfl rfl fun a_342 HE343 => ?_
        refine wpList_nil ?_
        clear a_338 HE339 a_340 HE341
        refine nrm ?_
        refine wp_ret ?_
        refine (thn_ret ?_)
        refine ret2 HE343 rfl (rv_tmp rfl) (rv_tmp rfl) ?_
        have hF : (numC a0) = (0, false) := by
          first | exact numC_len0 (by omega) | exact numC_len18 (by omega) | exact numC_zero (by omega) (by omega) xe22 (by omega) (by omega) | exact numC_dig (by omega) (by omega) xe22 (by omega) | (exfalso; omega) | (rw [numC_yes (i := i) (by omega) (numC_ok (by omega) (by omega) (by omega) z0 (by omega) (by omega) p0_2), o0]; simp)
        exact ⟨by first | (rw [hF] <;> rfl) | rfl | (rw [hF]; simp only [Ending.returned.injEq, Value.slice.injEq, true_and, and_true]; first | omega | (simp; done)) | (rw [hF]; simp; omega), HH1.below⟩
      · refine pl_x HE305 HH1 (wtT HE305 rfl rfl rfl (beq_f hc39)) (x_move rfl) rfl rfl fun a_344 HE345 => ?_
        refine pl_x HE345 HH1 (wtT HE345 rfl rfl rfl (beq_f hc39)) (x_lenB Tryz.underlying9 rfl) rfl rfl fun a_346 HE347 => ?_
        refine pl_x HE347 HH1 (wtT HE347 rfl rfl rfl (beq_f hc39)) (x_move rfl) rfl rfl fun a_348 HE349 => ?_
        refine pl_x HE349 HH1 (wtT HE349 rfl rfl rfl (beq_f hc39)) (x_sub rfl rfl (by exact ⟨by omega, by omega⟩)) rfl rfl fun a_350 HE351 => ?_
        refine pl_x HE351 HH1 (wtT HE351 rfl rfl rfl (beq_f hc39)) (x_gtr rfl rfl) rfl rfl fun a_352 HE353 => ?_
        refine pl_x HE353 HH1 (wt0 rfl) (x_pickF rfl (beq_f hc39) rfl) rfl rfl fun a_354 HE355 => ?_
        refine pl_x HE355 HH1 (wt0 rfl) (x_move rfl) rfl rfl fun a_356 HE357 => ?_
        by_cases hc40 : 18 < ((List.length a0 : Int) - 0)
        · refine pl_no HE357 (wtF HE357 rfl rfl rfl (decide_eq_true hc40)) rfl rfl fun a_358 HE359 => ?_
          refine pl_no HE359 (wtF HE359 rfl rfl rfl (decide_eq_true hc40)) rfl rfl fun a_360 HE361 => ?_
          refine pl_no HE361 (wtF HE361 rfl rfl rfl (decide_eq_true hc40)) rfl rfl fun a_362 HE363 => ?_
          refine pl_no HE363 (wtF HE363 rfl rfl rfl (decide_eq_true hc40)) rfl rfl fun a_364 HE365 => ?_
          refine pl_no HE365 (wtF HE365 rfl rfl rfl (decide_eq_true hc40)) rfl rfl fun a_366 HE367 => ?_
          refine pl_no HE367 (wtU HE367 rfl rfl rfl) rfl rfl fun a_368 HE369 => ?_
          refine pl_no HE369 (wtU HE369 rfl rfl rfl) rfl rfl fun a_370 HE371 => ?_
          refine pl_no HE371 (wtU HE371 rfl rfl rfl) rfl rfl fun a_372 HE373 => ?_
          refine pl_no HE373 (wtF HE373 rfl rfl rfl (decide_eq_true hc40)) rfl rfl fun a_374 HE375 => ?_
          refine pl_x HE375 HH1 (wt0 rfl) (x_pickT rfl (decide_eq_true hc40) rfl) rfl rfl fun a_376 HE377 => ?_
          refine wpList_nil ?_
          clear a_24 HE25 a_296 HE297 a_298 HE299 a_300 HE301 a_302 HE303 a_304 HE305 a_344 HE345 a_346 HE347 a_348 HE349 a_350 HE351 a_352 HE353 a_354 HE355 a_356 HE357 a_358 HE359 a_360 HE361 a_362 HE363 a_364 HE365 a_366 HE367 a_368 HE369 a_370 HE371 a_372 HE373 a_374 HE375
          refine nrm ?_
          refine cndT HE377 rfl rfl ?_
          refine wp_seq ?_
          refine rg ?_
          refine pl_x HE377 HH1 (wt0 rfl) (x_assign rfl) rfl rfl fun a_378 HE379 => ?_
          refine pl_x HE379 HH1 (wt0 rfl) (x_assign rfl) rfl rfl fun a_380 HE381 => ?_
          refine wpList_nil ?_
          clear a_376 HE377 a_378 HE379
          refine nrm ?_
          refine wp_ret ?_
          refine (thn_ret ?_)
          refine ret2 HE381 rfl (rv_tmp rfl) (rv_tmp rfl) ?_
          have hF : (numC a0) = (0, false) := by
            first | exact numC_len0 (by omega) | exact numC_len18 (by omega) | exact numC_zero (by omega) (by omega) xe22 (by omega) (by omega) | exact numC_dig (by omega) (by omega) xe22 (by omega) | (exfalso; omega) | (rw [numC_yes (i := i) (by omega) (numC_ok (by omega) (by omega) (by omega) z0 (by omega) (by omega) p0_2), o0]; simp)
          exact ⟨by first | (rw [hF] <;> rfl) | rfl | (rw [hF]; simp only [Ending.returned.injEq, Value.slice.injEq, true_and, and_true]; first | omega | (simp; done)) | (rw [hF]; simp; omega), HH1.below⟩
        · refine pl_x HE357 HH1 (wtT HE357 rfl rfl rfl (decide_eq_false hc40)) (x_move rfl) rfl rfl fun a_382 HE383 => ?_
          refine pl_x HE383 HH1 (wtT HE383 rfl rfl rfl (decide_eq_false hc40)) (x_move rfl) rfl rfl fun a_384 HE385 => ?_
          refine pl_x HE385 HH1 (wtT HE385 rfl rfl rfl (decide_eq_false hc40)) (x_idxB Tryz.underlying9 rfl rfl rfl ke22 xe22) rfl rfl fun a_386 HE387 => ?_
          refine pl_x HE387 HH1 (wtT HE387 rfl rfl rfl (decide_eq_false hc40)) (x_eql rfl rfl) rfl rfl fun a_388 HE389 => ?_
          refine pl_x HE389 HH1 (wtT HE389 rfl rfl rfl (decide_eq_false hc40)) (x_move rfl) rfl rfl fun a_390 HE391 => ?_
          by_cases hc41 : (e22.toNat : Int) = 48
          · have z0 := xe22
            refine pl_x HE391 HH1 (wtT HE391 rfl rfl rfl (beq_t hc41)) (x_move rfl) rfl rfl fun a_392 HE393 => ?_
            refine pl_x HE393 HH1 (wtT HE393 rfl rfl rfl (beq_t hc41)) (x_lenB Tryz.underlying9 rfl) rfl rfl fun a_394 HE395 => ?_
            refine pl_x HE395 HH1 (wtT HE395 rfl rfl rfl (beq_t hc41)) (x_gtr rfl rfl) rfl rfl fun a_396 HE397 => ?_
            refine pl_x HE397 HH1 (wtT HE397 rfl rfl rfl (decide_eq_false hc40)) (x_pickT rfl (beq_t hc41) rfl) rfl rfl fun a_398 HE399 => ?_
            refine pl_x HE399 HH1 (wt0 rfl) (x_pickF rfl (decide_eq_false hc40) rfl) rfl rfl fun a_400 HE401 => ?_
            refine wpList_nil ?_
            clear a_24 HE25 a_296 HE297 a_298 HE299 a_300 HE301 a_302 HE303 a_304 HE305 a_344 HE345 a_346 HE347 a_348 HE349 a_350 HE351 a_352 HE353 a_354 HE355 a_356 HE357 a_382 HE383 a_384 HE385 a_386 HE387 a_388 HE389 a_390 HE391 a_392 HE393 a_394 HE395 a_396 HE397 a_398 HE399
            refine nrm ?_
            refine cnd_d HE401 rfl (fun hc42 => ?_) (fun hc42 => ?_)
            · refine wp_seq ?_
              refine rg ?_
              refine pl_x HE401 HH1 (wt0 rfl) (x_assign rfl) rfl rfl fun a_402 HE403 => ?_
              refine pl_x HE403 HH1 (wt0 rfl) (x_assign rfl) rfl rfl fun a_404 HE405 => ?_
              refine wpList_nil ?_
              clear a_400 HE401 a_402 HE403
              refine nrm ?_
              refine wp_ret ?_
              refine (thn_ret ?_)
              refine ret2 HE405 rfl (rv_tmp rfl) (rv_tmp rfl) ?_
              have hF : (numC a0) = (0, false) := by
                first | exact numC_len0 (by omega) | exact numC_len18 (by omega) | exact numC_zero (by omega) (by omega) xe22 (by omega) (by omega) | exact numC_dig (by omega) (by omega) xe22 (by omega) | (exfalso; omega) | (rw [numC_yes (i := i) (by omega) (numC_ok (by omega) (by omega) (by omega) z0 (by omega) (by omega) p0_2), o0]; simp)
              exact ⟨by first | (rw [hF] <;> rfl) | rfl | (rw [hF]; simp only [Ending.returned.injEq, Value.slice.injEq, true_and, and_true]; first | omega | (simp; done)) | (rw [hF]; simp; omega), HH1.below⟩
            · refine wp_skip ?_
              refine nrm ?_
              refine wp_seq ?_
              refine rg ?_
              refine pl_x HE401 HH1 (wt0 rfl) (x_assign rfl) rfl rfl fun a_406 HE407 => ?_
              refine wpList_nil ?_
              clear a_400 HE401
              refine nrm ?_
              refine wp_seq ?_
              refine wp_seq ?_
              refine rg ?_
              refine pl_x HE407 HH1 (wt0 rfl) (x_move rfl) rfl rfl fun a_408 HE409 => ?_
              refine pl_x HE409 HH1 (wt0 rfl) (x_assign rfl) rfl rfl fun a_410 HE411 => ?_
              refine wpList_nil ?_
              clear a_406 HE407 a_408 HE409
              refine nrm ?_
              refine wp_block ?_
              refine lp (fun m a w' => ∃ (i : Nat), m = a0.length - i ∧ Env 62 [(5, .int .i64 (valD 0 (dgs a0 i) : Int)), (6, .int .i64 (i : Int)), (0, .string (bs a0)), (4, .int .i64 (0))] a ∧ Held Nob w [] w' ∧ (ofP a0 ≤ i) ∧ (i ≤ a0.length) ∧ ((dgs a0 i).all isDg = true)) (a0.length - (ofP a0)) ?_ ?_
              · exact ⟨ofP a0, rfl, HE411.sub ⟨(lkI rfl (by rw [dgs_zero, valD_nil]; rfl)), (lkI rfl (by omega)), rfl, rfl, trivial⟩, (HH1.sel [] (by decide) rfl), (by first | omega | assumption | (simp; done) | simp_all), (by first | omega | assumption | (simp; done) | simp_all), (by rw [dgs_zero]; rfl)⟩
              · rintro m a_412 w' ⟨i, rfl, HE413, HH414, p43_0, p43_1, p43_2⟩
                refine wp_seq ?_
                refine wp_seq ?_
                refine rg ?_
                refine pl_x HE413 HH414 (wt0 rfl) (x_move rfl) rfl rfl fun a_415 HE416 => ?_
                refine pl_x HE416 HH414 (wt0 rfl) (x_move rfl) rfl rfl fun a_417 HE418 => ?_
                refine pl_x HE418 HH414 (wt0 rfl) (x_lenB Tryz.underlying9 rfl) rfl rfl fun a_419 HE420 => ?_
                refine pl_x HE420 HH414 (wt0 rfl) (x_lss rfl rfl) rfl rfl fun a_421 HE422 => ?_
                refine wpList_nil ?_
                clear a_410 HE411 HH1 a_412 HE413 a_415 HE416 a_417 HE418 a_419 HE420
                refine nrm ?_
                refine cnd_d HE422 rfl (fun hc44 => ?_) (fun hc44 => ?_)
                · have nb := dgs_bd p43_2 (by omega) (by omega)
                  refine wp_skip ?_
                  refine nrm ?_
                  refine wp_seq ?_
                  refine wp_block ?_
                  refine wp_seq ?_
                  refine wp_seq ?_
                  refine rg ?_
                  refine pl_x HE422 HH414 (wt0 rfl) (x_move rfl) rfl rfl fun a_423 HE424 => ?_
                  refine pl_x HE424 HH414 (wt0 rfl) (x_move rfl) rfl rfl fun a_425 HE426 => ?_
                  have ke45 : i < List.length a0 := by first | omega | (simp only [List.length_cons, List.length_nil]; omega)
                  obtain ⟨e45, xe45⟩ : ∃ x_, x_ = a0[i] := ⟨_, rfl⟩
                  have je45 : 0 ≤ (e45.toNat : Int) ∧ (e45.toNat : Int) ≤ 255 := by have := e45.toNat_lt; omega
                  refine pl_x HE426 HH414 (wt0 rfl) (x_idxB Tryz.underlying9 rfl rfl rfl ke45 xe45) rfl rfl fun a_427 HE428 => ?_
                  refine pl fun K_429 hK430 => ?_
                  refine st_call HE428 (wt0 rfl) rfl rfl rfl en_35 rfl rfl (spec_l01Digit (e45.toNat : Int) _ ) fun e w' hr => ?_
                  obtain ⟨rfl, hbr46⟩ := hr
                  have HH431 := HH414.on hbr46
                  refine ⟨_, rfl, fun a_432 HE433 => hK430 _ _ ?_⟩
                  refine pl_x HE433 HH431 (wt0 rfl) (x_not rfl) rfl rfl fun a_434 HE435 => ?_
                  refine wpList_nil ?_
                  clear a_421 HE422 a_423 HE424 a_425 HE426 HH414 a_427 HE428 a_432 HE433 hK430 K_429
                  refine nrm ?_
                  refine cnd_nb HE435 rfl (fun hc47 => ?_) (fun hc47 => ?_)
                  · have d0 := hc47
                    unfold digB at d0
                    simp only [Bool.and_eq_false_iff, decide_eq_false_iff_not] at d0
                    refine wp_seq ?_
                    refine rg ?_
                    refine pl_x HE435 HH431 (wt0 rfl) (x_assign rfl) rfl rfl fun a_436 HE437 => ?_
                    refine pl_x HE437 HH431 (wt0 rfl) (x_assign rfl) rfl rfl fun a_438 HE439 => ?_
                    refine wpList_nil ?_
                    clear a_434 HE435 a_436 HE437
                    refine nrm ?_
                    refine wp_ret ?_
                    refine (thn_ret (blk_ret (thn_ret (thn_ret (blk_ret (thn_ret ?_))))))
                    refine ret2 HE439 rfl (rv_tmp rfl) (rv_tmp rfl) ?_
                    have hF : (numC a0) = (0, false) := by
                      first | exact numC_len0 (by omega) | exact numC_len18 (by omega) | exact numC_zero (by omega) (by omega) xe45 (by omega) (by omega) | exact numC_dig (by omega) (by omega) xe45 (by omega) | (exfalso; omega) | (rw [numC_yes (i := i) (by omega) (numC_ok (by omega) (by omega) (by omega) z0 (by omega) (by omega) p43_2), o0]; simp)
                    exact ⟨by first | (rw [hF] <;> rfl) | rfl | (rw [hF]; simp only [Ending.returned.injEq, Value.slice.injEq, true_and, and_true]; first | omega | (simp; done)) | (rw [hF]; simp; omega), HH431.below⟩
                  · have d0 := hc47
                    unfold digB at d0
                    simp only [Bool.and_eq_true, decide_eq_true_eq] at d0
                    refine wp_skip ?_
                    refine nrm ?_
                    refine rg ?_
                    refine pl_x HE435 HH431 (wt0 rfl) (x_move rfl) rfl rfl fun a_440 HE441 => ?_
                    refine pl_x HE441 HH431 (wt0 rfl) (x_mul rfl rfl (by exact ⟨by omega, by omega⟩)) rfl rfl fun a_442 HE443 => ?_
                    refine pl_x HE443 HH431 (wt0 rfl) (x_move rfl) rfl rfl fun a_444 HE445 => ?_
                    refine pl_x HE445 HH431 (wt0 rfl) (x_move rfl) rfl rfl fun a_446 HE447 => ?_
                    refine pl_x HE447 HH431 (wt0 rfl) (x_idxB Tryz.underlying9 rfl rfl rfl ke45 xe45) rfl rfl fun a_448 HE449 => ?_
                    refine pl_x HE449 HH431 (wt0 rfl) (x_sub8 rfl rfl (by constructor <;> omega)) rfl rfl fun a_450 HE451 => ?_
                    refine pl_x HE451 HH431 (wt0 rfl) (x_conv Tryz.underlying5 Tryz.underlying2 rfl (by exact ⟨by omega, by omega⟩)) rfl rfl fun a_452 HE453 => ?_
                    refine pl_x HE453 HH431 (wt0 rfl) (x_add rfl rfl (by exact ⟨by omega, by omega⟩)) rfl rfl fun a_454 HE455 => ?_
                    refine pl_x HE455 HH431 (wt0 rfl) (x_assign rfl) rfl rfl fun a_456 HE457 => ?_
                    refine wpList_nil ?_
                    clear a_434 HE435 a_440 HE441 a_442 HE443 a_444 HE445 a_446 HE447 a_448 HE449 a_450 HE451 a_452 HE453 a_454 HE455
                    refine blk_n ?_
                    refine nrm ?_
                    refine rg ?_
                    refine pl_x HE457 HH431 (wt0 rfl) (x_move rfl) rfl rfl fun a_458 HE459 => ?_
                    refine pl_x HE459 HH431 (wt0 rfl) (x_add rfl rfl (by exact ⟨by omega, by omega⟩)) rfl rfl fun a_460 HE461 => ?_
                    refine pl_x HE461 HH431 (wt0 rfl) (x_assign rfl) rfl rfl fun a_462 HE463 => ?_
                    refine wpList_nil ?_
                    clear a_456 HE457 a_458 HE459 a_460 HE461
                    exact nrm ⟨a0.length - (i + 1), (by omega), i + 1, rfl, HE463.sub ⟨(lkI rfl (by rw [dgs_step (by omega) (by omega) xe45, valD_snoc, dgv_def]; omega)), (lkI rfl (by first | rfl | omega | (simp [hc21, xe22, hc23, hc39, hc40, hc41, hc42, p43_0, p43_1, p43_2, hc44, xe45, hc47]; done))), rfl, rfl, trivial⟩, (HH431.sel [] (by decide) rfl), (by first | omega | assumption | (simp; done) | simp_all), (by first | omega | assumption | (simp; done) | simp_all), (by exact dgs_all p43_2 (by omega) (by omega) xe45 (by omega))⟩
                · have nb := dgs_bd18 p43_2 (by omega)
                  refine wp_exit ?_
                  refine (thn_exit (thn_exit (blk_hit ?_)))
                  refine nrm ?_
                  refine wp_seq ?_
                  refine wp_seq ?_
                  refine rg ?_
                  refine pl_x HE422 HH414 (wt0 rfl) (x_move rfl) rfl rfl fun a_464 HE465 => ?_
                  refine pl_x HE465 HH414 (wt0 rfl) (x_eql rfl rfl) rfl rfl fun a_466 HE467 => ?_
                  refine wpList_nil ?_
                  clear a_421 HE422 a_464 HE465
                  refine nrm ?_
                  refine cnd_e HE467 rfl (fun hc48 => ?_) (fun hc48 => ?_)
                  · refine rg ?_
                    refine pl_x HE467 HH414 (wt0 rfl) (x_move rfl) rfl rfl fun a_468 HE469 => ?_
                    refine pl_x HE469 HH414 (wt0 rfl) (x_neg rfl (by exact ⟨by omega, by omega⟩)) rfl rfl fun a_470 HE471 => ?_
                    refine pl_x HE471 HH414 (wt0 rfl) (x_assign rfl) rfl rfl fun a_472 HE473 => ?_
                    refine wpList_nil ?_
                    clear a_466 HE467 a_468 HE469 a_470 HE471
                    refine nrm ?_
                    refine wp_seq ?_
                    refine rg ?_
                    refine pl_x HE473 HH414 (wt0 rfl) (x_move rfl) rfl rfl fun a_474 HE475 => ?_
                    refine pl_x HE475 HH414 (wt0 rfl) (x_assign rfl) rfl rfl fun a_476 HE477 => ?_
                    refine pl_x HE477 HH414 (wt0 rfl) (x_assign rfl) rfl rfl fun a_478 HE479 => ?_
                    refine wpList_nil ?_
                    clear a_472 HE473 a_474 HE475 a_476 HE477
                    refine nrm ?_
                    refine wp_ret ?_
                    refine ret2 HE479 rfl (rv_tmp rfl) (rv_tmp rfl) ?_
                    have hF : (numC a0) = (-(valD 0 (dgs a0 i) : Int), true) := by
                      first | exact numC_len0 (by omega) | exact numC_len18 (by omega) | exact numC_zero (by omega) (by omega) xe22 (by omega) (by omega) | exact numC_dig (by omega) (by omega) xe22 (by omega) | (exfalso; omega) | (rw [numC_yes (i := i) (by omega) (numC_ok (by omega) (by omega) (by omega) z0 (by omega) (by omega) p43_2), o0]; simp)
                    exact ⟨by first | (rw [hF] <;> rfl) | rfl | (rw [hF]; simp only [Ending.returned.injEq, Value.slice.injEq, true_and, and_true]; first | omega | (simp; done)) | (rw [hF]; simp; omega), HH414.below⟩
                  · refine wp_skip ?_
                    refine nrm ?_
                    refine wp_seq ?_
                    refine rg ?_
                    refine pl_x HE467 HH414 (wt0 rfl) (x_move rfl) rfl rfl fun a_480 HE481 => ?_
                    refine pl_x HE481 HH414 (wt0 rfl) (x_assign rfl) rfl rfl fun a_482 HE483 => ?_
                    refine pl_x HE483 HH414 (wt0 rfl) (x_assign rfl) rfl rfl fun a_484 HE485 => ?_
                    refine wpList_nil ?_
                    clear a_466 HE467 a_480 HE481 a_482 HE483
                    refine nrm ?_
                    refine wp_ret ?_
                    refine ret2 HE485 rfl (rv_tmp rfl) (rv_tmp rfl) ?_
                    have hF : (numC a0) = ((valD 0 (dgs a0 i) : Int), true) := by
                      first | exact numC_len0 (by omega) | exact numC_len18 (by omega) | exact numC_zero (by omega) (by omega) xe22 (by omega) (by omega) | exact numC_dig (by omega) (by omega) xe22 (by omega) | (exfalso; omega) | (rw [numC_yes (i := i) (by omega) (numC_ok (by omega) (by omega) (by omega) z0 (by omega) (by omega) p43_2), o0]; simp)
                    exact ⟨by first | (rw [hF] <;> rfl) | rfl | (rw [hF]; simp only [Ending.returned.injEq, Value.slice.injEq, true_and, and_true]; first | omega | (simp; done)) | (rw [hF]; simp; omega), HH414.below⟩
          · have z0 := xe22
            refine pl_no HE391 (wtF HE391 rfl rfl rfl (beq_f hc41)) rfl rfl fun a_486 HE487 => ?_
            refine pl_no HE487 (wtF HE487 rfl rfl rfl (beq_f hc41)) rfl rfl fun a_488 HE489 => ?_
            refine pl_no HE489 (wtF HE489 rfl rfl rfl (beq_f hc41)) rfl rfl fun a_490 HE491 => ?_
            refine pl_x HE491 HH1 (wtT HE491 rfl rfl rfl (decide_eq_false hc40)) (x_pickF rfl (beq_f hc41) rfl) rfl rfl fun a_492 HE493 => ?_
            refine pl_x HE493 HH1 (wt0 rfl) (x_pickF rfl (decide_eq_false hc40) rfl) rfl rfl fun a_494 HE495 => ?_
            refine wpList_nil ?_
            clear a_24 HE25 a_296 HE297 a_298 HE299 a_300 HE301 a_302 HE303 a_304 HE305 a_344 HE345 a_346 HE347 a_348 HE349 a_350 HE351 a_352 HE353 a_354 HE355 a_356 HE357 a_382 HE383 a_384 HE385 a_386 HE387 a_388 HE389 a_390 HE391 a_486 HE487 a_488 HE489 a_490 HE491 a_492 HE493
            refine nrm ?_
            refine cndF HE495 rfl rfl ?_
            refine wp_skip ?_
            refine nrm ?_
            refine wp_seq ?_
            refine rg ?_
            refine pl_x HE495 HH1 (wt0 rfl) (x_assign rfl) rfl rfl fun a_496 HE497 => ?_
            refine wpList_nil ?_
            clear a_494 HE495
            refine nrm ?_
            refine wp_seq ?_
            refine wp_seq ?_
            refine rg ?_
            refine pl_x HE497 HH1 (wt0 rfl) (x_move rfl) rfl rfl fun a_498 HE499 => ?_
            refine pl_x HE499 HH1 (wt0 rfl) (x_assign rfl) rfl rfl fun a_500 HE501 => ?_
            refine wpList_nil ?_
            clear a_496 HE497 a_498 HE499
            refine nrm ?_
            refine wp_block ?_
            refine lp (fun m a w' => ∃ (i : Nat), m = a0.length - i ∧ Env 62 [(5, .int .i64 (valD 0 (dgs a0 i) : Int)), (6, .int .i64 (i : Int)), (0, .string (bs a0)), (4, .int .i64 (0))] a ∧ Held Nob w [] w' ∧ (ofP a0 ≤ i) ∧ (i ≤ a0.length) ∧ ((dgs a0 i).all isDg = true)) (a0.length - (ofP a0)) ?_ ?_
            · exact ⟨ofP a0, rfl, HE501.sub ⟨(lkI rfl (by rw [dgs_zero, valD_nil]; rfl)), (lkI rfl (by omega)), rfl, rfl, trivial⟩, (HH1.sel [] (by decide) rfl), (by first | omega | assumption | (simp; done) | simp_all), (by first | omega | assumption | (simp; done) | simp_all), (by rw [dgs_zero]; rfl)⟩
            · rintro m a_502 w' ⟨i, rfl, HE503, HH504, p49_0, p49_1, p49_2⟩
              refine wp_seq ?_
              refine wp_seq ?_
              refine rg ?_
              refine pl_x HE503 HH504 (wt0 rfl) (x_move rfl) rfl rfl fun a_505 HE506 => ?_
              refine pl_x HE506 HH504 (wt0 rfl) (x_move rfl) rfl rfl fun a_507 HE508 => ?_
              refine pl_x HE508 HH504 (wt0 rfl) (x_lenB Tryz.underlying9 rfl) rfl rfl fun a_509 HE510 => ?_
              refine pl_x HE510 HH504 (wt0 rfl) (x_lss rfl rfl) rfl rfl fun a_511 HE512 => ?_
              refine wpList_nil ?_
              clear a_500 HE501 HH1 a_502 HE503 a_505 HE506 a_507 HE508 a_509 HE510
              refine nrm ?_
              refine cnd_d HE512 rfl (fun hc50 => ?_) (fun hc50 => ?_)
              · have nb := dgs_bd p49_2 (by omega) (by omega)
                refine wp_skip ?_
                refine nrm ?_
                refine wp_seq ?_
                refine wp_block ?_
                refine wp_seq ?_
                refine wp_seq ?_
                refine rg ?_
                refine pl_x HE512 HH504 (wt0 rfl) (x_move rfl) rfl rfl fun a_513 HE514 => ?_
                refine pl_x HE514 HH504 (wt0 rfl) (x_move rfl) rfl rfl fun a_515 HE516 => ?_
                have ke51 : i < List.length a0 := by first | omega | (simp only [List.length_cons, List.length_nil]; omega)
                obtain ⟨e51, xe51⟩ : ∃ x_, x_ = a0[i] := ⟨_, rfl⟩
                have je51 : 0 ≤ (e51.toNat : Int) ∧ (e51.toNat : Int) ≤ 255 := by have := e51.toNat_lt; omega
                refine pl_x HE516 HH504 (wt0 rfl) (x_idxB Tryz.underlying9 rfl rfl rfl ke51 xe51) rfl rfl fun a_517 HE518 => ?_
                refine pl fun K_519 hK520 => ?_
                refine st_call HE518 (wt0 rfl) rfl rfl rfl en_35 rfl rfl (spec_l01Digit (e51.toNat : Int) _ ) fun e w' hr => ?_
                obtain ⟨rfl, hbr52⟩ := hr
                have HH521 := HH504.on hbr52
                refine ⟨_, rfl, fun a_522 HE523 => hK520 _ _ ?_⟩
                refine pl_x HE523 HH521 (wt0 rfl) (x_not rfl) rfl rfl fun a_524 HE525 => ?_
                refine wpList_nil ?_
                clear a_511 HE512 a_513 HE514 a_515 HE516 HH504 a_517 HE518 a_522 HE523 hK520 K_519
                refine nrm ?_
                refine cnd_nb HE525 rfl (fun hc53 => ?_) (fun hc53 => ?_)
                · have d0 := hc53
                  unfold digB at d0
                  simp only [Bool.and_eq_false_iff, decide_eq_false_iff_not] at d0
                  refine wp_seq ?_
                  refine rg ?_
                  refine pl_x HE525 HH521 (wt0 rfl) (x_assign rfl) rfl rfl fun a_526 HE527 => ?_
                  refine pl_x HE527 HH521 (wt0 rfl) (x_assign rfl) rfl rfl fun a_528 HE529 => ?_
                  refine wpList_nil ?_
                  clear a_524 HE525 a_526 HE527
                  refine nrm ?_
                  refine wp_ret ?_
                  refine (thn_ret (blk_ret (thn_ret (thn_ret (blk_ret (thn_ret ?_))))))
                  refine ret2 HE529 rfl (rv_tmp rfl) (rv_tmp rfl) ?_
                  have hF : (numC a0) = (0, false) := by
                    first | exact numC_len0 (by omega) | exact numC_len18 (by omega) | exact numC_zero (by omega) (by omega) xe51 (by omega) (by omega) | exact numC_dig (by omega) (by omega) xe51 (by omega) | (exfalso; omega) | (rw [numC_yes (i := i) (by omega) (numC_ok (by omega) (by omega) (by omega) z0 (by omega) (by omega) p49_2), o0]; simp)
                  exact ⟨by first | (rw [hF] <;> rfl) | rfl | (rw [hF]; simp only [Ending.returned.injEq, Value.slice.injEq, true_and, and_true]; first | omega | (simp; done)) | (rw [hF]; simp; omega), HH521.below⟩
                · have d0 := hc53
                  unfold digB at d0
                  simp only [Bool.and_eq_true, decide_eq_true_eq] at d0
                  refine wp_skip ?_
                  refine nrm ?_
                  refine rg ?_
                  refine pl_x HE525 HH521 (wt0 rfl) (x_move rfl) rfl rfl fun a_530 HE531 => ?_
                  refine pl_x HE531 HH521 (wt0 rfl) (x_mul rfl rfl (by exact ⟨by omega, by omega⟩)) rfl rfl fun a_532 HE533 => ?_
                  refine pl_x HE533 HH521 (wt0 rfl) (x_move rfl) rfl rfl fun a_534 HE535 => ?_
                  refine pl_x HE535 HH521 (wt0 rfl) (x_move rfl) rfl rfl fun a_536 HE537 => ?_
                  refine pl_x HE537 HH521 (wt0 rfl) (x_idxB Tryz.underlying9 rfl rfl rfl ke51 xe51) rfl rfl fun a_538 HE539 => ?_
                  refine pl_x HE539 HH521 (wt0 rfl) (x_sub8 rfl rfl (by constructor <;> omega)) rfl rfl fun a_540 HE541 => ?_
                  refine pl_x HE541 HH521 (wt0 rfl) (x_conv Tryz.underlying5 Tryz.underlying2 rfl (by exact ⟨by omega, by omega⟩)) rfl rfl fun a_542 HE543 => ?_
                  refine pl_x HE543 HH521 (wt0 rfl) (x_add rfl rfl (by exact ⟨by omega, by omega⟩)) rfl rfl fun a_544 HE545 => ?_
                  refine pl_x HE545 HH521 (wt0 rfl) (x_assign rfl) rfl rfl fun a_546 HE547 => ?_
                  refine wpList_nil ?_
                  clear a_524 HE525 a_530 HE531 a_532 HE533 a_534 HE535 a_536 HE537 a_538 HE539 a_540 HE541 a_542 HE543 a_544 HE545
                  refine blk_n ?_
                  refine nrm ?_
                  refine rg ?_
                  refine pl_x HE547 HH521 (wt0 rfl) (x_move rfl) rfl rfl fun a_548 HE549 => ?_
                  refine pl_x HE549 HH521 (wt0 rfl) (x_add rfl rfl (by exact ⟨by omega, by omega⟩)) rfl rfl fun a_550 HE551 => ?_
                  refine pl_x HE551 HH521 (wt0 rfl) (x_assign rfl) rfl rfl fun a_552 HE553 => ?_
                  refine wpList_nil ?_
                  clear a_546 HE547 a_548 HE549 a_550 HE551
                  exact nrm ⟨a0.length - (i + 1), (by omega), i + 1, rfl, HE553.sub ⟨(lkI rfl (by rw [dgs_step (by omega) (by omega) xe51, valD_snoc, dgv_def]; omega)), (lkI rfl (by first | rfl | omega | (simp [hc21, xe22, hc23, hc39, hc40, hc41, p49_0, p49_1, p49_2, hc50, xe51, hc53]; done))), rfl, rfl, trivial⟩, (HH521.sel [] (by decide) rfl), (by first | omega | assumption | (simp; done) | simp_all), (by first | omega | assumption | (simp; done) | simp_all), (by exact dgs_all p49_2 (by omega) (by omega) xe51 (by omega))⟩
              · have nb := dgs_bd18 p49_2 (by omega)
                refine wp_exit ?_
                refine (thn_exit (thn_exit (blk_hit ?_)))
                refine nrm ?_
                refine wp_seq ?_
                refine wp_seq ?_
                refine rg ?_
                refine pl_x HE512 HH504 (wt0 rfl) (x_move rfl) rfl rfl fun a_554 HE555 => ?_
                refine pl_x HE555 HH504 (wt0 rfl) (x_eql rfl rfl) rfl rfl fun a_556 HE557 => ?_
                refine wpList_nil ?_
                clear a_511 HE512 a_554 HE555
                refine nrm ?_
                refine cnd_e HE557 rfl (fun hc54 => ?_) (fun hc54 => ?_)
                · refine rg ?_
                  refine pl_x HE557 HH504 (wt0 rfl) (x_move rfl) rfl rfl fun a_558 HE559 => ?_
                  refine pl_x HE559 HH504 (wt0 rfl) (x_neg rfl (by exact ⟨by omega, by omega⟩)) rfl rfl fun a_560 HE561 => ?_
                  refine pl_x HE561 HH504 (wt0 rfl) (x_assign rfl) rfl rfl fun a_562 HE563 => ?_
                  refine wpList_nil ?_
                  clear a_556 HE557 a_558 HE559 a_560 HE561
                  refine nrm ?_
                  refine wp_seq ?_
                  refine rg ?_
                  refine pl_x HE563 HH504 (wt0 rfl) (x_move rfl) rfl rfl fun a_564 HE565 => ?_
                  refine pl_x HE565 HH504 (wt0 rfl) (x_assign rfl) rfl rfl fun a_566 HE567 => ?_
                  refine pl_x HE567 HH504 (wt0 rfl) (x_assign rfl) rfl rfl fun a_568 HE569 => ?_
                  refine wpList_nil ?_
                  clear a_562 HE563 a_564 HE565 a_566 HE567
                  refine nrm ?_
                  refine wp_ret ?_
                  refine ret2 HE569 rfl (rv_tmp rfl) (rv_tmp rfl) ?_
                  have hF : (numC a0) = (-(valD 0 (dgs a0 i) : Int), true) := by
                    first | exact numC_len0 (by omega) | exact numC_len18 (by omega) | exact numC_zero (by omega) (by omega) xe22 (by omega) (by omega) | exact numC_dig (by omega) (by omega) xe22 (by omega) | (exfalso; omega) | (rw [numC_yes (i := i) (by omega) (numC_ok (by omega) (by omega) (by omega) z0 (by omega) (by omega) p49_2), o0]; simp)
                  exact ⟨by first | (rw [hF] <;> rfl) | rfl | (rw [hF]; simp only [Ending.returned.injEq, Value.slice.injEq, true_and, and_true]; first | omega | (simp; done)) | (rw [hF]; simp; omega), HH504.below⟩
                · refine wp_skip ?_
                  refine nrm ?_
                  refine wp_seq ?_
                  refine rg ?_
                  refine pl_x HE557 HH504 (wt0 rfl) (x_move rfl) rfl rfl fun a_570 HE571 => ?_
                  refine pl_x HE571 HH504 (wt0 rfl) (x_assign rfl) rfl rfl fun a_572 HE573 => ?_
                  refine pl_x HE573 HH504 (wt0 rfl) (x_assign rfl) rfl rfl fun a_574 HE575 => ?_
                  refine wpList_nil ?_
                  clear a_556 HE557 a_570 HE571 a_572 HE573
                  refine nrm ?_
                  refine wp_ret ?_
                  refine ret2 HE575 rfl (rv_tmp rfl) (rv_tmp rfl) ?_
                  have hF : (numC a0) = ((valD 0 (dgs a0 i) : Int), true) := by
                    first | exact numC_len0 (by omega) | exact numC_len18 (by omega) | exact numC_zero (by omega) (by omega) xe22 (by omega) (by omega) | exact numC_dig (by omega) (by omega) xe22 (by omega) | (exfalso; omega) | (rw [numC_yes (i := i) (by omega) (numC_ok (by omega) (by omega) (by omega) z0 (by omega) (by omega) p49_2), o0]; simp)
                  exact ⟨by first | (rw [hF] <;> rfl) | rfl | (rw [hF]; simp only [Ending.returned.injEq, Value.slice.injEq, true_and, and_true]; first | omega | (simp; done)) | (rw [hF]; simp; omega), HH504.below⟩
  · have o0 := ofP_nil (s := a0) (by omega)
    refine pl_no HE17 (wtF HE17 rfl rfl rfl (decide_eq_false hc21)) rfl rfl fun a_576 HE577 => ?_
    refine pl_no HE577 (wtF HE577 rfl rfl rfl (decide_eq_false hc21)) rfl rfl fun a_578 HE579 => ?_
    refine pl_no HE579 (wtF HE579 rfl rfl rfl (decide_eq_false hc21)) rfl rfl fun a_580 HE581 => ?_
    refine pl_x HE581 HH1 (wt0 rfl) (x_pickF rfl (decide_eq_false hc21) rfl) rfl rfl fun a_582 HE583 => ?_
    refine wpList_nil ?_
    clear a_8 HE9 a_10 HE11 a_12 HE13 a_14 HE15 a_16 HE17 a_576 HE577 a_578 HE579 a_580 HE581
    refine nrm ?_
    refine cndF HE583 rfl rfl ?_
    refine wp_skip ?_
    refine nrm ?_
    refine wp_seq ?_
    refine wp_seq ?_
    refine rg ?_
    refine pl_x HE583 HH1 (wt0 rfl) (x_move rfl) rfl rfl fun a_584 HE585 => ?_
    refine pl_x HE585 HH1 (wt0 rfl) (x_lenB Tryz.underlying9 rfl) rfl rfl fun a_586 HE587 => ?_
    refine pl_x HE587 HH1 (wt0 rfl) (x_move rfl) rfl rfl fun a_588 HE589 => ?_
    refine pl_x HE589 HH1 (wt0 rfl) (x_eql rfl rfl) rfl rfl fun a_590 HE591 => ?_
    refine pl_x HE591 HH1 (wt0 rfl) (x_move rfl) rfl rfl fun a_592 HE593 => ?_
    by_cases hc55 : (List.length a0 : Int) = 0
    · refine pl_no HE593 (wtF HE593 rfl rfl rfl (beq_t hc55)) rfl rfl fun a_594 HE595 => ?_
      refine pl_no HE595 (wtF HE595 rfl rfl rfl (beq_t hc55)) rfl rfl fun a_596 HE597 => ?_
      refine pl_no HE597 (wtF HE597 rfl rfl rfl (beq_t hc55)) rfl rfl fun a_598 HE599 => ?_
      refine pl_no HE599 (wtF HE599 rfl rfl rfl (beq_t hc55)) rfl rfl fun a_600 HE601 => ?_
      refine pl_no HE601 (wtF HE601 rfl rfl rfl (beq_t hc55)) rfl rfl fun a_602 HE603 => ?_
      refine pl_x HE603 HH1 (wt0 rfl) (x_pickT rfl (beq_t hc55) rfl) rfl rfl fun a_604 HE605 => ?_
      refine pl_x HE605 HH1 (wt0 rfl) (x_move rfl) rfl rfl fun a_606 HE607 => ?_
      refine pl_no HE607 (wtF HE607 rfl rfl rfl rfl) rfl rfl fun a_608 HE609 => ?_
      refine pl_no HE609 (wtF HE609 rfl rfl rfl rfl) rfl rfl fun a_610 HE611 => ?_
      refine pl_no HE611 (wtF HE611 rfl rfl rfl rfl) rfl rfl fun a_612 HE613 => ?_
      refine pl_no HE613 (wtF HE613 rfl rfl rfl rfl) rfl rfl fun a_614 HE615 => ?_
      refine pl_no HE615 (wtF HE615 rfl rfl rfl rfl) rfl rfl fun a_616 HE617 => ?_
      refine pl_no HE617 (wtU HE617 rfl rfl rfl) rfl rfl fun a_618 HE619 => ?_
      refine pl_no HE619 (wtU HE619 rfl rfl rfl) rfl rfl fun a_620 HE621 => ?_
      refine pl_no HE621 (wtU HE621 rfl rfl rfl) rfl rfl fun a_622 HE623 => ?_
      refine pl_no HE623 (wtF HE623 rfl rfl rfl rfl) rfl rfl fun a_624 HE625 => ?_
      refine pl_x HE625 HH1 (wt0 rfl) (x_pickT rfl rfl rfl) rfl rfl fun a_626 HE627 => ?_
      refine wpList_nil ?_
      clear a_582 HE583 a_584 HE585 a_586 HE587 a_588 HE589 a_590 HE591 a_592 HE593 a_594 HE595 a_596 HE597 a_598 HE599 a_600 HE601 a_602 HE603 a_604 HE605 a_606 HE607 a_608 HE609 a_610 HE611 a_612 HE613 a_614 HE615 a_616 HE617 a_618 HE619 a_620 HE621 a_622 HE623 a_624 HE625
      refine nrm ?_
      refine cndT HE627 rfl rfl ?_
      refine wp_seq ?_
      refine rg ?_
      refine pl_x HE627 HH1 (wt0 rfl) (x_assign rfl) rfl rfl fun a_628 HE629 => ?_
      refine pl_x HE629 HH1 (wt0 rfl) (x_assign rfl) rfl rfl fun a_630 HE631 => ?_
      refine wpList_nil ?_
      clear a_626 HE627 a_628 HE629
      refine nrm ?_
      refine wp_ret ?_
      refine (thn_ret ?_)
      refine ret2 HE631 rfl (rv_tmp rfl) (rv_tmp rfl) ?_
      have hF : (numC a0) = (0, false) := by
        first | exact numC_len0 (by omega) | exact numC_len18 (by omega) | exact numC_zero (by omega) (by omega) xe0 (by omega) (by omega) | exact numC_dig (by omega) (by omega) xe0 (by omega) | (exfalso; omega) | (rw [numC_yes (i := i) (by omega) (numC_ok (by omega) (by omega) (by omega) z0 (by omega) (by omega) p0_2), o0]; simp)
      exact ⟨by first | (rw [hF] <;> rfl) | rfl | (rw [hF]; simp only [Ending.returned.injEq, Value.slice.injEq, true_and, and_true]; first | omega | (simp; done)) | (rw [hF]; simp; omega), HH1.below⟩
    · refine pl_x HE593 HH1 (wtT HE593 rfl rfl rfl (beq_f hc55)) (x_move rfl) rfl rfl fun a_632 HE633 => ?_
      refine pl_x HE633 HH1 (wtT HE633 rfl rfl rfl (beq_f hc55)) (x_lenB Tryz.underlying9 rfl) rfl rfl fun a_634 HE635 => ?_
      refine pl_x HE635 HH1 (wtT HE635 rfl rfl rfl (beq_f hc55)) (x_move rfl) rfl rfl fun a_636 HE637 => ?_
      refine pl_x HE637 HH1 (wtT HE637 rfl rfl rfl (beq_f hc55)) (x_sub rfl rfl (by exact ⟨by omega, by omega⟩)) rfl rfl fun a_638 HE639 => ?_
      refine pl_x HE639 HH1 (wtT HE639 rfl rfl rfl (beq_f hc55)) (x_gtr rfl rfl) rfl rfl fun a_640 HE641 => ?_
      refine pl_x HE641 HH1 (wt0 rfl) (x_pickF rfl (beq_f hc55) rfl) rfl rfl fun a_642 HE643 => ?_
      refine pl_x HE643 HH1 (wt0 rfl) (x_move rfl) rfl rfl fun a_644 HE645 => ?_
      by_cases hc56 : 18 < ((List.length a0 : Int) - 0)
      · refine pl_no HE645 (wtF HE645 rfl rfl rfl (decide_eq_true hc56)) rfl rfl fun a_646 HE647 => ?_
        refine pl_no HE647 (wtF HE647 rfl rfl rfl (decide_eq_true hc56)) rfl rfl fun a_648 HE649 => ?_
        refine pl_no HE649 (wtF HE649 rfl rfl rfl (decide_eq_true hc56)) rfl rfl fun a_650 HE651 => ?_
        refine pl_no HE651 (wtF HE651 rfl rfl rfl (decide_eq_true hc56)) rfl rfl fun a_652 HE653 => ?_
        refine pl_no HE653 (wtF HE653 rfl rfl rfl (decide_eq_true hc56)) rfl rfl fun a_654 HE655 => ?_
        refine pl_no HE655 (wtU HE655 rfl rfl rfl) rfl rfl fun a_656 HE657 => ?_
        refine pl_no HE657 (wtU HE657 rfl rfl rfl) rfl rfl fun a_658 HE659 => ?_
        refine pl_no HE659 (wtU HE659 rfl rfl rfl) rfl rfl fun a_660 HE661 => ?_
        refine pl_no HE661 (wtF HE661 rfl rfl rfl (decide_eq_true hc56)) rfl rfl fun a_662 HE663 => ?_
        refine pl_x HE663 HH1 (wt0 rfl) (x_pickT rfl (decide_eq_true hc56) rfl) rfl rfl fun a_664 HE665 => ?_
        refine wpList_nil ?_
        clear a_582 HE583 a_584 HE585 a_586 HE587 a_588 HE589 a_590 HE591 a_592 HE593 a_632 HE633 a_634 HE635 a_636 HE637 a_638 HE639 a_640 HE641 a_642 HE643 a_644 HE645 a_646 HE647 a_648 HE649 a_650 HE651 a_652 HE653 a_654 HE655 a_656 HE657 a_658 HE659 a_660 HE661 a_662 HE663
        refine nrm ?_
        refine cndT HE665 rfl rfl ?_
        refine wp_seq ?_
        refine rg ?_
        refine pl_x HE665 HH1 (wt0 rfl) (x_assign rfl) rfl rfl fun a_666 HE667 => ?_
        refine pl_x HE667 HH1 (wt0 rfl) (x_assign rfl) rfl rfl fun a_668 HE669 => ?_
        refine wpList_nil ?_
        clear a_664 HE665 a_666 HE667
        refine nrm ?_
        refine wp_ret ?_
        refine (thn_ret ?_)
        refine ret2 HE669 rfl (rv_tmp rfl) (rv_tmp rfl) ?_
        have hF : (numC a0) = (0, false) := by
          first | exact numC_len0 (by omega) | exact numC_len18 (by omega) | exact numC_zero (by omega) (by omega) xe0 (by omega) (by omega) | exact numC_dig (by omega) (by omega) xe0 (by omega) | (exfalso; omega) | (rw [numC_yes (i := i) (by omega) (numC_ok (by omega) (by omega) (by omega) z0 (by omega) (by omega) p0_2), o0]; simp)
        exact ⟨by first | (rw [hF] <;> rfl) | rfl | (rw [hF]; simp only [Ending.returned.injEq, Value.slice.injEq, true_and, and_true]; first | omega | (simp; done)) | (rw [hF]; simp; omega), HH1.below⟩
      · refine pl_x HE645 HH1 (wtT HE645 rfl rfl rfl (decide_eq_false hc56)) (x_move rfl) rfl rfl fun a_670 HE671 => ?_
        refine pl_x HE671 HH1 (wtT HE671 rfl rfl rfl (decide_eq_false hc56)) (x_move rfl) rfl rfl fun a_672 HE673 => ?_
        have ke57 : 0 < List.length a0 := by first | omega | (simp only [List.length_cons, List.length_nil]; omega)
        obtain ⟨e57, xe57⟩ : ∃ x_, x_ = a0[0] := ⟨_, rfl⟩
        have je57 : 0 ≤ (e57.toNat : Int) ∧ (e57.toNat : Int) ≤ 255 := by have := e57.toNat_lt; omega
        refine pl_x HE673 HH1 (wtT HE673 rfl rfl rfl (decide_eq_false hc56)) (x_idxB Tryz.underlying9 rfl rfl rfl ke57 xe57) rfl rfl fun a_674 HE675 => ?_
        refine pl_x HE675 HH1 (wtT HE675 rfl rfl rfl (decide_eq_false hc56)) (x_eql rfl rfl) rfl rfl fun a_676 HE677 => ?_
        refine pl_x HE677 HH1 (wtT HE677 rfl rfl rfl (decide_eq_false hc56)) (x_move rfl) rfl rfl fun a_678 HE679 => ?_
        by_cases hc58 : (e57.toNat : Int) = 48
        · have z0 := xe57
          refine pl_x HE679 HH1 (wtT HE679 rfl rfl rfl (beq_t hc58)) (x_move rfl) rfl rfl fun a_680 HE681 => ?_
          refine pl_x HE681 HH1 (wtT HE681 rfl rfl rfl (beq_t hc58)) (x_lenB Tryz.underlying9 rfl) rfl rfl fun a_682 HE683 => ?_
          refine pl_x HE683 HH1 (wtT HE683 rfl rfl rfl (beq_t hc58)) (x_gtr rfl rfl) rfl rfl fun a_684 HE685 => ?_
          refine pl_x HE685 HH1 (wtT HE685 rfl rfl rfl (decide_eq_false hc56)) (x_pickT rfl (beq_t hc58) rfl) rfl rfl fun a_686 HE687 => ?_
          refine pl_x HE687 HH1 (wt0 rfl) (x_pickF rfl (decide_eq_false hc56) rfl) rfl rfl fun a_688 HE689 => ?_
          refine wpList_nil ?_
          clear a_582 HE583 a_584 HE585 a_586 HE587 a_588 HE589 a_590 HE591 a_592 HE593 a_632 HE633 a_634 HE635 a_636 HE637 a_638 HE639 a_640 HE641 a_642 HE643 a_644 HE645 a_670 HE671 a_672 HE673 a_674 HE675 a_676 HE677 a_678 HE679 a_680 HE681 a_682 HE683 a_684 HE685 a_686 HE687
          refine nrm ?_
          refine cnd_d HE689 rfl (fun hc59 => ?_) (fun hc59 => ?_)
          · refine wp_seq ?_
            refine rg ?_
            refine pl_x HE689 HH1 (wt0 rfl) (x_assign rfl) rfl rfl fun a_690 HE691 => ?_
            refine pl_x HE691 HH1 (wt0 rfl) (x_assign rfl) rfl rfl fun a_692 HE693 => ?_
            refine wpList_nil ?_
            clear a_688 HE689 a_690 HE691
            refine nrm ?_
            refine wp_ret ?_
            refine (thn_ret ?_)
            refine ret2 HE693 rfl (rv_tmp rfl) (rv_tmp rfl) ?_
            have hF : (numC a0) = (0, false) := by
              first | exact numC_len0 (by omega) | exact numC_len18 (by omega) | exact numC_zero (by omega) (by omega) xe57 (by omega) (by omega) | exact numC_dig (by omega) (by omega) xe57 (by omega) | (exfalso; omega) | (rw [numC_yes (i := i) (by omega) (numC_ok (by omega) (by omega) (by omega) z0 (by omega) (by omega) p0_2), o0]; simp)
            exact ⟨by first | (rw [hF] <;> rfl) | rfl | (rw [hF]; simp only [Ending.returned.injEq, Value.slice.injEq, true_and, and_true]; first | omega | (simp; done)) | (rw [hF]; simp; omega), HH1.below⟩
          · refine wp_skip ?_
            refine nrm ?_
            refine wp_seq ?_
            refine rg ?_
            refine pl_x HE689 HH1 (wt0 rfl) (x_assign rfl) rfl rfl fun a_694 HE695 => ?_
            refine wpList_nil ?_
            clear a_688 HE689
            refine nrm ?_
            refine wp_seq ?_
            refine wp_seq ?_
            refine rg ?_
            refine pl_x HE695 HH1 (wt0 rfl) (x_move rfl) rfl rfl fun a_696 HE697 => ?_
            refine pl_x HE697 HH1 (wt0 rfl) (x_assign rfl) rfl rfl fun a_698 HE699 => ?_
            refine wpList_nil ?_
            clear a_694 HE695 a_696 HE697
            refine nrm ?_
            refine wp_block ?_
            refine lp (fun m a w' => ∃ (i : Nat), m = a0.length - i ∧ Env 62 [(5, .int .i64 (valD 0 (dgs a0 i) : Int)), (6, .int .i64 (i : Int)), (0, .string (bs a0)), (4, .int .i64 (0))] a ∧ Held Nob w [] w' ∧ (ofP a0 ≤ i) ∧ (i ≤ a0.length) ∧ ((dgs a0 i).all isDg = true)) (a0.length - (ofP a0)) ?_ ?_
            · exact ⟨ofP a0, rfl, HE699.sub ⟨(lkI rfl (by rw [dgs_zero, valD_nil]; rfl)), (lkI rfl (by omega)), rfl, rfl, trivial⟩, (HH1.sel [] (by decide) rfl), (by first | omega | assumption | (simp; done) | simp_all), (by first | omega | assumption | (simp; done) | simp_all), (by rw [dgs_zero]; rfl)⟩
            · rintro m a_700 w' ⟨i, rfl, HE701, HH702, p60_0, p60_1, p60_2⟩
              refine wp_seq ?_
              refine wp_seq ?_
              refine rg ?_
              refine pl_x HE701 HH702 (wt0 rfl) (x_move rfl) rfl rfl fun a_703 HE704 => ?_
              refine pl_x HE704 HH702 (wt0 rfl) (x_move rfl) rfl rfl fun a_705 HE706 => ?_
              refine pl_x HE706 HH702 (wt0 rfl) (x_lenB Tryz.underlying9 rfl) rfl rfl fun a_707 HE708 => ?_
              refine pl_x HE708 HH702 (wt0 rfl) (x_lss rfl rfl) rfl rfl fun a_709 HE710 => ?_
              refine wpList_nil ?_
              clear a_698 HE699 HH1 a_700 HE701 a_703 HE704 a_705 HE706 a_707 HE708
              refine nrm ?_
              refine cnd_d HE710 rfl (fun hc61 => ?_) (fun hc61 => ?_)
              · have nb := dgs_bd p60_2 (by omega) (by omega)
                refine wp_skip ?_
                refine nrm ?_
                refine wp_seq ?_
                refine wp_block ?_
                refine wp_seq ?_
                refine wp_seq ?_
                refine rg ?_
                refine pl_x HE710 HH702 (wt0 rfl) (x_move rfl) rfl rfl fun a_711 HE712 => ?_
                refine pl_x HE712 HH702 (wt0 rfl) (x_move rfl) rfl rfl fun a_713 HE714 => ?_
                have ke62 : i < List.length a0 := by first | omega | (simp only [List.length_cons, List.length_nil]; omega)
                obtain ⟨e62, xe62⟩ : ∃ x_, x_ = a0[i] := ⟨_, rfl⟩
                have je62 : 0 ≤ (e62.toNat : Int) ∧ (e62.toNat : Int) ≤ 255 := by have := e62.toNat_lt; omega
                refine pl_x HE714 HH702 (wt0 rfl) (x_idxB Tryz.underlying9 rfl rfl rfl ke62 xe62) rfl rfl fun a_715 HE716 => ?_
                refine pl fun K_717 hK718 => ?_
                refine st_call HE716 (wt0 rfl) rfl rfl rfl en_35 rfl rfl (spec_l01Digit (e62.toNat : Int) _ ) fun e w' hr => ?_
                obtain ⟨rfl, hbr63⟩ := hr
                have HH719 := HH702.on hbr63
                refine ⟨_, rfl, fun a_720 HE721 => hK718 _ _ ?_⟩
                refine pl_x HE721 HH719 (wt0 rfl) (x_not rfl) rfl rfl fun a_722 HE723 => ?_
                refine wpList_nil ?_
                clear a_709 HE710 a_711 HE712 a_713 HE714 HH702 a_715 HE716 a_720 HE721 hK718 K_717
                refine nrm ?_
                refine cnd_nb HE723 rfl (fun hc64 => ?_) (fun hc64 => ?_)
                · have d0 := hc64
                  unfold digB at d0
                  simp only [Bool.and_eq_false_iff, decide_eq_false_iff_not] at d0
                  refine wp_seq ?_
                  refine rg ?_
                  refine pl_x HE723 HH719 (wt0 rfl) (x_assign rfl) rfl rfl fun a_724 HE725 => ?_
                  refine pl_x HE725 HH719 (wt0 rfl) (x_assign rfl) rfl rfl fun a_726 HE727 => ?_
                  refine wpList_nil ?_
                  clear a_722 HE723 a_724 HE725
                  refine nrm ?_
                  refine wp_ret ?_
                  refine (thn_ret (blk_ret (thn_ret (thn_ret (blk_ret (thn_ret ?_))))))
                  refine ret2 HE727 rfl (rv_tmp rfl) (rv_tmp rfl) ?_
                  have hF : (numC a0) = (0, false) := by
                    first | exact numC_len0 (by omega) | exact numC_len18 (by omega) | exact numC_zero (by omega) (by omega) xe62 (by omega) (by omega) | exact numC_dig (by omega) (by omega) xe62 (by omega) | (exfalso; omega) | (rw [numC_yes (i := i) (by omega) (numC_ok (by omega) (by omega) (by omega) z0 (by omega) (by omega) p60_2), o0]; simp)
                  exact ⟨by first | (rw [hF] <;> rfl) | rfl | (rw [hF]; simp only [Ending.returned.injEq, Value.slice.injEq, true_and, and_true]; first | omega | (simp; done)) | (rw [hF]; simp; omega), HH719.below⟩
                · have d0 := hc64
                  unfold digB at d0
                  simp only [Bool.and_eq_true, decide_eq_true_eq] at d0
                  refine wp_skip ?_
                  refine nrm ?_
                  refine rg ?_
                  refine pl_x HE723 HH719 (wt0 rfl) (x_move rfl) rfl rfl fun a_728 HE729 => ?_
                  refine pl_x HE729 HH719 (wt0 rfl) (x_mul rfl rfl (by exact ⟨by omega, by omega⟩)) rfl rfl fun a_730 HE731 => ?_
                  refine pl_x HE731 HH719 (wt0 rfl) (x_move rfl) rfl rfl fun a_732 HE733 => ?_
                  refine pl_x HE733 HH719 (wt0 rfl) (x_move rfl) rfl rfl fun a_734 HE735 => ?_
                  refine pl_x HE735 HH719 (wt0 rfl) (x_idxB Tryz.underlying9 rfl rfl rfl ke62 xe62) rfl rfl fun a_736 HE737 => ?_
                  refine pl_x HE737 HH719 (wt0 rfl) (x_sub8 rfl rfl (by constructor <;> omega)) rfl rfl fun a_738 HE739 => ?_
                  refine pl_x HE739 HH719 (wt0 rfl) (x_conv Tryz.underlying5 Tryz.underlying2 rfl (by exact ⟨by omega, by omega⟩)) rfl rfl fun a_740 HE741 => ?_
                  refine pl_x HE741 HH719 (wt0 rfl) (x_add rfl rfl (by exact ⟨by omega, by omega⟩)) rfl rfl fun a_742 HE743 => ?_
                  refine pl_x HE743 HH719 (wt0 rfl) (x_assign rfl) rfl rfl fun a_744 HE745 => ?_
                  refine wpList_nil ?_
                  clear a_722 HE723 a_728 HE729 a_730 HE731 a_732 HE733 a_734 HE735 a_736 HE737 a_738 HE739 a_740 HE741 a_742 HE743
                  refine blk_n ?_
                  refine nrm ?_
                  refine rg ?_
                  refine pl_x HE745 HH719 (wt0 rfl) (x_move rfl) rfl rfl fun a_746 HE747 => ?_
                  refine pl_x HE747 HH719 (wt0 rfl) (x_add rfl rfl (by exact ⟨by omega, by omega⟩)) rfl rfl fun a_748 HE749 => ?_
                  refine pl_x HE749 HH719 (wt0 rfl) (x_assign rfl) rfl rfl fun a_750 HE751 => ?_
                  refine wpList_nil ?_
                  clear a_744 HE745 a_746 HE747 a_748 HE749
                  exact nrm ⟨a0.length - (i + 1), (by omega), i + 1, rfl, HE751.sub ⟨(lkI rfl (by rw [dgs_step (by omega) (by omega) xe62, valD_snoc, dgv_def]; omega)), (lkI rfl (by first | rfl | omega | (simp [hc21, hc55, hc56, xe57, hc58, hc59, p60_0, p60_1, p60_2, hc61, xe62, hc64]; done))), rfl, rfl, trivial⟩, (HH719.sel [] (by decide) rfl), (by first | omega | assumption | (simp; done) | simp_all), (by first | omega | assumption | (simp; done) | simp_all), (by exact dgs_all p60_2 (by omega) (by omega) xe62 (by omega))⟩
              · have nb := dgs_bd18 p60_2 (by omega)
                refine wp_exit ?_
                refine (thn_exit (thn_exit (blk_hit ?_)))
                refine nrm ?_
                refine wp_seq ?_
                refine wp_seq ?_
                refine rg ?_
                refine pl_x HE710 HH702 (wt0 rfl) (x_move rfl) rfl rfl fun a_752 HE753 => ?_
                refine pl_x HE753 HH702 (wt0 rfl) (x_eql rfl rfl) rfl rfl fun a_754 HE755 => ?_
                refine wpList_nil ?_
                clear a_709 HE710 a_752 HE753
                refine nrm ?_
                refine cnd_e HE755 rfl (fun hc65 => ?_) (fun hc65 => ?_)
                · refine rg ?_
                  refine pl_x HE755 HH702 (wt0 rfl) (x_move rfl) rfl rfl fun a_756 HE757 => ?_
                  refine pl_x HE757 HH702 (wt0 rfl) (x_neg rfl (by exact ⟨by omega, by omega⟩)) rfl rfl fun a_758 HE759 => ?_
                  refine pl_x HE759 HH702 (wt0 rfl) (x_assign rfl) rfl rfl fun a_760 HE761 => ?_
                  refine wpList_nil ?_
                  clear a_754 HE755 a_756 HE757 a_758 HE759
                  refine nrm ?_
                  refine wp_seq ?_
                  refine rg ?_
                  refine pl_x HE761 HH702 (wt0 rfl) (x_move rfl) rfl rfl fun a_762 HE763 => ?_
                  refine pl_x HE763 HH702 (wt0 rfl) (x_assign rfl) rfl rfl fun a_764 HE765 => ?_
                  refine pl_x HE765 HH702 (wt0 rfl) (x_assign rfl) rfl rfl fun a_766 HE767 => ?_
                  refine wpList_nil ?_
                  clear a_760 HE761 a_762 HE763 a_764 HE765
                  refine nrm ?_
                  refine wp_ret ?_
                  refine ret2 HE767 rfl (rv_tmp rfl) (rv_tmp rfl) ?_
                  have hF : (numC a0) = (-(valD 0 (dgs a0 i) : Int), true) := by
                    first | exact numC_len0 (by omega) | exact numC_len18 (by omega) | exact numC_zero (by omega) (by omega) xe57 (by omega) (by omega) | exact numC_dig (by omega) (by omega) xe57 (by omega) | (exfalso; omega) | (rw [numC_yes (i := i) (by omega) (numC_ok (by omega) (by omega) (by omega) z0 (by omega) (by omega) p60_2), o0]; simp)
                  exact ⟨by first | (rw [hF] <;> rfl) | rfl | (rw [hF]; simp only [Ending.returned.injEq, Value.slice.injEq, true_and, and_true]; first | omega | (simp; done)) | (rw [hF]; simp; omega), HH702.below⟩
                · refine wp_skip ?_
                  refine nrm ?_
                  refine wp_seq ?_
                  refine rg ?_
                  refine pl_x HE755 HH702 (wt0 rfl) (x_move rfl) rfl rfl fun a_768 HE769 => ?_
                  refine pl_x HE769 HH702 (wt0 rfl) (x_assign rfl) rfl rfl fun a_770 HE771 => ?_
                  refine pl_x HE771 HH702 (wt0 rfl) (x_assign rfl) rfl rfl fun a_772 HE773 => ?_
                  refine wpList_nil ?_
                  clear a_754 HE755 a_768 HE769 a_770 HE771
                  refine nrm ?_
                  refine wp_ret ?_
                  refine ret2 HE773 rfl (rv_tmp rfl) (rv_tmp rfl) ?_
                  have hF : (numC a0) = ((valD 0 (dgs a0 i) : Int), true) := by
                    first | exact numC_len0 (by omega) | exact numC_len18 (by omega) | exact numC_zero (by omega) (by omega) xe57 (by omega) (by omega) | exact numC_dig (by omega) (by omega) xe57 (by omega) | (exfalso; omega) | (rw [numC_yes (i := i) (by omega) (numC_ok (by omega) (by omega) (by omega) z0 (by omega) (by omega) p60_2), o0]; simp)
                  exact ⟨by first | (rw [hF] <;> rfl) | rfl | (rw [hF]; simp only [Ending.returned.injEq, Value.slice.injEq, true_and, and_true]; first | omega | (simp; done)) | (rw [hF]; simp; omega), HH702.below⟩
        · have z0 := xe57
          refine pl_no HE679 (wtF HE679 rfl rfl rfl (beq_f hc58)) rfl rfl fun a_774 HE775 => ?_
          refine pl_no HE775 (wtF HE775 rfl rfl rfl (beq_f hc58)) rfl rfl fun a_776 HE777 => ?_
          refine pl_no HE777 (wtF HE777 rfl rfl rfl (beq_f hc58)) rfl rfl fun a_778 HE779 => ?_
          refine pl_x HE779 HH1 (wtT HE779 rfl rfl rfl (decide_eq_false hc56)) (x_pickF rfl (beq_f hc58) rfl) rfl rfl fun a_780 HE781 => ?_
          refine pl_x HE781 HH1 (wt0 rfl) (x_pickF rfl (decide_eq_false hc56) rfl) rfl rfl fun a_782 HE783 => ?_
          refine wpList_nil ?_
          clear a_582 HE583 a_584 HE585 a_586 HE587 a_588 HE589 a_590 HE591 a_592 HE593 a_632 HE633 a_634 HE635 a_636 HE637 a_638 HE639 a_640 HE641 a_642 HE643 a_644 HE645 a_670 HE671 a_672 HE673 a_674 HE675 a_676 HE677 a_678 HE679 a_774 HE775 a_776 HE777 a_778 HE779 a_780 HE781
          refine nrm ?_
          refine cndF HE783 rfl rfl ?_
          refine wp_skip ?_
          refine nrm ?_
          refine wp_seq ?_
          refine rg ?_
          refine pl_x HE783 HH1 (wt0 rfl) (x_assign rfl) rfl rfl fun a_784 HE785 => ?_
          refine wpList_nil ?_
          clear a_782 HE783
          refine nrm ?_
          refine wp_seq ?_
          refine wp_seq ?_
          refine rg ?_
          refine pl_x HE785 HH1 (wt0 rfl) (x_move rfl) rfl rfl fun a_786 HE787 => ?_
          refine pl_x HE787 HH1 (wt0 rfl) (x_assign rfl) rfl rfl fun a_788 HE789 => ?_
          refine wpList_nil ?_
          clear a_784 HE785 a_786 HE787
          refine nrm ?_
          refine wp_block ?_
          refine lp (fun m a w' => ∃ (i : Nat), m = a0.length - i ∧ Env 62 [(5, .int .i64 (valD 0 (dgs a0 i) : Int)), (6, .int .i64 (i : Int)), (0, .string (bs a0)), (4, .int .i64 (0))] a ∧ Held Nob w [] w' ∧ (ofP a0 ≤ i) ∧ (i ≤ a0.length) ∧ ((dgs a0 i).all isDg = true)) (a0.length - (ofP a0)) ?_ ?_
          · exact ⟨ofP a0, rfl, HE789.sub ⟨(lkI rfl (by rw [dgs_zero, valD_nil]; rfl)), (lkI rfl (by omega)), rfl, rfl, trivial⟩, (HH1.sel [] (by decide) rfl), (by first | omega | assumption | (simp; done) | simp_all), (by first | omega | assumption | (simp; done) | simp_all), (by rw [dgs_zero]; rfl)⟩
          · rintro m a_790 w' ⟨i, rfl, HE791, HH792, p66_0, p66_1, p66_2⟩
            refine wp_seq ?_
            refine wp_seq ?_
            refine rg ?_
            refine pl_x HE791 HH792 (wt0 rfl) (x_move rfl) rfl rfl fun a_793 HE794 => ?_
            refine pl_x HE794 HH792 (wt0 rfl) (x_move rfl) rfl rfl fun a_795 HE796 => ?_
            refine pl_x HE796 HH792 (wt0 rfl) (x_lenB Tryz.underlying9 rfl) rfl rfl fun a_797 HE798 => ?_
            refine pl_x HE798 HH792 (wt0 rfl) (x_lss rfl rfl) rfl rfl fun a_799 HE800 => ?_
            refine wpList_nil ?_
            clear a_788 HE789 HH1 a_790 HE791 a_793 HE794 a_795 HE796 a_797 HE798
            refine nrm ?_
            refine cnd_d HE800 rfl (fun hc67 => ?_) (fun hc67 => ?_)
            · have nb := dgs_bd p66_2 (by omega) (by omega)
              refine wp_skip ?_
              refine nrm ?_
              refine wp_seq ?_
              refine wp_block ?_
              refine wp_seq ?_
              refine wp_seq ?_
              refine rg ?_
              refine pl_x HE800 HH792 (wt0 rfl) (x_move rfl) rfl rfl fun a_801 HE802 => ?_
              refine pl_x HE802 HH792 (wt0 rfl) (x_move rfl) rfl rfl fun a_803 HE804 => ?_
              have ke68 : i < List.length a0 := by first | omega | (simp only [List.length_cons, List.length_nil]; omega)
              obtain ⟨e68, xe68⟩ : ∃ x_, x_ = a0[i] := ⟨_, rfl⟩
              have je68 : 0 ≤ (e68.toNat : Int) ∧ (e68.toNat : Int) ≤ 255 := by have := e68.toNat_lt; omega
              refine pl_x HE804 HH792 (wt0 rfl) (x_idxB Tryz.underlying9 rfl rfl rfl ke68 xe68) rfl rfl fun a_805 HE806 => ?_
              refine pl fun K_807 hK808 => ?_
              refine st_call HE806 (wt0 rfl) rfl rfl rfl en_35 rfl rfl (spec_l01Digit (e68.toNat : Int) _ ) fun e w' hr => ?_
              obtain ⟨rfl, hbr69⟩ := hr
              have HH809 := HH792.on hbr69
              refine ⟨_, rfl, fun a_810 HE811 => hK808 _ _ ?_⟩
              refine pl_x HE811 HH809 (wt0 rfl) (x_not rfl) rfl rfl fun a_812 HE813 => ?_
              refine wpList_nil ?_
              clear a_799 HE800 a_801 HE802 a_803 HE804 HH792 a_805 HE806 a_810 HE811 hK808 K_807
              refine nrm ?_
              refine cnd_nb HE813 rfl (fun hc70 => ?_) (fun hc70 => ?_)
              · have d0 := hc70
                unfold digB at d0
                simp only [Bool.and_eq_false_iff, decide_eq_false_iff_not] at d0
                refine wp_seq ?_
                refine rg ?_
                refine pl_x HE813 HH809 (wt0 rfl) (x_assign rfl) rfl rfl fun a_814 HE815 => ?_
                refine pl_x HE815 HH809 (wt0 rfl) (x_assign rfl) rfl rfl fun a_816 HE817 => ?_
                refine wpList_nil ?_
                clear a_812 HE813 a_814 HE815
                refine nrm ?_
                refine wp_ret ?_
                refine (thn_ret (blk_ret (thn_ret (thn_ret (blk_ret (thn_ret ?_))))))
                refine ret2 HE817 rfl (rv_tmp rfl) (rv_tmp rfl) ?_
                have hF : (numC a0) = (0, false) := by
                  first | exact numC_len0 (by omega) | exact numC_len18 (by omega) | exact numC_zero (by omega) (by omega) xe68 (by omega) (by omega) | exact numC_dig (by omega) (by omega) xe68 (by omega) | (exfalso; omega) | (rw [numC_yes (i := i) (by omega) (numC_ok (by omega) (by omega) (by omega) z0 (by omega) (by omega) p66_2), o0]; simp)
                exact ⟨by first | (rw [hF] <;> rfl) | rfl | (rw [hF]; simp only [Ending.returned.injEq, Value.slice.injEq, true_and, and_true]; first | omega | (simp; done)) | (rw [hF]; simp; omega), HH809.below⟩
              · have d0 := hc70
                unfold digB at d0
                simp only [Bool.and_eq_true, decide_eq_true_eq] at d0
                refine wp_skip ?_
                refine nrm ?_
                refine rg ?_
                refine pl_x HE813 HH809 (wt0 rfl) (x_move rfl) rfl rfl fun a_818 HE819 => ?_
                refine pl_x HE819 HH809 (wt0 rfl) (x_mul rfl rfl (by exact ⟨by omega, by omega⟩)) rfl rfl fun a_820 HE821 => ?_
                refine pl_x HE821 HH809 (wt0 rfl) (x_move rfl) rfl rfl fun a_822 HE823 => ?_
                refine pl_x HE823 HH809 (wt0 rfl) (x_move rfl) rfl rfl fun a_824 HE825 => ?_
                refine pl_x HE825 HH809 (wt0 rfl) (x_idxB Tryz.underlying9 rfl rfl rfl ke68 xe68) rfl rfl fun a_826 HE827 => ?_
                refine pl_x HE827 HH809 (wt0 rfl) (x_sub8 rfl rfl (by constructor <;> omega)) rfl rfl fun a_828 HE829 => ?_
                refine pl_x HE829 HH809 (wt0 rfl) (x_conv Tryz.underlying5 Tryz.underlying2 rfl (by exact ⟨by omega, by omega⟩)) rfl rfl fun a_830 HE831 => ?_
                refine pl_x HE831 HH809 (wt0 rfl) (x_add rfl rfl (by exact ⟨by omega, by omega⟩)) rfl rfl fun a_832 HE833 => ?_
                refine pl_x HE833 HH809 (wt0 rfl) (x_assign rfl) rfl rfl fun a_834 HE835 => ?_
                refine wpList_nil ?_
                clear a_812 HE813 a_818 HE819 a_820 HE821 a_822 HE823 a_824 HE825 a_826 HE827 a_828 HE829 a_830 HE831 a_832 HE833
                refine blk_n ?_
                refine nrm ?_
                refine rg ?_
                refine pl_x HE835 HH809 (wt0 rfl) (x_move rfl) rfl rfl fun a_836 HE837 => ?_
                refine pl_x HE837 HH809 (wt0 rfl) (x_add rfl rfl (by exact ⟨by omega, by omega⟩)) rfl rfl fun a_838 HE839 => ?_
                refine pl_x HE839 HH809 (wt0 rfl) (x_assign rfl) rfl rfl fun a_840 HE841 => ?_
                refine wpList_nil ?_
                clear a_834 HE835 a_836 HE837 a_838 HE839
                exact nrm ⟨a0.length - (i + 1), (by omega), i + 1, rfl, HE841.sub ⟨(lkI rfl (by rw [dgs_step (by omega) (by omega) xe68, valD_snoc, dgv_def]; omega)), (lkI rfl (by first | rfl | omega | (simp [hc21, hc55, hc56, xe57, hc58, p66_0, p66_1, p66_2, hc67, xe68, hc70]; done))), rfl, rfl, trivial⟩, (HH809.sel [] (by decide) rfl), (by first | omega | assumption | (simp; done) | simp_all), (by first | omega | assumption | (simp; done) | simp_all), (by exact dgs_all p66_2 (by omega) (by omega) xe68 (by omega))⟩
            · have nb := dgs_bd18 p66_2 (by omega)
              refine wp_exit ?_
              refine (thn_exit (thn_exit (blk_hit ?_)))
              refine nrm ?_
              refine wp_seq ?_
              refine wp_seq ?_
              refine rg ?_
              refine pl_x HE800 HH792 (wt0 rfl) (x_move rfl) rfl rfl fun a_842 HE843 => ?_
              refine pl_x HE843 HH792 (wt0 rfl) (x_eql rfl rfl) rfl rfl fun a_844 HE845 => ?_
              refine wpList_nil ?_
              clear a_799 HE800 a_842 HE843
              refine nrm ?_
              refine cnd_e HE845 rfl (fun hc71 => ?_) (fun hc71 => ?_)
              · refine rg ?_
                refine pl_x HE845 HH792 (wt0 rfl) (x_move rfl) rfl rfl fun a_846 HE847 => ?_
                refine pl_x HE847 HH792 (wt0 rfl) (x_neg rfl (by exact ⟨by omega, by omega⟩)) rfl rfl fun a_848 HE849 => ?_
                refine pl_x HE849 HH792 (wt0 rfl) (x_assign rfl) rfl rfl fun a_850 HE851 => ?_
                refine wpList_nil ?_
                clear a_844 HE845 a_846 HE847 a_848 HE849
                refine nrm ?_
                refine wp_seq ?_
                refine rg ?_
                refine pl_x HE851 HH792 (wt0 rfl) (x_move rfl) rfl rfl fun a_852 HE853 => ?_
                refine pl_x HE853 HH792 (wt0 rfl) (x_assign rfl) rfl rfl fun a_854 HE855 => ?_
                refine pl_x HE855 HH792 (wt0 rfl) (x_assign rfl) rfl rfl fun a_856 HE857 => ?_
                refine wpList_nil ?_
                clear a_850 HE851 a_852 HE853 a_854 HE855
                refine nrm ?_
                refine wp_ret ?_
                refine ret2 HE857 rfl (rv_tmp rfl) (rv_tmp rfl) ?_
                have hF : (numC a0) = (-(valD 0 (dgs a0 i) : Int), true) := by
                  first | exact numC_len0 (by omega) | exact numC_len18 (by omega) | exact numC_zero (by omega) (by omega) xe57 (by omega) (by omega) | exact numC_dig (by omega) (by omega) xe57 (by omega) | (exfalso; omega) | (rw [numC_yes (i := i) (by omega) (numC_ok (by omega) (by omega) (by omega) z0 (by omega) (by omega) p66_2), o0]; simp)
                exact ⟨by first | (rw [hF] <;> rfl) | rfl | (rw [hF]; simp only [Ending.returned.injEq, Value.slice.injEq, true_and, and_true]; first | omega | (simp; done)) | (rw [hF]; simp; omega), HH792.below⟩
              · refine wp_skip ?_
                refine nrm ?_
                refine wp_seq ?_
                refine rg ?_
                refine pl_x HE845 HH792 (wt0 rfl) (x_move rfl) rfl rfl fun a_858 HE859 => ?_
                refine pl_x HE859 HH792 (wt0 rfl) (x_assign rfl) rfl rfl fun a_860 HE861 => ?_
                refine pl_x HE861 HH792 (wt0 rfl) (x_assign rfl) rfl rfl fun a_862 HE863 => ?_
                refine wpList_nil ?_
                clear a_844 HE845 a_858 HE859 a_860 HE861
                refine nrm ?_
                refine wp_ret ?_
                refine ret2 HE863 rfl (rv_tmp rfl) (rv_tmp rfl) ?_
                have hF : (numC a0) = ((valD 0 (dgs a0 i) : Int), true) := by
                  first | exact numC_len0 (by omega) | exact numC_len18 (by omega) | exact numC_zero (by omega) (by omega) xe57 (by omega) (by omega) | exact numC_dig (by omega) (by omega) xe57 (by omega) | (exfalso; omega) | (rw [numC_yes (i := i) (by omega) (numC_ok (by omega) (by omega) (by omega) z0 (by omega) (by omega) p66_2), o0]; simp)
                exact ⟨by first | (rw [hF] <;> rfl) | rfl | (rw [hF]; simp only [Ending.returned.injEq, Value.slice.injEq, true_and, and_true]; first | omega | (simp; done)) | (rw [hF]; simp; omega), HH792.below⟩

open Go.Lib in
def hasMinus (s : List UInt8) : Bool := decide (s.head? = some 45)

open Go.Lib in
def cutM (s : List UInt8) : List UInt8 × Bool := (unsg s, hasMinus s)

open Go.Lib in
def mk2 : List Int → List tFraction
  | a :: b :: r => (a, b) :: mk2 r
  | _ => []

open Go.Lib in
def knownL (k : Int) : List tFraction := if k = 0 then mk2 [3, 2] else if k = 1 then mk2 [455, 33, 11, 13, 1, 11, 3, 7, 11, 2, 1, 3] else mk2 [17, 91, 78, 85, 19, 51, 23, 38, 29, 33, 77, 29, 95, 23, 77, 19, 1, 17, 11, 13, 13, 11, 15, 14, 15, 2, 55, 1]

open Go.Lib in
def known (k : Int) : List tFraction × Int := if withinB k 0 2 = true then (knownL k, 0) else ([], 2)

open Go.Lib in
set_option maxRecDepth 100000 in
set_option maxHeartbeats 4000000 in
theorem impl_size_Txt (A0 : Option Addr) (c0 : Nat) (a0 : (List (List UInt8))) (w : World) (h0 : Sl eTxt w (Old w) A0 c0 a0) :
    Calls Tryz.prog 11 #[.slice A0 a0.length c0] w fun e w' => e = .returned (.int .i64 (List.length a0 : Int)) ∧ Below w.heap.size w w' := by
  have l0 := h0.len
  have HH1 := Held.start Nob w
  refine enter (n := 5) Tryz.func11 rfl rfl rfl fun a_2 HE3 => ?_
  refine wp_seq ?_
  refine rg ?_
  refine pl_x HE3 HH1 (wt0 rfl) (x_assign rfl) rfl rfl fun a_4 HE5 => ?_
  refine wpList_nil ?_
  clear a_2 HE3
  refine nrm ?_
  refine wp_seq ?_
  refine rg ?_
  refine pl_x HE5 HH1 (wt0 rfl) (x_move rfl) rfl rfl fun a_6 HE7 => ?_
  refine pl_x HE7 HH1 (wt0 rfl) (x_len Tryz.underlying30 rfl) rfl rfl fun a_8 HE9 => ?_
  refine pl_x HE9 HH1 (wt0 rfl) (x_assign rfl) rfl rfl fun a_10 HE11 => ?_
  refine wpList_nil ?_
  clear a_4 HE5 a_6 HE7 a_8 HE9
  refine nrm ?_
  refine wp_ret ?_
  refine ret1 HE11 rfl (rv_tmp rfl) ?_
  have hF : (List.length a0 : Int) = (a0.length : Int) := by
    rfl
  exact ⟨by first | (rw [hF] <;> rfl) | rfl | (rw [hF]; simp only [Ending.returned.injEq, Value.slice.injEq, true_and, and_true]; first | omega | (simp; done)) | (rw [hF]; simp; omega), HH1.below⟩

open Go.Lib in
def dgI (c : UInt8) : Int := (c.toNat : Int) - 48

open Go.Lib in
theorem dg_of {x : Int} (h : 0 ≤ x ∧ x ≤ 9) : isDg (UInt8.ofNat (48 + x).toNat) = true ∧ dgI (UInt8.ofNat (48 + x).toNat) = x := by
  have e : (UInt8.ofNat (48 + x).toNat).toNat = (48 + x).toNat := by rw [UInt8.toNat_ofNat']; omega
  exact ⟨isDg_iff.2 (by omega), by unfold dgI; omega⟩

open Go.Lib in
theorem join_no {c d : UInt8} (hcd : ¬ c = d) {l : List (List UInt8)} (h : ∀ p ∈ l, c ∉ p) : c ∉ join l [d] := by
  cases l with
  | nil => simp [Go.Lib.join_nil]
  | cons x r =>
    rw [join_cons]
    intro hm
    rcases List.mem_append.1 hm with hm | hm
    · exact h x (by simp) hm
    · unfold joinTail at hm
      obtain ⟨y, hy, hz⟩ := List.mem_flatten.1 hm
      obtain ⟨u, hu, rfl⟩ := List.mem_map.1 hy
      rcases List.mem_append.1 hz with hz | hz
      · exact hcd (List.mem_singleton.1 hz)
      · exact h u (List.mem_cons_of_mem _ hu) hz

open Go.Lib in
def rlT (r : tRule) : List UInt8 := if isRl r = true then Go.Lib.itoa r.1 ++ (if r.2.1 < 0 then [76] else [82]) ++ Go.Lib.itoa r.2.2 else [45, 45, 45]

open Go.Lib in
def rowT (rs : List tRule) : List UInt8 := join (rs.map rlT) [44]

open Go.Lib in
/-- The first k rows of n. -/
def rowsK {α : Type} (n : Nat) : Nat → List α → List (List α)
  | 0, _ => []
  | k + 1, l => l.take n :: rowsK n k (l.drop n)

open Go.Lib in
theorem rowsK_len {α : Type} (n : Nat) : ∀ (k : Nat) (l : List α), (rowsK n k l).length = k
  | 0, _ => rfl
  | k + 1, l => by rw [rowsK, List.length_cons, rowsK_len n k]

open Go.Lib in
theorem rowsK_flat {α : Type} (n : Nat) : ∀ (k : Nat) (l : List α), l.length = k * n → (rowsK n k l).flatten = l
  | 0, l, h => by
    have : l = [] := List.eq_nil_of_length_eq_zero (by omega)
    rw [this]; rfl
  | k + 1, l, h => by
    rw [Nat.succ_mul] at h
    rw [rowsK, List.flatten_cons, rowsK_flat n k _ (by rw [List.length_drop]; omega), List.take_append_drop]

open Go.Lib in
theorem rowsK_of {α : Type} (n : Nat) : ∀ rows : List (List α), (∀ r ∈ rows, r.length = n) → rowsK n rows.length rows.flatten = rows
  | [], _ => rfl
  | r :: rows, h => by
    have h1 := h r (by simp)
    rw [List.length_cons, rowsK, List.flatten_cons, List.take_left' h1, List.drop_left' h1, rowsK_of n rows fun q hq => h q (List.mem_cons_of_mem _ hq)]

open Go.Lib in
theorem rowsK_all {α : Type} (n : Nat) : ∀ (k : Nat) (l : List α), l.length = k * n → ∀ r ∈ rowsK n k l, r.length = n ∧ ∀ x ∈ r, x ∈ l
  | 0, _, _, r, hr => by cases hr
  | k + 1, l, h, r, hr => by
    rw [Nat.succ_mul] at h
    rw [rowsK] at hr
    rcases List.mem_cons.1 hr with rfl | hr
    · exact ⟨by rw [List.length_take]; omega, fun x hx => List.mem_of_mem_take hx⟩
    · obtain ⟨h1, h2⟩ := rowsK_all n k (l.drop n) (by rw [List.length_drop]; omega) r hr
      exact ⟨h1, fun x hx => List.mem_of_mem_drop (h2 x hx)⟩

open Go.Lib in
def machT (m : tMachine) : List UInt8 := join ((rowsK m.1.toNat m.2.1.toNat m.2.2).map rowT) [59]

open Go.Lib in
def machText (m : tMachine) : List UInt8 := if validMach m = true then machT m else []

open Go.Lib in
def readRl (s : List UInt8) : tRule := if indexAny s [76, 82] < 0 then noRl else ((numR (s.take (indexAny s [76, 82]).toNat)).1, (if s[(indexAny s [76, 82]).toNat]?.getD 0 = 76 then -1 else 1), (numR (s.drop ((indexAny s [76, 82]).toNat + 1))).1)

open Go.Lib in
def maI (s : List UInt8) : tMachine := (((splitR 44 ((splitR 59 s).getLast?.getD [])).length : Int), ((splitR 59 s).length : Int), ((splitR 59 s).map fun r => (splitR 44 r).map readRl).flatten)

open Go.Lib in
def rdMaI (s : List UInt8) : tMachine × Bool := if validMach (maI s) = true ∧ machText (maI s) = s then (maI s, true) else ((0, 0, []), false)

open Go.Lib in
def rlS (s : List UInt8) : tRule × Bool :=
  if s = [45, 45, 45] then (noRl, true)
  else if 3 ≤ s.length ∧ isDg (s[0]?.getD 0) = true ∧ (s[1]?.getD 0 = 76 ∨ s[1]?.getD 0 = 82) then (((dgI (s[0]?.getD 0)), (if s[1]?.getD 0 = 76 then -1 else 1), (numC (s.drop 2)).1), (numC (s.drop 2)).2 && decide (0 ≤ (numC (s.drop 2)).1))
  else ((0, 0, 0), false)

open Go.Lib in
def rlV (s : List UInt8) : tRule := (rlS s).1

open Go.Lib in
def rlK (s : List UInt8) : Bool := (rlS s).2

open Go.Lib in
def rwK (n : Nat) (row : List UInt8) : Bool := decide ((splitR 44 row).length = n) && (decide (n ≤ 6) && (splitR 44 row).all rlK)

open Go.Lib in
def rwV (row : List UInt8) : List tRule := (splitR 44 row).map rlV

open Go.Lib in
def maS (s : List UInt8) : tMachine := (((splitR 44 ((splitR 59 s)[0]?.getD [])).length : Int), ((splitR 59 s).length : Int), ((splitR 59 s).map rwV).flatten)

open Go.Lib in
def rdMaS (s : List UInt8) : tMachine × Bool :=
  if (splitR 59 s).length ≤ 1000 ∧ (splitR 59 s).all (rwK (splitR 44 ((splitR 59 s)[0]?.getD [])).length) = true ∧ validMach (maS s) = true then (maS s, true) else ((0, 0, []), false)

open Go.Lib in
def okRl (r : tRule) : Prop := isRl r = true → (0 ≤ r.1 ∧ r.1 ≤ 5) ∧ (r.2.1 = -1 ∨ r.2.1 = 1) ∧ 0 ≤ r.2.2 ∧ r.2.2 ≤ 999

open Go.Lib in
theorem validMach_okRl {m : tMachine} (h : validMach m = true) : ∀ r ∈ m.2.2, okRl r := by
  intro r hr h1
  obtain ⟨v1, v2, _, _⟩ := validMach_facts h
  unfold validMach at h
  simp only [Bool.and_eq_true, Bool.not_eq_true', List.any_eq_false] at h
  have h2 := h.2 r hr
  have h3 : ruleB m.1 m.2.1 r = true := by
    cases hq : ruleB m.1 m.2.1 r with
    | true => rfl
    | false => rw [hq] at h2; exact absurd rfl h2
  unfold ruleB at h3
  rw [if_pos h1] at h3
  simp only [Bool.and_eq_true, Bool.or_eq_true, beq_iff_eq] at h3
  have e1 := withinB_true.1 h3.1.1
  have e2 := withinB_true.1 h3.2
  exact ⟨by omega, h3.1.2, by omega⟩

open Go.Lib in
theorem isRl_no {r : tRule} (h : ¬ isRl r = true) : r = noRl := by
  unfold isRl at h
  simp only [Bool.not_eq_true', Bool.not_eq_false] at h
  rw [Bool.and_eq_true, Bool.and_eq_true, beq_iff_eq, beq_iff_eq, beq_iff_eq] at h
  exact Prod.ext h.1 (Prod.ext h.2.1 h.2.2)

open Go.Lib in
theorem indexAny_app {a b : List UInt8} {c : UInt8} (h1 : (76 : UInt8) ∉ a) (h2 : (82 : UInt8) ∉ a) (hc : ([76, 82] : List UInt8).contains c = true) : indexAny (a ++ c :: b) [76, 82] = (a.length : Int) := by
  refine indexAny_hit (i := a.length) (x := c) (fun j x hj hx => ?_) (by simp) hc
  rw [List.getElem?_append_left hj] at hx
  have hm := List.mem_of_getElem? hx
  cases hq : ([76, 82] : List UInt8).contains x with
  | false => rfl
  | true =>
    rw [List.contains_iff_mem] at hq
    simp only [List.mem_cons, List.not_mem_nil, or_false] at hq
    rcases hq with rfl | rfl
    · exact absurd hm h1
    · exact absurd hm h2

open Go.Lib in
theorem readRl_T {r : tRule} (h : okRl r) : readRl (rlT r) = r := by
  unfold rlT
  split
  · rename_i h1
    obtain ⟨h2, h3, h4⟩ := h h1
    obtain ⟨a, b, c⟩ := r
    simp only at h2 h3 h4
    obtain ⟨ch, e, hc, hv⟩ : ∃ ch : UInt8, (if b < 0 then ([76] : List UInt8) else [82]) = [ch] ∧ ([76, 82] : List UInt8).contains ch = true ∧ (if ch = 76 then (-1 : Int) else 1) = b := by
      rcases h3 with rfl | rfl
      · exact ⟨76, rfl, rfl, rfl⟩
      · exact ⟨82, rfl, rfl, rfl⟩
    simp only
    rw [e]
    have ei := indexAny_app (a := Go.Lib.itoa a) (b := Go.Lib.itoa c) (itoa_no (by decide) (by decide) _) (itoa_no (by decide) (by decide) _) hc
    have e2 : Go.Lib.itoa a ++ [ch] ++ Go.Lib.itoa c = Go.Lib.itoa a ++ ch :: Go.Lib.itoa c := by simp
    rw [e2]
    unfold readRl
    rw [ei, if_neg (by omega), Int.toNat_natCast, List.take_left, List.getElem?_append_right (Nat.le_refl _), Nat.sub_self, List.getElem?_cons_zero, Option.getD_some, hv]
    rw [show Go.Lib.itoa a ++ ch :: Go.Lib.itoa c = (Go.Lib.itoa a ++ [ch]) ++ Go.Lib.itoa c from by simp, List.drop_left' (by simp), numR_itoa (by omega), numR_itoa (by omega)]
  · rename_i h1
    rw [isRl_no h1]; rfl

open Go.Lib in
theorem rlT_no {r : tRule} {c : UInt8} (h45 : ¬ c = 45) (hd : isDg c = false) (h1 : ¬ c = 76) (h2 : ¬ c = 82) : c ∉ rlT r := by
  intro hm
  unfold rlT at hm
  split at hm
  · rcases List.mem_append.1 hm with hm | hm
    · rcases List.mem_append.1 hm with hm | hm
      · exact itoa_no h45 hd _ hm
      · split at hm
        · exact h1 (List.mem_singleton.1 hm)
        · exact h2 (List.mem_singleton.1 hm)
    · exact itoa_no h45 hd _ hm
  · simp only [List.mem_cons, List.not_mem_nil, or_false, or_self] at hm
    exact h45 hm

open Go.Lib in
theorem row_split {rs : List tRule} (h : rs ≠ []) : splitR 44 (rowT rs) = rs.map rlT := by
  unfold rowT
  cases rs with
  | nil => exact absurd rfl h
  | cons r rs =>
    rw [List.map_cons]
    refine splitR_join fun p hp => ?_
    rw [← List.map_cons] at hp
    obtain ⟨q, _, rfl⟩ := List.mem_map.1 hp
    exact rlT_no (by decide) (by decide) (by decide) (by decide)

open Go.Lib in
theorem rows_split {l : List (List tRule)} (h : l ≠ []) : splitR 59 (join (l.map rowT) [59]) = l.map rowT := by
  cases l with
  | nil => exact absurd rfl h
  | cons r l =>
    rw [List.map_cons]
    refine splitR_join fun p hp => ?_
    rw [← List.map_cons] at hp
    obtain ⟨q, _, rfl⟩ := List.mem_map.1 hp
    unfold rowT
    refine join_no (by decide) fun p hp => ?_
    obtain ⟨u, _, rfl⟩ := List.mem_map.1 hp
    exact rlT_no (by decide) (by decide) (by decide) (by decide)

open Go.Lib in
theorem numC_bk2 {s : List UInt8} (h : (numC s).2 = true) : Go.Lib.itoa (numC s).1 = s := by
  unfold numC at h ⊢
  split at h
  · rename_i hq; rw [if_pos hq]; exact (itoa_num hq).1
  · exact Bool.noConfusion h

open Go.Lib in
theorem rlS_T {r : tRule} (h : okRl r) : rlS (rlT r) = (r, true) := by
  unfold rlT
  split
  · rename_i h1
    obtain ⟨h2, h3, h4⟩ := h h1
    obtain ⟨a, b, c⟩ := r
    simp only at h2 h3 h4
    obtain ⟨ch, e, hc, hv⟩ : ∃ ch : UInt8, (if b < 0 then ([76] : List UInt8) else [82]) = [ch] ∧ (ch = 76 ∨ ch = 82) ∧ (if ch = 76 then (-1 : Int) else 1) = b := by
      rcases h3 with rfl | rfl
      · exact ⟨76, rfl, .inl rfl, rfl⟩
      · exact ⟨82, rfl, .inr rfl, rfl⟩
    simp only
    rw [e, itoa_one (x := a) (by omega)]
    have hd := dg_of (x := a) (by omega)
    have hl : 1 ≤ (Go.Lib.itoa c).length := by
      cases hq : Go.Lib.itoa c with
      | nil =>
        have := numC_itoa (v := c) (by omega)
        rw [hq] at this
        have h5 : numC [] = (0, false) := rfl
        rw [h5] at this
        exact Bool.noConfusion (congrArg Prod.snd this)
      | cons _ _ => simp
    show rlS (UInt8.ofNat (48 + a).toNat :: ch :: Go.Lib.itoa c) = _
    unfold rlS
    rw [if_neg, if_pos ⟨by simp; omega, hd.1, hc⟩]
    · show ((dgI (UInt8.ofNat (48 + a).toNat), (if ch = 76 then (-1 : Int) else 1), (numC (Go.Lib.itoa c)).1), (numC (Go.Lib.itoa c)).2 && decide (0 ≤ (numC (Go.Lib.itoa c)).1)) = _
      rw [hd.2, hv, numC_itoa (by omega)]
      simp only [decide_eq_true h4.1, Bool.and_self]
    · intro e5
      simp only [List.cons.injEq] at e5
      rcases hc with rfl | rfl
      · exact absurd e5.2.1 (by decide)
      · exact absurd e5.2.1 (by decide)
  · rename_i h1
    rw [isRl_no h1]; rfl

open Go.Lib in
theorem itoa_dg {c : UInt8} (h : isDg c = true) : Go.Lib.itoa (dgI c) = [c] := by
  have h1 := isDg_iff.1 h
  rw [itoa_one (by unfold dgI; omega)]
  unfold dgI
  rw [show (48 + ((c.toNat : Int) - 48)).toNat = c.toNat from by omega]
  simp

open Go.Lib in
theorem rlS_back {w : List UInt8} (h : rlK w = true) : rlT (rlV w) = w := by
  unfold rlK at h
  unfold rlV
  unfold rlS at h ⊢
  split at h
  · rename_i h1; rw [if_pos h1, h1]; rfl
  · rename_i h1
    rw [if_neg h1]
    split at h
    · rename_i h2
      rw [if_pos h2]
      obtain ⟨hl, hd, hc⟩ := h2
      rw [Bool.and_eq_true] at h
      match w, hl with
      | a :: b :: r, hl =>
        simp only [List.getElem?_cons_zero, List.getElem?_cons_succ, Option.getD_some, List.drop_succ_cons, List.drop_zero] at hd hc h ⊢
        have e1 := numC_bk2 h.1
        have hi : isRl (dgI a, (if b = 76 then (-1 : Int) else 1), (numC r).1) = true := by
          unfold isRl noRl
          rcases hc with rfl | rfl <;> simp
        unfold rlT
        rw [if_pos hi]
        simp only
        rw [itoa_dg hd, e1]
        rcases hc with rfl | rfl <;> rfl
    · exact Bool.noConfusion h

open Go.Lib in
theorem maT_shape {m : tMachine} (h : validMach m = true) : ∃ rows : List (List tRule), rowsK m.1.toNat m.2.1.toNat m.2.2 = rows ∧ rows ≠ [] ∧ (rows.length : Int) = m.2.1 ∧ (∀ r ∈ rows, (r.length : Int) = m.1 ∧ ∀ x ∈ r, okRl x) ∧ rows.flatten = m.2.2 := by
  obtain ⟨v1, v2, v3, _⟩ := validMach_facts h
  have hk := validMach_okRl h
  have hl : m.2.2.length = m.2.1.toNat * m.1.toNat := by
    have : ((m.2.1.toNat * m.1.toNat : Nat) : Int) = m.2.1 * m.1 := by
      rw [Int.natCast_mul, Int.toNat_of_nonneg (by omega), Int.toNat_of_nonneg (by omega)]
    omega
  refine ⟨_, rfl, ?_, ?_, ?_, rowsK_flat _ _ _ hl⟩
  · intro e
    have := rowsK_len m.1.toNat m.2.1.toNat m.2.2
    rw [e, List.length_nil] at this
    omega
  · rw [rowsK_len]; omega
  · intro r hr
    obtain ⟨h1, h2⟩ := rowsK_all _ _ _ hl r hr
    exact ⟨by omega, fun x hx => hk x (h2 x hx)⟩

open Go.Lib in
theorem rdMa_T {m : tMachine} (h : validMach m = true) : rdMaI (machT m) = (m, true) ∧ rdMaS (machT m) = (m, true) := by
  obtain ⟨v1, v2, v3, _⟩ := validMach_facts h
  obtain ⟨rows, e0, hn, hlen, hr, hf⟩ := maT_shape h
  have et : machT m = join (rows.map rowT) [59] := by unfold machT; rw [e0]
  have es : splitR 59 (machT m) = rows.map rowT := by rw [et]; exact rows_split hn
  have hne : ∀ r ∈ rows, r ≠ [] := fun r h5 e => by have := (hr r h5).1; rw [e] at this; simp at this; omega
  have hsp : ∀ r ∈ rows, splitR 44 (rowT r) = r.map rlT := fun r h5 => row_split (hne r h5)
  have hI : maI (machT m) = m := by
    unfold maI
    rw [es, List.map_map, List.length_map]
    have e1 : rows.map ((fun r => (splitR 44 r).map readRl) ∘ rowT) = rows := (List.map_congr_left fun r h5 => by
      show (splitR 44 (rowT r)).map readRl = id r
      rw [hsp r h5, List.map_map]
      exact (List.map_congr_left fun x hx => readRl_T ((hr r h5).2 x hx)).trans (List.map_id r)).trans (List.map_id rows)
    have e2 : ((splitR 44 ((rows.map rowT).getLast?.getD [])).length : Int) = m.1 := by
      rw [List.getLast?_map, List.getLast?_eq_some_getLast hn, Option.map_some, Option.getD_some, hsp _ (List.getLast_mem hn), List.length_map]
      exact (hr _ (List.getLast_mem hn)).1
    rw [e1, e2, hlen, hf]
  have hS : maS (machT m) = m ∧ (splitR 59 (machT m)).all (rwK (splitR 44 ((splitR 59 (machT m))[0]?.getD [])).length) = true := by
    obtain ⟨r0, rs, rfl⟩ : ∃ r0 rs, rows = r0 :: rs := by
      cases rows with
      | nil => exact absurd rfl hn
      | cons a b => exact ⟨a, b, rfl⟩
    have e2 : ((splitR 44 (((r0 :: rs).map rowT)[0]?.getD [])).length : Int) = m.1 := by
      show ((splitR 44 (rowT r0)).length : Int) = m.1
      rw [hsp r0 (by simp), List.length_map]
      exact (hr r0 (by simp)).1
    constructor
    · unfold maS
      rw [es, e2, List.length_map, List.map_map]
      have e1 : (r0 :: rs).map (rwV ∘ rowT) = r0 :: rs := (List.map_congr_left fun r h5 => by
        show (splitR 44 (rowT r)).map rlV = id r
        rw [hsp r h5, List.map_map]
        exact (List.map_congr_left fun x hx => by show (rlS (rlT x)).1 = id x; rw [rlS_T ((hr r h5).2 x hx)]; rfl).trans (List.map_id r)).trans (List.map_id _)
      rw [e1, hlen, hf]
    · rw [es, List.all_eq_true]
      intro p hp
      obtain ⟨r, h5, rfl⟩ := List.mem_map.1 hp
      unfold rwK
      rw [hsp r h5, List.length_map, Bool.and_eq_true, Bool.and_eq_true, decide_eq_true_eq, decide_eq_true_eq, List.all_eq_true]
      have := (hr r h5).1
      refine ⟨by omega, by omega, fun w hw => ?_⟩
      obtain ⟨x, hx, rfl⟩ := List.mem_map.1 hw
      unfold rlK
      rw [rlS_T ((hr r h5).2 x hx)]
  constructor
  · unfold rdMaI
    rw [hI]
    exact if_pos ⟨h, by unfold machText; rw [if_pos h]⟩
  · unfold rdMaS
    rw [hS.1]
    exact if_pos ⟨by rw [es, List.length_map]; omega, hS.2, h⟩

open Go.Lib in
theorem rdMaS_back {s : List UInt8} (h : (splitR 59 s).all (rwK (splitR 44 ((splitR 59 s)[0]?.getD [])).length) = true) : machT (maS s) = s := by
  have hall : ∀ row ∈ splitR 59 s, (splitR 44 row).length = (splitR 44 ((splitR 59 s)[0]?.getD [])).length ∧ ∀ w ∈ splitR 44 row, rlK w = true := by
    intro row hrow
    have := List.all_eq_true.1 h row hrow
    unfold rwK at this
    rw [Bool.and_eq_true, Bool.and_eq_true, decide_eq_true_eq, List.all_eq_true] at this
    exact ⟨this.1, this.2.2⟩
  have e1 : rowsK (splitR 44 ((splitR 59 s)[0]?.getD [])).length (splitR 59 s).length ((splitR 59 s).map rwV).flatten = (splitR 59 s).map rwV := by
    have := rowsK_of (splitR 44 ((splitR 59 s)[0]?.getD [])).length ((splitR 59 s).map rwV) fun r hr => by
      obtain ⟨row, h5, rfl⟩ := List.mem_map.1 hr
      unfold rwV
      rw [List.length_map]
      exact (hall row h5).1
    rwa [List.length_map] at this
  unfold machT maS
  simp only [Int.toNat_natCast]
  rw [e1, List.map_map]
  have e2 : (splitR 59 s).map (rowT ∘ rwV) = splitR 59 s := (List.map_congr_left fun row h5 => by
    show join (((splitR 44 row).map rlV).map rlT) [44] = id row
    rw [List.map_map]
    have e3 : (splitR 44 row).map (rlT ∘ rlV) = splitR 44 row := (List.map_congr_left fun w hw => rlS_back ((hall row h5).2 w hw)).trans (List.map_id _)
    rw [e3]
    exact (join_splitR 44 row).1).trans (List.map_id _)
  rw [e2]
  exact (join_splitR 59 s).1

open Go.Lib in
theorem rdMa_eq (s : List UInt8) : rdMaS s = rdMaI s := by
  by_cases h : ∃ m, validMach m = true ∧ machT m = s
  · obtain ⟨m, hv, rfl⟩ := h
    rw [(rdMa_T hv).1, (rdMa_T hv).2]
  · have hI : rdMaI s = ((0, 0, []), false) := by
      unfold rdMaI
      rw [if_neg]
      rintro ⟨h1, h2⟩
      unfold machText at h2
      rw [if_pos h1] at h2
      exact h ⟨_, h1, h2⟩
    have hS : rdMaS s = ((0, 0, []), false) := by
      unfold rdMaS
      rw [if_neg]
      rintro ⟨_, h1, h2⟩
      exact h ⟨_, h2, rdMaS_back h1⟩
    rw [hI, hS]

open Go.Lib in
theorem rdMa_ct (s : List UInt8) : (cv_Machine (rdMaI s).1 : Int) ≤ 1000000000 := by
  unfold rdMaI
  split
  · rename_i h
    have h1 := cntL_const ct_Rule 3 (maI s).2.2 fun _ => rfl
    have h2 := (validMach_facts h.1).2.2.2
    show (ct_SRule (maI s).2.2 : Int) ≤ _
    unfold ct_SRule
    omega
  · exact (by decide : (cv_Machine (0, 0, []) : Int) ≤ 1000000000)

open Go.Lib in
theorem digB_dg (c : UInt8) : digB (c.toNat : Int) = isDg c := by
  rw [Bool.eq_iff_iff]
  unfold digB
  rw [isDg_iff]
  simp only [Bool.and_eq_true, decide_eq_true_eq]
  omega

open Go.Lib in
theorem u8_is {c : UInt8} {n : Nat} (hn : n < 256) : c = UInt8.ofNat n ↔ (c.toNat : Int) = (n : Int) := by
  constructor
  · rintro rfl
    rw [UInt8.toNat_ofNat', Nat.mod_eq_of_lt hn]
  · intro h
    apply UInt8.toNat_inj.1
    rw [UInt8.toNat_ofNat', Nat.mod_eq_of_lt hn]
    omega

open Go.Lib in
theorem rlT_len (r : tRule) (h1 : (Go.Lib.itoa r.1).length ≤ 20) (h2 : (Go.Lib.itoa r.2.2).length ≤ 20) : (rlT r).length ≤ 41 := by
  unfold rlT
  split
  · rw [List.length_append, List.length_append]
    split <;> (simp only [List.length_cons, List.length_nil]; omega)
  · simp

open Go.Lib in
theorem rlS_bar {s : List UInt8} (h : s = [45, 45, 45]) : rlS s = (noRl, true) := by unfold rlS; rw [if_pos h]

open Go.Lib in
theorem rlS_no {s : List UInt8} (h : ¬ s = [45, 45, 45]) (h1 : ¬ (3 ≤ s.length ∧ isDg (s[0]?.getD 0) = true ∧ (s[1]?.getD 0 = 76 ∨ s[1]?.getD 0 = 82))) : rlS s = ((0, 0, 0), false) := by
  unfold rlS; rw [if_neg h, if_neg h1]

open Go.Lib in
theorem rlS_nd {s : List UInt8} {c : UInt8} (h : ¬ s = [45, 45, 45]) (g : s[0]?.getD 0 = c) (hd : digB (c.toNat : Int) = false) : rlS s = ((0, 0, 0), false) :=
  rlS_no h fun hh => by
    have q := hh.2.1
    rw [g, ← digB_dg, hd] at q
    cases q

open Go.Lib in
theorem rlS_nl {s : List UInt8} {c : UInt8} (h : ¬ s = [45, 45, 45]) (g : s[1]?.getD 0 = c) (h1 : ¬ (c.toNat : Int) = 76) (h2 : ¬ (c.toNat : Int) = 82) : rlS s = ((0, 0, 0), false) :=
  rlS_no h fun hh => by
    have q := hh.2.2
    rw [g, show (76 : UInt8) = UInt8.ofNat 76 from rfl, show (82 : UInt8) = UInt8.ofNat 82 from rfl, u8_is (by omega), u8_is (by omega)] at q
    omega

open Go.Lib in
theorem rlS_yL {s : List UInt8} {c d : UInt8} (h : ¬ s = [45, 45, 45]) (hl : 3 ≤ s.length) (g0 : s[0]?.getD 0 = c) (g1 : s[1]?.getD 0 = d) (hd : digB (c.toNat : Int) = true) (h1 : (d.toNat : Int) = 76) : rlS s = (((c.toNat : Int) - 48, -1, (numC (s.drop 2)).1), (numC (s.drop 2)).2 && decide (0 ≤ (numC (s.drop 2)).1)) := by
  have e : d = 76 := (u8_is (n := 76) (by omega)).2 h1
  unfold rlS
  rw [if_neg h, if_pos ⟨hl, by rw [g0, ← digB_dg]; exact hd, .inl (by rw [g1]; exact e)⟩, if_pos (by rw [g1]; exact e), g0]; rfl

open Go.Lib in
theorem rlS_yR {s : List UInt8} {c d : UInt8} (h : ¬ s = [45, 45, 45]) (hl : 3 ≤ s.length) (g0 : s[0]?.getD 0 = c) (g1 : s[1]?.getD 0 = d) (hd : digB (c.toNat : Int) = true) (h1 : (d.toNat : Int) = 82) : rlS s = (((c.toNat : Int) - 48, 1, (numC (s.drop 2)).1), (numC (s.drop 2)).2 && decide (0 ≤ (numC (s.drop 2)).1)) := by
  have e : d = 82 := (u8_is (n := 82) (by omega)).2 h1
  unfold rlS
  rw [if_neg h, if_pos ⟨hl, by rw [g0, ← digB_dg]; exact hd, .inr (by rw [g1]; exact e)⟩, if_neg (by rw [g1, e]; decide), g0]; rfl

open Go.Lib in
set_option maxRecDepth 100000 in
set_option maxHeartbeats 4000000 in
theorem impl_ruleText (es0 : List Value) (a0 : tRule) (w : World) (h0 : eRule.R w (Old w) es0 a0) (hG : Glob w) :
    Calls Tryz.prog 31 #[.agg es0.toArray] w fun e w' => e = .returned (.string (bs (rlT a0))) ∧ Below w.heap.size w w' := by
  have H0 := h0
  obtain ⟨rfl, gz0_0, gz0_1, gz0_2⟩ := shape_Rule h0
  have jz0_0 := gz0_0; unfold I64 at jz0_0
  have jz0_1 := gz0_1; unfold I64 at jz0_1
  have jz0_2 := gz0_2; unfold I64 at jz0_2
  have HH1 := Held.start Nob w
  refine enter (n := 19) Tryz.func31 rfl rfl rfl fun a_2 HE3 => ?_
  refine wp_seq ?_
  refine rg ?_
  refine pl fun K_4 hK5 => ?_
  refine st_box (cs := [.int .i64 (a0.1), .int .i64 (a0.2.1), .int .i64 (a0.2.2)]) HE3 HH1 rfl rfl (wt0 rfl) rfl fun q21 a_6 w' HE7 HH8 => hK5 _ _ ?_
  refine pl_x HE7 HH8 (wt0 rfl) (x_assign rfl) rfl rfl fun a_9 HE10 => ?_
  refine wpList_nil ?_
  clear a_2 HE3 HH1 a_6 HE7 hK5 K_4
  refine nrm ?_
  refine wp_seq ?_
  refine wp_seq ?_
  refine rg ?_
  refine pl_x HE10 HH8 (wt0 rfl) (x_loadN (cs := [.int .i64 (a0.1), .int .i64 (a0.2.1), .int .i64 (a0.2.2)]) tv_34 rfl rfl (c_blkN 0 rfl)) rfl rfl fun a_11 HE12 => ?_
  refine pl fun K_13 hK14 => ?_
  refine st_call HE12 (wt0 rfl) rfl rfl rfl en_50 rfl rfl (impl_isRule [.int .i64 (a0.1), .int .i64 (a0.2.1), .int .i64 (a0.2.2)] a0 _ (HH8.oldR H0)) fun e w' hr => ?_
  obtain ⟨rfl, hbr22⟩ := hr
  have HH15 := HH8.on hbr22
  refine ⟨_, rfl, fun a_16 HE17 => hK14 _ _ ?_⟩
  refine pl_x HE17 HH15 (wt0 rfl) (x_not rfl) rfl rfl fun a_18 HE19 => ?_
  refine wpList_nil ?_
  clear a_9 HE10 HH8 a_11 HE12 a_16 HE17 hK14 K_13
  refine nrm ?_
  refine cnd_nb HE19 rfl (fun hc23 => ?_) (fun hc23 => ?_)
  · refine wp_seq ?_
    refine rg ?_
    refine pl_x HE19 HH15 (wt0 rfl) (x_assign rfl) rfl rfl fun a_20 HE21 => ?_
    refine wpList_nil ?_
    clear a_18 HE19
    refine nrm ?_
    refine wp_ret ?_
    refine (thn_ret ?_)
    refine ret1 HE21 rfl (rv_tmp rfl) ?_
    have hF : (rlT a0) = [45, 45, 45] := by
      unfold rlT; grind
    exact ⟨by first | (rw [hF] <;> rfl) | rfl | (rw [hF]; simp only [Ending.returned.injEq, Value.slice.injEq, true_and, and_true]; first | omega | (simp; done)) | (rw [hF]; simp; omega), HH15.below⟩
  · refine wp_skip ?_
    refine nrm ?_
    refine wp_seq ?_
    refine rg ?_
    refine pl_x HE19 HH15 (wt0 rfl) (x_assign rfl) rfl rfl fun a_22 HE23 => ?_
    refine wpList_nil ?_
    clear a_18 HE19
    refine nrm ?_
    refine wp_seq ?_
    refine wp_seq ?_
    refine rg ?_
    refine pl_x HE23 HH15 (wt0 rfl) (x_fieldAddr fa_34_1 rfl) rfl rfl fun a_24 HE25 => ?_
    refine pl_x HE25 HH15 (wt0 rfl) (x_load1 tv_2 rfl (c_blk 0 rfl rfl)) rfl rfl fun a_26 HE27 => ?_
    refine pl_x HE27 HH15 (wt0 rfl) (x_lss rfl rfl) rfl rfl fun a_28 HE29 => ?_
    refine wpList_nil ?_
    clear a_22 HE23 a_24 HE25 a_26 HE27
    refine nrm ?_
    refine cnd_d HE29 rfl (fun hc24 => ?_) (fun hc24 => ?_)
    · refine rg ?_
      refine pl_x HE29 HH15 (wt0 rfl) (x_assign rfl) rfl rfl fun a_30 HE31 => ?_
      refine wpList_nil ?_
      clear a_28 HE29
      refine nrm ?_
      refine wp_seq ?_
      refine dr_start (Held Nob w [rBlk q21 34 [.int .i64 (a0.1), .int .i64 (a0.2.1), .int .i64 (a0.2.2)]]) 10 #[false, false, false, false, false, false, false, false, false, false] hmix rfl rfl HH15 (fun _ h => h.sel [0] (by decide) rfl) fun w' HH32 => ?_
      have HS33 := HH32
      refine dr_take (i := 0) (ls' := #[true, false, false, false, false, false, false, false, false, false]) HE31 HS33 rfl (by kernel_rfl) (by kernel_rfl) (by kernel_rfl) (fun _ _ _ h => h) rfl (wt0 rfl) (x_fieldAddr fa_34_0 rfl) rfl rfl fun a_34 HE35 => ?_
      refine dr_take (i := 1) (ls' := #[true, true, false, false, false, false, false, false, false, false]) HE35 HS33 rfl (by kernel_rfl) (by kernel_rfl) (by kernel_rfl) (fun _ _ _ h => h) rfl (wt0 rfl) (x_load1 tv_2 rfl (c_blk 0 rfl rfl)) rfl rfl fun a_36 HE37 => ?_
      refine dr_take (i := 3) (ls' := #[true, true, false, true, false, false, false, false, false, false]) HE37 HS33 rfl (by kernel_rfl) (by kernel_rfl) (by kernel_rfl) (fun _ _ _ h => h) rfl (wt0 rfl) (x_move rfl) rfl rfl fun a_38 HE39 => ?_
      refine dr_take (i := 5) (ls' := #[true, true, false, true, false, true, false, false, false, false]) HE39 HS33 rfl (by kernel_rfl) (by kernel_rfl) (by kernel_rfl) (fun _ _ _ h => h) rfl (wt0 rfl) (x_fieldAddr fa_34_2 rfl) rfl rfl fun a_40 HE41 => ?_
      refine dr_take (i := 6) (ls' := #[true, true, false, true, false, true, true, false, false, false]) HE41 HS33 rfl (by kernel_rfl) (by kernel_rfl) (by kernel_rfl) (fun _ _ _ h => h) rfl (wt0 rfl) (x_load1 tv_2 rfl (c_blk 0 rfl rfl)) rfl rfl fun a_42 HE43 => ?_
      refine dr_one (i := 2) (ls' := #[true, true, true, true, false, true, true, false, false, false]) rfl (by kernel_rfl) rfl fun K_44 hK45 => ?_
      refine st_call HE43 (wt0 rfl) rfl rfl rfl en_47 rfl rfl (impl_Decimal a0.1 _ (HH32.glob hG) (by omega)) fun e w' hr => ?_
      have hAr25_0 := itoa_len (n := a0.1) (by omega)
      obtain ⟨rfl, hbr25⟩ := hr
      have HH46 := HH32.on hbr25
      refine ⟨_, rfl, fun a_47 HE48 => hK45 _ _ (by exact HH46.sel [0] (by decide) rfl) ?_⟩
      have HS49 := HH46.sel [0] (by decide) rfl
      refine dr_take (i := 4) (ls' := #[true, true, true, true, true, true, true, false, false, false]) HE48 HS49 rfl (by kernel_rfl) (by kernel_rfl) (by kernel_rfl) (fun _ _ _ h => h) rfl (wt0 rfl) (x_sadd rfl rfl (by first | omega | (simp only [List.length_append, List.length_cons, List.length_nil]; omega) | (simp; omega))) rfl rfl fun a_50 HE51 => ?_
      refine dr_one (i := 7) (ls' := #[true, true, true, true, true, true, true, true, false, false]) rfl (by kernel_rfl) rfl fun K_52 hK53 => ?_
      refine st_call HE51 (wt0 rfl) rfl rfl rfl en_47 rfl rfl (impl_Decimal a0.2.2 _ (HH46.glob hG) (by omega)) fun e w' hr => ?_
      have hAr26_0 := itoa_len (n := a0.2.2) (by omega)
      obtain ⟨rfl, hbr26⟩ := hr
      have HH54 := HH46.on hbr26
      refine ⟨_, rfl, fun a_55 HE56 => hK53 _ _ (by exact HH54.sel [0] (by decide) rfl) ?_⟩
      have HS57 := HH54.sel [0] (by decide) rfl
      refine dr_take (i := 8) (ls' := #[true, true, true, true, true, true, true, true, true, false]) HE56 HS57 rfl (by kernel_rfl) (by kernel_rfl) (by kernel_rfl) (fun _ _ _ h => h) rfl (wt0 rfl) (x_sadd rfl rfl (by first | omega | (simp only [List.length_append, List.length_cons, List.length_nil]; omega) | (simp; omega))) rfl rfl fun a_58 HE59 => ?_
      refine dr_take (i := 9) (ls' := #[true, true, true, true, true, true, true, true, true, true]) HE59 HS57 rfl (by kernel_rfl) (by kernel_rfl) (by kernel_rfl) (fun _ _ _ h => h) rfl (wt0 rfl) (x_assign rfl) rfl rfl fun a_60 HE61 => ?_
      refine dr_done (by kernel_rfl) ?_
      clear HH15 a_30 HE31 a_34 HE35 a_36 HE37 a_38 HE39 a_40 HE41 HH32 a_42 HE43 HS33 a_47 HE48 K_44 hK45 HH46 a_50 HE51 HS49 a_55 HE56 a_58 HE59 hK53 K_52
      refine nrm ?_
      refine wp_ret ?_
      refine ret1 HE61 rfl (rv_tmp rfl) ?_
      have hF : (rlT a0) = (((Go.Lib.itoa a0.1) ++ [76]) ++ (Go.Lib.itoa a0.2.2)) := by
        unfold rlT; grind
      exact ⟨by first | (rw [hF] <;> rfl) | rfl | (rw [hF]; simp only [Ending.returned.injEq, Value.slice.injEq, true_and, and_true]; first | omega | (simp; done)) | (rw [hF]; simp; omega), HH54.below⟩
    · refine wp_skip ?_
      refine nrm ?_
      refine wp_seq ?_
      refine dr_start (Held Nob w [rBlk q21 34 [.int .i64 (a0.1), .int .i64 (a0.2.1), .int .i64 (a0.2.2)]]) 10 #[false, false, false, false, false, false, false, false, false, false] hmix rfl rfl HH15 (fun _ h => h.sel [0] (by decide) rfl) fun w' HH62 => ?_
      have HS63 := HH62
      refine dr_take (i := 0) (ls' := #[true, false, false, false, false, false, false, false, false, false]) HE29 HS63 rfl (by kernel_rfl) (by kernel_rfl) (by kernel_rfl) (fun _ _ _ h => h) rfl (wt0 rfl) (x_fieldAddr fa_34_0 rfl) rfl rfl fun a_64 HE65 => ?_
      refine dr_take (i := 1) (ls' := #[true, true, false, false, false, false, false, false, false, false]) HE65 HS63 rfl (by kernel_rfl) (by kernel_rfl) (by kernel_rfl) (fun _ _ _ h => h) rfl (wt0 rfl) (x_load1 tv_2 rfl (c_blk 0 rfl rfl)) rfl rfl fun a_66 HE67 => ?_
      refine dr_take (i := 3) (ls' := #[true, true, false, true, false, false, false, false, false, false]) HE67 HS63 rfl (by kernel_rfl) (by kernel_rfl) (by kernel_rfl) (fun _ _ _ h => h) rfl (wt0 rfl) (x_move rfl) rfl rfl fun a_68 HE69 => ?_
      refine dr_take (i := 5) (ls' := #[true, true, false, true, false, true, false, false, false, false]) HE69 HS63 rfl (by kernel_rfl) (by kernel_rfl) (by kernel_rfl) (fun _ _ _ h => h) rfl (wt0 rfl) (x_fieldAddr fa_34_2 rfl) rfl rfl fun a_70 HE71 => ?_
      refine dr_take (i := 6) (ls' := #[true, true, false, true, false, true, true, false, false, false]) HE71 HS63 rfl (by kernel_rfl) (by kernel_rfl) (by kernel_rfl) (fun _ _ _ h => h) rfl (wt0 rfl) (x_load1 tv_2 rfl (c_blk 0 rfl rfl)) rfl rfl fun a_72 HE73 => ?_
      refine dr_one (i := 2) (ls' := #[true, true, true, true, false, true, true, false, false, false]) rfl (by kernel_rfl) rfl fun K_74 hK75 => ?_
      refine st_call HE73 (wt0 rfl) rfl rfl rfl en_47 rfl rfl (impl_Decimal a0.1 _ (HH62.glob hG) (by omega)) fun e w' hr => ?_
      have hAr27_0 := itoa_len (n := a0.1) (by omega)
      obtain ⟨rfl, hbr27⟩ := hr
      have HH76 := HH62.on hbr27
      refine ⟨_, rfl, fun a_77 HE78 => hK75 _ _ (by exact HH76.sel [0] (by decide) rfl) ?_⟩
      have HS79 := HH76.sel [0] (by decide) rfl
      refine dr_take (i := 4) (ls' := #[true, true, true, true, true, true, true, false, false, false]) HE78 HS79 rfl (by kernel_rfl) (by kernel_rfl) (by kernel_rfl) (fun _ _ _ h => h) rfl (wt0 rfl) (x_sadd rfl rfl (by first | omega | (simp only [List.length_append, List.length_cons, List.length_nil]; omega) | (simp; omega))) rfl rfl fun a_80 HE81 => ?_
      refine dr_one (i := 7) (ls' := #[true, true, true, true, true, true, true, true, false, false]) rfl (by kernel_rfl) rfl fun K_82 hK83 => ?_
      refine st_call HE81 (wt0 rfl) rfl rfl rfl en_47 rfl rfl (impl_Decimal a0.2.2 _ (HH76.glob hG) (by omega)) fun e w' hr => ?_
      have hAr28_0 := itoa_len (n := a0.2.2) (by omega)
      obtain ⟨rfl, hbr28⟩ := hr
      have HH84 := HH76.on hbr28
      refine ⟨_, rfl, fun a_85 HE86 => hK83 _ _ (by exact HH84.sel [0] (by decide) rfl) ?_⟩
      have HS87 := HH84.sel [0] (by decide) rfl
      refine dr_take (i := 8) (ls' := #[true, true, true, true, true, true, true, true, true, false]) HE86 HS87 rfl (by kernel_rfl) (by kernel_rfl) (by kernel_rfl) (fun _ _ _ h => h) rfl (wt0 rfl) (x_sadd rfl rfl (by first | omega | (simp only [List.length_append, List.length_cons, List.length_nil]; omega) | (simp; omega))) rfl rfl fun a_88 HE89 => ?_
      refine dr_take (i := 9) (ls' := #[true, true, true, true, true, true, true, true, true, true]) HE89 HS87 rfl (by kernel_rfl) (by kernel_rfl) (by kernel_rfl) (fun _ _ _ h => h) rfl (wt0 rfl) (x_assign rfl) rfl rfl fun a_90 HE91 => ?_
      refine dr_done (by kernel_rfl) ?_
      clear HH15 a_28 HE29 a_64 HE65 a_66 HE67 a_68 HE69 a_70 HE71 HH62 a_72 HE73 HS63 a_77 HE78 K_74 hK75 HH76 a_80 HE81 HS79 a_85 HE86 a_88 HE89 hK83 K_82
      refine nrm ?_
      refine wp_ret ?_
      refine ret1 HE91 rfl (rv_tmp rfl) ?_
      have hF : (rlT a0) = (((Go.Lib.itoa a0.1) ++ [82]) ++ (Go.Lib.itoa a0.2.2)) := by
        unfold rlT; grind
      exact ⟨by first | (rw [hF] <;> rfl) | rfl | (rw [hF]; simp only [Ending.returned.injEq, Value.slice.injEq, true_and, and_true]; first | omega | (simp; done)) | (rw [hF]; simp; omega), HH84.below⟩

end Go.Proofs.YthfihlfjphiihaaGreatDoor
