/- What the proof of FnExactMapRegisters needs: contracts of the functions that it reaches, each once. -/
import Derived.Test.YtnokeoejlfodkaaProg
import Derived.Test.YtnokeoejlfodkaaQMem
import Derived.Test.YtnokeoejlfodkaaQOpen
import Derived.Test.YtnokeoejlfodkaaLMapRegistersa
import Derived.Test.YtnokeoejlfodkaaLMapRegistersb
import Derived.WalkKit
import Derived.WalkSpells
import Derived.Below
import Derived.LoopTactic
import Derived.Outline
import Derived.Deep.QuietTactic
import Derived.BigQuiet
import Derived.Deep.LoopGhost
import Derived.Handy
import Derived.Lib.Hide
import Derived.Shelf.Abstract
import Derived.StillTailTactics
import Derived.OwnWalk
import Derived.Maps.AppendAt
import Derived.RegionTactic
import Derived.Deep.RegionHeld3
import Derived.IntWalk
import Derived.Deep.Upon
import Derived.Laws.OwnMore
import Derived.Maps.AppendAt
import Derived.Lib.SliceRun
import Derived.Lib.AppendZeros
import Derived.Shelf.SortG.Plain
import Derived.Shelf.SortG.SortNone
import Derived.Shelf.SlicesG.CompactI
import Derived.Shelf.SlicesG.SearchI
import Derived.Sort.OwnSortedInts
import Derived.Lib.RowBridge
namespace Go.Proofs.Ytnokeoejlfodkaa
open Go.RowKit

set_option maxRecDepth 100000 in
set_option maxHeartbeats 4000000 in
theorem law_MapRegisters (A0 : Option Addr) (c0 : Nat) (a0 : (List tInstr)) (A1 : Option Addr) (c1 : Nat) (a1 : (List Int)) (w : World) (h0 : Sl eInstr w (Old w) A0 c0 a0) (h1 : Sl eInt w (Old w) A1 c1 a1) :
    Calls Try.prog 12 #[.slice A0 a0.length c0, .slice A1 a1.length c1] w fun e w' => e = .returned (.bool true) ∧ Below w.heap.size w w' := by
  have l0 := h0.len
  have l1 := h1.len
  have m0 := ct_cost_SInstr a0
  have cl1 : cost_L a1 = a1.length := rfl
  have m1 := ct_cost_L a1
  have n0 : (ct_SInstr (mapRegs a0 a1).1 : Int) ≤ 1000000000 := mapRegs_ct a0 a1
  have HH1 := Held.start Nob w
  refine enter (n := 117) Try.func12 rfl rfl rfl fun a_2 HE3 => ?_
  refine wp_seq ?_
  refine rg ?_
  refine pl_x HE3 HH1 (wt0 rfl) (x_assign rfl) rfl rfl fun a_4 HE5 => ?_
  refine wpList_nil ?_
  clear a_2 HE3
  refine nrm ?_
  refine wp_seq ?_
  refine wp_seq ?_
  refine rg ?_
  refine pl_x HE5 HH1 (wt0 rfl) (x_move rfl) rfl rfl fun a_6 HE7 => ?_
  refine pl_x HE7 HH1 (wt0 rfl) (x_len Try.underlying31 rfl) rfl rfl fun a_8 HE9 => ?_
  refine pl_x HE9 HH1 (wt0 rfl) (x_gtr rfl rfl) rfl rfl fun a_10 HE11 => ?_
  refine wpList_nil ?_
  clear a_4 HE5 a_6 HE7 a_8 HE9
  refine nrm ?_
  refine cnd_d HE11 rfl (fun hc21 => ?_) (fun hc21 => ?_)
  · refine wp_seq ?_
    refine rg ?_
    refine pl_x HE11 HH1 (wt0 rfl) (x_assign rfl) rfl rfl fun a_12 HE13 => ?_
    refine wpList_nil ?_
    clear a_10 HE11
    refine nrm ?_
    refine wp_ret ?_
    refine (thn_ret ?_)
    refine ret1 HE13 rfl (rv_tmp rfl) ?_
    have hF : true = true := by
      first | rfl | (exfalso; omega)
    exact ⟨by first | (rw [hF] <;> rfl) | rfl | (rw [hF]; simp only [Ending.returned.injEq, Value.slice.injEq, true_and, and_true]; first | omega | (simp; done)) | (rw [hF]; simp; omega), HH1.below⟩
  · refine wp_skip ?_
    refine nrm ?_
    refine wp_seq ?_
    refine rg ?_
    refine pl_x HE11 HH1 (wt0 rfl) (x_assign rfl) rfl rfl fun a_14 HE15 => ?_
    refine wpList_nil ?_
    clear a_10 HE11
    refine nrm ?_
    refine wp_seq ?_
    refine rg ?_
    refine pl_x HE15 HH1 (wt0 rfl) (x_move rfl) rfl rfl fun a_16 HE17 => ?_
    refine pl_x HE17 HH1 (wt0 rfl) (x_move rfl) rfl rfl fun a_18 HE19 => ?_
    refine pl fun K_20 hK21 => ?_
    refine st_call HE19 (wt0 rfl) rfl rfl rfl en_15 rfl rfl (sz_InstrS _ _ a0 1048576 _ (HH1.old h0) (by omega) (by omega)) fun e w' hr => ?_
    obtain ⟨rfl, hbr22⟩ := hr
    have HH22 := HH1.on hbr22
    clear hbr22
    refine ⟨_, rfl, fun a_23 HE24 => hK21 _ _ ?_⟩
    refine pl_x HE24 HH22 (wt0 rfl) (x_assign rfl) rfl rfl fun a_25 HE26 => ?_
    refine wpList_nil ?_
    clear a_14 HE15 a_16 HE17 HH1 a_18 HE19 a_23 HE24 hK21 K_20
    refine nrm ?_
    refine wp_seq ?_
    refine wp_seq ?_
    refine rg ?_
    refine pl_x HE26 HH22 (wt0 rfl) (x_move rfl) rfl rfl fun a_27 HE28 => ?_
    refine pl_x HE28 HH22 (wt0 rfl) (x_lss rfl rfl) rfl rfl fun a_29 HE30 => ?_
    refine wpList_nil ?_
    clear a_25 HE26 a_27 HE28
    refine nrm ?_
    refine cnd_d HE30 rfl (fun hc23 => ?_) (fun hc23 => ?_)
    · refine wp_seq ?_
      refine rg ?_
      refine pl_x HE30 HH22 (wt0 rfl) (x_assign rfl) rfl rfl fun a_31 HE32 => ?_
      refine wpList_nil ?_
      clear a_29 HE30
      refine nrm ?_
      refine wp_ret ?_
      refine (thn_ret ?_)
      refine ret1 HE32 rfl (rv_tmp rfl) ?_
      have hF : true = true := by
        first | rfl | (exfalso; omega)
      exact ⟨by first | (rw [hF] <;> rfl) | rfl | (rw [hF]; simp only [Ending.returned.injEq, Value.slice.injEq, true_and, and_true]; first | omega | (simp; done)) | (rw [hF]; simp; omega), HH22.below⟩
    · have zr22 := left_ok hc23
      refine wp_skip ?_
      refine nrm ?_
      refine wp_seq ?_
      refine rg ?_
      refine pl_x HE30 HH22 (wt0 rfl) (x_move rfl) rfl rfl fun a_33 HE34 => ?_
      refine pl fun K_35 hK36 => ?_
      refine st_call HE34 (wt0 rfl) rfl rfl rfl en_17 rfl rfl (to_InstrS _ _ a0 _ (HH22.old h0) (by omega)) fun e w' hr => ?_
      obtain ⟨Ar24, cr24, rfl, hor24, hbr24⟩ := hr
      obtain ⟨Sr24, HH37⟩ := HH22.newS hbr24 hor24
      clear hbr24 hor24
      refine ⟨_, rfl, fun a_38 HE39 => hK36 _ _ ?_⟩
      refine pl_x HE39 HH37 (wt0 rfl) (x_move rfl) rfl rfl fun a_40 HE41 => ?_
      refine pl fun K_42 hK43 => ?_
      refine st_call HE41 (wt0 rfl) rfl rfl rfl en_48 rfl rfl (to_Int64S _ _ a1 _ (HH37.old h1) (by omega)) fun e w' hr => ?_
      obtain ⟨Ar25, cr25, rfl, hor25, hbr25⟩ := hr
      obtain ⟨Sr25, HH44⟩ := HH37.newS hbr25 hor25
      clear hbr25 hor25
      refine ⟨_, rfl, fun a_45 HE46 => hK43 _ _ ?_⟩
      refine pl fun K_47 hK48 => ?_
      refine st_call HE46 (wt0 rfl) rfl rfl rfl en_74 rfl rfl (spec_MapRegisters _ _ a0 _ _ a1 _ (HH44.sl (i := 1) rfl) (HH44.sl (i := 0) rfl)) fun e w' hr => ?_
      obtain ⟨Ar26_0, cr26_0, rfl, hor26_0, hbr26⟩ := hr
      obtain ⟨Sr26, HH49⟩ := HH44.newS hbr26 hor26_0
      refine ⟨_, rfl, fun a_50 HE51 => hK48 _ _ ?_⟩
      refine pl_x HE51 HH49 (wt0 rfl) (x_move rfl) rfl rfl fun a_52 HE53 => ?_
      refine pl_x HE53 HH49 (wt0 rfl) (x_extract rfl rfl) rfl rfl fun a_54 HE55 => ?_
      refine pl_x HE55 HH49 (wt0 rfl) (x_extract rfl rfl) rfl rfl fun a_56 HE57 => ?_
      refine pl_x HE57 HH49 (wt0 rfl) (x_assign rfl) rfl rfl fun a_58 HE59 => ?_
      refine pl_x HE59 HH49 (wt0 rfl) (x_assign rfl) rfl rfl fun a_60 HE61 => ?_
      refine wpList_nil ?_
      clear a_29 HE30 HH22 a_33 HE34 a_38 HE39 K_35 hK36 HH37 a_40 HE41 K_42 hK43 HH44 a_45 HE46 a_50 HE51 a_52 HE53 a_54 HE55 a_56 HE57 a_58 HE59 hK48 K_47
      refine nrm ?_
      refine wp_seq ?_
      refine rg ?_
      refine pl_x HE61 HH49 (wt0 rfl) (x_move rfl) rfl rfl fun a_62 HE63 => ?_
      refine pl fun K_64 hK65 => ?_
      refine st_call HE63 (wt0 rfl) rfl rfl rfl en_17 rfl rfl (to_InstrS _ _ a0 _ (HH49.old h0) (by omega)) fun e w' hr => ?_
      obtain ⟨Ar27, cr27, rfl, hor27, hbr27⟩ := hr
      obtain ⟨Sr27, HH66⟩ := HH49.newS hbr27 hor27
      clear hbr27 hor27
      refine ⟨_, rfl, fun a_67 HE68 => hK65 _ _ ?_⟩
      refine pl_x HE68 HH66 (wt0 rfl) (x_assign rfl) rfl rfl fun a_69 HE70 => ?_
      refine wpList_nil ?_
      clear a_60 HE61 HH49 a_62 HE63 a_67 HE68 hK65 K_64
      refine nrm ?_
      refine wp_seq ?_
      refine rg ?_
      refine pl_x HE70 HH66 (wt0 rfl) (x_move rfl) rfl rfl fun a_71 HE72 => ?_
      refine pl fun K_73 hK74 => ?_
      refine st_call HE72 (wt0 rfl) rfl rfl rfl en_48 rfl rfl (to_Int64S _ _ a1 _ (HH66.old h1) (by omega)) fun e w' hr => ?_
      obtain ⟨Ar28, cr28, rfl, hor28, hbr28⟩ := hr
      obtain ⟨Sr28, HH75⟩ := HH66.newS hbr28 hor28
      clear hbr28 hor28
      refine ⟨_, rfl, fun a_76 HE77 => hK74 _ _ ?_⟩
      refine pl_x HE77 HH75 (wt0 rfl) (x_assign rfl) rfl rfl fun a_78 HE79 => ?_
      refine wpList_nil ?_
      clear a_69 HE70 HH66 a_71 HE72 a_76 HE77 hK74 K_73
      refine nrm ?_
      refine wp_seq ?_
      refine rg ?_
      refine pl_x HE79 HH75 (wt0 rfl) (x_move rfl) rfl rfl fun a_80 HE81 => ?_
      refine pl_x HE81 HH75 (wt0 rfl) (x_move rfl) rfl rfl fun a_82 HE83 => ?_
      refine pl fun K_84 hK85 => ?_
      refine st_call HE83 (wt0 rfl) rfl rfl rfl en_75 rfl rfl (impl_MapRegisters _ _ a0 _ _ a1 _ (HH75.sl (i := 1) rfl) (HH75.sl (i := 0) rfl)) fun e w' hr => ?_
      obtain ⟨Ar29_0, cr29_0, rfl, hor29_0, hbr29⟩ := hr
      obtain ⟨Sr29, HH86⟩ := HH75.newS hbr29 hor29_0
      refine ⟨_, rfl, fun a_87 HE88 => hK85 _ _ ?_⟩
      refine pl_x HE88 HH86 (wt0 rfl) (x_move rfl) rfl rfl fun a_89 HE90 => ?_
      refine pl_x HE90 HH86 (wt0 rfl) (x_extract rfl rfl) rfl rfl fun a_91 HE92 => ?_
      refine pl_x HE92 HH86 (wt0 rfl) (x_extract rfl rfl) rfl rfl fun a_93 HE94 => ?_
      refine pl_x HE94 HH86 (wt0 rfl) (x_assign rfl) rfl rfl fun a_95 HE96 => ?_
      refine pl_x HE96 HH86 (wt0 rfl) (x_assign rfl) rfl rfl fun a_97 HE98 => ?_
      refine wpList_nil ?_
      clear a_78 HE79 a_80 HE81 HH75 a_82 HE83 a_87 HE88 a_89 HE90 a_91 HE92 a_93 HE94 a_95 HE96 hK85 K_84
      refine nrm ?_
      refine wp_seq ?_
      refine wp_seq ?_
      refine rg ?_
      refine pl_x HE98 HH86 (wt0 rfl) (x_move rfl) rfl rfl fun a_99 HE100 => ?_
      refine pl_x HE100 HH86 (wt0 rfl) (x_move rfl) rfl rfl fun a_101 HE102 => ?_
      refine pl fun K_103 hK104 => ?_
      refine st_call HE102 (wt0 rfl) rfl rfl rfl en_19 rfl rfl (eq_SInstr_c _ _ _ _ ((mapRegs a0 a1).1) ((mapRegs a0 a1).1) _ (HH86.sl (i := 0) rfl) (HH86.sl (i := 3) rfl)) fun e w' hr => ?_
      obtain ⟨rfl, hbr30⟩ := hr
      have HH105 := HH86.on hbr30
      clear hbr30
      refine ⟨_, rfl, fun a_106 HE107 => hK104 _ _ ?_⟩
      refine pl_x HE107 HH105 (wt0 rfl) (x_not rfl) rfl rfl fun a_108 HE109 => ?_
      refine pl_x HE109 HH105 (wt0 rfl) (x_move rfl) rfl rfl fun a_110 HE111 => ?_
      refine pl_x HE111 HH105 (wtT HE111 rfl rfl rfl (not_f (eq_SInstr_refl _))) (x_move rfl) rfl rfl fun a_112 HE113 => ?_
      refine pl_x HE113 HH105 (wtT HE113 rfl rfl rfl (not_f (eq_SInstr_refl _))) (x_move rfl) rfl rfl fun a_114 HE115 => ?_
      refine pl_x HE115 HH105 (wtT HE115 rfl rfl rfl (not_f (eq_SInstr_refl _))) (x_neq rfl rfl) rfl rfl fun a_116 HE117 => ?_
      refine pl_x HE117 HH105 (wt0 rfl) (x_pickF rfl (not_f (eq_SInstr_refl _)) rfl) rfl rfl fun a_118 HE119 => ?_
      refine wpList_nil ?_
      clear a_97 HE98 a_99 HE100 HH86 a_101 HE102 a_106 HE107 a_108 HE109 a_110 HE111 a_112 HE113 a_114 HE115 a_116 HE117 hK104 K_103
      refine nrm ?_
      refine cndF HE119 rfl (bne_f rfl) ?_
      refine wp_skip ?_
      refine nrm ?_
      refine wp_seq ?_
      refine wp_seq ?_
      refine rg ?_
      refine pl_x HE119 HH105 (wt0 rfl) (x_move rfl) rfl rfl fun a_120 HE121 => ?_
      refine pl_x HE121 HH105 (wt0 rfl) (x_move rfl) rfl rfl fun a_122 HE123 => ?_
      refine pl fun K_124 hK125 => ?_
      refine st_call HE123 (wt0 rfl) rfl rfl rfl en_17 rfl rfl (to_InstrS _ _ a0 _ (HH105.old h0) (by omega)) fun e w' hr => ?_
      obtain ⟨Ar31, cr31, rfl, hor31, hbr31⟩ := hr
      obtain ⟨Sr31, HH126⟩ := HH105.newS hbr31 hor31
      clear hbr31 hor31
      refine ⟨_, rfl, fun a_127 HE128 => hK125 _ _ ?_⟩
      refine pl fun K_129 hK130 => ?_
      refine st_call HE128 (wt0 rfl) rfl rfl rfl en_19 rfl rfl (eq_SInstr_c _ _ _ _ a0 a0 _ (HH126.sl (i := 3) rfl) (HH126.sl (i := 0) rfl)) fun e w' hr => ?_
      obtain ⟨rfl, hbr32⟩ := hr
      have HH131 := HH126.on hbr32
      clear hbr32
      refine ⟨_, rfl, fun a_132 HE133 => hK130 _ _ ?_⟩
      refine pl_x HE133 HH131 (wt0 rfl) (x_not rfl) rfl rfl fun a_134 HE135 => ?_
      refine wpList_nil ?_
      clear a_118 HE119 a_120 HE121 HH105 a_122 HE123 K_124 hK125 HH126 a_127 HE128 a_132 HE133 hK130 K_129
      refine nrm ?_
      refine cndF HE135 rfl (not_f (eq_SInstr_refl _)) ?_
      refine wp_skip ?_
      refine nrm ?_
      refine wp_seq ?_
      refine wp_seq ?_
      refine rg ?_
      refine pl_x HE135 HH131 (wt0 rfl) (x_move rfl) rfl rfl fun a_136 HE137 => ?_
      refine pl_x HE137 HH131 (wt0 rfl) (x_move rfl) rfl rfl fun a_138 HE139 => ?_
      refine pl fun K_140 hK141 => ?_
      refine st_call HE139 (wt0 rfl) rfl rfl rfl en_48 rfl rfl (to_Int64S _ _ a1 _ (HH131.old h1) (by omega)) fun e w' hr => ?_
      obtain ⟨Ar33, cr33, rfl, hor33, hbr33⟩ := hr
      obtain ⟨Sr33, HH142⟩ := HH131.newS hbr33 hor33
      clear hbr33 hor33
      refine ⟨_, rfl, fun a_143 HE144 => hK141 _ _ ?_⟩
      refine pl fun K_145 hK146 => ?_
      refine st_call HE144 (wt0 rfl) rfl rfl rfl en_24 rfl rfl (eq_L_c _ _ _ _ a1 a1 _ (HH142.sl (i := 3) rfl) (HH142.sl (i := 0) rfl)) fun e w' hr => ?_
      obtain ⟨rfl, hbr34⟩ := hr
      have HH147 := HH142.on hbr34
      clear hbr34
      refine ⟨_, rfl, fun a_148 HE149 => hK146 _ _ ?_⟩
      refine pl_x HE149 HH147 (wt0 rfl) (x_not rfl) rfl rfl fun a_150 HE151 => ?_
      refine wpList_nil ?_
      clear a_134 HE135 a_136 HE137 HH131 a_138 HE139 K_140 hK141 HH142 a_143 HE144 a_148 HE149 hK146 K_145
      refine nrm ?_
      refine cndF HE151 rfl (not_f (eq_L_refl _)) ?_
      refine wp_skip ?_
      refine nrm ?_
      refine wp_seq ?_
      refine rg ?_
      refine pl_x HE151 HH147 (wt0 rfl) (x_assign rfl) rfl rfl fun a_152 HE153 => ?_
      refine wpList_nil ?_
      clear a_150 HE151
      refine nrm ?_
      refine wp_seq ?_
      refine rg ?_
      refine pl_x HE153 HH147 (wt0 rfl) (x_move rfl) rfl rfl fun a_154 HE155 => ?_
      refine pl_x HE155 HH147 (wt0 rfl) (x_move rfl) rfl rfl fun a_156 HE157 => ?_
      refine pl fun K_158 hK159 => ?_
      refine st_call HE157 (wt0 rfl) rfl rfl rfl en_20 rfl rfl (mark_SInstr_c _ _ a0 1 _ _ (so_of_o (HH147.get (i := 4) rfl)) (HH147.lt (i := 4) rfl) (by omega) (by omega)) fun e w' hr => ?_
      obtain ⟨rfl, hsr35, hcr35⟩ := hr
      have HH160 := HH147.mut (i := 4) rfl hcr35 (rSo eInstr Sr27 Ar27 cr27 (mk_SInstr a0 1)) (oSl hsr35) (fun b hb => .inl hb)
      clear hsr35 hcr35
      refine ⟨_, rfl, fun a_161 HE162 => hK159 _ _ ?_⟩
      refine pl_x HE162 HH160 (wt0 rfl) (x_assign rfl) rfl rfl fun a_163 HE164 => ?_
      refine wpList_nil ?_
      clear a_152 HE153 a_154 HE155 HH147 a_156 HE157 a_161 HE162 hK159 K_158
      refine nrm ?_
      refine wp_seq ?_
      refine rg ?_
      refine pl_x HE164 HH160 (wt0 rfl) (x_move rfl) rfl rfl fun a_165 HE166 => ?_
      refine pl_x HE166 HH160 (wt0 rfl) (x_move rfl) rfl rfl fun a_167 HE168 => ?_
      refine pl fun K_169 hK170 => ?_
      refine st_call HE168 (wt0 rfl) rfl rfl rfl en_25 rfl rfl (mark_L_c _ _ a1 (1 + (ct_SInstr a0 : Int)) _ _ (so_of_o (HH160.get (i := 3) rfl)) (HH160.lt (i := 3) rfl) (by omega) (by omega)) fun e w' hr => ?_
      obtain ⟨rfl, hsr36, hcr36⟩ := hr
      have HH171 := HH160.mut (i := 3) rfl hcr36 (rSo eInt Sr28 Ar28 cr28 (mk_L a1 (1 + (ct_SInstr a0 : Int)))) (oSl hsr36) (fun b hb => .inl hb)
      clear hsr36 hcr36
      refine ⟨_, rfl, fun a_172 HE173 => hK170 _ _ ?_⟩
      refine pl_x HE173 HH171 (wt0 rfl) (x_assign rfl) rfl rfl fun a_174 HE175 => ?_
      refine wpList_nil ?_
      clear a_163 HE164 a_165 HE166 HH160 a_167 HE168 a_172 HE173 hK170 K_169
      refine nrm ?_
      refine wp_seq ?_
      refine wp_seq ?_
      refine rg ?_
      refine pl_x HE175 HH171 (wt0 rfl) (x_move rfl) rfl rfl fun a_176 HE177 => ?_
      refine pl_x HE177 HH171 (wt0 rfl) (x_lss rfl rfl) rfl rfl fun a_178 HE179 => ?_
      refine pl_x HE179 HH171 (wt0 rfl) (x_move rfl) rfl rfl fun a_180 HE181 => ?_
      by_cases hc37 : ((1 + (ct_SInstr a0 : Int)) + (ct_L a1 : Int)) < 0
      · refine pl_no HE181 (wtF HE181 rfl rfl rfl (decide_eq_true hc37)) rfl rfl fun a_182 HE183 => ?_
        refine pl_no HE183 (wtF HE183 rfl rfl rfl (decide_eq_true hc37)) rfl rfl fun a_184 HE185 => ?_
        refine pl_no HE185 (wtF HE185 rfl rfl rfl (decide_eq_true hc37)) rfl rfl fun a_186 HE187 => ?_
        refine pl_no HE187 (wtF HE187 rfl rfl rfl (decide_eq_true hc37)) rfl rfl fun a_188 HE189 => ?_
        refine pl_x HE189 HH171 (wt0 rfl) (x_pickT rfl (decide_eq_true hc37) rfl) rfl rfl fun a_190 HE191 => ?_
        refine pl_x HE191 HH171 (wt0 rfl) (x_move rfl) rfl rfl fun a_192 HE193 => ?_
        refine pl_no HE193 (wtF HE193 rfl rfl rfl rfl) rfl rfl fun a_194 HE195 => ?_
        refine pl_no HE195 (wtF HE195 rfl rfl rfl rfl) rfl rfl fun a_196 HE197 => ?_
        refine pl_no HE197 (wtF HE197 rfl rfl rfl rfl) rfl rfl fun a_198 HE199 => ?_
        refine pl_x HE199 HH171 (wt0 rfl) (x_pickT rfl rfl rfl) rfl rfl fun a_200 HE201 => ?_
        refine wpList_nil ?_
        clear a_174 HE175 a_176 HE177 a_178 HE179 a_180 HE181 a_182 HE183 a_184 HE185 a_186 HE187 a_188 HE189 a_190 HE191 a_192 HE193 a_194 HE195 a_196 HE197 a_198 HE199
        refine nrm ?_
        refine cndT HE201 rfl rfl ?_
        refine wp_seq ?_
        refine rg ?_
        refine pl_x HE201 HH171 (wt0 rfl) (x_assign rfl) rfl rfl fun a_202 HE203 => ?_
        refine wpList_nil ?_
        clear a_200 HE201
        refine nrm ?_
        refine wp_ret ?_
        refine (thn_ret ?_)
        refine ret1 HE203 rfl (rv_tmp rfl) ?_
        have hF : true = false := by
          first | rfl | (exfalso; omega)
        exact ⟨by first | (rw [hF] <;> rfl) | rfl | (rw [hF]; simp only [Ending.returned.injEq, Value.slice.injEq, true_and, and_true]; first | omega | (simp; done)) | (rw [hF]; simp; omega), HH171.below⟩
      · refine pl_x HE181 HH171 (wtT HE181 rfl rfl rfl (decide_eq_false hc37)) (x_move rfl) rfl rfl fun a_204 HE205 => ?_
        refine pl_x HE205 HH171 (wtT HE205 rfl rfl rfl (decide_eq_false hc37)) (x_move rfl) rfl rfl fun a_206 HE207 => ?_
        refine pl fun K_208 hK209 => ?_
        refine st_call HE207 (wtT HE207 rfl rfl rfl (decide_eq_false hc37)) rfl rfl rfl en_19 rfl rfl (eq_SInstr_c _ _ _ _ ((mapRegs a0 a1).1) ((mapRegs a0 a1).1) _ (HH171.sl (i := 2) rfl) (HH171.sl (i := 5) rfl)) fun e w' hr => ?_
        obtain ⟨rfl, hbr38⟩ := hr
        have HH210 := HH171.on hbr38
        clear hbr38
        refine ⟨_, rfl, fun a_211 HE212 => hK209 _ _ ?_⟩
        refine pl_x HE212 HH210 (wtT HE212 rfl rfl rfl (decide_eq_false hc37)) (x_not rfl) rfl rfl fun a_213 HE214 => ?_
        refine pl_x HE214 HH210 (wt0 rfl) (x_pickF rfl (decide_eq_false hc37) rfl) rfl rfl fun a_215 HE216 => ?_
        refine pl_x HE216 HH210 (wt0 rfl) (x_move rfl) rfl rfl fun a_217 HE218 => ?_
        refine pl_x HE218 HH210 (wtT HE218 rfl rfl rfl (not_f (eq_SInstr_refl _))) (x_move rfl) rfl rfl fun a_219 HE220 => ?_
        refine pl_x HE220 HH210 (wtT HE220 rfl rfl rfl (not_f (eq_SInstr_refl _))) (x_move rfl) rfl rfl fun a_221 HE222 => ?_
        refine pl_x HE222 HH210 (wtT HE222 rfl rfl rfl (not_f (eq_SInstr_refl _))) (x_neq rfl rfl) rfl rfl fun a_223 HE224 => ?_
        refine pl_x HE224 HH210 (wt0 rfl) (x_pickF rfl (not_f (eq_SInstr_refl _)) rfl) rfl rfl fun a_225 HE226 => ?_
        refine wpList_nil ?_
        clear a_174 HE175 a_176 HE177 a_178 HE179 a_180 HE181 a_204 HE205 HH171 a_206 HE207 a_211 HE212 a_213 HE214 a_215 HE216 a_217 HE218 a_219 HE220 a_221 HE222 a_223 HE224 hK209 K_208
        refine nrm ?_
        refine cndF HE226 rfl (bne_f rfl) ?_
        refine wp_skip ?_
        refine nrm ?_
        refine wp_seq ?_
        refine rg ?_
        refine pl_x HE226 HH210 (wt0 rfl) (x_assign rfl) rfl rfl fun a_227 HE228 => ?_
        refine wpList_nil ?_
        clear a_225 HE226
        refine nrm ?_
        refine wp_seq ?_
        refine rg ?_
        refine pl_x HE228 HH210 (wt0 rfl) (x_move rfl) rfl rfl fun a_229 HE230 => ?_
        refine pl_x HE230 HH210 (wt0 rfl) (x_move rfl) rfl rfl fun a_231 HE232 => ?_
        refine pl fun K_233 hK234 => ?_
        refine st_call HE232 (wt0 rfl) rfl rfl rfl en_20 rfl rfl (mark_SInstr_c _ _ ((mapRegs a0 a1).1) 1 _ _ (so_of_o (HH210.get (i := 2) rfl)) (HH210.lt (i := 2) rfl) (by omega) (by omega)) fun e w' hr => ?_
        obtain ⟨rfl, hsr39, hcr39⟩ := hr
        have HH235 := HH210.mut (i := 2) rfl hcr39 (rSo eInstr Sr29 Ar29_0 cr29_0 (mk_SInstr ((mapRegs a0 a1).1) 1)) (oSl hsr39) (fun b hb => .inl hb)
        clear hsr39 hcr39
        refine ⟨_, rfl, fun a_236 HE237 => hK234 _ _ ?_⟩
        refine pl_x HE237 HH235 (wt0 rfl) (x_assign rfl) rfl rfl fun a_238 HE239 => ?_
        refine wpList_nil ?_
        clear a_227 HE228 a_229 HE230 HH210 a_231 HE232 a_236 HE237 hK234 K_233
        refine nrm ?_
        refine wp_seq ?_
        refine rg ?_
        refine pl_x HE239 HH235 (wt0 rfl) (x_assign rfl) rfl rfl fun a_240 HE241 => ?_
        refine wpList_nil ?_
        clear a_238 HE239
        refine nrm ?_
        refine wp_seq ?_
        refine rg ?_
        refine pl_x HE241 HH235 (wt0 rfl) (x_move rfl) rfl rfl fun a_242 HE243 => ?_
        refine pl_x HE243 HH235 (wt0 rfl) (x_move rfl) rfl rfl fun a_244 HE245 => ?_
        refine pl fun K_246 hK247 => ?_
        refine st_call HE245 (wt0 rfl) rfl rfl rfl en_21 rfl rfl (held_SInstr_c _ _ ((mapRegs a0 a1).1) 1 _ (HH235.sl (i := 2) rfl) (by omega) (by omega)) fun e w' hr => ?_
        obtain ⟨rfl, hbr40⟩ := hr
        have HH248 := HH235.on hbr40
        clear hbr40
        refine ⟨_, rfl, fun a_249 HE250 => hK247 _ _ ?_⟩
        refine pl_x HE250 HH248 (wt0 rfl) (x_assign rfl) rfl rfl fun a_251 HE252 => ?_
        refine wpList_nil ?_
        clear a_240 HE241 a_242 HE243 HH235 a_244 HE245 a_249 HE250 hK247 K_246
        refine nrm ?_
        refine wp_seq ?_
        refine wp_seq ?_
        refine rg ?_
        refine pl_x HE252 HH248 (wt0 rfl) (x_move rfl) rfl rfl fun a_253 HE254 => ?_
        refine pl_x HE254 HH248 (wt0 rfl) (x_lss rfl rfl) rfl rfl fun a_255 HE256 => ?_
        refine wpList_nil ?_
        clear a_251 HE252 a_253 HE254
        refine nrm ?_
        refine cnd_d HE256 rfl (fun hc41 => ?_) (fun hc41 => ?_)
        · refine wp_seq ?_
          refine rg ?_
          refine pl_x HE256 HH248 (wt0 rfl) (x_assign rfl) rfl rfl fun a_257 HE258 => ?_
          refine wpList_nil ?_
          clear a_255 HE256
          refine nrm ?_
          refine wp_ret ?_
          refine (thn_ret ?_)
          refine ret1 HE258 rfl (rv_tmp rfl) ?_
          have hF : true = false := by
            first | rfl | (exfalso; omega)
          exact ⟨by first | (rw [hF] <;> rfl) | rfl | (rw [hF]; simp only [Ending.returned.injEq, Value.slice.injEq, true_and, and_true]; first | omega | (simp; done)) | (rw [hF]; simp; omega), HH248.below⟩
        · refine wp_skip ?_
          refine nrm ?_
          refine wp_seq ?_
          refine wp_seq ?_
          refine rg ?_
          refine pl_x HE256 HH248 (wt0 rfl) (x_move rfl) rfl rfl fun a_259 HE260 => ?_
          refine pl_x HE260 HH248 (wt0 rfl) (x_move rfl) rfl rfl fun a_261 HE262 => ?_
          refine pl_x HE262 HH248 (wt0 rfl) (x_neq rfl rfl) rfl rfl fun a_263 HE264 => ?_
          refine wpList_nil ?_
          clear a_255 HE256 a_259 HE260 a_261 HE262
          refine nrm ?_
          refine cndF HE264 rfl (bne_f rfl) ?_
          refine wp_skip ?_
          refine nrm ?_
          refine wp_seq ?_
          refine rg ?_
          refine pl_x HE264 HH248 (wt0 rfl) (x_move rfl) rfl rfl fun a_265 HE266 => ?_
          refine pl fun K_267 hK268 => ?_
          refine st_call HE266 (wt0 rfl) rfl rfl rfl en_17 rfl rfl (to_InstrS _ _ a0 _ (HH248.old h0) (by omega)) fun e w' hr => ?_
          obtain ⟨Ar42, cr42, rfl, hor42, hbr42⟩ := hr
          obtain ⟨Sr42, HH269⟩ := HH248.newS hbr42 hor42
          clear hbr42 hor42
          refine ⟨_, rfl, fun a_270 HE271 => hK268 _ _ ?_⟩
          refine pl_x HE271 HH269 (wt0 rfl) (x_move rfl) rfl rfl fun a_272 HE273 => ?_
          refine pl fun K_274 hK275 => ?_
          refine st_call HE273 (wt0 rfl) rfl rfl rfl en_48 rfl rfl (to_Int64S _ _ a1 _ (HH269.old h1) (by omega)) fun e w' hr => ?_
          obtain ⟨Ar43, cr43, rfl, hor43, hbr43⟩ := hr
          obtain ⟨Sr43, HH276⟩ := HH269.newS hbr43 hor43
          clear hbr43 hor43
          refine ⟨_, rfl, fun a_277 HE278 => hK275 _ _ ?_⟩
          refine pl fun K_279 hK280 => ?_
          refine st_call HE278 (wt0 rfl) rfl rfl rfl en_75 rfl rfl (impl_MapRegisters _ _ a0 _ _ a1 _ (HH276.sl (i := 1) rfl) (HH276.sl (i := 0) rfl)) fun e w' hr => ?_
          obtain ⟨Ar44_0, cr44_0, rfl, hor44_0, hbr44⟩ := hr
          obtain ⟨Sr44, HH281⟩ := HH276.newS hbr44 hor44_0
          refine ⟨_, rfl, fun a_282 HE283 => hK280 _ _ ?_⟩
          refine pl_x HE283 HH281 (wt0 rfl) (x_move rfl) rfl rfl fun a_284 HE285 => ?_
          refine pl_x HE285 HH281 (wt0 rfl) (x_extract rfl rfl) rfl rfl fun a_286 HE287 => ?_
          refine pl_x HE287 HH281 (wt0 rfl) (x_extract rfl rfl) rfl rfl fun a_288 HE289 => ?_
          refine pl_x HE289 HH281 (wt0 rfl) (x_assign rfl) rfl rfl fun a_290 HE291 => ?_
          refine pl_x HE291 HH281 (wt0 rfl) (x_assign rfl) rfl rfl fun a_292 HE293 => ?_
          refine wpList_nil ?_
          clear a_263 HE264 HH248 a_265 HE266 a_270 HE271 K_267 hK268 HH269 a_272 HE273 K_274 hK275 HH276 a_277 HE278 a_282 HE283 a_284 HE285 a_286 HE287 a_288 HE289 a_290 HE291 hK280 K_279
          refine nrm ?_
          refine wp_seq ?_
          refine wp_seq ?_
          refine rg ?_
          refine pl_x HE293 HH281 (wt0 rfl) (x_move rfl) rfl rfl fun a_294 HE295 => ?_
          refine pl_x HE295 HH281 (wt0 rfl) (x_move rfl) rfl rfl fun a_296 HE297 => ?_
          refine pl fun K_298 hK299 => ?_
          refine st_call HE297 (wt0 rfl) rfl rfl rfl en_19 rfl rfl (eq_SInstr_c _ _ _ _ ((mapRegs a0 a1).1) ((mapRegs a0 a1).1) _ (HH281.sl (i := 0) rfl) (HH281.sl (i := 8) rfl)) fun e w' hr => ?_
          obtain ⟨rfl, hbr45⟩ := hr
          have HH300 := HH281.on hbr45
          clear hbr45
          refine ⟨_, rfl, fun a_301 HE302 => hK299 _ _ ?_⟩
          refine pl_x HE302 HH300 (wt0 rfl) (x_not rfl) rfl rfl fun a_303 HE304 => ?_
          refine pl_x HE304 HH300 (wt0 rfl) (x_move rfl) rfl rfl fun a_305 HE306 => ?_
          refine pl_x HE306 HH300 (wtT HE306 rfl rfl rfl (not_f (eq_SInstr_refl _))) (x_move rfl) rfl rfl fun a_307 HE308 => ?_
          refine pl_x HE308 HH300 (wtT HE308 rfl rfl rfl (not_f (eq_SInstr_refl _))) (x_move rfl) rfl rfl fun a_309 HE310 => ?_
          refine pl_x HE310 HH300 (wtT HE310 rfl rfl rfl (not_f (eq_SInstr_refl _))) (x_neq rfl rfl) rfl rfl fun a_311 HE312 => ?_
          refine pl_x HE312 HH300 (wt0 rfl) (x_pickF rfl (not_f (eq_SInstr_refl _)) rfl) rfl rfl fun a_313 HE314 => ?_
          refine wpList_nil ?_
          clear a_292 HE293 a_294 HE295 HH281 a_296 HE297 a_301 HE302 a_303 HE304 a_305 HE306 a_307 HE308 a_309 HE310 a_311 HE312 hK299 K_298
          refine nrm ?_
          refine cndF HE314 rfl (bne_f rfl) ?_
          refine wp_skip ?_
          refine nrm ?_
          refine wp_seq ?_
          refine rg ?_
          refine pl_x HE314 HH300 (wt0 rfl) (x_assign rfl) rfl rfl fun a_315 HE316 => ?_
          refine wpList_nil ?_
          clear a_313 HE314
          refine nrm ?_
          refine wp_seq ?_
          refine rg ?_
          refine pl_x HE316 HH300 (wt0 rfl) (x_move rfl) rfl rfl fun a_317 HE318 => ?_
          refine pl_x HE318 HH300 (wt0 rfl) (x_move rfl) rfl rfl fun a_319 HE320 => ?_
          refine pl fun K_321 hK322 => ?_
          refine st_call HE320 (wt0 rfl) rfl rfl rfl en_21 rfl rfl (held_SInstr_c _ _ ((mapRegs a0 a1).1) 1 _ (HH300.sl (i := 5) rfl) (by omega) (by omega)) fun e w' hr => ?_
          obtain ⟨rfl, hbr46⟩ := hr
          have HH323 := HH300.on hbr46
          clear hbr46
          refine ⟨_, rfl, fun a_324 HE325 => hK322 _ _ ?_⟩
          refine pl_x HE325 HH323 (wt0 rfl) (x_assign rfl) rfl rfl fun a_326 HE327 => ?_
          refine wpList_nil ?_
          clear a_315 HE316 a_317 HE318 HH300 a_319 HE320 a_324 HE325 hK322 K_321
          refine nrm ?_
          refine wp_seq ?_
          refine wp_seq ?_
          refine rg ?_
          refine pl_x HE327 HH323 (wt0 rfl) (x_move rfl) rfl rfl fun a_328 HE329 => ?_
          refine pl_x HE329 HH323 (wt0 rfl) (x_lss rfl rfl) rfl rfl fun a_330 HE331 => ?_
          refine wpList_nil ?_
          clear a_326 HE327 a_328 HE329
          refine nrm ?_
          refine cndF HE331 rfl (decide_eq_false hc41) ?_
          refine wp_skip ?_
          refine nrm ?_
          refine wp_seq ?_
          refine wp_seq ?_
          refine rg ?_
          refine pl_x HE331 HH323 (wt0 rfl) (x_move rfl) rfl rfl fun a_332 HE333 => ?_
          refine pl_x HE333 HH323 (wt0 rfl) (x_move rfl) rfl rfl fun a_334 HE335 => ?_
          refine pl_x HE335 HH323 (wt0 rfl) (x_neq rfl rfl) rfl rfl fun a_336 HE337 => ?_
          refine wpList_nil ?_
          clear a_330 HE331 a_332 HE333 a_334 HE335
          refine nrm ?_
          refine cndF HE337 rfl (bne_f rfl) ?_
          refine wp_skip ?_
          refine nrm ?_
          refine wp_seq ?_
          refine rg ?_
          refine pl_x HE337 HH323 (wt0 rfl) (x_assign rfl) rfl rfl fun a_338 HE339 => ?_
          refine wpList_nil ?_
          clear a_336 HE337
          refine nrm ?_
          refine wp_ret ?_
          refine ret1 HE339 rfl (rv_tmp rfl) ?_
          have hF : true = true := by
            first | rfl | (exfalso; omega)
          exact ⟨by first | (rw [hF] <;> rfl) | rfl | (rw [hF]; simp only [Ending.returned.injEq, Value.slice.injEq, true_and, and_true]; first | omega | (simp; done)) | (rw [hF]; simp; omega), HH323.below⟩

end Go.Proofs.Ytnokeoejlfodkaa
