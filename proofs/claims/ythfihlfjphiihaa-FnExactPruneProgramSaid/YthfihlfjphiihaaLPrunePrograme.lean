/- What the proof of FnExactPruneProgram needs: contracts of the functions that it reaches, each once. -/
import Derived.Test.YthfihlfjphiihaaProg
import Derived.Test.YthfihlfjphiihaaQMem
import Derived.Test.YthfihlfjphiihaaQOpen
import Derived.Test.YthfihlfjphiihaaLPrunePrograma
import Derived.Test.YthfihlfjphiihaaLPruneProgramb
import Derived.Test.YthfihlfjphiihaaLPruneProgramc
import Derived.Test.YthfihlfjphiihaaLPruneProgramd
import Derived.WalkKit
import Derived.WalkSpells
import Derived.Below
import Derived.LoopTactic
import Derived.Outline
import Derived.Deep.QuietTactic
import Derived.BigQuiet
import Derived.Deep.LoopGhost
import Derived.Handy
import Derived.Lib.Hide
import Derived.Shelf.Abstract
import Derived.StillTailTactics
import Derived.OwnWalk
import Derived.Maps.AppendAt
import Derived.RegionTactic
import Derived.Deep.RegionHeld3
import Derived.IntWalk
import Derived.Deep.Upon
import Derived.Laws.OwnMore
import Derived.Maps.AppendAt
import Derived.Laws.Small
import Derived.Lib.FrozenHead
import Derived.Lib.RuneBytes
import Derived.Lib.LaidTab
import Derived.Laws.StructEq
import Derived.Lib.SliceRun
import Derived.Lib.AppendZeros
import Derived.Shelf.SortG.Plain
import Derived.Shelf.SortG.SortNone
import Derived.Shelf.SlicesG.CompactI
import Derived.Shelf.SlicesG.SearchI
import Derived.Sort.OwnSortedInts
import Derived.Lib.RowBridge
import Derived.Lib.ItoaLen
import Derived.Lib.Join
import Derived.Shelf.Strconv.Itoa4
import Derived.Shelf.Strings.OnBuilder
import Derived.Shelf.Strings.BuilderK
import Derived.Shelf.Strings.BuilderRune
import Derived.Shelf.LaysM
import Derived.Ground.NamesProg
namespace Go.Proofs.Ythfihlfjphiihaa
open Go.RowKit

set_option maxRecDepth 100000 in
set_option maxHeartbeats 4000000 in
theorem law_PruneProgram (A0 : Option Addr) (c0 : Nat) (a0 : (List tInstr)) (w : World) (h0 : Sl eInstr w (Old w) A0 c0 a0) :
    Calls Try.prog 4 #[.slice A0 a0.length c0] w fun e w' => e = .returned (.bool true) ∧ Below w.heap.size w w' := by
  have l0 := h0.len
  have m0 := ct_cost_SInstr a0
  have n0 : (ct_SInstr (pruneP a0).1 : Int) ≤ 1000000000 := pruneP_ct0 a0
  have n1 : (ct_L (pruneP a0).2.1 : Int) ≤ 1000000000 := pruneP_ct1 a0
  have HH1 := Held.start Nob w
  refine enter (n := 133) Try.func4 rfl rfl rfl fun a_2 HE3 => ?_
  refine wp_seq ?_
  refine rg ?_
  refine pl_x HE3 HH1 (wt0 rfl) (x_assign rfl) rfl rfl fun a_4 HE5 => ?_
  refine wpList_nil ?_
  clear a_2 HE3
  refine nrm ?_
  refine wp_seq ?_
  refine rg ?_
  refine pl_x HE5 HH1 (wt0 rfl) (x_assign rfl) rfl rfl fun a_6 HE7 => ?_
  refine wpList_nil ?_
  clear a_4 HE5
  refine nrm ?_
  refine wp_seq ?_
  refine rg ?_
  refine pl_x HE7 HH1 (wt0 rfl) (x_move rfl) rfl rfl fun a_8 HE9 => ?_
  refine pl_x HE9 HH1 (wt0 rfl) (x_move rfl) rfl rfl fun a_10 HE11 => ?_
  refine pl fun K_12 hK13 => ?_
  refine st_call HE11 (wt0 rfl) rfl rfl rfl en_16 rfl rfl (sz_InstrS _ _ a0 1048576 _ (HH1.old h0) (by omega) (by omega)) fun e w' hr => ?_
  obtain ⟨rfl, hbr21⟩ := hr
  have HH14 := HH1.on hbr21
  clear hbr21
  refine ⟨_, rfl, fun a_15 HE16 => hK13 _ _ ?_⟩
  refine pl_x HE16 HH14 (wt0 rfl) (x_assign rfl) rfl rfl fun a_17 HE18 => ?_
  refine wpList_nil ?_
  clear a_6 HE7 a_8 HE9 HH1 a_10 HE11 a_15 HE16 hK13 K_12
  refine nrm ?_
  refine wp_seq ?_
  refine wp_seq ?_
  refine rg ?_
  refine pl_x HE18 HH14 (wt0 rfl) (x_move rfl) rfl rfl fun a_19 HE20 => ?_
  refine pl_x HE20 HH14 (wt0 rfl) (x_lss rfl rfl) rfl rfl fun a_21 HE22 => ?_
  refine wpList_nil ?_
  clear a_17 HE18 a_19 HE20
  refine nrm ?_
  refine cnd_d HE22 rfl (fun hc22 => ?_) (fun hc22 => ?_)
  · refine wp_seq ?_
    refine rg ?_
    refine pl_x HE22 HH14 (wt0 rfl) (x_assign rfl) rfl rfl fun a_23 HE24 => ?_
    refine wpList_nil ?_
    clear a_21 HE22
    refine nrm ?_
    refine wp_ret ?_
    refine (thn_ret ?_)
    refine ret1 HE24 rfl (rv_tmp rfl) ?_
    have hF : true = true := by
      first | rfl | (exfalso; omega)
    exact ⟨by first | (rw [hF] <;> rfl) | rfl | (rw [hF]; simp only [Ending.returned.injEq, Value.slice.injEq, true_and, and_true]; first | omega | (simp; done)) | (rw [hF]; simp; omega), HH14.below⟩
  · have zr21 := left_ok hc22
    refine wp_skip ?_
    refine nrm ?_
    refine wp_seq ?_
    refine rg ?_
    refine pl_x HE22 HH14 (wt0 rfl) (x_move rfl) rfl rfl fun a_25 HE26 => ?_
    refine pl fun K_27 hK28 => ?_
    refine st_call HE26 (wt0 rfl) rfl rfl rfl en_18 rfl rfl (to_InstrS _ _ a0 _ (HH14.old h0) (by omega)) fun e w' hr => ?_
    obtain ⟨Ar23, cr23, rfl, hor23, hbr23⟩ := hr
    obtain ⟨Sr23, HH29⟩ := HH14.newS hbr23 hor23
    clear hbr23 hor23
    refine ⟨_, rfl, fun a_30 HE31 => hK28 _ _ ?_⟩
    refine pl fun K_32 hK33 => ?_
    refine st_call HE31 (wt0 rfl) rfl rfl rfl en_17 rfl rfl (spec_PruneProgram _ _ a0 _ (HH29.sl (i := 0) rfl)) fun e w' hr => ?_
    obtain ⟨Ar24_0, cr24_0, Sr24_0, Ar24_1, cr24_1, Sr24_1, rfl, hbr24⟩ := hr
    have HH34 := HH29.app hbr24
    clear hbr24
    have HH35 : Held Nob w ([rSo eInstr Sr24_0 Ar24_0 cr24_0 ((pruneP a0).1), rSo eInt Sr24_1 Ar24_1 cr24_1 ((pruneP a0).2.1), rSo eInstr Sr23 Ar23 cr23 a0]) _ := HH34
    refine ⟨_, rfl, fun a_36 HE37 => hK33 _ _ ?_⟩
    refine pl_x HE37 HH35 (wt0 rfl) (x_move rfl) rfl rfl fun a_38 HE39 => ?_
    refine pl_x HE39 HH35 (wt0 rfl) (x_extract rfl rfl) rfl rfl fun a_40 HE41 => ?_
    refine pl_x HE41 HH35 (wt0 rfl) (x_extract rfl rfl) rfl rfl fun a_42 HE43 => ?_
    refine pl_x HE43 HH35 (wt0 rfl) (x_extract rfl rfl) rfl rfl fun a_44 HE45 => ?_
    refine pl_x HE45 HH35 (wt0 rfl) (x_assign rfl) rfl rfl fun a_46 HE47 => ?_
    refine pl_x HE47 HH35 (wt0 rfl) (x_assign rfl) rfl rfl fun a_48 HE49 => ?_
    refine pl_x HE49 HH35 (wt0 rfl) (x_assign rfl) rfl rfl fun a_50 HE51 => ?_
    refine wpList_nil ?_
    clear a_21 HE22 HH14 a_25 HE26 K_27 hK28 HH29 HH34 a_30 HE31 a_36 HE37 a_38 HE39 a_40 HE41 a_42 HE43 a_44 HE45 a_46 HE47 a_48 HE49 hK33 K_32
    refine nrm ?_
    refine wp_seq ?_
    refine rg ?_
    refine pl_x HE51 HH35 (wt0 rfl) (x_move rfl) rfl rfl fun a_52 HE53 => ?_
    refine pl fun K_54 hK55 => ?_
    refine st_call HE53 (wt0 rfl) rfl rfl rfl en_18 rfl rfl (to_InstrS _ _ a0 _ (HH35.old h0) (by omega)) fun e w' hr => ?_
    obtain ⟨Ar25, cr25, rfl, hor25, hbr25⟩ := hr
    obtain ⟨Sr25, HH56⟩ := HH35.newS hbr25 hor25
    clear hbr25 hor25
    refine ⟨_, rfl, fun a_57 HE58 => hK55 _ _ ?_⟩
    refine pl_x HE58 HH56 (wt0 rfl) (x_assign rfl) rfl rfl fun a_59 HE60 => ?_
    refine wpList_nil ?_
    clear a_50 HE51 HH35 a_52 HE53 a_57 HE58 hK55 K_54
    refine nrm ?_
    refine wp_seq ?_
    refine rg ?_
    refine pl_x HE60 HH56 (wt0 rfl) (x_move rfl) rfl rfl fun a_61 HE62 => ?_
    refine pl fun K_63 hK64 => ?_
    refine st_call HE62 (wt0 rfl) rfl rfl rfl en_19 rfl rfl (impl_PruneProgram _ _ a0 _ (HH56.sl (i := 0) rfl)) fun e w' hr => ?_
    obtain ⟨Ar26_0, cr26_0, Sr26_0, Ar26_1, cr26_1, Sr26_1, rfl, hbr26⟩ := hr
    have HH65 := HH56.app hbr26
    clear hbr26
    have HH66 : Held Nob w ([rSo eInstr Sr26_0 Ar26_0 cr26_0 ((pruneP a0).1), rSo eInt Sr26_1 Ar26_1 cr26_1 ((pruneP a0).2.1), rSo eInstr Sr25 Ar25 cr25 a0, rSo eInstr Sr24_0 Ar24_0 cr24_0 ((pruneP a0).1), rSo eInt Sr24_1 Ar24_1 cr24_1 ((pruneP a0).2.1), rSo eInstr Sr23 Ar23 cr23 a0]) _ := HH65
    refine ⟨_, rfl, fun a_67 HE68 => hK64 _ _ ?_⟩
    refine pl_x HE68 HH66 (wt0 rfl) (x_move rfl) rfl rfl fun a_69 HE70 => ?_
    refine pl_x HE70 HH66 (wt0 rfl) (x_extract rfl rfl) rfl rfl fun a_71 HE72 => ?_
    refine pl_x HE72 HH66 (wt0 rfl) (x_extract rfl rfl) rfl rfl fun a_73 HE74 => ?_
    refine pl_x HE74 HH66 (wt0 rfl) (x_extract rfl rfl) rfl rfl fun a_75 HE76 => ?_
    refine pl_x HE76 HH66 (wt0 rfl) (x_assign rfl) rfl rfl fun a_77 HE78 => ?_
    refine pl_x HE78 HH66 (wt0 rfl) (x_assign rfl) rfl rfl fun a_79 HE80 => ?_
    refine pl_x HE80 HH66 (wt0 rfl) (x_assign rfl) rfl rfl fun a_81 HE82 => ?_
    refine wpList_nil ?_
    clear a_59 HE60 HH56 HH65 a_61 HE62 a_67 HE68 a_69 HE70 a_71 HE72 a_73 HE74 a_75 HE76 a_77 HE78 a_79 HE80 hK64 K_63
    refine nrm ?_
    refine wp_seq ?_
    refine wp_seq ?_
    refine rg ?_
    refine pl_x HE82 HH66 (wt0 rfl) (x_move rfl) rfl rfl fun a_83 HE84 => ?_
    refine pl_x HE84 HH66 (wt0 rfl) (x_move rfl) rfl rfl fun a_85 HE86 => ?_
    refine pl fun K_87 hK88 => ?_
    refine st_call HE86 (wt0 rfl) rfl rfl rfl en_20 rfl rfl (eq_SInstr_c _ _ _ _ ((pruneP a0).1) ((pruneP a0).1) _ (HH66.sl (i := 0) rfl) (HH66.sl (i := 3) rfl)) fun e w' hr => ?_
    obtain ⟨rfl, hbr27⟩ := hr
    have HH89 := HH66.on hbr27
    clear hbr27
    refine ⟨_, rfl, fun a_90 HE91 => hK88 _ _ ?_⟩
    refine pl_x HE91 HH89 (wt0 rfl) (x_not rfl) rfl rfl fun a_92 HE93 => ?_
    refine pl_x HE93 HH89 (wt0 rfl) (x_move rfl) rfl rfl fun a_94 HE95 => ?_
    refine pl_x HE95 HH89 (wtT HE95 rfl rfl rfl (not_f (eq_SInstr_refl _))) (x_move rfl) rfl rfl fun a_96 HE97 => ?_
    refine pl_x HE97 HH89 (wtT HE97 rfl rfl rfl (not_f (eq_SInstr_refl _))) (x_move rfl) rfl rfl fun a_98 HE99 => ?_
    refine pl fun K_100 hK101 => ?_
    refine st_call HE99 (wtT HE99 rfl rfl rfl (not_f (eq_SInstr_refl _))) rfl rfl rfl en_21 rfl rfl (eq_L_c _ _ _ _ ((pruneP a0).2.1) ((pruneP a0).2.1) _ (HH89.sl (i := 1) rfl) (HH89.sl (i := 4) rfl)) fun e w' hr => ?_
    obtain ⟨rfl, hbr28⟩ := hr
    have HH102 := HH89.on hbr28
    clear hbr28
    refine ⟨_, rfl, fun a_103 HE104 => hK101 _ _ ?_⟩
    refine pl_x HE104 HH102 (wtT HE104 rfl rfl rfl (not_f (eq_SInstr_refl _))) (x_not rfl) rfl rfl fun a_105 HE106 => ?_
    refine pl_x HE106 HH102 (wt0 rfl) (x_pickF rfl (not_f (eq_SInstr_refl _)) rfl) rfl rfl fun a_107 HE108 => ?_
    refine pl_x HE108 HH102 (wt0 rfl) (x_move rfl) rfl rfl fun a_109 HE110 => ?_
    refine pl_x HE110 HH102 (wtT HE110 rfl rfl rfl (not_f (eq_L_refl _))) (x_move rfl) rfl rfl fun a_111 HE112 => ?_
    refine pl_x HE112 HH102 (wtT HE112 rfl rfl rfl (not_f (eq_L_refl _))) (x_move rfl) rfl rfl fun a_113 HE114 => ?_
    refine pl_x HE114 HH102 (wtT HE114 rfl rfl rfl (not_f (eq_L_refl _))) (x_neq rfl rfl) rfl rfl fun a_115 HE116 => ?_
    refine pl_x HE116 HH102 (wt0 rfl) (x_pickF rfl (not_f (eq_L_refl _)) rfl) rfl rfl fun a_117 HE118 => ?_
    refine wpList_nil ?_
    clear a_81 HE82 a_83 HE84 HH66 a_85 HE86 a_90 HE91 a_92 HE93 a_94 HE95 a_96 HE97 K_87 hK88 HH89 a_98 HE99 a_103 HE104 a_105 HE106 a_107 HE108 a_109 HE110 a_111 HE112 a_113 HE114 a_115 HE116 hK101 K_100
    refine nrm ?_
    refine cndF HE118 rfl (bne_f rfl) ?_
    refine wp_skip ?_
    refine nrm ?_
    refine wp_seq ?_
    refine wp_seq ?_
    refine rg ?_
    refine pl_x HE118 HH102 (wt0 rfl) (x_move rfl) rfl rfl fun a_119 HE120 => ?_
    refine pl_x HE120 HH102 (wt0 rfl) (x_move rfl) rfl rfl fun a_121 HE122 => ?_
    refine pl fun K_123 hK124 => ?_
    refine st_call HE122 (wt0 rfl) rfl rfl rfl en_18 rfl rfl (to_InstrS _ _ a0 _ (HH102.old h0) (by omega)) fun e w' hr => ?_
    obtain ⟨Ar29, cr29, rfl, hor29, hbr29⟩ := hr
    obtain ⟨Sr29, HH125⟩ := HH102.newS hbr29 hor29
    clear hbr29 hor29
    refine ⟨_, rfl, fun a_126 HE127 => hK124 _ _ ?_⟩
    refine pl fun K_128 hK129 => ?_
    refine st_call HE127 (wt0 rfl) rfl rfl rfl en_20 rfl rfl (eq_SInstr_c _ _ _ _ a0 a0 _ (HH125.sl (i := 3) rfl) (HH125.sl (i := 0) rfl)) fun e w' hr => ?_
    obtain ⟨rfl, hbr30⟩ := hr
    have HH130 := HH125.on hbr30
    clear hbr30
    refine ⟨_, rfl, fun a_131 HE132 => hK129 _ _ ?_⟩
    refine pl_x HE132 HH130 (wt0 rfl) (x_not rfl) rfl rfl fun a_133 HE134 => ?_
    refine wpList_nil ?_
    clear a_117 HE118 a_119 HE120 HH102 a_121 HE122 K_123 hK124 HH125 a_126 HE127 a_131 HE132 hK129 K_128
    refine nrm ?_
    refine cndF HE134 rfl (not_f (eq_SInstr_refl _)) ?_
    refine wp_skip ?_
    refine nrm ?_
    refine wp_seq ?_
    refine rg ?_
    refine pl_x HE134 HH130 (wt0 rfl) (x_assign rfl) rfl rfl fun a_135 HE136 => ?_
    refine wpList_nil ?_
    clear a_133 HE134
    refine nrm ?_
    refine wp_seq ?_
    refine rg ?_
    refine pl_x HE136 HH130 (wt0 rfl) (x_move rfl) rfl rfl fun a_137 HE138 => ?_
    refine pl_x HE138 HH130 (wt0 rfl) (x_move rfl) rfl rfl fun a_139 HE140 => ?_
    refine pl fun K_141 hK142 => ?_
    refine st_call HE140 (wt0 rfl) rfl rfl rfl en_22 rfl rfl (mark_SInstr_c _ _ a0 1 _ _ (so_of_o (HH130.get (i := 3) rfl)) (HH130.lt (i := 3) rfl) (by omega) (by omega)) fun e w' hr => ?_
    obtain ⟨rfl, hsr31, hcr31⟩ := hr
    have HH143 := HH130.mut (i := 3) rfl hcr31 (rSo eInstr Sr25 Ar25 cr25 (mk_SInstr a0 1)) (oSl hsr31) (fun b hb => .inl hb)
    clear hsr31 hcr31
    refine ⟨_, rfl, fun a_144 HE145 => hK142 _ _ ?_⟩
    refine pl_x HE145 HH143 (wt0 rfl) (x_assign rfl) rfl rfl fun a_146 HE147 => ?_
    refine wpList_nil ?_
    clear a_135 HE136 a_137 HE138 HH130 a_139 HE140 a_144 HE145 hK142 K_141
    refine nrm ?_
    refine wp_seq ?_
    refine wp_seq ?_
    refine rg ?_
    refine pl_x HE147 HH143 (wt0 rfl) (x_move rfl) rfl rfl fun a_148 HE149 => ?_
    refine pl_x HE149 HH143 (wt0 rfl) (x_lss rfl rfl) rfl rfl fun a_150 HE151 => ?_
    refine pl_x HE151 HH143 (wt0 rfl) (x_move rfl) rfl rfl fun a_152 HE153 => ?_
    by_cases hc32 : (1 + (ct_SInstr a0 : Int)) < 0
    · refine pl_no HE153 (wtF HE153 rfl rfl rfl (decide_eq_true hc32)) rfl rfl fun a_154 HE155 => ?_
      refine pl_no HE155 (wtF HE155 rfl rfl rfl (decide_eq_true hc32)) rfl rfl fun a_156 HE157 => ?_
      refine pl_no HE157 (wtF HE157 rfl rfl rfl (decide_eq_true hc32)) rfl rfl fun a_158 HE159 => ?_
      refine pl_no HE159 (wtF HE159 rfl rfl rfl (decide_eq_true hc32)) rfl rfl fun a_160 HE161 => ?_
      refine pl_x HE161 HH143 (wt0 rfl) (x_pickT rfl (decide_eq_true hc32) rfl) rfl rfl fun a_162 HE163 => ?_
      refine pl_x HE163 HH143 (wt0 rfl) (x_move rfl) rfl rfl fun a_164 HE165 => ?_
      refine pl_no HE165 (wtF HE165 rfl rfl rfl rfl) rfl rfl fun a_166 HE167 => ?_
      refine pl_no HE167 (wtF HE167 rfl rfl rfl rfl) rfl rfl fun a_168 HE169 => ?_
      refine pl_no HE169 (wtF HE169 rfl rfl rfl rfl) rfl rfl fun a_170 HE171 => ?_
      refine pl_no HE171 (wtF HE171 rfl rfl rfl rfl) rfl rfl fun a_172 HE173 => ?_
      refine pl_x HE173 HH143 (wt0 rfl) (x_pickT rfl rfl rfl) rfl rfl fun a_174 HE175 => ?_
      refine pl_x HE175 HH143 (wt0 rfl) (x_move rfl) rfl rfl fun a_176 HE177 => ?_
      refine pl_no HE177 (wtF HE177 rfl rfl rfl rfl) rfl rfl fun a_178 HE179 => ?_
      refine pl_no HE179 (wtF HE179 rfl rfl rfl rfl) rfl rfl fun a_180 HE181 => ?_
      refine pl_no HE181 (wtF HE181 rfl rfl rfl rfl) rfl rfl fun a_182 HE183 => ?_
      refine pl_x HE183 HH143 (wt0 rfl) (x_pickT rfl rfl rfl) rfl rfl fun a_184 HE185 => ?_
      refine wpList_nil ?_
      clear a_146 HE147 a_148 HE149 a_150 HE151 a_152 HE153 a_154 HE155 a_156 HE157 a_158 HE159 a_160 HE161 a_162 HE163 a_164 HE165 a_166 HE167 a_168 HE169 a_170 HE171 a_172 HE173 a_174 HE175 a_176 HE177 a_178 HE179 a_180 HE181 a_182 HE183
      refine nrm ?_
      refine cndT HE185 rfl rfl ?_
      refine wp_seq ?_
      refine rg ?_
      refine pl_x HE185 HH143 (wt0 rfl) (x_assign rfl) rfl rfl fun a_186 HE187 => ?_
      refine wpList_nil ?_
      clear a_184 HE185
      refine nrm ?_
      refine wp_ret ?_
      refine (thn_ret ?_)
      refine ret1 HE187 rfl (rv_tmp rfl) ?_
      have hF : true = false := by
        first | rfl | (exfalso; omega)
      exact ⟨by first | (rw [hF] <;> rfl) | rfl | (rw [hF]; simp only [Ending.returned.injEq, Value.slice.injEq, true_and, and_true]; first | omega | (simp; done)) | (rw [hF]; simp; omega), HH143.below⟩
    · refine pl_x HE153 HH143 (wtT HE153 rfl rfl rfl (decide_eq_false hc32)) (x_move rfl) rfl rfl fun a_188 HE189 => ?_
      refine pl_x HE189 HH143 (wtT HE189 rfl rfl rfl (decide_eq_false hc32)) (x_move rfl) rfl rfl fun a_190 HE191 => ?_
      refine pl fun K_192 hK193 => ?_
      refine st_call HE191 (wtT HE191 rfl rfl rfl (decide_eq_false hc32)) rfl rfl rfl en_20 rfl rfl (eq_SInstr_c _ _ _ _ ((pruneP a0).1) ((pruneP a0).1) _ (HH143.sl (i := 1) rfl) (HH143.sl (i := 4) rfl)) fun e w' hr => ?_
      obtain ⟨rfl, hbr33⟩ := hr
      have HH194 := HH143.on hbr33
      clear hbr33
      refine ⟨_, rfl, fun a_195 HE196 => hK193 _ _ ?_⟩
      refine pl_x HE196 HH194 (wtT HE196 rfl rfl rfl (decide_eq_false hc32)) (x_not rfl) rfl rfl fun a_197 HE198 => ?_
      refine pl_x HE198 HH194 (wt0 rfl) (x_pickF rfl (decide_eq_false hc32) rfl) rfl rfl fun a_199 HE200 => ?_
      refine pl_x HE200 HH194 (wt0 rfl) (x_move rfl) rfl rfl fun a_201 HE202 => ?_
      refine pl_x HE202 HH194 (wtT HE202 rfl rfl rfl (not_f (eq_SInstr_refl _))) (x_move rfl) rfl rfl fun a_203 HE204 => ?_
      refine pl_x HE204 HH194 (wtT HE204 rfl rfl rfl (not_f (eq_SInstr_refl _))) (x_move rfl) rfl rfl fun a_205 HE206 => ?_
      refine pl fun K_207 hK208 => ?_
      refine st_call HE206 (wtT HE206 rfl rfl rfl (not_f (eq_SInstr_refl _))) rfl rfl rfl en_21 rfl rfl (eq_L_c _ _ _ _ ((pruneP a0).2.1) ((pruneP a0).2.1) _ (HH194.sl (i := 2) rfl) (HH194.sl (i := 5) rfl)) fun e w' hr => ?_
      obtain ⟨rfl, hbr34⟩ := hr
      have HH209 := HH194.on hbr34
      clear hbr34
      refine ⟨_, rfl, fun a_210 HE211 => hK208 _ _ ?_⟩
      refine pl_x HE211 HH209 (wtT HE211 rfl rfl rfl (not_f (eq_SInstr_refl _))) (x_not rfl) rfl rfl fun a_212 HE213 => ?_
      refine pl_x HE213 HH209 (wt0 rfl) (x_pickF rfl (not_f (eq_SInstr_refl _)) rfl) rfl rfl fun a_214 HE215 => ?_
      refine pl_x HE215 HH209 (wt0 rfl) (x_move rfl) rfl rfl fun a_216 HE217 => ?_
      refine pl_x HE217 HH209 (wtT HE217 rfl rfl rfl (not_f (eq_L_refl _))) (x_move rfl) rfl rfl fun a_218 HE219 => ?_
      refine pl_x HE219 HH209 (wtT HE219 rfl rfl rfl (not_f (eq_L_refl _))) (x_move rfl) rfl rfl fun a_220 HE221 => ?_
      refine pl_x HE221 HH209 (wtT HE221 rfl rfl rfl (not_f (eq_L_refl _))) (x_neq rfl rfl) rfl rfl fun a_222 HE223 => ?_
      refine pl_x HE223 HH209 (wt0 rfl) (x_pickF rfl (not_f (eq_L_refl _)) rfl) rfl rfl fun a_224 HE225 => ?_
      refine wpList_nil ?_
      clear a_146 HE147 a_148 HE149 a_150 HE151 a_152 HE153 a_188 HE189 HH143 a_190 HE191 a_195 HE196 a_197 HE198 a_199 HE200 a_201 HE202 a_203 HE204 K_192 hK193 HH194 a_205 HE206 a_210 HE211 a_212 HE213 a_214 HE215 a_216 HE217 a_218 HE219 a_220 HE221 a_222 HE223 hK208 K_207
      refine nrm ?_
      refine cndF HE225 rfl (bne_f rfl) ?_
      refine wp_skip ?_
      refine nrm ?_
      refine wp_seq ?_
      refine rg ?_
      refine pl_x HE225 HH209 (wt0 rfl) (x_assign rfl) rfl rfl fun a_226 HE227 => ?_
      refine wpList_nil ?_
      clear a_224 HE225
      refine nrm ?_
      refine wp_seq ?_
      refine rg ?_
      refine pl_x HE227 HH209 (wt0 rfl) (x_move rfl) rfl rfl fun a_228 HE229 => ?_
      refine pl_x HE229 HH209 (wt0 rfl) (x_move rfl) rfl rfl fun a_230 HE231 => ?_
      refine pl fun K_232 hK233 => ?_
      refine st_call HE231 (wt0 rfl) rfl rfl rfl en_22 rfl rfl (mark_SInstr_c _ _ ((pruneP a0).1) 1 _ _ (so_of_o (HH209.get (i := 1) rfl)) (HH209.lt (i := 1) rfl) (by omega) (by omega)) fun e w' hr => ?_
      obtain ⟨rfl, hsr35, hcr35⟩ := hr
      have HH234 := HH209.mut (i := 1) rfl hcr35 (rSo eInstr Sr26_0 Ar26_0 cr26_0 (mk_SInstr ((pruneP a0).1) 1)) (oSl hsr35) (fun b hb => .inl hb)
      clear hsr35 hcr35
      refine ⟨_, rfl, fun a_235 HE236 => hK233 _ _ ?_⟩
      refine pl_x HE236 HH234 (wt0 rfl) (x_assign rfl) rfl rfl fun a_237 HE238 => ?_
      refine wpList_nil ?_
      clear a_226 HE227 a_228 HE229 HH209 a_230 HE231 a_235 HE236 hK233 K_232
      refine nrm ?_
      refine wp_seq ?_
      refine rg ?_
      refine pl_x HE238 HH234 (wt0 rfl) (x_move rfl) rfl rfl fun a_239 HE240 => ?_
      refine pl_x HE240 HH234 (wt0 rfl) (x_move rfl) rfl rfl fun a_241 HE242 => ?_
      refine pl fun K_243 hK244 => ?_
      refine st_call HE242 (wt0 rfl) rfl rfl rfl en_23 rfl rfl (mark_L_c _ _ ((pruneP a0).2.1) (1 + (ct_SInstr ((pruneP a0).1) : Int)) _ _ (so_of_o (HH234.get (i := 2) rfl)) (HH234.lt (i := 2) rfl) (by omega) (by omega)) fun e w' hr => ?_
      obtain ⟨rfl, hsr36, hcr36⟩ := hr
      have HH245 := HH234.mut (i := 2) rfl hcr36 (rSo eInt Sr26_1 Ar26_1 cr26_1 (mk_L ((pruneP a0).2.1) (1 + (ct_SInstr ((pruneP a0).1) : Int)))) (oSl hsr36) (fun b hb => .inl hb)
      clear hsr36 hcr36
      refine ⟨_, rfl, fun a_246 HE247 => hK244 _ _ ?_⟩
      refine pl_x HE247 HH245 (wt0 rfl) (x_assign rfl) rfl rfl fun a_248 HE249 => ?_
      refine wpList_nil ?_
      clear a_237 HE238 a_239 HE240 HH234 a_241 HE242 a_246 HE247 hK244 K_243
      refine nrm ?_
      refine wp_seq ?_
      refine rg ?_
      refine pl_x HE249 HH245 (wt0 rfl) (x_assign rfl) rfl rfl fun a_250 HE251 => ?_
      refine wpList_nil ?_
      clear a_248 HE249
      refine nrm ?_
      refine wp_seq ?_
      refine rg ?_
      refine pl_x HE251 HH245 (wt0 rfl) (x_move rfl) rfl rfl fun a_252 HE253 => ?_
      refine pl_x HE253 HH245 (wt0 rfl) (x_move rfl) rfl rfl fun a_254 HE255 => ?_
      refine pl fun K_256 hK257 => ?_
      refine st_call HE255 (wt0 rfl) rfl rfl rfl en_24 rfl rfl (held_SInstr_c _ _ ((pruneP a0).1) 1 _ (HH245.sl (i := 1) rfl) (by omega) (by omega)) fun e w' hr => ?_
      obtain ⟨rfl, hbr37⟩ := hr
      have HH258 := HH245.on hbr37
      clear hbr37
      refine ⟨_, rfl, fun a_259 HE260 => hK257 _ _ ?_⟩
      refine pl_x HE260 HH258 (wt0 rfl) (x_assign rfl) rfl rfl fun a_261 HE262 => ?_
      refine wpList_nil ?_
      clear a_250 HE251 a_252 HE253 HH245 a_254 HE255 a_259 HE260 hK257 K_256
      refine nrm ?_
      refine wp_seq ?_
      refine wp_seq ?_
      refine rg ?_
      refine pl_x HE262 HH258 (wt0 rfl) (x_move rfl) rfl rfl fun a_263 HE264 => ?_
      refine pl_x HE264 HH258 (wt0 rfl) (x_lss rfl rfl) rfl rfl fun a_265 HE266 => ?_
      refine wpList_nil ?_
      clear a_261 HE262 a_263 HE264
      refine nrm ?_
      refine cnd_d HE266 rfl (fun hc38 => ?_) (fun hc38 => ?_)
      · refine wp_seq ?_
        refine rg ?_
        refine pl_x HE266 HH258 (wt0 rfl) (x_assign rfl) rfl rfl fun a_267 HE268 => ?_
        refine wpList_nil ?_
        clear a_265 HE266
        refine nrm ?_
        refine wp_ret ?_
        refine (thn_ret ?_)
        refine ret1 HE268 rfl (rv_tmp rfl) ?_
        have hF : true = false := by
          first | rfl | (exfalso; omega)
        exact ⟨by first | (rw [hF] <;> rfl) | rfl | (rw [hF]; simp only [Ending.returned.injEq, Value.slice.injEq, true_and, and_true]; first | omega | (simp; done)) | (rw [hF]; simp; omega), HH258.below⟩
      · refine wp_skip ?_
        refine nrm ?_
        refine wp_seq ?_
        refine rg ?_
        refine pl_x HE266 HH258 (wt0 rfl) (x_move rfl) rfl rfl fun a_269 HE270 => ?_
        refine pl_x HE270 HH258 (wt0 rfl) (x_move rfl) rfl rfl fun a_271 HE272 => ?_
        refine pl fun K_273 hK274 => ?_
        refine st_call HE272 (wt0 rfl) rfl rfl rfl en_25 rfl rfl (held_L_c _ _ ((pruneP a0).2.1) (1 + (ct_SInstr ((pruneP a0).1) : Int)) _ (HH258.sl (i := 2) rfl) (by omega) (by omega)) fun e w' hr => ?_
        obtain ⟨rfl, hbr39⟩ := hr
        have HH275 := HH258.on hbr39
        clear hbr39
        refine ⟨_, rfl, fun a_276 HE277 => hK274 _ _ ?_⟩
        refine pl_x HE277 HH275 (wt0 rfl) (x_assign rfl) rfl rfl fun a_278 HE279 => ?_
        refine wpList_nil ?_
        clear a_265 HE266 a_269 HE270 HH258 a_271 HE272 a_276 HE277 hK274 K_273
        refine nrm ?_
        refine wp_seq ?_
        refine wp_seq ?_
        refine rg ?_
        refine pl_x HE279 HH275 (wt0 rfl) (x_move rfl) rfl rfl fun a_280 HE281 => ?_
        refine pl_x HE281 HH275 (wt0 rfl) (x_lss rfl rfl) rfl rfl fun a_282 HE283 => ?_
        refine wpList_nil ?_
        clear a_278 HE279 a_280 HE281
        refine nrm ?_
        refine cnd_d HE283 rfl (fun hc40 => ?_) (fun hc40 => ?_)
        · refine wp_seq ?_
          refine rg ?_
          refine pl_x HE283 HH275 (wt0 rfl) (x_assign rfl) rfl rfl fun a_284 HE285 => ?_
          refine wpList_nil ?_
          clear a_282 HE283
          refine nrm ?_
          refine wp_ret ?_
          refine (thn_ret ?_)
          refine ret1 HE285 rfl (rv_tmp rfl) ?_
          have hF : true = false := by
            first | rfl | (exfalso; omega)
          exact ⟨by first | (rw [hF] <;> rfl) | rfl | (rw [hF]; simp only [Ending.returned.injEq, Value.slice.injEq, true_and, and_true]; first | omega | (simp; done)) | (rw [hF]; simp; omega), HH275.below⟩
        · refine wp_skip ?_
          refine nrm ?_
          refine wp_seq ?_
          refine wp_seq ?_
          refine rg ?_
          refine pl_x HE283 HH275 (wt0 rfl) (x_move rfl) rfl rfl fun a_286 HE287 => ?_
          refine pl_x HE287 HH275 (wt0 rfl) (x_move rfl) rfl rfl fun a_288 HE289 => ?_
          refine pl_x HE289 HH275 (wt0 rfl) (x_neq rfl rfl) rfl rfl fun a_290 HE291 => ?_
          refine wpList_nil ?_
          clear a_282 HE283 a_286 HE287 a_288 HE289
          refine nrm ?_
          refine cndF HE291 rfl (bne_f rfl) ?_
          refine wp_skip ?_
          refine nrm ?_
          refine wp_seq ?_
          refine rg ?_
          refine pl_x HE291 HH275 (wt0 rfl) (x_move rfl) rfl rfl fun a_292 HE293 => ?_
          refine pl fun K_294 hK295 => ?_
          refine st_call HE293 (wt0 rfl) rfl rfl rfl en_18 rfl rfl (to_InstrS _ _ a0 _ (HH275.old h0) (by omega)) fun e w' hr => ?_
          obtain ⟨Ar41, cr41, rfl, hor41, hbr41⟩ := hr
          obtain ⟨Sr41, HH296⟩ := HH275.newS hbr41 hor41
          clear hbr41 hor41
          refine ⟨_, rfl, fun a_297 HE298 => hK295 _ _ ?_⟩
          refine pl fun K_299 hK300 => ?_
          refine st_call HE298 (wt0 rfl) rfl rfl rfl en_19 rfl rfl (impl_PruneProgram _ _ a0 _ (HH296.sl (i := 0) rfl)) fun e w' hr => ?_
          obtain ⟨Ar42_0, cr42_0, Sr42_0, Ar42_1, cr42_1, Sr42_1, rfl, hbr42⟩ := hr
          have HH301 := HH296.app hbr42
          clear hbr42
          have HH302 : Held Nob w ([rSo eInstr Sr42_0 Ar42_0 cr42_0 ((pruneP a0).1), rSo eInt Sr42_1 Ar42_1 cr42_1 ((pruneP a0).2.1), rSo eInstr Sr41 Ar41 cr41 a0, rSo eInstr Sr29 Ar29 cr29 a0, rSo eInstr Sr26_0 Ar26_0 cr26_0 (mk_SInstr ((pruneP a0).1) 1), rSo eInt Sr26_1 Ar26_1 cr26_1 (mk_L ((pruneP a0).2.1) (1 + (ct_SInstr ((pruneP a0).1) : Int))), rSo eInstr Sr25 Ar25 cr25 (mk_SInstr a0 1), rSo eInstr Sr24_0 Ar24_0 cr24_0 ((pruneP a0).1), rSo eInt Sr24_1 Ar24_1 cr24_1 ((pruneP a0).2.1), rSo eInstr Sr23 Ar23 cr23 a0]) _ := HH301
          refine ⟨_, rfl, fun a_303 HE304 => hK300 _ _ ?_⟩
          refine pl_x HE304 HH302 (wt0 rfl) (x_move rfl) rfl rfl fun a_305 HE306 => ?_
          refine pl_x HE306 HH302 (wt0 rfl) (x_extract rfl rfl) rfl rfl fun a_307 HE308 => ?_
          refine pl_x HE308 HH302 (wt0 rfl) (x_extract rfl rfl) rfl rfl fun a_309 HE310 => ?_
          refine pl_x HE310 HH302 (wt0 rfl) (x_extract rfl rfl) rfl rfl fun a_311 HE312 => ?_
          refine pl_x HE312 HH302 (wt0 rfl) (x_assign rfl) rfl rfl fun a_313 HE314 => ?_
          refine pl_x HE314 HH302 (wt0 rfl) (x_assign rfl) rfl rfl fun a_315 HE316 => ?_
          refine pl_x HE316 HH302 (wt0 rfl) (x_assign rfl) rfl rfl fun a_317 HE318 => ?_
          refine wpList_nil ?_
          clear a_290 HE291 HH275 a_292 HE293 K_294 hK295 HH296 HH301 a_297 HE298 a_303 HE304 a_305 HE306 a_307 HE308 a_309 HE310 a_311 HE312 a_313 HE314 a_315 HE316 hK300 K_299
          refine nrm ?_
          refine wp_seq ?_
          refine wp_seq ?_
          refine rg ?_
          refine pl_x HE318 HH302 (wt0 rfl) (x_move rfl) rfl rfl fun a_319 HE320 => ?_
          refine pl_x HE320 HH302 (wt0 rfl) (x_move rfl) rfl rfl fun a_321 HE322 => ?_
          refine pl fun K_323 hK324 => ?_
          refine st_call HE322 (wt0 rfl) rfl rfl rfl en_20 rfl rfl (eq_SInstr_c _ _ _ _ ((pruneP a0).1) ((pruneP a0).1) _ (HH302.sl (i := 0) rfl) (HH302.sl (i := 7) rfl)) fun e w' hr => ?_
          obtain ⟨rfl, hbr43⟩ := hr
          have HH325 := HH302.on hbr43
          clear hbr43
          refine ⟨_, rfl, fun a_326 HE327 => hK324 _ _ ?_⟩
          refine pl_x HE327 HH325 (wt0 rfl) (x_not rfl) rfl rfl fun a_328 HE329 => ?_
          refine pl_x HE329 HH325 (wt0 rfl) (x_move rfl) rfl rfl fun a_330 HE331 => ?_
          refine pl_x HE331 HH325 (wtT HE331 rfl rfl rfl (not_f (eq_SInstr_refl _))) (x_move rfl) rfl rfl fun a_332 HE333 => ?_
          refine pl_x HE333 HH325 (wtT HE333 rfl rfl rfl (not_f (eq_SInstr_refl _))) (x_move rfl) rfl rfl fun a_334 HE335 => ?_
          refine pl fun K_336 hK337 => ?_
          refine st_call HE335 (wtT HE335 rfl rfl rfl (not_f (eq_SInstr_refl _))) rfl rfl rfl en_21 rfl rfl (eq_L_c _ _ _ _ ((pruneP a0).2.1) ((pruneP a0).2.1) _ (HH325.sl (i := 1) rfl) (HH325.sl (i := 8) rfl)) fun e w' hr => ?_
          obtain ⟨rfl, hbr44⟩ := hr
          have HH338 := HH325.on hbr44
          clear hbr44
          refine ⟨_, rfl, fun a_339 HE340 => hK337 _ _ ?_⟩
          refine pl_x HE340 HH338 (wtT HE340 rfl rfl rfl (not_f (eq_SInstr_refl _))) (x_not rfl) rfl rfl fun a_341 HE342 => ?_
          refine pl_x HE342 HH338 (wt0 rfl) (x_pickF rfl (not_f (eq_SInstr_refl _)) rfl) rfl rfl fun a_343 HE344 => ?_
          refine pl_x HE344 HH338 (wt0 rfl) (x_move rfl) rfl rfl fun a_345 HE346 => ?_
          refine pl_x HE346 HH338 (wtT HE346 rfl rfl rfl (not_f (eq_L_refl _))) (x_move rfl) rfl rfl fun a_347 HE348 => ?_
          refine pl_x HE348 HH338 (wtT HE348 rfl rfl rfl (not_f (eq_L_refl _))) (x_move rfl) rfl rfl fun a_349 HE350 => ?_
          refine pl_x HE350 HH338 (wtT HE350 rfl rfl rfl (not_f (eq_L_refl _))) (x_neq rfl rfl) rfl rfl fun a_351 HE352 => ?_
          refine pl_x HE352 HH338 (wt0 rfl) (x_pickF rfl (not_f (eq_L_refl _)) rfl) rfl rfl fun a_353 HE354 => ?_
          refine wpList_nil ?_
          clear a_317 HE318 a_319 HE320 HH302 a_321 HE322 a_326 HE327 a_328 HE329 a_330 HE331 a_332 HE333 K_323 hK324 HH325 a_334 HE335 a_339 HE340 a_341 HE342 a_343 HE344 a_345 HE346 a_347 HE348 a_349 HE350 a_351 HE352 hK337 K_336
          refine nrm ?_
          refine cndF HE354 rfl (bne_f rfl) ?_
          refine wp_skip ?_
          refine nrm ?_
          refine wp_seq ?_
          refine rg ?_
          refine pl_x HE354 HH338 (wt0 rfl) (x_assign rfl) rfl rfl fun a_355 HE356 => ?_
          refine wpList_nil ?_
          clear a_353 HE354
          refine nrm ?_
          refine wp_seq ?_
          refine rg ?_
          refine pl_x HE356 HH338 (wt0 rfl) (x_move rfl) rfl rfl fun a_357 HE358 => ?_
          refine pl_x HE358 HH338 (wt0 rfl) (x_move rfl) rfl rfl fun a_359 HE360 => ?_
          refine pl fun K_361 hK362 => ?_
          refine st_call HE360 (wt0 rfl) rfl rfl rfl en_24 rfl rfl (held_SInstr_c _ _ ((pruneP a0).1) 1 _ (HH338.sl (i := 4) rfl) (by omega) (by omega)) fun e w' hr => ?_
          obtain ⟨rfl, hbr45⟩ := hr
          have HH363 := HH338.on hbr45
          clear hbr45
          refine ⟨_, rfl, fun a_364 HE365 => hK362 _ _ ?_⟩
          refine pl_x HE365 HH363 (wt0 rfl) (x_assign rfl) rfl rfl fun a_366 HE367 => ?_
          refine wpList_nil ?_
          clear a_355 HE356 a_357 HE358 HH338 a_359 HE360 a_364 HE365 hK362 K_361
          refine nrm ?_
          refine wp_seq ?_
          refine wp_seq ?_
          refine rg ?_
          refine pl_x HE367 HH363 (wt0 rfl) (x_move rfl) rfl rfl fun a_368 HE369 => ?_
          refine pl_x HE369 HH363 (wt0 rfl) (x_lss rfl rfl) rfl rfl fun a_370 HE371 => ?_
          refine wpList_nil ?_
          clear a_366 HE367 a_368 HE369
          refine nrm ?_
          refine cndF HE371 rfl (decide_eq_false hc38) ?_
          refine wp_skip ?_
          refine nrm ?_
          refine wp_seq ?_
          refine rg ?_
          refine pl_x HE371 HH363 (wt0 rfl) (x_move rfl) rfl rfl fun a_372 HE373 => ?_
          refine pl_x HE373 HH363 (wt0 rfl) (x_move rfl) rfl rfl fun a_374 HE375 => ?_
          refine pl fun K_376 hK377 => ?_
          refine st_call HE375 (wt0 rfl) rfl rfl rfl en_25 rfl rfl (held_L_c _ _ ((pruneP a0).2.1) (1 + (ct_SInstr ((pruneP a0).1) : Int)) _ (HH363.sl (i := 5) rfl) (by omega) (by omega)) fun e w' hr => ?_
          obtain ⟨rfl, hbr46⟩ := hr
          have HH378 := HH363.on hbr46
          clear hbr46
          refine ⟨_, rfl, fun a_379 HE380 => hK377 _ _ ?_⟩
          refine pl_x HE380 HH378 (wt0 rfl) (x_assign rfl) rfl rfl fun a_381 HE382 => ?_
          refine wpList_nil ?_
          clear a_370 HE371 a_372 HE373 HH363 a_374 HE375 a_379 HE380 hK377 K_376
          refine nrm ?_
          refine wp_seq ?_
          refine wp_seq ?_
          refine rg ?_
          refine pl_x HE382 HH378 (wt0 rfl) (x_move rfl) rfl rfl fun a_383 HE384 => ?_
          refine pl_x HE384 HH378 (wt0 rfl) (x_lss rfl rfl) rfl rfl fun a_385 HE386 => ?_
          refine wpList_nil ?_
          clear a_381 HE382 a_383 HE384
          refine nrm ?_
          refine cndF HE386 rfl (decide_eq_false hc40) ?_
          refine wp_skip ?_
          refine nrm ?_
          refine wp_seq ?_
          refine wp_seq ?_
          refine rg ?_
          refine pl_x HE386 HH378 (wt0 rfl) (x_move rfl) rfl rfl fun a_387 HE388 => ?_
          refine pl_x HE388 HH378 (wt0 rfl) (x_move rfl) rfl rfl fun a_389 HE390 => ?_
          refine pl_x HE390 HH378 (wt0 rfl) (x_neq rfl rfl) rfl rfl fun a_391 HE392 => ?_
          refine wpList_nil ?_
          clear a_385 HE386 a_387 HE388 a_389 HE390
          refine nrm ?_
          refine cndF HE392 rfl (bne_f rfl) ?_
          refine wp_skip ?_
          refine nrm ?_
          refine wp_seq ?_
          refine rg ?_
          refine pl_x HE392 HH378 (wt0 rfl) (x_assign rfl) rfl rfl fun a_393 HE394 => ?_
          refine wpList_nil ?_
          clear a_391 HE392
          refine nrm ?_
          refine wp_ret ?_
          refine ret1 HE394 rfl (rv_tmp rfl) ?_
          have hF : true = true := by
            first | rfl | (exfalso; omega)
          exact ⟨by first | (rw [hF] <;> rfl) | rfl | (rw [hF]; simp only [Ending.returned.injEq, Value.slice.injEq, true_and, and_true]; first | omega | (simp; done)) | (rw [hF]; simp; omega), HH378.below⟩

end Go.Proofs.Ythfihlfjphiihaa
