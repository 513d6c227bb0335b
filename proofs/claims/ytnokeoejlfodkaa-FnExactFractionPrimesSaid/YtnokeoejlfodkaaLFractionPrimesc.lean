/- What the proof of FnExactFractionPrimes needs: contracts of the functions that it reaches, each once. -/
import Derived.Test.YtnokeoejlfodkaaProg
import Derived.Test.YtnokeoejlfodkaaQMem
import Derived.Test.YtnokeoejlfodkaaQOpen
import Derived.Test.YtnokeoejlfodkaaLFractionPrimesa
import Derived.Test.YtnokeoejlfodkaaLFractionPrimesb
import Derived.WalkKit
import Derived.WalkSpells
import Derived.Below
import Derived.LoopTactic
import Derived.Outline
import Derived.Deep.QuietTactic
import Derived.BigQuiet
import Derived.Deep.LoopGhost
import Derived.Handy
import Derived.Lib.Hide
import Derived.Shelf.Abstract
import Derived.StillTailTactics
import Derived.OwnWalk
import Derived.Maps.AppendAt
import Derived.RegionTactic
import Derived.Deep.RegionHeld3
import Derived.IntWalk
import Derived.Deep.Upon
import Derived.Laws.OwnMore
import Derived.Maps.AppendAt
import Derived.Lib.SliceRun
import Derived.Lib.AppendZeros
import Derived.Shelf.SortG.Plain
import Derived.Shelf.SortG.SortNone
import Derived.Shelf.SlicesG.CompactI
import Derived.Shelf.SlicesG.SearchI
import Derived.Sort.OwnSortedInts
import Derived.Lib.RowBridge
namespace Go.Proofs.Ytnokeoejlfodkaa
open Go.RowKit

set_option maxRecDepth 100000 in
set_option maxHeartbeats 4000000 in
theorem law_FractionPrimes (A0 : Option Addr) (c0 : Nat) (a0 : (List tFraction)) (w : World) (h0 : Sl eFraction w (Old w) A0 c0 a0) :
    Calls Try.prog 13 #[.slice A0 a0.length c0] w fun e w' => e = .returned (.bool true) ∧ Below w.heap.size w w' := by
  have l0 := h0.len
  have m0 := ct_cost_SFraction a0
  have n0 : (ct_L (fracPrimes a0).1 : Int) ≤ 1000000000 := fracPrimes_ct a0
  have HH1 := Held.start Nob w
  refine enter (n := 96) Try.func13 rfl rfl rfl fun a_2 HE3 => ?_
  refine wp_seq ?_
  refine rg ?_
  refine pl_x HE3 HH1 (wt0 rfl) (x_assign rfl) rfl rfl fun a_4 HE5 => ?_
  refine wpList_nil ?_
  clear a_2 HE3
  refine nrm ?_
  refine wp_seq ?_
  refine rg ?_
  refine pl_x HE5 HH1 (wt0 rfl) (x_assign rfl) rfl rfl fun a_6 HE7 => ?_
  refine wpList_nil ?_
  clear a_4 HE5
  refine nrm ?_
  refine wp_seq ?_
  refine rg ?_
  refine pl_x HE7 HH1 (wt0 rfl) (x_move rfl) rfl rfl fun a_8 HE9 => ?_
  refine pl_x HE9 HH1 (wt0 rfl) (x_move rfl) rfl rfl fun a_10 HE11 => ?_
  refine pl fun K_12 hK13 => ?_
  refine st_call HE11 (wt0 rfl) rfl rfl rfl en_45 rfl rfl (sz_FractionS _ _ a0 1048576 _ (HH1.old h0) (by omega) (by omega)) fun e w' hr => ?_
  obtain ⟨rfl, hbr21⟩ := hr
  have HH14 := HH1.on hbr21
  clear hbr21
  refine ⟨_, rfl, fun a_15 HE16 => hK13 _ _ ?_⟩
  refine pl_x HE16 HH14 (wt0 rfl) (x_assign rfl) rfl rfl fun a_17 HE18 => ?_
  refine wpList_nil ?_
  clear a_6 HE7 a_8 HE9 HH1 a_10 HE11 a_15 HE16 hK13 K_12
  refine nrm ?_
  refine wp_seq ?_
  refine wp_seq ?_
  refine rg ?_
  refine pl_x HE18 HH14 (wt0 rfl) (x_move rfl) rfl rfl fun a_19 HE20 => ?_
  refine pl_x HE20 HH14 (wt0 rfl) (x_lss rfl rfl) rfl rfl fun a_21 HE22 => ?_
  refine wpList_nil ?_
  clear a_17 HE18 a_19 HE20
  refine nrm ?_
  refine cnd_d HE22 rfl (fun hc22 => ?_) (fun hc22 => ?_)
  · refine wp_seq ?_
    refine rg ?_
    refine pl_x HE22 HH14 (wt0 rfl) (x_assign rfl) rfl rfl fun a_23 HE24 => ?_
    refine wpList_nil ?_
    clear a_21 HE22
    refine nrm ?_
    refine wp_ret ?_
    refine (thn_ret ?_)
    refine ret1 HE24 rfl (rv_tmp rfl) ?_
    have hF : true = true := by
      first | rfl | (exfalso; omega)
    exact ⟨by first | (rw [hF] <;> rfl) | rfl | (rw [hF]; simp only [Ending.returned.injEq, Value.slice.injEq, true_and, and_true]; first | omega | (simp; done)) | (rw [hF]; simp; omega), HH14.below⟩
  · have zr21 := left_ok hc22
    refine wp_skip ?_
    refine nrm ?_
    refine wp_seq ?_
    refine rg ?_
    refine pl_x HE22 HH14 (wt0 rfl) (x_move rfl) rfl rfl fun a_25 HE26 => ?_
    refine pl fun K_27 hK28 => ?_
    refine st_call HE26 (wt0 rfl) rfl rfl rfl en_47 rfl rfl (to_FractionS _ _ a0 _ (HH14.old h0) (by omega)) fun e w' hr => ?_
    obtain ⟨Ar23, cr23, rfl, hor23, hbr23⟩ := hr
    obtain ⟨Sr23, HH29⟩ := HH14.newS hbr23 hor23
    clear hbr23 hor23
    refine ⟨_, rfl, fun a_30 HE31 => hK28 _ _ ?_⟩
    refine pl fun K_32 hK33 => ?_
    refine st_call HE31 (wt0 rfl) rfl rfl rfl en_76 rfl rfl (spec_FractionPrimes _ _ a0 _ (HH29.sl (i := 0) rfl)) fun e w' hr => ?_
    obtain ⟨Ar24_0, cr24_0, rfl, hor24_0, hbr24⟩ := hr
    obtain ⟨Sr24, HH34⟩ := HH29.newS hbr24 hor24_0
    refine ⟨_, rfl, fun a_35 HE36 => hK33 _ _ ?_⟩
    refine pl_x HE36 HH34 (wt0 rfl) (x_move rfl) rfl rfl fun a_37 HE38 => ?_
    refine pl_x HE38 HH34 (wt0 rfl) (x_extract rfl rfl) rfl rfl fun a_39 HE40 => ?_
    refine pl_x HE40 HH34 (wt0 rfl) (x_extract rfl rfl) rfl rfl fun a_41 HE42 => ?_
    refine pl_x HE42 HH34 (wt0 rfl) (x_assign rfl) rfl rfl fun a_43 HE44 => ?_
    refine pl_x HE44 HH34 (wt0 rfl) (x_assign rfl) rfl rfl fun a_45 HE46 => ?_
    refine wpList_nil ?_
    clear a_21 HE22 HH14 a_25 HE26 K_27 hK28 HH29 a_30 HE31 a_35 HE36 a_37 HE38 a_39 HE40 a_41 HE42 a_43 HE44 hK33 K_32
    refine nrm ?_
    refine wp_seq ?_
    refine rg ?_
    refine pl_x HE46 HH34 (wt0 rfl) (x_move rfl) rfl rfl fun a_47 HE48 => ?_
    refine pl fun K_49 hK50 => ?_
    refine st_call HE48 (wt0 rfl) rfl rfl rfl en_47 rfl rfl (to_FractionS _ _ a0 _ (HH34.old h0) (by omega)) fun e w' hr => ?_
    obtain ⟨Ar25, cr25, rfl, hor25, hbr25⟩ := hr
    obtain ⟨Sr25, HH51⟩ := HH34.newS hbr25 hor25
    clear hbr25 hor25
    refine ⟨_, rfl, fun a_52 HE53 => hK50 _ _ ?_⟩
    refine pl_x HE53 HH51 (wt0 rfl) (x_assign rfl) rfl rfl fun a_54 HE55 => ?_
    refine wpList_nil ?_
    clear a_45 HE46 HH34 a_47 HE48 a_52 HE53 hK50 K_49
    refine nrm ?_
    refine wp_seq ?_
    refine rg ?_
    refine pl_x HE55 HH51 (wt0 rfl) (x_move rfl) rfl rfl fun a_56 HE57 => ?_
    refine pl fun K_58 hK59 => ?_
    refine st_call HE57 (wt0 rfl) rfl rfl rfl en_77 rfl rfl (impl_FractionPrimes _ _ a0 _ (HH51.sl (i := 0) rfl)) fun e w' hr => ?_
    obtain ⟨Ar26_0, cr26_0, rfl, hor26_0, hbr26⟩ := hr
    obtain ⟨Sr26, HH60⟩ := HH51.newS hbr26 hor26_0
    refine ⟨_, rfl, fun a_61 HE62 => hK59 _ _ ?_⟩
    refine pl_x HE62 HH60 (wt0 rfl) (x_move rfl) rfl rfl fun a_63 HE64 => ?_
    refine pl_x HE64 HH60 (wt0 rfl) (x_extract rfl rfl) rfl rfl fun a_65 HE66 => ?_
    refine pl_x HE66 HH60 (wt0 rfl) (x_extract rfl rfl) rfl rfl fun a_67 HE68 => ?_
    refine pl_x HE68 HH60 (wt0 rfl) (x_assign rfl) rfl rfl fun a_69 HE70 => ?_
    refine pl_x HE70 HH60 (wt0 rfl) (x_assign rfl) rfl rfl fun a_71 HE72 => ?_
    refine wpList_nil ?_
    clear a_54 HE55 HH51 a_56 HE57 a_61 HE62 a_63 HE64 a_65 HE66 a_67 HE68 a_69 HE70 hK59 K_58
    refine nrm ?_
    refine wp_seq ?_
    refine wp_seq ?_
    refine rg ?_
    refine pl_x HE72 HH60 (wt0 rfl) (x_move rfl) rfl rfl fun a_73 HE74 => ?_
    refine pl_x HE74 HH60 (wt0 rfl) (x_move rfl) rfl rfl fun a_75 HE76 => ?_
    refine pl fun K_77 hK78 => ?_
    refine st_call HE76 (wt0 rfl) rfl rfl rfl en_24 rfl rfl (eq_L_c _ _ _ _ ((fracPrimes a0).1) ((fracPrimes a0).1) _ (HH60.sl (i := 0) rfl) (HH60.sl (i := 2) rfl)) fun e w' hr => ?_
    obtain ⟨rfl, hbr27⟩ := hr
    have HH79 := HH60.on hbr27
    clear hbr27
    refine ⟨_, rfl, fun a_80 HE81 => hK78 _ _ ?_⟩
    refine pl_x HE81 HH79 (wt0 rfl) (x_not rfl) rfl rfl fun a_82 HE83 => ?_
    refine pl_x HE83 HH79 (wt0 rfl) (x_move rfl) rfl rfl fun a_84 HE85 => ?_
    refine pl_x HE85 HH79 (wtT HE85 rfl rfl rfl (not_f (eq_L_refl _))) (x_move rfl) rfl rfl fun a_86 HE87 => ?_
    refine pl_x HE87 HH79 (wtT HE87 rfl rfl rfl (not_f (eq_L_refl _))) (x_move rfl) rfl rfl fun a_88 HE89 => ?_
    refine pl_x HE89 HH79 (wtT HE89 rfl rfl rfl (not_f (eq_L_refl _))) (x_neq rfl rfl) rfl rfl fun a_90 HE91 => ?_
    refine pl_x HE91 HH79 (wt0 rfl) (x_pickF rfl (not_f (eq_L_refl _)) rfl) rfl rfl fun a_92 HE93 => ?_
    refine wpList_nil ?_
    clear a_71 HE72 a_73 HE74 HH60 a_75 HE76 a_80 HE81 a_82 HE83 a_84 HE85 a_86 HE87 a_88 HE89 a_90 HE91 hK78 K_77
    refine nrm ?_
    refine cndF HE93 rfl (bne_f rfl) ?_
    refine wp_skip ?_
    refine nrm ?_
    refine wp_seq ?_
    refine wp_seq ?_
    refine rg ?_
    refine pl_x HE93 HH79 (wt0 rfl) (x_move rfl) rfl rfl fun a_94 HE95 => ?_
    refine pl_x HE95 HH79 (wt0 rfl) (x_move rfl) rfl rfl fun a_96 HE97 => ?_
    refine pl fun K_98 hK99 => ?_
    refine st_call HE97 (wt0 rfl) rfl rfl rfl en_47 rfl rfl (to_FractionS _ _ a0 _ (HH79.old h0) (by omega)) fun e w' hr => ?_
    obtain ⟨Ar28, cr28, rfl, hor28, hbr28⟩ := hr
    obtain ⟨Sr28, HH100⟩ := HH79.newS hbr28 hor28
    clear hbr28 hor28
    refine ⟨_, rfl, fun a_101 HE102 => hK99 _ _ ?_⟩
    refine pl fun K_103 hK104 => ?_
    refine st_call HE102 (wt0 rfl) rfl rfl rfl en_50 rfl rfl (eq_SFraction_c _ _ _ _ a0 a0 _ (HH100.sl (i := 2) rfl) (HH100.sl (i := 0) rfl)) fun e w' hr => ?_
    obtain ⟨rfl, hbr29⟩ := hr
    have HH105 := HH100.on hbr29
    clear hbr29
    refine ⟨_, rfl, fun a_106 HE107 => hK104 _ _ ?_⟩
    refine pl_x HE107 HH105 (wt0 rfl) (x_not rfl) rfl rfl fun a_108 HE109 => ?_
    refine wpList_nil ?_
    clear a_92 HE93 a_94 HE95 HH79 a_96 HE97 K_98 hK99 HH100 a_101 HE102 a_106 HE107 hK104 K_103
    refine nrm ?_
    refine cndF HE109 rfl (not_f (eq_SFraction_refl _)) ?_
    refine wp_skip ?_
    refine nrm ?_
    refine wp_seq ?_
    refine rg ?_
    refine pl_x HE109 HH105 (wt0 rfl) (x_assign rfl) rfl rfl fun a_110 HE111 => ?_
    refine wpList_nil ?_
    clear a_108 HE109
    refine nrm ?_
    refine wp_seq ?_
    refine rg ?_
    refine pl_x HE111 HH105 (wt0 rfl) (x_move rfl) rfl rfl fun a_112 HE113 => ?_
    refine pl_x HE113 HH105 (wt0 rfl) (x_move rfl) rfl rfl fun a_114 HE115 => ?_
    refine pl fun K_116 hK117 => ?_
    refine st_call HE115 (wt0 rfl) rfl rfl rfl en_51 rfl rfl (mark_SFraction_c _ _ a0 1 _ _ (so_of_o (HH105.get (i := 2) rfl)) (HH105.lt (i := 2) rfl) (by omega) (by omega)) fun e w' hr => ?_
    obtain ⟨rfl, hsr30, hcr30⟩ := hr
    have HH118 := HH105.mut (i := 2) rfl hcr30 (rSo eFraction Sr25 Ar25 cr25 (mk_SFraction a0 1)) (oSl hsr30) (fun b hb => .inl hb)
    clear hsr30 hcr30
    refine ⟨_, rfl, fun a_119 HE120 => hK117 _ _ ?_⟩
    refine pl_x HE120 HH118 (wt0 rfl) (x_assign rfl) rfl rfl fun a_121 HE122 => ?_
    refine wpList_nil ?_
    clear a_110 HE111 a_112 HE113 HH105 a_114 HE115 a_119 HE120 hK117 K_116
    refine nrm ?_
    refine wp_seq ?_
    refine wp_seq ?_
    refine rg ?_
    refine pl_x HE122 HH118 (wt0 rfl) (x_move rfl) rfl rfl fun a_123 HE124 => ?_
    refine pl_x HE124 HH118 (wt0 rfl) (x_lss rfl rfl) rfl rfl fun a_125 HE126 => ?_
    refine pl_x HE126 HH118 (wt0 rfl) (x_move rfl) rfl rfl fun a_127 HE128 => ?_
    by_cases hc31 : (1 + (ct_SFraction a0 : Int)) < 0
    · refine pl_no HE128 (wtF HE128 rfl rfl rfl (decide_eq_true hc31)) rfl rfl fun a_129 HE130 => ?_
      refine pl_no HE130 (wtF HE130 rfl rfl rfl (decide_eq_true hc31)) rfl rfl fun a_131 HE132 => ?_
      refine pl_no HE132 (wtF HE132 rfl rfl rfl (decide_eq_true hc31)) rfl rfl fun a_133 HE134 => ?_
      refine pl_no HE134 (wtF HE134 rfl rfl rfl (decide_eq_true hc31)) rfl rfl fun a_135 HE136 => ?_
      refine pl_x HE136 HH118 (wt0 rfl) (x_pickT rfl (decide_eq_true hc31) rfl) rfl rfl fun a_137 HE138 => ?_
      refine pl_x HE138 HH118 (wt0 rfl) (x_move rfl) rfl rfl fun a_139 HE140 => ?_
      refine pl_no HE140 (wtF HE140 rfl rfl rfl rfl) rfl rfl fun a_141 HE142 => ?_
      refine pl_no HE142 (wtF HE142 rfl rfl rfl rfl) rfl rfl fun a_143 HE144 => ?_
      refine pl_no HE144 (wtF HE144 rfl rfl rfl rfl) rfl rfl fun a_145 HE146 => ?_
      refine pl_x HE146 HH118 (wt0 rfl) (x_pickT rfl rfl rfl) rfl rfl fun a_147 HE148 => ?_
      refine wpList_nil ?_
      clear a_121 HE122 a_123 HE124 a_125 HE126 a_127 HE128 a_129 HE130 a_131 HE132 a_133 HE134 a_135 HE136 a_137 HE138 a_139 HE140 a_141 HE142 a_143 HE144 a_145 HE146
      refine nrm ?_
      refine cndT HE148 rfl rfl ?_
      refine wp_seq ?_
      refine rg ?_
      refine pl_x HE148 HH118 (wt0 rfl) (x_assign rfl) rfl rfl fun a_149 HE150 => ?_
      refine wpList_nil ?_
      clear a_147 HE148
      refine nrm ?_
      refine wp_ret ?_
      refine (thn_ret ?_)
      refine ret1 HE150 rfl (rv_tmp rfl) ?_
      have hF : true = false := by
        first | rfl | (exfalso; omega)
      exact ⟨by first | (rw [hF] <;> rfl) | rfl | (rw [hF]; simp only [Ending.returned.injEq, Value.slice.injEq, true_and, and_true]; first | omega | (simp; done)) | (rw [hF]; simp; omega), HH118.below⟩
    · refine pl_x HE128 HH118 (wtT HE128 rfl rfl rfl (decide_eq_false hc31)) (x_move rfl) rfl rfl fun a_151 HE152 => ?_
      refine pl_x HE152 HH118 (wtT HE152 rfl rfl rfl (decide_eq_false hc31)) (x_move rfl) rfl rfl fun a_153 HE154 => ?_
      refine pl fun K_155 hK156 => ?_
      refine st_call HE154 (wtT HE154 rfl rfl rfl (decide_eq_false hc31)) rfl rfl rfl en_24 rfl rfl (eq_L_c _ _ _ _ ((fracPrimes a0).1) ((fracPrimes a0).1) _ (HH118.sl (i := 1) rfl) (HH118.sl (i := 3) rfl)) fun e w' hr => ?_
      obtain ⟨rfl, hbr32⟩ := hr
      have HH157 := HH118.on hbr32
      clear hbr32
      refine ⟨_, rfl, fun a_158 HE159 => hK156 _ _ ?_⟩
      refine pl_x HE159 HH157 (wtT HE159 rfl rfl rfl (decide_eq_false hc31)) (x_not rfl) rfl rfl fun a_160 HE161 => ?_
      refine pl_x HE161 HH157 (wt0 rfl) (x_pickF rfl (decide_eq_false hc31) rfl) rfl rfl fun a_162 HE163 => ?_
      refine pl_x HE163 HH157 (wt0 rfl) (x_move rfl) rfl rfl fun a_164 HE165 => ?_
      refine pl_x HE165 HH157 (wtT HE165 rfl rfl rfl (not_f (eq_L_refl _))) (x_move rfl) rfl rfl fun a_166 HE167 => ?_
      refine pl_x HE167 HH157 (wtT HE167 rfl rfl rfl (not_f (eq_L_refl _))) (x_move rfl) rfl rfl fun a_168 HE169 => ?_
      refine pl_x HE169 HH157 (wtT HE169 rfl rfl rfl (not_f (eq_L_refl _))) (x_neq rfl rfl) rfl rfl fun a_170 HE171 => ?_
      refine pl_x HE171 HH157 (wt0 rfl) (x_pickF rfl (not_f (eq_L_refl _)) rfl) rfl rfl fun a_172 HE173 => ?_
      refine wpList_nil ?_
      clear a_121 HE122 a_123 HE124 a_125 HE126 a_127 HE128 a_151 HE152 HH118 a_153 HE154 a_158 HE159 a_160 HE161 a_162 HE163 a_164 HE165 a_166 HE167 a_168 HE169 a_170 HE171 hK156 K_155
      refine nrm ?_
      refine cndF HE173 rfl (bne_f rfl) ?_
      refine wp_skip ?_
      refine nrm ?_
      refine wp_seq ?_
      refine rg ?_
      refine pl_x HE173 HH157 (wt0 rfl) (x_assign rfl) rfl rfl fun a_174 HE175 => ?_
      refine wpList_nil ?_
      clear a_172 HE173
      refine nrm ?_
      refine wp_seq ?_
      refine rg ?_
      refine pl_x HE175 HH157 (wt0 rfl) (x_move rfl) rfl rfl fun a_176 HE177 => ?_
      refine pl_x HE177 HH157 (wt0 rfl) (x_move rfl) rfl rfl fun a_178 HE179 => ?_
      refine pl fun K_180 hK181 => ?_
      refine st_call HE179 (wt0 rfl) rfl rfl rfl en_25 rfl rfl (mark_L_c _ _ ((fracPrimes a0).1) 1 _ _ (so_of_o (HH157.get (i := 1) rfl)) (HH157.lt (i := 1) rfl) (by omega) (by omega)) fun e w' hr => ?_
      obtain ⟨rfl, hsr33, hcr33⟩ := hr
      have HH182 := HH157.mut (i := 1) rfl hcr33 (rSo eInt Sr26 Ar26_0 cr26_0 (mk_L ((fracPrimes a0).1) 1)) (oSl hsr33) (fun b hb => .inl hb)
      clear hsr33 hcr33
      refine ⟨_, rfl, fun a_183 HE184 => hK181 _ _ ?_⟩
      refine pl_x HE184 HH182 (wt0 rfl) (x_assign rfl) rfl rfl fun a_185 HE186 => ?_
      refine wpList_nil ?_
      clear a_174 HE175 a_176 HE177 HH157 a_178 HE179 a_183 HE184 hK181 K_180
      refine nrm ?_
      refine wp_seq ?_
      refine rg ?_
      refine pl_x HE186 HH182 (wt0 rfl) (x_assign rfl) rfl rfl fun a_187 HE188 => ?_
      refine wpList_nil ?_
      clear a_185 HE186
      refine nrm ?_
      refine wp_seq ?_
      refine rg ?_
      refine pl_x HE188 HH182 (wt0 rfl) (x_move rfl) rfl rfl fun a_189 HE190 => ?_
      refine pl_x HE190 HH182 (wt0 rfl) (x_move rfl) rfl rfl fun a_191 HE192 => ?_
      refine pl fun K_193 hK194 => ?_
      refine st_call HE192 (wt0 rfl) rfl rfl rfl en_26 rfl rfl (held_L_c _ _ ((fracPrimes a0).1) 1 _ (HH182.sl (i := 1) rfl) (by omega) (by omega)) fun e w' hr => ?_
      obtain ⟨rfl, hbr34⟩ := hr
      have HH195 := HH182.on hbr34
      clear hbr34
      refine ⟨_, rfl, fun a_196 HE197 => hK194 _ _ ?_⟩
      refine pl_x HE197 HH195 (wt0 rfl) (x_assign rfl) rfl rfl fun a_198 HE199 => ?_
      refine wpList_nil ?_
      clear a_187 HE188 a_189 HE190 HH182 a_191 HE192 a_196 HE197 hK194 K_193
      refine nrm ?_
      refine wp_seq ?_
      refine wp_seq ?_
      refine rg ?_
      refine pl_x HE199 HH195 (wt0 rfl) (x_move rfl) rfl rfl fun a_200 HE201 => ?_
      refine pl_x HE201 HH195 (wt0 rfl) (x_lss rfl rfl) rfl rfl fun a_202 HE203 => ?_
      refine wpList_nil ?_
      clear a_198 HE199 a_200 HE201
      refine nrm ?_
      refine cnd_d HE203 rfl (fun hc35 => ?_) (fun hc35 => ?_)
      · refine wp_seq ?_
        refine rg ?_
        refine pl_x HE203 HH195 (wt0 rfl) (x_assign rfl) rfl rfl fun a_204 HE205 => ?_
        refine wpList_nil ?_
        clear a_202 HE203
        refine nrm ?_
        refine wp_ret ?_
        refine (thn_ret ?_)
        refine ret1 HE205 rfl (rv_tmp rfl) ?_
        have hF : true = false := by
          first | rfl | (exfalso; omega)
        exact ⟨by first | (rw [hF] <;> rfl) | rfl | (rw [hF]; simp only [Ending.returned.injEq, Value.slice.injEq, true_and, and_true]; first | omega | (simp; done)) | (rw [hF]; simp; omega), HH195.below⟩
      · refine wp_skip ?_
        refine nrm ?_
        refine wp_seq ?_
        refine wp_seq ?_
        refine rg ?_
        refine pl_x HE203 HH195 (wt0 rfl) (x_move rfl) rfl rfl fun a_206 HE207 => ?_
        refine pl_x HE207 HH195 (wt0 rfl) (x_move rfl) rfl rfl fun a_208 HE209 => ?_
        refine pl_x HE209 HH195 (wt0 rfl) (x_neq rfl rfl) rfl rfl fun a_210 HE211 => ?_
        refine wpList_nil ?_
        clear a_202 HE203 a_206 HE207 a_208 HE209
        refine nrm ?_
        refine cndF HE211 rfl (bne_f rfl) ?_
        refine wp_skip ?_
        refine nrm ?_
        refine wp_seq ?_
        refine rg ?_
        refine pl_x HE211 HH195 (wt0 rfl) (x_move rfl) rfl rfl fun a_212 HE213 => ?_
        refine pl fun K_214 hK215 => ?_
        refine st_call HE213 (wt0 rfl) rfl rfl rfl en_47 rfl rfl (to_FractionS _ _ a0 _ (HH195.old h0) (by omega)) fun e w' hr => ?_
        obtain ⟨Ar36, cr36, rfl, hor36, hbr36⟩ := hr
        obtain ⟨Sr36, HH216⟩ := HH195.newS hbr36 hor36
        clear hbr36 hor36
        refine ⟨_, rfl, fun a_217 HE218 => hK215 _ _ ?_⟩
        refine pl fun K_219 hK220 => ?_
        refine st_call HE218 (wt0 rfl) rfl rfl rfl en_77 rfl rfl (impl_FractionPrimes _ _ a0 _ (HH216.sl (i := 0) rfl)) fun e w' hr => ?_
        obtain ⟨Ar37_0, cr37_0, rfl, hor37_0, hbr37⟩ := hr
        obtain ⟨Sr37, HH221⟩ := HH216.newS hbr37 hor37_0
        refine ⟨_, rfl, fun a_222 HE223 => hK220 _ _ ?_⟩
        refine pl_x HE223 HH221 (wt0 rfl) (x_move rfl) rfl rfl fun a_224 HE225 => ?_
        refine pl_x HE225 HH221 (wt0 rfl) (x_extract rfl rfl) rfl rfl fun a_226 HE227 => ?_
        refine pl_x HE227 HH221 (wt0 rfl) (x_extract rfl rfl) rfl rfl fun a_228 HE229 => ?_
        refine pl_x HE229 HH221 (wt0 rfl) (x_assign rfl) rfl rfl fun a_230 HE231 => ?_
        refine pl_x HE231 HH221 (wt0 rfl) (x_assign rfl) rfl rfl fun a_232 HE233 => ?_
        refine wpList_nil ?_
        clear a_210 HE211 HH195 a_212 HE213 K_214 hK215 HH216 a_217 HE218 a_222 HE223 a_224 HE225 a_226 HE227 a_228 HE229 a_230 HE231 hK220 K_219
        refine nrm ?_
        refine wp_seq ?_
        refine wp_seq ?_
        refine rg ?_
        refine pl_x HE233 HH221 (wt0 rfl) (x_move rfl) rfl rfl fun a_234 HE235 => ?_
        refine pl_x HE235 HH221 (wt0 rfl) (x_move rfl) rfl rfl fun a_236 HE237 => ?_
        refine pl fun K_238 hK239 => ?_
        refine st_call HE237 (wt0 rfl) rfl rfl rfl en_24 rfl rfl (eq_L_c _ _ _ _ ((fracPrimes a0).1) ((fracPrimes a0).1) _ (HH221.sl (i := 0) rfl) (HH221.sl (i := 5) rfl)) fun e w' hr => ?_
        obtain ⟨rfl, hbr38⟩ := hr
        have HH240 := HH221.on hbr38
        clear hbr38
        refine ⟨_, rfl, fun a_241 HE242 => hK239 _ _ ?_⟩
        refine pl_x HE242 HH240 (wt0 rfl) (x_not rfl) rfl rfl fun a_243 HE244 => ?_
        refine pl_x HE244 HH240 (wt0 rfl) (x_move rfl) rfl rfl fun a_245 HE246 => ?_
        refine pl_x HE246 HH240 (wtT HE246 rfl rfl rfl (not_f (eq_L_refl _))) (x_move rfl) rfl rfl fun a_247 HE248 => ?_
        refine pl_x HE248 HH240 (wtT HE248 rfl rfl rfl (not_f (eq_L_refl _))) (x_move rfl) rfl rfl fun a_249 HE250 => ?_
        refine pl_x HE250 HH240 (wtT HE250 rfl rfl rfl (not_f (eq_L_refl _))) (x_neq rfl rfl) rfl rfl fun a_251 HE252 => ?_
        refine pl_x HE252 HH240 (wt0 rfl) (x_pickF rfl (not_f (eq_L_refl _)) rfl) rfl rfl fun a_253 HE254 => ?_
        refine wpList_nil ?_
        clear a_232 HE233 a_234 HE235 HH221 a_236 HE237 a_241 HE242 a_243 HE244 a_245 HE246 a_247 HE248 a_249 HE250 a_251 HE252 hK239 K_238
        refine nrm ?_
        refine cndF HE254 rfl (bne_f rfl) ?_
        refine wp_skip ?_
        refine nrm ?_
        refine wp_seq ?_
        refine rg ?_
        refine pl_x HE254 HH240 (wt0 rfl) (x_assign rfl) rfl rfl fun a_255 HE256 => ?_
        refine wpList_nil ?_
        clear a_253 HE254
        refine nrm ?_
        refine wp_seq ?_
        refine rg ?_
        refine pl_x HE256 HH240 (wt0 rfl) (x_move rfl) rfl rfl fun a_257 HE258 => ?_
        refine pl_x HE258 HH240 (wt0 rfl) (x_move rfl) rfl rfl fun a_259 HE260 => ?_
        refine pl fun K_261 hK262 => ?_
        refine st_call HE260 (wt0 rfl) rfl rfl rfl en_26 rfl rfl (held_L_c _ _ ((fracPrimes a0).1) 1 _ (HH240.sl (i := 3) rfl) (by omega) (by omega)) fun e w' hr => ?_
        obtain ⟨rfl, hbr39⟩ := hr
        have HH263 := HH240.on hbr39
        clear hbr39
        refine ⟨_, rfl, fun a_264 HE265 => hK262 _ _ ?_⟩
        refine pl_x HE265 HH263 (wt0 rfl) (x_assign rfl) rfl rfl fun a_266 HE267 => ?_
        refine wpList_nil ?_
        clear a_255 HE256 a_257 HE258 HH240 a_259 HE260 a_264 HE265 hK262 K_261
        refine nrm ?_
        refine wp_seq ?_
        refine wp_seq ?_
        refine rg ?_
        refine pl_x HE267 HH263 (wt0 rfl) (x_move rfl) rfl rfl fun a_268 HE269 => ?_
        refine pl_x HE269 HH263 (wt0 rfl) (x_lss rfl rfl) rfl rfl fun a_270 HE271 => ?_
        refine wpList_nil ?_
        clear a_266 HE267 a_268 HE269
        refine nrm ?_
        refine cndF HE271 rfl (decide_eq_false hc35) ?_
        refine wp_skip ?_
        refine nrm ?_
        refine wp_seq ?_
        refine wp_seq ?_
        refine rg ?_
        refine pl_x HE271 HH263 (wt0 rfl) (x_move rfl) rfl rfl fun a_272 HE273 => ?_
        refine pl_x HE273 HH263 (wt0 rfl) (x_move rfl) rfl rfl fun a_274 HE275 => ?_
        refine pl_x HE275 HH263 (wt0 rfl) (x_neq rfl rfl) rfl rfl fun a_276 HE277 => ?_
        refine wpList_nil ?_
        clear a_270 HE271 a_272 HE273 a_274 HE275
        refine nrm ?_
        refine cndF HE277 rfl (bne_f rfl) ?_
        refine wp_skip ?_
        refine nrm ?_
        refine wp_seq ?_
        refine rg ?_
        refine pl_x HE277 HH263 (wt0 rfl) (x_assign rfl) rfl rfl fun a_278 HE279 => ?_
        refine wpList_nil ?_
        clear a_276 HE277
        refine nrm ?_
        refine wp_ret ?_
        refine ret1 HE279 rfl (rv_tmp rfl) ?_
        have hF : true = true := by
          first | rfl | (exfalso; omega)
        exact ⟨by first | (rw [hF] <;> rfl) | rfl | (rw [hF]; simp only [Ending.returned.injEq, Value.slice.injEq, true_and, and_true]; first | omega | (simp; done)) | (rw [hF]; simp; omega), HH263.below⟩

end Go.Proofs.Ytnokeoejlfodkaa
