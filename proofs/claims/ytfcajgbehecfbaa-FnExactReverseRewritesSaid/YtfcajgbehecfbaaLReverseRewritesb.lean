/- What the proof of FnExactReverseRewrites needs: contracts of the functions that it reaches, each once. -/
import Derived.Test.YtfcajgbehecfbaaProg
import Derived.Test.YtfcajgbehecfbaaQMem
import Derived.Test.YtfcajgbehecfbaaQOpen
import Derived.Test.YtfcajgbehecfbaaLReverseRewritesa
import Derived.WalkKit
import Derived.WalkSpells
import Derived.Below
import Derived.LoopTactic
import Derived.Outline
import Derived.Deep.QuietTactic
import Derived.BigQuiet
import Derived.Deep.LoopGhost
import Derived.Handy
import Derived.Lib.Hide
import Derived.Shelf.Abstract
import Derived.StillTailTactics
import Derived.OwnWalk
import Derived.Maps.AppendAt
import Derived.RegionTactic
import Derived.Deep.RegionHeld3
import Derived.IntWalk
import Derived.Deep.Upon
import Derived.Laws.OwnMore
import Derived.Maps.AppendAt
import Derived.Lib.SliceRun
import Derived.Lib.AppendZeros
namespace Go.Proofs.Ytfcajgbehecfbaa
open Go.RowKit

set_option maxRecDepth 100000 in
set_option maxHeartbeats 4000000 in
theorem law_ReverseRewrites (A0 : Option Addr) (c0 : Nat) (a0 : (List tRewrite)) (w : World) (h0 : Sl eRewrite w (Old w) A0 c0 a0) :
    Calls Try.prog 6 #[.slice A0 a0.length c0] w fun e w' => e = .returned (.bool true) ∧ Below w.heap.size w w' := by
  have l0 := h0.len
  have m0 := ct_cost_SRewrite a0
  have n0 : (ct_SRewrite (reverseRw a0).1 : Int) ≤ 1000000000 := reverseRw_ct a0
  have HH1 := Held.start Nob w
  refine enter (n := 96) Try.func6 rfl rfl rfl fun a_2 HE3 => ?_
  refine wp_seq ?_
  refine rg ?_
  refine pl_x HE3 HH1 (wt0 rfl) (x_assign rfl) rfl rfl fun a_4 HE5 => ?_
  refine wpList_nil ?_
  clear a_2 HE3
  refine nrm ?_
  refine wp_seq ?_
  refine rg ?_
  refine pl_x HE5 HH1 (wt0 rfl) (x_assign rfl) rfl rfl fun a_6 HE7 => ?_
  refine wpList_nil ?_
  clear a_4 HE5
  refine nrm ?_
  refine wp_seq ?_
  refine rg ?_
  refine pl_x HE7 HH1 (wt0 rfl) (x_move rfl) rfl rfl fun a_8 HE9 => ?_
  refine pl_x HE9 HH1 (wt0 rfl) (x_move rfl) rfl rfl fun a_10 HE11 => ?_
  refine pl fun K_12 hK13 => ?_
  refine st_call HE11 (wt0 rfl) rfl rfl rfl en_20 rfl rfl (sz_RewriteS _ _ a0 1048576 _ (HH1.old h0) (by omega) (by omega)) fun e w' hr => ?_
  obtain ⟨rfl, hbr21⟩ := hr
  have HH14 := HH1.on hbr21
  clear hbr21
  refine ⟨_, rfl, fun a_15 HE16 => hK13 _ _ ?_⟩
  refine pl_x HE16 HH14 (wt0 rfl) (x_assign rfl) rfl rfl fun a_17 HE18 => ?_
  refine wpList_nil ?_
  clear a_6 HE7 a_8 HE9 HH1 a_10 HE11 a_15 HE16 hK13 K_12
  refine nrm ?_
  refine wp_seq ?_
  refine wp_seq ?_
  refine rg ?_
  refine pl_x HE18 HH14 (wt0 rfl) (x_move rfl) rfl rfl fun a_19 HE20 => ?_
  refine pl_x HE20 HH14 (wt0 rfl) (x_lss rfl rfl) rfl rfl fun a_21 HE22 => ?_
  refine wpList_nil ?_
  clear a_17 HE18 a_19 HE20
  refine nrm ?_
  refine cnd_d HE22 rfl (fun hc22 => ?_) (fun hc22 => ?_)
  · refine wp_seq ?_
    refine rg ?_
    refine pl_x HE22 HH14 (wt0 rfl) (x_assign rfl) rfl rfl fun a_23 HE24 => ?_
    refine wpList_nil ?_
    clear a_21 HE22
    refine nrm ?_
    refine wp_ret ?_
    refine (thn_ret ?_)
    refine ret1 HE24 rfl (rv_tmp rfl) ?_
    have hF : true = true := by
      first | rfl | (exfalso; omega)
    exact ⟨by rw [hF] <;> rfl, HH14.below⟩
  · have zr21 := left_ok hc22
    refine wp_skip ?_
    refine nrm ?_
    refine wp_seq ?_
    refine rg ?_
    refine pl_x HE22 HH14 (wt0 rfl) (x_move rfl) rfl rfl fun a_25 HE26 => ?_
    refine pl fun K_27 hK28 => ?_
    refine st_call HE26 (wt0 rfl) rfl rfl rfl en_22 rfl rfl (to_RewriteS _ _ a0 _ (HH14.old h0) (by omega)) fun e w' hr => ?_
    obtain ⟨Ar23, cr23, rfl, hor23, hbr23⟩ := hr
    obtain ⟨Sr23, HH29⟩ := HH14.newS hbr23 hor23
    clear hbr23 hor23
    refine ⟨_, rfl, fun a_30 HE31 => hK28 _ _ ?_⟩
    refine pl fun K_32 hK33 => ?_
    refine st_call HE31 (wt0 rfl) rfl rfl rfl en_37 rfl rfl (spec_ReverseRewrites _ _ a0 _ (HH29.sl (i := 0) rfl)) fun e w' hr => ?_
    obtain ⟨Ar24_0, cr24_0, rfl, hor24_0, hbr24⟩ := hr
    obtain ⟨Sr24, HH34⟩ := HH29.newS hbr24 hor24_0
    refine ⟨_, rfl, fun a_35 HE36 => hK33 _ _ ?_⟩
    refine pl_x HE36 HH34 (wt0 rfl) (x_move rfl) rfl rfl fun a_37 HE38 => ?_
    refine pl_x HE38 HH34 (wt0 rfl) (x_extract rfl rfl) rfl rfl fun a_39 HE40 => ?_
    refine pl_x HE40 HH34 (wt0 rfl) (x_extract rfl rfl) rfl rfl fun a_41 HE42 => ?_
    refine pl_x HE42 HH34 (wt0 rfl) (x_assign rfl) rfl rfl fun a_43 HE44 => ?_
    refine pl_x HE44 HH34 (wt0 rfl) (x_assign rfl) rfl rfl fun a_45 HE46 => ?_
    refine wpList_nil ?_
    clear a_21 HE22 HH14 a_25 HE26 K_27 hK28 HH29 a_30 HE31 a_35 HE36 a_37 HE38 a_39 HE40 a_41 HE42 a_43 HE44 hK33 K_32
    refine nrm ?_
    refine wp_seq ?_
    refine rg ?_
    refine pl_x HE46 HH34 (wt0 rfl) (x_move rfl) rfl rfl fun a_47 HE48 => ?_
    refine pl fun K_49 hK50 => ?_
    refine st_call HE48 (wt0 rfl) rfl rfl rfl en_22 rfl rfl (to_RewriteS _ _ a0 _ (HH34.old h0) (by omega)) fun e w' hr => ?_
    obtain ⟨Ar25, cr25, rfl, hor25, hbr25⟩ := hr
    obtain ⟨Sr25, HH51⟩ := HH34.newS hbr25 hor25
    clear hbr25 hor25
    refine ⟨_, rfl, fun a_52 HE53 => hK50 _ _ ?_⟩
    refine pl_x HE53 HH51 (wt0 rfl) (x_assign rfl) rfl rfl fun a_54 HE55 => ?_
    refine wpList_nil ?_
    clear a_45 HE46 HH34 a_47 HE48 a_52 HE53 hK50 K_49
    refine nrm ?_
    refine wp_seq ?_
    refine rg ?_
    refine pl_x HE55 HH51 (wt0 rfl) (x_move rfl) rfl rfl fun a_56 HE57 => ?_
    refine pl fun K_58 hK59 => ?_
    refine st_call HE57 (wt0 rfl) rfl rfl rfl en_38 rfl rfl (impl_ReverseRewrites _ _ a0 _ (HH51.sl (i := 0) rfl)) fun e w' hr => ?_
    obtain ⟨Ar26_0, cr26_0, rfl, hor26_0, hbr26⟩ := hr
    obtain ⟨Sr26, HH60⟩ := HH51.newS hbr26 hor26_0
    refine ⟨_, rfl, fun a_61 HE62 => hK59 _ _ ?_⟩
    refine pl_x HE62 HH60 (wt0 rfl) (x_move rfl) rfl rfl fun a_63 HE64 => ?_
    refine pl_x HE64 HH60 (wt0 rfl) (x_extract rfl rfl) rfl rfl fun a_65 HE66 => ?_
    refine pl_x HE66 HH60 (wt0 rfl) (x_extract rfl rfl) rfl rfl fun a_67 HE68 => ?_
    refine pl_x HE68 HH60 (wt0 rfl) (x_assign rfl) rfl rfl fun a_69 HE70 => ?_
    refine pl_x HE70 HH60 (wt0 rfl) (x_assign rfl) rfl rfl fun a_71 HE72 => ?_
    refine wpList_nil ?_
    clear a_54 HE55 HH51 a_56 HE57 a_61 HE62 a_63 HE64 a_65 HE66 a_67 HE68 a_69 HE70 hK59 K_58
    refine nrm ?_
    refine wp_seq ?_
    refine wp_seq ?_
    refine rg ?_
    refine pl_x HE72 HH60 (wt0 rfl) (x_move rfl) rfl rfl fun a_73 HE74 => ?_
    refine pl_x HE74 HH60 (wt0 rfl) (x_move rfl) rfl rfl fun a_75 HE76 => ?_
    refine pl fun K_77 hK78 => ?_
    refine st_call HE76 (wt0 rfl) rfl rfl rfl en_25 rfl rfl (eq_SRewrite_c _ _ _ _ ((reverseRw a0).1) ((reverseRw a0).1) _ (HH60.sl (i := 0) rfl) (HH60.sl (i := 2) rfl)) fun e w' hr => ?_
    obtain ⟨rfl, hbr27⟩ := hr
    have HH79 := HH60.on hbr27
    clear hbr27
    refine ⟨_, rfl, fun a_80 HE81 => hK78 _ _ ?_⟩
    refine pl_x HE81 HH79 (wt0 rfl) (x_not rfl) rfl rfl fun a_82 HE83 => ?_
    refine pl_x HE83 HH79 (wt0 rfl) (x_move rfl) rfl rfl fun a_84 HE85 => ?_
    refine pl_x HE85 HH79 (wtT HE85 rfl rfl rfl (not_f (eq_SRewrite_refl _))) (x_move rfl) rfl rfl fun a_86 HE87 => ?_
    refine pl_x HE87 HH79 (wtT HE87 rfl rfl rfl (not_f (eq_SRewrite_refl _))) (x_move rfl) rfl rfl fun a_88 HE89 => ?_
    refine pl_x HE89 HH79 (wtT HE89 rfl rfl rfl (not_f (eq_SRewrite_refl _))) (x_neq rfl rfl) rfl rfl fun a_90 HE91 => ?_
    refine pl_x HE91 HH79 (wt0 rfl) (x_pickF rfl (not_f (eq_SRewrite_refl _)) rfl) rfl rfl fun a_92 HE93 => ?_
    refine wpList_nil ?_
    clear a_71 HE72 a_73 HE74 HH60 a_75 HE76 a_80 HE81 a_82 HE83 a_84 HE85 a_86 HE87 a_88 HE89 a_90 HE91 hK78 K_77
    refine nrm ?_
    refine cndF HE93 rfl (bne_f rfl) ?_
    refine wp_skip ?_
    refine nrm ?_
    refine wp_seq ?_
    refine wp_seq ?_
    refine rg ?_
    refine pl_x HE93 HH79 (wt0 rfl) (x_move rfl) rfl rfl fun a_94 HE95 => ?_
    refine pl_x HE95 HH79 (wt0 rfl) (x_move rfl) rfl rfl fun a_96 HE97 => ?_
    refine pl fun K_98 hK99 => ?_
    refine st_call HE97 (wt0 rfl) rfl rfl rfl en_22 rfl rfl (to_RewriteS _ _ a0 _ (HH79.old h0) (by omega)) fun e w' hr => ?_
    obtain ⟨Ar28, cr28, rfl, hor28, hbr28⟩ := hr
    obtain ⟨Sr28, HH100⟩ := HH79.newS hbr28 hor28
    clear hbr28 hor28
    refine ⟨_, rfl, fun a_101 HE102 => hK99 _ _ ?_⟩
    refine pl fun K_103 hK104 => ?_
    refine st_call HE102 (wt0 rfl) rfl rfl rfl en_25 rfl rfl (eq_SRewrite_c _ _ _ _ a0 a0 _ (HH100.sl (i := 2) rfl) (HH100.sl (i := 0) rfl)) fun e w' hr => ?_
    obtain ⟨rfl, hbr29⟩ := hr
    have HH105 := HH100.on hbr29
    clear hbr29
    refine ⟨_, rfl, fun a_106 HE107 => hK104 _ _ ?_⟩
    refine pl_x HE107 HH105 (wt0 rfl) (x_not rfl) rfl rfl fun a_108 HE109 => ?_
    refine wpList_nil ?_
    clear a_92 HE93 a_94 HE95 HH79 a_96 HE97 K_98 hK99 HH100 a_101 HE102 a_106 HE107 hK104 K_103
    refine nrm ?_
    refine cndF HE109 rfl (not_f (eq_SRewrite_refl _)) ?_
    refine wp_skip ?_
    refine nrm ?_
    refine wp_seq ?_
    refine rg ?_
    refine pl_x HE109 HH105 (wt0 rfl) (x_assign rfl) rfl rfl fun a_110 HE111 => ?_
    refine wpList_nil ?_
    clear a_108 HE109
    refine nrm ?_
    refine wp_seq ?_
    refine rg ?_
    refine pl_x HE111 HH105 (wt0 rfl) (x_move rfl) rfl rfl fun a_112 HE113 => ?_
    refine pl_x HE113 HH105 (wt0 rfl) (x_move rfl) rfl rfl fun a_114 HE115 => ?_
    refine pl fun K_116 hK117 => ?_
    have HH118 := HH105.sel [2, 0, 1, 3, 4] (by decide) rfl
    have HH119 : Held Nob w ([rSo eRewrite Sr25 Ar25 cr25 a0] ++ [rSo eRewrite Sr28 Ar28 cr28 a0, rSo eRewrite Sr26 Ar26_0 cr26_0 ((reverseRw a0).1), rSo eRewrite Sr24 Ar24_0 cr24_0 ((reverseRw a0).1), rSo eRewrite Sr23 Ar23 cr23 a0]) _ := HH118
    refine st_call HE115 (wt0 rfl) rfl rfl rfl en_39 rfl rfl (mark_SRewrite_h (Foot [rSo eRewrite Sr25 Ar25 cr25 a0]) _ _ a0 _ 1 _ HH119.focus (by omega) (by omega)) fun e w' hr => ?_
    obtain ⟨Sr30, rfl, hbr30⟩ := hr
    have HH120 := HH119.back hbr30
    clear hbr30
    have HH121 : Held Nob w (rSo eRewrite Sr30 Ar25 cr25 (mk_SRewrite a0 1) :: [rSo eRewrite Sr28 Ar28 cr28 a0, rSo eRewrite Sr26 Ar26_0 cr26_0 ((reverseRw a0).1), rSo eRewrite Sr24 Ar24_0 cr24_0 ((reverseRw a0).1), rSo eRewrite Sr23 Ar23 cr23 a0]) _ := HH120
    refine ⟨_, rfl, fun a_122 HE123 => hK117 _ _ ?_⟩
    refine pl_x HE123 HH121 (wt0 rfl) (x_assign rfl) rfl rfl fun a_124 HE125 => ?_
    refine wpList_nil ?_
    clear a_110 HE111 a_112 HE113 HH105 HH118 HH119 HH120 a_114 HE115 a_122 HE123 hK117 K_116
    refine nrm ?_
    refine wp_seq ?_
    refine wp_seq ?_
    refine rg ?_
    refine pl_x HE125 HH121 (wt0 rfl) (x_move rfl) rfl rfl fun a_126 HE127 => ?_
    refine pl_x HE127 HH121 (wt0 rfl) (x_lss rfl rfl) rfl rfl fun a_128 HE129 => ?_
    refine pl_x HE129 HH121 (wt0 rfl) (x_move rfl) rfl rfl fun a_130 HE131 => ?_
    by_cases hc31 : (1 + (ct_SRewrite a0 : Int)) < 0
    · refine pl_no HE131 (wtF HE131 rfl rfl rfl (decide_eq_true hc31)) rfl rfl fun a_132 HE133 => ?_
      refine pl_no HE133 (wtF HE133 rfl rfl rfl (decide_eq_true hc31)) rfl rfl fun a_134 HE135 => ?_
      refine pl_no HE135 (wtF HE135 rfl rfl rfl (decide_eq_true hc31)) rfl rfl fun a_136 HE137 => ?_
      refine pl_no HE137 (wtF HE137 rfl rfl rfl (decide_eq_true hc31)) rfl rfl fun a_138 HE139 => ?_
      refine pl_x HE139 HH121 (wt0 rfl) (x_pickT rfl (decide_eq_true hc31) rfl) rfl rfl fun a_140 HE141 => ?_
      refine pl_x HE141 HH121 (wt0 rfl) (x_move rfl) rfl rfl fun a_142 HE143 => ?_
      refine pl_no HE143 (wtF HE143 rfl rfl rfl rfl) rfl rfl fun a_144 HE145 => ?_
      refine pl_no HE145 (wtF HE145 rfl rfl rfl rfl) rfl rfl fun a_146 HE147 => ?_
      refine pl_no HE147 (wtF HE147 rfl rfl rfl rfl) rfl rfl fun a_148 HE149 => ?_
      refine pl_x HE149 HH121 (wt0 rfl) (x_pickT rfl rfl rfl) rfl rfl fun a_150 HE151 => ?_
      refine wpList_nil ?_
      clear a_124 HE125 a_126 HE127 a_128 HE129 a_130 HE131 a_132 HE133 a_134 HE135 a_136 HE137 a_138 HE139 a_140 HE141 a_142 HE143 a_144 HE145 a_146 HE147 a_148 HE149
      refine nrm ?_
      refine cndT HE151 rfl rfl ?_
      refine wp_seq ?_
      refine rg ?_
      refine pl_x HE151 HH121 (wt0 rfl) (x_assign rfl) rfl rfl fun a_152 HE153 => ?_
      refine wpList_nil ?_
      clear a_150 HE151
      refine nrm ?_
      refine wp_ret ?_
      refine (thn_ret ?_)
      refine ret1 HE153 rfl (rv_tmp rfl) ?_
      have hF : true = false := by
        first | rfl | (exfalso; omega)
      exact ⟨by rw [hF] <;> rfl, HH121.below⟩
    · refine pl_x HE131 HH121 (wtT HE131 rfl rfl rfl (decide_eq_false hc31)) (x_move rfl) rfl rfl fun a_154 HE155 => ?_
      refine pl_x HE155 HH121 (wtT HE155 rfl rfl rfl (decide_eq_false hc31)) (x_move rfl) rfl rfl fun a_156 HE157 => ?_
      refine pl fun K_158 hK159 => ?_
      refine st_call HE157 (wtT HE157 rfl rfl rfl (decide_eq_false hc31)) rfl rfl rfl en_25 rfl rfl (eq_SRewrite_c _ _ _ _ ((reverseRw a0).1) ((reverseRw a0).1) _ (HH121.sl (i := 2) rfl) (HH121.sl (i := 3) rfl)) fun e w' hr => ?_
      obtain ⟨rfl, hbr32⟩ := hr
      have HH160 := HH121.on hbr32
      clear hbr32
      refine ⟨_, rfl, fun a_161 HE162 => hK159 _ _ ?_⟩
      refine pl_x HE162 HH160 (wtT HE162 rfl rfl rfl (decide_eq_false hc31)) (x_not rfl) rfl rfl fun a_163 HE164 => ?_
      refine pl_x HE164 HH160 (wt0 rfl) (x_pickF rfl (decide_eq_false hc31) rfl) rfl rfl fun a_165 HE166 => ?_
      refine pl_x HE166 HH160 (wt0 rfl) (x_move rfl) rfl rfl fun a_167 HE168 => ?_
      refine pl_x HE168 HH160 (wtT HE168 rfl rfl rfl (not_f (eq_SRewrite_refl _))) (x_move rfl) rfl rfl fun a_169 HE170 => ?_
      refine pl_x HE170 HH160 (wtT HE170 rfl rfl rfl (not_f (eq_SRewrite_refl _))) (x_move rfl) rfl rfl fun a_171 HE172 => ?_
      refine pl_x HE172 HH160 (wtT HE172 rfl rfl rfl (not_f (eq_SRewrite_refl _))) (x_neq rfl rfl) rfl rfl fun a_173 HE174 => ?_
      refine pl_x HE174 HH160 (wt0 rfl) (x_pickF rfl (not_f (eq_SRewrite_refl _)) rfl) rfl rfl fun a_175 HE176 => ?_
      refine wpList_nil ?_
      clear a_124 HE125 a_126 HE127 a_128 HE129 a_130 HE131 a_154 HE155 HH121 a_156 HE157 a_161 HE162 a_163 HE164 a_165 HE166 a_167 HE168 a_169 HE170 a_171 HE172 a_173 HE174 hK159 K_158
      refine nrm ?_
      refine cndF HE176 rfl (bne_f rfl) ?_
      refine wp_skip ?_
      refine nrm ?_
      refine wp_seq ?_
      refine rg ?_
      refine pl_x HE176 HH160 (wt0 rfl) (x_assign rfl) rfl rfl fun a_177 HE178 => ?_
      refine wpList_nil ?_
      clear a_175 HE176
      refine nrm ?_
      refine wp_seq ?_
      refine rg ?_
      refine pl_x HE178 HH160 (wt0 rfl) (x_move rfl) rfl rfl fun a_179 HE180 => ?_
      refine pl_x HE180 HH160 (wt0 rfl) (x_move rfl) rfl rfl fun a_181 HE182 => ?_
      refine pl fun K_183 hK184 => ?_
      have HH185 := HH160.sel [2, 0, 1, 3, 4] (by decide) rfl
      have HH186 : Held Nob w ([rSo eRewrite Sr26 Ar26_0 cr26_0 ((reverseRw a0).1)] ++ [rSo eRewrite Sr30 Ar25 cr25 (mk_SRewrite a0 1), rSo eRewrite Sr28 Ar28 cr28 a0, rSo eRewrite Sr24 Ar24_0 cr24_0 ((reverseRw a0).1), rSo eRewrite Sr23 Ar23 cr23 a0]) _ := HH185
      refine st_call HE182 (wt0 rfl) rfl rfl rfl en_39 rfl rfl (mark_SRewrite_h (Foot [rSo eRewrite Sr26 Ar26_0 cr26_0 ((reverseRw a0).1)]) _ _ ((reverseRw a0).1) _ 1 _ HH186.focus (by omega) (by omega)) fun e w' hr => ?_
      obtain ⟨Sr33, rfl, hbr33⟩ := hr
      have HH187 := HH186.back hbr33
      clear hbr33
      have HH188 : Held Nob w (rSo eRewrite Sr33 Ar26_0 cr26_0 (mk_SRewrite ((reverseRw a0).1) 1) :: [rSo eRewrite Sr30 Ar25 cr25 (mk_SRewrite a0 1), rSo eRewrite Sr28 Ar28 cr28 a0, rSo eRewrite Sr24 Ar24_0 cr24_0 ((reverseRw a0).1), rSo eRewrite Sr23 Ar23 cr23 a0]) _ := HH187
      refine ⟨_, rfl, fun a_189 HE190 => hK184 _ _ ?_⟩
      refine pl_x HE190 HH188 (wt0 rfl) (x_assign rfl) rfl rfl fun a_191 HE192 => ?_
      refine wpList_nil ?_
      clear a_177 HE178 a_179 HE180 HH160 HH185 HH186 HH187 a_181 HE182 a_189 HE190 hK184 K_183
      refine nrm ?_
      refine wp_seq ?_
      refine rg ?_
      refine pl_x HE192 HH188 (wt0 rfl) (x_assign rfl) rfl rfl fun a_193 HE194 => ?_
      refine wpList_nil ?_
      clear a_191 HE192
      refine nrm ?_
      refine wp_seq ?_
      refine rg ?_
      refine pl_x HE194 HH188 (wt0 rfl) (x_move rfl) rfl rfl fun a_195 HE196 => ?_
      refine pl_x HE196 HH188 (wt0 rfl) (x_move rfl) rfl rfl fun a_197 HE198 => ?_
      refine pl fun K_199 hK200 => ?_
      have HE201 := HE198.castS (t := 65) (m' := List.length (mk_SRewrite ((reverseRw a0).1) 1)) rfl (mkL_len _ _ _ _).symm
      refine st_call HE201 (wt0 rfl) rfl rfl rfl en_40 rfl rfl (held_SRewrite_e _ _ (mk_SRewrite ((reverseRw a0).1) 1) 1 ((reverseRw a0).1) _ (HH188.sl (i := 0) rfl) rfl (by omega) (by omega)) fun e w' hr => ?_
      obtain ⟨rfl, hbr34⟩ := hr
      have HH202 := HH188.on hbr34
      clear hbr34
      refine ⟨_, rfl, fun a_203 HE204 => hK200 _ _ ?_⟩
      refine pl_x HE204 HH202 (wt0 rfl) (x_assign rfl) rfl rfl fun a_205 HE206 => ?_
      refine wpList_nil ?_
      clear a_193 HE194 a_195 HE196 HE198 HH188 a_197 HE201 a_203 HE204 hK200 K_199
      refine nrm ?_
      refine wp_seq ?_
      refine wp_seq ?_
      refine rg ?_
      refine pl_x HE206 HH202 (wt0 rfl) (x_move rfl) rfl rfl fun a_207 HE208 => ?_
      refine pl_x HE208 HH202 (wt0 rfl) (x_lss rfl rfl) rfl rfl fun a_209 HE210 => ?_
      refine wpList_nil ?_
      clear a_205 HE206 a_207 HE208
      refine nrm ?_
      refine cnd_d HE210 rfl (fun hc35 => ?_) (fun hc35 => ?_)
      · refine wp_seq ?_
        refine rg ?_
        refine pl_x HE210 HH202 (wt0 rfl) (x_assign rfl) rfl rfl fun a_211 HE212 => ?_
        refine wpList_nil ?_
        clear a_209 HE210
        refine nrm ?_
        refine wp_ret ?_
        refine (thn_ret ?_)
        refine ret1 HE212 rfl (rv_tmp rfl) ?_
        have hF : true = false := by
          first | rfl | (exfalso; omega)
        exact ⟨by rw [hF] <;> rfl, HH202.below⟩
      · refine wp_skip ?_
        refine nrm ?_
        refine wp_seq ?_
        refine wp_seq ?_
        refine rg ?_
        refine pl_x HE210 HH202 (wt0 rfl) (x_move rfl) rfl rfl fun a_213 HE214 => ?_
        refine pl_x HE214 HH202 (wt0 rfl) (x_move rfl) rfl rfl fun a_215 HE216 => ?_
        refine pl_x HE216 HH202 (wt0 rfl) (x_neq rfl rfl) rfl rfl fun a_217 HE218 => ?_
        refine wpList_nil ?_
        clear a_209 HE210 a_213 HE214 a_215 HE216
        refine nrm ?_
        refine cndF HE218 rfl (bne_f rfl) ?_
        refine wp_skip ?_
        refine nrm ?_
        refine wp_seq ?_
        refine rg ?_
        refine pl_x HE218 HH202 (wt0 rfl) (x_move rfl) rfl rfl fun a_219 HE220 => ?_
        refine pl fun K_221 hK222 => ?_
        refine st_call HE220 (wt0 rfl) rfl rfl rfl en_22 rfl rfl (to_RewriteS _ _ a0 _ (HH202.old h0) (by omega)) fun e w' hr => ?_
        obtain ⟨Ar36, cr36, rfl, hor36, hbr36⟩ := hr
        obtain ⟨Sr36, HH223⟩ := HH202.newS hbr36 hor36
        clear hbr36 hor36
        refine ⟨_, rfl, fun a_224 HE225 => hK222 _ _ ?_⟩
        refine pl fun K_226 hK227 => ?_
        refine st_call HE225 (wt0 rfl) rfl rfl rfl en_38 rfl rfl (impl_ReverseRewrites _ _ a0 _ (HH223.sl (i := 0) rfl)) fun e w' hr => ?_
        obtain ⟨Ar37_0, cr37_0, rfl, hor37_0, hbr37⟩ := hr
        obtain ⟨Sr37, HH228⟩ := HH223.newS hbr37 hor37_0
        refine ⟨_, rfl, fun a_229 HE230 => hK227 _ _ ?_⟩
        refine pl_x HE230 HH228 (wt0 rfl) (x_move rfl) rfl rfl fun a_231 HE232 => ?_
        refine pl_x HE232 HH228 (wt0 rfl) (x_extract rfl rfl) rfl rfl fun a_233 HE234 => ?_
        refine pl_x HE234 HH228 (wt0 rfl) (x_extract rfl rfl) rfl rfl fun a_235 HE236 => ?_
        refine pl_x HE236 HH228 (wt0 rfl) (x_assign rfl) rfl rfl fun a_237 HE238 => ?_
        refine pl_x HE238 HH228 (wt0 rfl) (x_assign rfl) rfl rfl fun a_239 HE240 => ?_
        refine wpList_nil ?_
        clear a_217 HE218 HH202 a_219 HE220 K_221 hK222 HH223 a_224 HE225 a_229 HE230 a_231 HE232 a_233 HE234 a_235 HE236 a_237 HE238 hK227 K_226
        refine nrm ?_
        refine wp_seq ?_
        refine wp_seq ?_
        refine rg ?_
        refine pl_x HE240 HH228 (wt0 rfl) (x_move rfl) rfl rfl fun a_241 HE242 => ?_
        refine pl_x HE242 HH228 (wt0 rfl) (x_move rfl) rfl rfl fun a_243 HE244 => ?_
        refine pl fun K_245 hK246 => ?_
        refine st_call HE244 (wt0 rfl) rfl rfl rfl en_25 rfl rfl (eq_SRewrite_c _ _ _ _ ((reverseRw a0).1) ((reverseRw a0).1) _ (HH228.sl (i := 0) rfl) (HH228.sl (i := 5) rfl)) fun e w' hr => ?_
        obtain ⟨rfl, hbr38⟩ := hr
        have HH247 := HH228.on hbr38
        clear hbr38
        refine ⟨_, rfl, fun a_248 HE249 => hK246 _ _ ?_⟩
        refine pl_x HE249 HH247 (wt0 rfl) (x_not rfl) rfl rfl fun a_250 HE251 => ?_
        refine pl_x HE251 HH247 (wt0 rfl) (x_move rfl) rfl rfl fun a_252 HE253 => ?_
        refine pl_x HE253 HH247 (wtT HE253 rfl rfl rfl (not_f (eq_SRewrite_refl _))) (x_move rfl) rfl rfl fun a_254 HE255 => ?_
        refine pl_x HE255 HH247 (wtT HE255 rfl rfl rfl (not_f (eq_SRewrite_refl _))) (x_move rfl) rfl rfl fun a_256 HE257 => ?_
        refine pl_x HE257 HH247 (wtT HE257 rfl rfl rfl (not_f (eq_SRewrite_refl _))) (x_neq rfl rfl) rfl rfl fun a_258 HE259 => ?_
        refine pl_x HE259 HH247 (wt0 rfl) (x_pickF rfl (not_f (eq_SRewrite_refl _)) rfl) rfl rfl fun a_260 HE261 => ?_
        refine wpList_nil ?_
        clear a_239 HE240 a_241 HE242 HH228 a_243 HE244 a_248 HE249 a_250 HE251 a_252 HE253 a_254 HE255 a_256 HE257 a_258 HE259 hK246 K_245
        refine nrm ?_
        refine cndF HE261 rfl (bne_f rfl) ?_
        refine wp_skip ?_
        refine nrm ?_
        refine wp_seq ?_
        refine rg ?_
        refine pl_x HE261 HH247 (wt0 rfl) (x_assign rfl) rfl rfl fun a_262 HE263 => ?_
        refine wpList_nil ?_
        clear a_260 HE261
        refine nrm ?_
        refine wp_seq ?_
        refine rg ?_
        refine pl_x HE263 HH247 (wt0 rfl) (x_move rfl) rfl rfl fun a_264 HE265 => ?_
        refine pl_x HE265 HH247 (wt0 rfl) (x_move rfl) rfl rfl fun a_266 HE267 => ?_
        refine pl fun K_268 hK269 => ?_
        have HE270 := HE267.castS (t := 88) (m' := List.length (mk_SRewrite ((reverseRw a0).1) 1)) rfl (mkL_len _ _ _ _).symm
        refine st_call HE270 (wt0 rfl) rfl rfl rfl en_40 rfl rfl (held_SRewrite_e _ _ (mk_SRewrite ((reverseRw a0).1) 1) 1 ((reverseRw a0).1) _ (HH247.sl (i := 2) rfl) rfl (by omega) (by omega)) fun e w' hr => ?_
        obtain ⟨rfl, hbr39⟩ := hr
        have HH271 := HH247.on hbr39
        clear hbr39
        refine ⟨_, rfl, fun a_272 HE273 => hK269 _ _ ?_⟩
        refine pl_x HE273 HH271 (wt0 rfl) (x_assign rfl) rfl rfl fun a_274 HE275 => ?_
        refine wpList_nil ?_
        clear a_262 HE263 a_264 HE265 HE267 HH247 a_266 HE270 a_272 HE273 hK269 K_268
        refine nrm ?_
        refine wp_seq ?_
        refine wp_seq ?_
        refine rg ?_
        refine pl_x HE275 HH271 (wt0 rfl) (x_move rfl) rfl rfl fun a_276 HE277 => ?_
        refine pl_x HE277 HH271 (wt0 rfl) (x_lss rfl rfl) rfl rfl fun a_278 HE279 => ?_
        refine wpList_nil ?_
        clear a_274 HE275 a_276 HE277
        refine nrm ?_
        refine cndF HE279 rfl (decide_eq_false hc35) ?_
        refine wp_skip ?_
        refine nrm ?_
        refine wp_seq ?_
        refine wp_seq ?_
        refine rg ?_
        refine pl_x HE279 HH271 (wt0 rfl) (x_move rfl) rfl rfl fun a_280 HE281 => ?_
        refine pl_x HE281 HH271 (wt0 rfl) (x_move rfl) rfl rfl fun a_282 HE283 => ?_
        refine pl_x HE283 HH271 (wt0 rfl) (x_neq rfl rfl) rfl rfl fun a_284 HE285 => ?_
        refine wpList_nil ?_
        clear a_278 HE279 a_280 HE281 a_282 HE283
        refine nrm ?_
        refine cndF HE285 rfl (bne_f rfl) ?_
        refine wp_skip ?_
        refine nrm ?_
        refine wp_seq ?_
        refine rg ?_
        refine pl_x HE285 HH271 (wt0 rfl) (x_assign rfl) rfl rfl fun a_286 HE287 => ?_
        refine wpList_nil ?_
        clear a_284 HE285
        refine nrm ?_
        refine wp_ret ?_
        refine ret1 HE287 rfl (rv_tmp rfl) ?_
        have hF : true = true := by
          first | rfl | (exfalso; omega)
        exact ⟨by rw [hF] <;> rfl, HH271.below⟩

end Go.Proofs.Ytfcajgbehecfbaa
