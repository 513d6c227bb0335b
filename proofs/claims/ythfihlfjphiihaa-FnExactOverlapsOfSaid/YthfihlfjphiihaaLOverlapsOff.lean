/- What the proof of FnExactOverlapsOf needs: contracts of the functions that it reaches, each once. -/
import Derived.Test.YthfihlfjphiihaaProg
import Derived.Test.YthfihlfjphiihaaQMem
import Derived.Test.YthfihlfjphiihaaQOpen
import Derived.Test.YthfihlfjphiihaaLOverlapsOfa
import Derived.Test.YthfihlfjphiihaaLOverlapsOfb
import Derived.Test.YthfihlfjphiihaaLOverlapsOfc
import Derived.Test.YthfihlfjphiihaaLOverlapsOfd
import Derived.Test.YthfihlfjphiihaaLOverlapsOfe
import Derived.WalkKit
import Derived.WalkSpells
import Derived.Below
import Derived.LoopTactic
import Derived.Outline
import Derived.Deep.QuietTactic
import Derived.BigQuiet
import Derived.Deep.LoopGhost
import Derived.Handy
import Derived.Lib.Hide
import Derived.Shelf.Abstract
import Derived.StillTailTactics
import Derived.OwnWalk
import Derived.Maps.AppendAt
import Derived.RegionTactic
import Derived.Deep.RegionHeld3
import Derived.IntWalk
import Derived.Deep.Upon
import Derived.Laws.OwnMore
import Derived.Maps.AppendAt
import Derived.Laws.Small
import Derived.Lib.FrozenHead
import Derived.Lib.RuneBytes
import Derived.Lib.LaidTab
import Derived.Laws.StructEq
import Derived.Lib.SliceRun
import Derived.Lib.AppendZeros
import Derived.Lib.ItoaLen
import Derived.Lib.Join
import Derived.Shelf.Strconv.Itoa4
import Derived.Shelf.Strings.OnBuilder
import Derived.Shelf.Strings.BuilderK
import Derived.Shelf.Strings.BuilderRune
import Derived.Shelf.LaysM
import Derived.Ground.NamesProg
namespace Go.Proofs.Ythfihlfjphiihaa
open Go.RowKit

set_option maxRecDepth 100000 in
set_option maxHeartbeats 4000000 in
theorem law_OverlapsOf (A0 : Option Addr) (c0 : Nat) (a0 : (List tRewrite)) (w : World) (h0 : Sl eRewrite w (Old w) A0 c0 a0) :
    Calls Try.prog 3 #[.slice A0 a0.length c0] w fun e w' => e = .returned (.bool true) ∧ Below w.heap.size w w' := by
  have l0 := h0.len
  have m0 := ct_cost_SRewrite a0
  have n0 : (ct_LLL (overlapsOf a0).1 : Int) ≤ 1000000000 := overlapsOf_ct a0
  have HH1 := Held.start Nob w
  refine enter (n := 96) Try.func3 rfl rfl rfl fun a_2 HE3 => ?_
  refine wp_seq ?_
  refine rg ?_
  refine pl_x HE3 HH1 (wt0 rfl) (x_assign rfl) rfl rfl fun a_4 HE5 => ?_
  refine wpList_nil ?_
  clear a_2 HE3
  refine nrm ?_
  refine wp_seq ?_
  refine rg ?_
  refine pl_x HE5 HH1 (wt0 rfl) (x_assign rfl) rfl rfl fun a_6 HE7 => ?_
  refine wpList_nil ?_
  clear a_4 HE5
  refine nrm ?_
  refine wp_seq ?_
  refine rg ?_
  refine pl_x HE7 HH1 (wt0 rfl) (x_move rfl) rfl rfl fun a_8 HE9 => ?_
  refine pl_x HE9 HH1 (wt0 rfl) (x_move rfl) rfl rfl fun a_10 HE11 => ?_
  refine pl fun K_12 hK13 => ?_
  refine st_call HE11 (wt0 rfl) rfl rfl rfl en_7 rfl rfl (sz_RewriteS _ _ a0 1048576 _ (HH1.old h0) (by omega) (by omega)) fun e w' hr => ?_
  obtain ⟨rfl, hbr21⟩ := hr
  have HH14 := HH1.on hbr21
  clear hbr21
  refine ⟨_, rfl, fun a_15 HE16 => hK13 _ _ ?_⟩
  refine pl_x HE16 HH14 (wt0 rfl) (x_assign rfl) rfl rfl fun a_17 HE18 => ?_
  refine wpList_nil ?_
  clear a_6 HE7 a_8 HE9 HH1 a_10 HE11 a_15 HE16 hK13 K_12
  refine nrm ?_
  refine wp_seq ?_
  refine wp_seq ?_
  refine rg ?_
  refine pl_x HE18 HH14 (wt0 rfl) (x_move rfl) rfl rfl fun a_19 HE20 => ?_
  refine pl_x HE20 HH14 (wt0 rfl) (x_lss rfl rfl) rfl rfl fun a_21 HE22 => ?_
  refine wpList_nil ?_
  clear a_17 HE18 a_19 HE20
  refine nrm ?_
  refine cnd_d HE22 rfl (fun hc22 => ?_) (fun hc22 => ?_)
  · refine wp_seq ?_
    refine rg ?_
    refine pl_x HE22 HH14 (wt0 rfl) (x_assign rfl) rfl rfl fun a_23 HE24 => ?_
    refine wpList_nil ?_
    clear a_21 HE22
    refine nrm ?_
    refine wp_ret ?_
    refine (thn_ret ?_)
    refine ret1 HE24 rfl (rv_tmp rfl) ?_
    have hF : true = true := by
      first | rfl | (exfalso; omega)
    exact ⟨by first | (rw [hF] <;> rfl) | rfl | (rw [hF]; simp only [Ending.returned.injEq, Value.slice.injEq, true_and, and_true]; first | omega | (simp; done)) | (rw [hF]; simp; omega), HH14.below⟩
  · have zr21 := left_ok hc22
    refine wp_skip ?_
    refine nrm ?_
    refine wp_seq ?_
    refine rg ?_
    refine pl_x HE22 HH14 (wt0 rfl) (x_move rfl) rfl rfl fun a_25 HE26 => ?_
    refine pl fun K_27 hK28 => ?_
    refine st_call HE26 (wt0 rfl) rfl rfl rfl en_9 rfl rfl (to_RewriteS _ _ a0 _ (HH14.old h0) (by omega)) fun e w' hr => ?_
    obtain ⟨Ar23, cr23, rfl, hor23, hbr23⟩ := hr
    obtain ⟨Sr23, HH29⟩ := HH14.newS hbr23 hor23
    clear hbr23 hor23
    refine ⟨_, rfl, fun a_30 HE31 => hK28 _ _ ?_⟩
    refine pl fun K_32 hK33 => ?_
    refine st_call HE31 (wt0 rfl) rfl rfl rfl en_8 rfl rfl (spec_OverlapsOf _ _ a0 _ (HH29.sl (i := 0) rfl)) fun e w' hr => ?_
    obtain ⟨Ar24_0, cr24_0, Sr24_0, rfl, hbr24⟩ := hr
    have HH34 := HH29.app hbr24
    clear hbr24
    have HH35 : Held Nob w ([rVec (eSl (eSl eInt)) 50 Sr24_0 Ar24_0 cr24_0 ((overlapsOf a0).1), rSo eRewrite Sr23 Ar23 cr23 a0]) _ := HH34
    refine ⟨_, rfl, fun a_36 HE37 => hK33 _ _ ?_⟩
    refine pl_x HE37 HH35 (wt0 rfl) (x_move rfl) rfl rfl fun a_38 HE39 => ?_
    refine pl_x HE39 HH35 (wt0 rfl) (x_extract rfl rfl) rfl rfl fun a_40 HE41 => ?_
    refine pl_x HE41 HH35 (wt0 rfl) (x_extract rfl rfl) rfl rfl fun a_42 HE43 => ?_
    refine pl_x HE43 HH35 (wt0 rfl) (x_assign rfl) rfl rfl fun a_44 HE45 => ?_
    refine pl_x HE45 HH35 (wt0 rfl) (x_assign rfl) rfl rfl fun a_46 HE47 => ?_
    refine wpList_nil ?_
    clear a_21 HE22 HH14 a_25 HE26 K_27 hK28 HH29 HH34 a_30 HE31 a_36 HE37 a_38 HE39 a_40 HE41 a_42 HE43 a_44 HE45 hK33 K_32
    refine nrm ?_
    refine wp_seq ?_
    refine rg ?_
    refine pl_x HE47 HH35 (wt0 rfl) (x_move rfl) rfl rfl fun a_48 HE49 => ?_
    refine pl fun K_50 hK51 => ?_
    refine st_call HE49 (wt0 rfl) rfl rfl rfl en_9 rfl rfl (to_RewriteS _ _ a0 _ (HH35.old h0) (by omega)) fun e w' hr => ?_
    obtain ⟨Ar25, cr25, rfl, hor25, hbr25⟩ := hr
    obtain ⟨Sr25, HH52⟩ := HH35.newS hbr25 hor25
    clear hbr25 hor25
    refine ⟨_, rfl, fun a_53 HE54 => hK51 _ _ ?_⟩
    refine pl_x HE54 HH52 (wt0 rfl) (x_assign rfl) rfl rfl fun a_55 HE56 => ?_
    refine wpList_nil ?_
    clear a_46 HE47 HH35 a_48 HE49 a_53 HE54 hK51 K_50
    refine nrm ?_
    refine wp_seq ?_
    refine rg ?_
    refine pl_x HE56 HH52 (wt0 rfl) (x_move rfl) rfl rfl fun a_57 HE58 => ?_
    refine pl fun K_59 hK60 => ?_
    refine st_call HE58 (wt0 rfl) rfl rfl rfl en_10 rfl rfl (impl_OverlapsOf _ _ a0 _ (HH52.sl (i := 0) rfl)) fun e w' hr => ?_
    obtain ⟨Ar26_0, cr26_0, Sr26_0, rfl, hbr26⟩ := hr
    have HH61 := HH52.app hbr26
    clear hbr26
    have HH62 : Held Nob w ([rVec (eSl (eSl eInt)) 50 Sr26_0 Ar26_0 cr26_0 ((overlapsOf a0).1), rSo eRewrite Sr25 Ar25 cr25 a0, rVec (eSl (eSl eInt)) 50 Sr24_0 Ar24_0 cr24_0 ((overlapsOf a0).1), rSo eRewrite Sr23 Ar23 cr23 a0]) _ := HH61
    refine ⟨_, rfl, fun a_63 HE64 => hK60 _ _ ?_⟩
    refine pl_x HE64 HH62 (wt0 rfl) (x_move rfl) rfl rfl fun a_65 HE66 => ?_
    refine pl_x HE66 HH62 (wt0 rfl) (x_extract rfl rfl) rfl rfl fun a_67 HE68 => ?_
    refine pl_x HE68 HH62 (wt0 rfl) (x_extract rfl rfl) rfl rfl fun a_69 HE70 => ?_
    refine pl_x HE70 HH62 (wt0 rfl) (x_assign rfl) rfl rfl fun a_71 HE72 => ?_
    refine pl_x HE72 HH62 (wt0 rfl) (x_assign rfl) rfl rfl fun a_73 HE74 => ?_
    refine wpList_nil ?_
    clear a_55 HE56 HH52 HH61 a_57 HE58 a_63 HE64 a_65 HE66 a_67 HE68 a_69 HE70 a_71 HE72 hK60 K_59
    refine nrm ?_
    refine wp_seq ?_
    refine wp_seq ?_
    refine rg ?_
    refine pl_x HE74 HH62 (wt0 rfl) (x_move rfl) rfl rfl fun a_75 HE76 => ?_
    refine pl_x HE76 HH62 (wt0 rfl) (x_move rfl) rfl rfl fun a_77 HE78 => ?_
    refine pl fun K_79 hK80 => ?_
    refine st_call HE78 (wt0 rfl) rfl rfl rfl en_11 rfl rfl (eq_LLL_c _ _ _ _ ((overlapsOf a0).1) ((overlapsOf a0).1) _ (HH62.vecSl (i := 0) rfl) (HH62.vecSl (i := 2) rfl)) fun e w' hr => ?_
    obtain ⟨rfl, hbr27⟩ := hr
    have HH81 := HH62.on hbr27
    clear hbr27
    refine ⟨_, rfl, fun a_82 HE83 => hK80 _ _ ?_⟩
    refine pl_x HE83 HH81 (wt0 rfl) (x_not rfl) rfl rfl fun a_84 HE85 => ?_
    refine pl_x HE85 HH81 (wt0 rfl) (x_move rfl) rfl rfl fun a_86 HE87 => ?_
    refine pl_x HE87 HH81 (wtT HE87 rfl rfl rfl (not_f (eq_LLL_refl _))) (x_move rfl) rfl rfl fun a_88 HE89 => ?_
    refine pl_x HE89 HH81 (wtT HE89 rfl rfl rfl (not_f (eq_LLL_refl _))) (x_move rfl) rfl rfl fun a_90 HE91 => ?_
    refine pl_x HE91 HH81 (wtT HE91 rfl rfl rfl (not_f (eq_LLL_refl _))) (x_neq rfl rfl) rfl rfl fun a_92 HE93 => ?_
    refine pl_x HE93 HH81 (wt0 rfl) (x_pickF rfl (not_f (eq_LLL_refl _)) rfl) rfl rfl fun a_94 HE95 => ?_
    refine wpList_nil ?_
    clear a_73 HE74 a_75 HE76 HH62 a_77 HE78 a_82 HE83 a_84 HE85 a_86 HE87 a_88 HE89 a_90 HE91 a_92 HE93 hK80 K_79
    refine nrm ?_
    refine cndF HE95 rfl (bne_f rfl) ?_
    refine wp_skip ?_
    refine nrm ?_
    refine wp_seq ?_
    refine wp_seq ?_
    refine rg ?_
    refine pl_x HE95 HH81 (wt0 rfl) (x_move rfl) rfl rfl fun a_96 HE97 => ?_
    refine pl_x HE97 HH81 (wt0 rfl) (x_move rfl) rfl rfl fun a_98 HE99 => ?_
    refine pl fun K_100 hK101 => ?_
    refine st_call HE99 (wt0 rfl) rfl rfl rfl en_9 rfl rfl (to_RewriteS _ _ a0 _ (HH81.old h0) (by omega)) fun e w' hr => ?_
    obtain ⟨Ar28, cr28, rfl, hor28, hbr28⟩ := hr
    obtain ⟨Sr28, HH102⟩ := HH81.newS hbr28 hor28
    clear hbr28 hor28
    refine ⟨_, rfl, fun a_103 HE104 => hK101 _ _ ?_⟩
    refine pl fun K_105 hK106 => ?_
    refine st_call HE104 (wt0 rfl) rfl rfl rfl en_12 rfl rfl (eq_SRewrite_c _ _ _ _ a0 a0 _ (HH102.sl (i := 2) rfl) (HH102.sl (i := 0) rfl)) fun e w' hr => ?_
    obtain ⟨rfl, hbr29⟩ := hr
    have HH107 := HH102.on hbr29
    clear hbr29
    refine ⟨_, rfl, fun a_108 HE109 => hK106 _ _ ?_⟩
    refine pl_x HE109 HH107 (wt0 rfl) (x_not rfl) rfl rfl fun a_110 HE111 => ?_
    refine wpList_nil ?_
    clear a_94 HE95 a_96 HE97 HH81 a_98 HE99 K_100 hK101 HH102 a_103 HE104 a_108 HE109 hK106 K_105
    refine nrm ?_
    refine cndF HE111 rfl (not_f (eq_SRewrite_refl _)) ?_
    refine wp_skip ?_
    refine nrm ?_
    refine wp_seq ?_
    refine rg ?_
    refine pl_x HE111 HH107 (wt0 rfl) (x_assign rfl) rfl rfl fun a_112 HE113 => ?_
    refine wpList_nil ?_
    clear a_110 HE111
    refine nrm ?_
    refine wp_seq ?_
    refine rg ?_
    refine pl_x HE113 HH107 (wt0 rfl) (x_move rfl) rfl rfl fun a_114 HE115 => ?_
    refine pl_x HE115 HH107 (wt0 rfl) (x_move rfl) rfl rfl fun a_116 HE117 => ?_
    refine pl fun K_118 hK119 => ?_
    have HH120 := HH107.sel [2, 0, 1, 3, 4] (by decide) rfl
    have HH121 : Held Nob w ([rSo eRewrite Sr25 Ar25 cr25 a0] ++ [rSo eRewrite Sr28 Ar28 cr28 a0, rVec (eSl (eSl eInt)) 50 Sr26_0 Ar26_0 cr26_0 ((overlapsOf a0).1), rVec (eSl (eSl eInt)) 50 Sr24_0 Ar24_0 cr24_0 ((overlapsOf a0).1), rSo eRewrite Sr23 Ar23 cr23 a0]) _ := HH120
    refine st_call HE117 (wt0 rfl) rfl rfl rfl en_13 rfl rfl (mark_SRewrite_h (Foot [rSo eRewrite Sr25 Ar25 cr25 a0]) _ _ a0 _ 1 _ HH121.focus (by omega) (by omega)) fun e w' hr => ?_
    obtain ⟨Sr30, rfl, hbr30⟩ := hr
    have HH122 := HH121.back hbr30
    clear hbr30
    have HH123 : Held Nob w (rSo eRewrite Sr30 Ar25 cr25 (mk_SRewrite a0 1) :: [rSo eRewrite Sr28 Ar28 cr28 a0, rVec (eSl (eSl eInt)) 50 Sr26_0 Ar26_0 cr26_0 ((overlapsOf a0).1), rVec (eSl (eSl eInt)) 50 Sr24_0 Ar24_0 cr24_0 ((overlapsOf a0).1), rSo eRewrite Sr23 Ar23 cr23 a0]) _ := HH122
    refine ⟨_, rfl, fun a_124 HE125 => hK119 _ _ ?_⟩
    refine pl_x HE125 HH123 (wt0 rfl) (x_assign rfl) rfl rfl fun a_126 HE127 => ?_
    refine wpList_nil ?_
    clear a_112 HE113 a_114 HE115 HH107 HH120 HH121 HH122 a_116 HE117 a_124 HE125 hK119 K_118
    refine nrm ?_
    refine wp_seq ?_
    refine wp_seq ?_
    refine rg ?_
    refine pl_x HE127 HH123 (wt0 rfl) (x_move rfl) rfl rfl fun a_128 HE129 => ?_
    refine pl_x HE129 HH123 (wt0 rfl) (x_lss rfl rfl) rfl rfl fun a_130 HE131 => ?_
    refine pl_x HE131 HH123 (wt0 rfl) (x_move rfl) rfl rfl fun a_132 HE133 => ?_
    by_cases hc31 : (1 + (ct_SRewrite a0 : Int)) < 0
    · refine pl_no HE133 (wtF HE133 rfl rfl rfl (decide_eq_true hc31)) rfl rfl fun a_134 HE135 => ?_
      refine pl_no HE135 (wtF HE135 rfl rfl rfl (decide_eq_true hc31)) rfl rfl fun a_136 HE137 => ?_
      refine pl_no HE137 (wtF HE137 rfl rfl rfl (decide_eq_true hc31)) rfl rfl fun a_138 HE139 => ?_
      refine pl_no HE139 (wtF HE139 rfl rfl rfl (decide_eq_true hc31)) rfl rfl fun a_140 HE141 => ?_
      refine pl_x HE141 HH123 (wt0 rfl) (x_pickT rfl (decide_eq_true hc31) rfl) rfl rfl fun a_142 HE143 => ?_
      refine pl_x HE143 HH123 (wt0 rfl) (x_move rfl) rfl rfl fun a_144 HE145 => ?_
      refine pl_no HE145 (wtF HE145 rfl rfl rfl rfl) rfl rfl fun a_146 HE147 => ?_
      refine pl_no HE147 (wtF HE147 rfl rfl rfl rfl) rfl rfl fun a_148 HE149 => ?_
      refine pl_no HE149 (wtF HE149 rfl rfl rfl rfl) rfl rfl fun a_150 HE151 => ?_
      refine pl_x HE151 HH123 (wt0 rfl) (x_pickT rfl rfl rfl) rfl rfl fun a_152 HE153 => ?_
      refine wpList_nil ?_
      clear a_126 HE127 a_128 HE129 a_130 HE131 a_132 HE133 a_134 HE135 a_136 HE137 a_138 HE139 a_140 HE141 a_142 HE143 a_144 HE145 a_146 HE147 a_148 HE149 a_150 HE151
      refine nrm ?_
      refine cndT HE153 rfl rfl ?_
      refine wp_seq ?_
      refine rg ?_
      refine pl_x HE153 HH123 (wt0 rfl) (x_assign rfl) rfl rfl fun a_154 HE155 => ?_
      refine wpList_nil ?_
      clear a_152 HE153
      refine nrm ?_
      refine wp_ret ?_
      refine (thn_ret ?_)
      refine ret1 HE155 rfl (rv_tmp rfl) ?_
      have hF : true = false := by
        first | rfl | (exfalso; omega)
      exact ⟨by first | (rw [hF] <;> rfl) | rfl | (rw [hF]; simp only [Ending.returned.injEq, Value.slice.injEq, true_and, and_true]; first | omega | (simp; done)) | (rw [hF]; simp; omega), HH123.below⟩
    · refine pl_x HE133 HH123 (wtT HE133 rfl rfl rfl (decide_eq_false hc31)) (x_move rfl) rfl rfl fun a_156 HE157 => ?_
      refine pl_x HE157 HH123 (wtT HE157 rfl rfl rfl (decide_eq_false hc31)) (x_move rfl) rfl rfl fun a_158 HE159 => ?_
      refine pl fun K_160 hK161 => ?_
      refine st_call HE159 (wtT HE159 rfl rfl rfl (decide_eq_false hc31)) rfl rfl rfl en_11 rfl rfl (eq_LLL_c _ _ _ _ ((overlapsOf a0).1) ((overlapsOf a0).1) _ (HH123.vecSl (i := 2) rfl) (HH123.vecSl (i := 3) rfl)) fun e w' hr => ?_
      obtain ⟨rfl, hbr32⟩ := hr
      have HH162 := HH123.on hbr32
      clear hbr32
      refine ⟨_, rfl, fun a_163 HE164 => hK161 _ _ ?_⟩
      refine pl_x HE164 HH162 (wtT HE164 rfl rfl rfl (decide_eq_false hc31)) (x_not rfl) rfl rfl fun a_165 HE166 => ?_
      refine pl_x HE166 HH162 (wt0 rfl) (x_pickF rfl (decide_eq_false hc31) rfl) rfl rfl fun a_167 HE168 => ?_
      refine pl_x HE168 HH162 (wt0 rfl) (x_move rfl) rfl rfl fun a_169 HE170 => ?_
      refine pl_x HE170 HH162 (wtT HE170 rfl rfl rfl (not_f (eq_LLL_refl _))) (x_move rfl) rfl rfl fun a_171 HE172 => ?_
      refine pl_x HE172 HH162 (wtT HE172 rfl rfl rfl (not_f (eq_LLL_refl _))) (x_move rfl) rfl rfl fun a_173 HE174 => ?_
      refine pl_x HE174 HH162 (wtT HE174 rfl rfl rfl (not_f (eq_LLL_refl _))) (x_neq rfl rfl) rfl rfl fun a_175 HE176 => ?_
      refine pl_x HE176 HH162 (wt0 rfl) (x_pickF rfl (not_f (eq_LLL_refl _)) rfl) rfl rfl fun a_177 HE178 => ?_
      refine wpList_nil ?_
      clear a_126 HE127 a_128 HE129 a_130 HE131 a_132 HE133 a_156 HE157 HH123 a_158 HE159 a_163 HE164 a_165 HE166 a_167 HE168 a_169 HE170 a_171 HE172 a_173 HE174 a_175 HE176 hK161 K_160
      refine nrm ?_
      refine cndF HE178 rfl (bne_f rfl) ?_
      refine wp_skip ?_
      refine nrm ?_
      refine wp_seq ?_
      refine rg ?_
      refine pl_x HE178 HH162 (wt0 rfl) (x_assign rfl) rfl rfl fun a_179 HE180 => ?_
      refine wpList_nil ?_
      clear a_177 HE178
      refine nrm ?_
      refine wp_seq ?_
      refine rg ?_
      refine pl_x HE180 HH162 (wt0 rfl) (x_move rfl) rfl rfl fun a_181 HE182 => ?_
      refine pl_x HE182 HH162 (wt0 rfl) (x_move rfl) rfl rfl fun a_183 HE184 => ?_
      refine pl fun K_185 hK186 => ?_
      have HH187 := HH162.sel [2, 0, 1, 3, 4] (by decide) rfl
      have HH188 := HH187.vecSo
      have HH189 : Held Nob w ([rSo (eSl (eSl eInt)) Sr26_0 Ar26_0 cr26_0 ((overlapsOf a0).1)] ++ [rSo eRewrite Sr30 Ar25 cr25 (mk_SRewrite a0 1), rSo eRewrite Sr28 Ar28 cr28 a0, rVec (eSl (eSl eInt)) 50 Sr24_0 Ar24_0 cr24_0 ((overlapsOf a0).1), rSo eRewrite Sr23 Ar23 cr23 a0]) _ := HH188
      refine st_call HE184 (wt0 rfl) rfl rfl rfl en_14 rfl rfl (mark_LLL_h (Foot [rSo (eSl (eSl eInt)) Sr26_0 Ar26_0 cr26_0 ((overlapsOf a0).1)]) _ _ ((overlapsOf a0).1) _ 1 _ HH189.focus (by omega) (by omega)) fun e w' hr => ?_
      obtain ⟨Sr33, rfl, hbr33⟩ := hr
      have HH190 := HH189.back hbr33
      clear hbr33
      have HH191 : Held Nob w (rSo (eSl (eSl eInt)) Sr33 Ar26_0 cr26_0 (mk_LLL ((overlapsOf a0).1) 1) :: [rSo eRewrite Sr30 Ar25 cr25 (mk_SRewrite a0 1), rSo eRewrite Sr28 Ar28 cr28 a0, rVec (eSl (eSl eInt)) 50 Sr24_0 Ar24_0 cr24_0 ((overlapsOf a0).1), rSo eRewrite Sr23 Ar23 cr23 a0]) _ := HH190
      refine ⟨_, rfl, fun a_192 HE193 => hK186 _ _ ?_⟩
      refine pl_x HE193 HH191 (wt0 rfl) (x_assign rfl) rfl rfl fun a_194 HE195 => ?_
      refine wpList_nil ?_
      clear a_179 HE180 a_181 HE182 HH162 HH187 HH188 HH189 HH190 a_183 HE184 a_192 HE193 hK186 K_185
      refine nrm ?_
      refine wp_seq ?_
      refine rg ?_
      refine pl_x HE195 HH191 (wt0 rfl) (x_assign rfl) rfl rfl fun a_196 HE197 => ?_
      refine wpList_nil ?_
      clear a_194 HE195
      refine nrm ?_
      refine wp_seq ?_
      refine rg ?_
      refine pl_x HE197 HH191 (wt0 rfl) (x_move rfl) rfl rfl fun a_198 HE199 => ?_
      refine pl_x HE199 HH191 (wt0 rfl) (x_move rfl) rfl rfl fun a_200 HE201 => ?_
      refine pl fun K_202 hK203 => ?_
      have HE204 := HE201.castS (t := 65) (m' := List.length (mk_LLL ((overlapsOf a0).1) 1)) rfl (mkL_len _ _ _ _).symm
      refine st_call HE204 (wt0 rfl) rfl rfl rfl en_15 rfl rfl (held_LLL_e _ _ (mk_LLL ((overlapsOf a0).1) 1) 1 ((overlapsOf a0).1) _ (HH191.sl (i := 0) rfl) rfl (by omega) (by omega)) fun e w' hr => ?_
      obtain ⟨rfl, hbr34⟩ := hr
      have HH205 := HH191.on hbr34
      clear hbr34
      refine ⟨_, rfl, fun a_206 HE207 => hK203 _ _ ?_⟩
      refine pl_x HE207 HH205 (wt0 rfl) (x_assign rfl) rfl rfl fun a_208 HE209 => ?_
      refine wpList_nil ?_
      clear a_196 HE197 a_198 HE199 HE201 HH191 a_200 HE204 a_206 HE207 hK203 K_202
      refine nrm ?_
      refine wp_seq ?_
      refine wp_seq ?_
      refine rg ?_
      refine pl_x HE209 HH205 (wt0 rfl) (x_move rfl) rfl rfl fun a_210 HE211 => ?_
      refine pl_x HE211 HH205 (wt0 rfl) (x_lss rfl rfl) rfl rfl fun a_212 HE213 => ?_
      refine wpList_nil ?_
      clear a_208 HE209 a_210 HE211
      refine nrm ?_
      refine cnd_d HE213 rfl (fun hc35 => ?_) (fun hc35 => ?_)
      · refine wp_seq ?_
        refine rg ?_
        refine pl_x HE213 HH205 (wt0 rfl) (x_assign rfl) rfl rfl fun a_214 HE215 => ?_
        refine wpList_nil ?_
        clear a_212 HE213
        refine nrm ?_
        refine wp_ret ?_
        refine (thn_ret ?_)
        refine ret1 HE215 rfl (rv_tmp rfl) ?_
        have hF : true = false := by
          first | rfl | (exfalso; omega)
        exact ⟨by first | (rw [hF] <;> rfl) | rfl | (rw [hF]; simp only [Ending.returned.injEq, Value.slice.injEq, true_and, and_true]; first | omega | (simp; done)) | (rw [hF]; simp; omega), HH205.below⟩
      · refine wp_skip ?_
        refine nrm ?_
        refine wp_seq ?_
        refine wp_seq ?_
        refine rg ?_
        refine pl_x HE213 HH205 (wt0 rfl) (x_move rfl) rfl rfl fun a_216 HE217 => ?_
        refine pl_x HE217 HH205 (wt0 rfl) (x_move rfl) rfl rfl fun a_218 HE219 => ?_
        refine pl_x HE219 HH205 (wt0 rfl) (x_neq rfl rfl) rfl rfl fun a_220 HE221 => ?_
        refine wpList_nil ?_
        clear a_212 HE213 a_216 HE217 a_218 HE219
        refine nrm ?_
        refine cndF HE221 rfl (bne_f rfl) ?_
        refine wp_skip ?_
        refine nrm ?_
        refine wp_seq ?_
        refine rg ?_
        refine pl_x HE221 HH205 (wt0 rfl) (x_move rfl) rfl rfl fun a_222 HE223 => ?_
        refine pl fun K_224 hK225 => ?_
        refine st_call HE223 (wt0 rfl) rfl rfl rfl en_9 rfl rfl (to_RewriteS _ _ a0 _ (HH205.old h0) (by omega)) fun e w' hr => ?_
        obtain ⟨Ar36, cr36, rfl, hor36, hbr36⟩ := hr
        obtain ⟨Sr36, HH226⟩ := HH205.newS hbr36 hor36
        clear hbr36 hor36
        refine ⟨_, rfl, fun a_227 HE228 => hK225 _ _ ?_⟩
        refine pl fun K_229 hK230 => ?_
        refine st_call HE228 (wt0 rfl) rfl rfl rfl en_10 rfl rfl (impl_OverlapsOf _ _ a0 _ (HH226.sl (i := 0) rfl)) fun e w' hr => ?_
        obtain ⟨Ar37_0, cr37_0, Sr37_0, rfl, hbr37⟩ := hr
        have HH231 := HH226.app hbr37
        clear hbr37
        have HH232 : Held Nob w ([rVec (eSl (eSl eInt)) 50 Sr37_0 Ar37_0 cr37_0 ((overlapsOf a0).1), rSo eRewrite Sr36 Ar36 cr36 a0, rSo (eSl (eSl eInt)) Sr33 Ar26_0 cr26_0 (mk_LLL ((overlapsOf a0).1) 1), rSo eRewrite Sr30 Ar25 cr25 (mk_SRewrite a0 1), rSo eRewrite Sr28 Ar28 cr28 a0, rVec (eSl (eSl eInt)) 50 Sr24_0 Ar24_0 cr24_0 ((overlapsOf a0).1), rSo eRewrite Sr23 Ar23 cr23 a0]) _ := HH231
        refine ⟨_, rfl, fun a_233 HE234 => hK230 _ _ ?_⟩
        refine pl_x HE234 HH232 (wt0 rfl) (x_move rfl) rfl rfl fun a_235 HE236 => ?_
        refine pl_x HE236 HH232 (wt0 rfl) (x_extract rfl rfl) rfl rfl fun a_237 HE238 => ?_
        refine pl_x HE238 HH232 (wt0 rfl) (x_extract rfl rfl) rfl rfl fun a_239 HE240 => ?_
        refine pl_x HE240 HH232 (wt0 rfl) (x_assign rfl) rfl rfl fun a_241 HE242 => ?_
        refine pl_x HE242 HH232 (wt0 rfl) (x_assign rfl) rfl rfl fun a_243 HE244 => ?_
        refine wpList_nil ?_
        clear a_220 HE221 HH205 a_222 HE223 K_224 hK225 HH226 HH231 a_227 HE228 a_233 HE234 a_235 HE236 a_237 HE238 a_239 HE240 a_241 HE242 hK230 K_229
        refine nrm ?_
        refine wp_seq ?_
        refine wp_seq ?_
        refine rg ?_
        refine pl_x HE244 HH232 (wt0 rfl) (x_move rfl) rfl rfl fun a_245 HE246 => ?_
        refine pl_x HE246 HH232 (wt0 rfl) (x_move rfl) rfl rfl fun a_247 HE248 => ?_
        refine pl fun K_249 hK250 => ?_
        refine st_call HE248 (wt0 rfl) rfl rfl rfl en_11 rfl rfl (eq_LLL_c _ _ _ _ ((overlapsOf a0).1) ((overlapsOf a0).1) _ (HH232.vecSl (i := 0) rfl) (HH232.vecSl (i := 5) rfl)) fun e w' hr => ?_
        obtain ⟨rfl, hbr38⟩ := hr
        have HH251 := HH232.on hbr38
        clear hbr38
        refine ⟨_, rfl, fun a_252 HE253 => hK250 _ _ ?_⟩
        refine pl_x HE253 HH251 (wt0 rfl) (x_not rfl) rfl rfl fun a_254 HE255 => ?_
        refine pl_x HE255 HH251 (wt0 rfl) (x_move rfl) rfl rfl fun a_256 HE257 => ?_
        refine pl_x HE257 HH251 (wtT HE257 rfl rfl rfl (not_f (eq_LLL_refl _))) (x_move rfl) rfl rfl fun a_258 HE259 => ?_
        refine pl_x HE259 HH251 (wtT HE259 rfl rfl rfl (not_f (eq_LLL_refl _))) (x_move rfl) rfl rfl fun a_260 HE261 => ?_
        refine pl_x HE261 HH251 (wtT HE261 rfl rfl rfl (not_f (eq_LLL_refl _))) (x_neq rfl rfl) rfl rfl fun a_262 HE263 => ?_
        refine pl_x HE263 HH251 (wt0 rfl) (x_pickF rfl (not_f (eq_LLL_refl _)) rfl) rfl rfl fun a_264 HE265 => ?_
        refine wpList_nil ?_
        clear a_243 HE244 a_245 HE246 HH232 a_247 HE248 a_252 HE253 a_254 HE255 a_256 HE257 a_258 HE259 a_260 HE261 a_262 HE263 hK250 K_249
        refine nrm ?_
        refine cndF HE265 rfl (bne_f rfl) ?_
        refine wp_skip ?_
        refine nrm ?_
        refine wp_seq ?_
        refine rg ?_
        refine pl_x HE265 HH251 (wt0 rfl) (x_assign rfl) rfl rfl fun a_266 HE267 => ?_
        refine wpList_nil ?_
        clear a_264 HE265
        refine nrm ?_
        refine wp_seq ?_
        refine rg ?_
        refine pl_x HE267 HH251 (wt0 rfl) (x_move rfl) rfl rfl fun a_268 HE269 => ?_
        refine pl_x HE269 HH251 (wt0 rfl) (x_move rfl) rfl rfl fun a_270 HE271 => ?_
        refine pl fun K_272 hK273 => ?_
        have HE274 := HE271.castS (t := 88) (m' := List.length (mk_LLL ((overlapsOf a0).1) 1)) rfl (mkL_len _ _ _ _).symm
        refine st_call HE274 (wt0 rfl) rfl rfl rfl en_15 rfl rfl (held_LLL_e _ _ (mk_LLL ((overlapsOf a0).1) 1) 1 ((overlapsOf a0).1) _ (HH251.sl (i := 2) rfl) rfl (by omega) (by omega)) fun e w' hr => ?_
        obtain ⟨rfl, hbr39⟩ := hr
        have HH275 := HH251.on hbr39
        clear hbr39
        refine ⟨_, rfl, fun a_276 HE277 => hK273 _ _ ?_⟩
        refine pl_x HE277 HH275 (wt0 rfl) (x_assign rfl) rfl rfl fun a_278 HE279 => ?_
        refine wpList_nil ?_
        clear a_266 HE267 a_268 HE269 HE271 HH251 a_270 HE274 a_276 HE277 hK273 K_272
        refine nrm ?_
        refine wp_seq ?_
        refine wp_seq ?_
        refine rg ?_
        refine pl_x HE279 HH275 (wt0 rfl) (x_move rfl) rfl rfl fun a_280 HE281 => ?_
        refine pl_x HE281 HH275 (wt0 rfl) (x_lss rfl rfl) rfl rfl fun a_282 HE283 => ?_
        refine wpList_nil ?_
        clear a_278 HE279 a_280 HE281
        refine nrm ?_
        refine cndF HE283 rfl (decide_eq_false hc35) ?_
        refine wp_skip ?_
        refine nrm ?_
        refine wp_seq ?_
        refine wp_seq ?_
        refine rg ?_
        refine pl_x HE283 HH275 (wt0 rfl) (x_move rfl) rfl rfl fun a_284 HE285 => ?_
        refine pl_x HE285 HH275 (wt0 rfl) (x_move rfl) rfl rfl fun a_286 HE287 => ?_
        refine pl_x HE287 HH275 (wt0 rfl) (x_neq rfl rfl) rfl rfl fun a_288 HE289 => ?_
        refine wpList_nil ?_
        clear a_282 HE283 a_284 HE285 a_286 HE287
        refine nrm ?_
        refine cndF HE289 rfl (bne_f rfl) ?_
        refine wp_skip ?_
        refine nrm ?_
        refine wp_seq ?_
        refine rg ?_
        refine pl_x HE289 HH275 (wt0 rfl) (x_assign rfl) rfl rfl fun a_290 HE291 => ?_
        refine wpList_nil ?_
        clear a_288 HE289
        refine nrm ?_
        refine wp_ret ?_
        refine ret1 HE291 rfl (rv_tmp rfl) ?_
        have hF : true = true := by
          first | rfl | (exfalso; omega)
        exact ⟨by first | (rw [hF] <;> rfl) | rfl | (rw [hF]; simp only [Ending.returned.injEq, Value.slice.injEq, true_and, and_true]; first | omega | (simp; done)) | (rw [hF]; simp; omega), HH275.below⟩

end Go.Proofs.Ythfihlfjphiihaa
