/- What the proof of FnExactPowersSeen needs: contracts of the functions that it reaches, each once. -/
import Derived.Test.YtnokeoejlfodkaaProg
import Derived.Test.YtnokeoejlfodkaaQMem
import Derived.Test.YtnokeoejlfodkaaQOpen
import Derived.Test.YtnokeoejlfodkaaLPowersSeena
import Derived.Test.YtnokeoejlfodkaaLPowersSeenb
import Derived.Test.YtnokeoejlfodkaaLPowersSeenc
import Derived.Test.YtnokeoejlfodkaaLPowersSeend
import Derived.WalkKit
import Derived.WalkSpells
import Derived.Below
import Derived.LoopTactic
import Derived.Outline
import Derived.Deep.QuietTactic
import Derived.BigQuiet
import Derived.Deep.LoopGhost
import Derived.Handy
import Derived.Lib.Hide
import Derived.Shelf.Abstract
import Derived.StillTailTactics
import Derived.OwnWalk
import Derived.Maps.AppendAt
import Derived.RegionTactic
import Derived.Deep.RegionHeld3
import Derived.IntWalk
import Derived.Deep.Upon
import Derived.Laws.OwnMore
import Derived.Maps.AppendAt
import Derived.Lib.SliceRun
import Derived.Lib.AppendZeros
namespace Go.Proofs.Ytnokeoejlfodkaa
open Go.RowKit

set_option maxRecDepth 100000 in
set_option maxHeartbeats 4000000 in
theorem law_PowersSeen (A0 : Option Addr) (c0 : Nat) (a0 : (List tFraction)) (A1 : Option Addr) (c1 : Nat) (a1 : (List Int)) (a2 : Int) (a3 : Int) (w : World) (h0 : Sl eFraction w (Old w) A0 c0 a0) (h1 : Sl eInt w (Old w) A1 c1 a1) (h2 : I64 a2) (h3 : I64 a3) :
    Calls Try.prog 7 #[.slice A0 a0.length c0, .slice A1 a1.length c1, .int .i64 a2, .int .i64 a3] w fun e w' => e = .returned (.bool true) ∧ Below w.heap.size w w' := by
  have l0 := h0.len
  have l1 := h1.len
  unfold I64 at h2
  unfold I64 at h3
  have m0 := ct_cost_SFraction a0
  have cl1 : cost_L a1 = a1.length := rfl
  have m1 := ct_cost_L a1
  have n0 : (ct_L (powersSeen a0 a1 a2 a3).1 : Int) ≤ 1000000000 := powersSeen_ct a0 a1 a2 a3
  have HH1 := Held.start Nob w
  refine enter (n := 127) Try.func7 rfl rfl rfl fun a_2 HE3 => ?_
  refine wp_seq ?_
  refine rg ?_
  refine pl_x HE3 HH1 (wt0 rfl) (x_assign rfl) rfl rfl fun a_4 HE5 => ?_
  refine wpList_nil ?_
  clear a_2 HE3
  refine nrm ?_
  refine wp_seq ?_
  refine wp_seq ?_
  refine rg ?_
  refine pl_x HE5 HH1 (wt0 rfl) (x_move rfl) rfl rfl fun a_6 HE7 => ?_
  refine pl_x HE7 HH1 (wt0 rfl) (x_len Try.underlying31 rfl) rfl rfl fun a_8 HE9 => ?_
  refine pl_x HE9 HH1 (wt0 rfl) (x_gtr rfl rfl) rfl rfl fun a_10 HE11 => ?_
  refine wpList_nil ?_
  clear a_4 HE5 a_6 HE7 a_8 HE9
  refine nrm ?_
  refine cnd_d HE11 rfl (fun hc21 => ?_) (fun hc21 => ?_)
  · refine wp_seq ?_
    refine rg ?_
    refine pl_x HE11 HH1 (wt0 rfl) (x_assign rfl) rfl rfl fun a_12 HE13 => ?_
    refine wpList_nil ?_
    clear a_10 HE11
    refine nrm ?_
    refine wp_ret ?_
    refine (thn_ret ?_)
    refine ret1 HE13 rfl (rv_tmp rfl) ?_
    have hF : true = true := by
      first | rfl | (exfalso; omega)
    exact ⟨by first | (rw [hF] <;> rfl) | rfl | (rw [hF]; simp only [Ending.returned.injEq, Value.slice.injEq, true_and, and_true]; first | omega | (simp; done)), HH1.below⟩
  · refine wp_skip ?_
    refine nrm ?_
    refine wp_seq ?_
    refine rg ?_
    refine pl_x HE11 HH1 (wt0 rfl) (x_assign rfl) rfl rfl fun a_14 HE15 => ?_
    refine wpList_nil ?_
    clear a_10 HE11
    refine nrm ?_
    refine wp_seq ?_
    refine rg ?_
    refine pl_x HE15 HH1 (wt0 rfl) (x_move rfl) rfl rfl fun a_16 HE17 => ?_
    refine pl_x HE17 HH1 (wt0 rfl) (x_move rfl) rfl rfl fun a_18 HE19 => ?_
    refine pl fun K_20 hK21 => ?_
    refine st_call HE19 (wt0 rfl) rfl rfl rfl en_45 rfl rfl (sz_FractionS _ _ a0 1048576 _ (HH1.old h0) (by omega) (by omega)) fun e w' hr => ?_
    obtain ⟨rfl, hbr22⟩ := hr
    have HH22 := HH1.on hbr22
    clear hbr22
    refine ⟨_, rfl, fun a_23 HE24 => hK21 _ _ ?_⟩
    refine pl_x HE24 HH22 (wt0 rfl) (x_assign rfl) rfl rfl fun a_25 HE26 => ?_
    refine wpList_nil ?_
    clear a_14 HE15 a_16 HE17 HH1 a_18 HE19 a_23 HE24 hK21 K_20
    refine nrm ?_
    refine wp_seq ?_
    refine wp_seq ?_
    refine rg ?_
    refine pl_x HE26 HH22 (wt0 rfl) (x_move rfl) rfl rfl fun a_27 HE28 => ?_
    refine pl_x HE28 HH22 (wt0 rfl) (x_lss rfl rfl) rfl rfl fun a_29 HE30 => ?_
    refine wpList_nil ?_
    clear a_25 HE26 a_27 HE28
    refine nrm ?_
    refine cnd_d HE30 rfl (fun hc23 => ?_) (fun hc23 => ?_)
    · refine wp_seq ?_
      refine rg ?_
      refine pl_x HE30 HH22 (wt0 rfl) (x_assign rfl) rfl rfl fun a_31 HE32 => ?_
      refine wpList_nil ?_
      clear a_29 HE30
      refine nrm ?_
      refine wp_ret ?_
      refine (thn_ret ?_)
      refine ret1 HE32 rfl (rv_tmp rfl) ?_
      have hF : true = true := by
        first | rfl | (exfalso; omega)
      exact ⟨by first | (rw [hF] <;> rfl) | rfl | (rw [hF]; simp only [Ending.returned.injEq, Value.slice.injEq, true_and, and_true]; first | omega | (simp; done)), HH22.below⟩
    · have zr22 := left_ok hc23
      refine wp_skip ?_
      refine nrm ?_
      refine wp_seq ?_
      refine rg ?_
      refine pl_x HE30 HH22 (wt0 rfl) (x_move rfl) rfl rfl fun a_33 HE34 => ?_
      refine pl fun K_35 hK36 => ?_
      refine st_call HE34 (wt0 rfl) rfl rfl rfl en_47 rfl rfl (to_FractionS _ _ a0 _ (HH22.old h0) (by omega)) fun e w' hr => ?_
      obtain ⟨Ar24, cr24, rfl, hor24, hbr24⟩ := hr
      obtain ⟨Sr24, HH37⟩ := HH22.newS hbr24 hor24
      clear hbr24 hor24
      refine ⟨_, rfl, fun a_38 HE39 => hK36 _ _ ?_⟩
      refine pl_x HE39 HH37 (wt0 rfl) (x_move rfl) rfl rfl fun a_40 HE41 => ?_
      refine pl fun K_42 hK43 => ?_
      refine st_call HE41 (wt0 rfl) rfl rfl rfl en_48 rfl rfl (to_Int64S _ _ a1 _ (HH37.old h1) (by omega)) fun e w' hr => ?_
      obtain ⟨Ar25, cr25, rfl, hor25, hbr25⟩ := hr
      obtain ⟨Sr25, HH44⟩ := HH37.newS hbr25 hor25
      clear hbr25 hor25
      refine ⟨_, rfl, fun a_45 HE46 => hK43 _ _ ?_⟩
      refine pl_x HE46 HH44 (wt0 rfl) (x_move rfl) rfl rfl fun a_47 HE48 => ?_
      refine pl_x HE48 HH44 (wt0 rfl) (x_move rfl) rfl rfl fun a_49 HE50 => ?_
      refine pl fun K_51 hK52 => ?_
      refine st_call HE50 (wt0 rfl) rfl rfl rfl en_46 rfl rfl (spec_PowersSeen _ _ a0 _ _ a1 a2 a3 _ (HH44.sl (i := 1) rfl) (HH44.sl (i := 0) rfl) (by omega)) fun e w' hr => ?_
      obtain ⟨Ar26_0, cr26_0, rfl, hor26_0, hbr26⟩ := hr
      obtain ⟨Sr26, HH53⟩ := HH44.newS hbr26 hor26_0
      refine ⟨_, rfl, fun a_54 HE55 => hK52 _ _ ?_⟩
      refine pl_x HE55 HH53 (wt0 rfl) (x_move rfl) rfl rfl fun a_56 HE57 => ?_
      refine pl_x HE57 HH53 (wt0 rfl) (x_extract rfl rfl) rfl rfl fun a_58 HE59 => ?_
      refine pl_x HE59 HH53 (wt0 rfl) (x_extract rfl rfl) rfl rfl fun a_60 HE61 => ?_
      refine pl_x HE61 HH53 (wt0 rfl) (x_assign rfl) rfl rfl fun a_62 HE63 => ?_
      refine pl_x HE63 HH53 (wt0 rfl) (x_assign rfl) rfl rfl fun a_64 HE65 => ?_
      refine wpList_nil ?_
      clear a_29 HE30 HH22 a_33 HE34 a_38 HE39 K_35 hK36 HH37 a_40 HE41 a_45 HE46 a_47 HE48 K_42 hK43 HH44 a_49 HE50 a_54 HE55 a_56 HE57 a_58 HE59 a_60 HE61 a_62 HE63 hK52 K_51
      refine nrm ?_
      refine wp_seq ?_
      refine rg ?_
      refine pl_x HE65 HH53 (wt0 rfl) (x_move rfl) rfl rfl fun a_66 HE67 => ?_
      refine pl fun K_68 hK69 => ?_
      refine st_call HE67 (wt0 rfl) rfl rfl rfl en_47 rfl rfl (to_FractionS _ _ a0 _ (HH53.old h0) (by omega)) fun e w' hr => ?_
      obtain ⟨Ar27, cr27, rfl, hor27, hbr27⟩ := hr
      obtain ⟨Sr27, HH70⟩ := HH53.newS hbr27 hor27
      clear hbr27 hor27
      refine ⟨_, rfl, fun a_71 HE72 => hK69 _ _ ?_⟩
      refine pl_x HE72 HH70 (wt0 rfl) (x_assign rfl) rfl rfl fun a_73 HE74 => ?_
      refine wpList_nil ?_
      clear a_64 HE65 HH53 a_66 HE67 a_71 HE72 hK69 K_68
      refine nrm ?_
      refine wp_seq ?_
      refine rg ?_
      refine pl_x HE74 HH70 (wt0 rfl) (x_move rfl) rfl rfl fun a_75 HE76 => ?_
      refine pl fun K_77 hK78 => ?_
      refine st_call HE76 (wt0 rfl) rfl rfl rfl en_48 rfl rfl (to_Int64S _ _ a1 _ (HH70.old h1) (by omega)) fun e w' hr => ?_
      obtain ⟨Ar28, cr28, rfl, hor28, hbr28⟩ := hr
      obtain ⟨Sr28, HH79⟩ := HH70.newS hbr28 hor28
      clear hbr28 hor28
      refine ⟨_, rfl, fun a_80 HE81 => hK78 _ _ ?_⟩
      refine pl_x HE81 HH79 (wt0 rfl) (x_assign rfl) rfl rfl fun a_82 HE83 => ?_
      refine wpList_nil ?_
      clear a_73 HE74 HH70 a_75 HE76 a_80 HE81 hK78 K_77
      refine nrm ?_
      refine wp_seq ?_
      refine rg ?_
      refine pl_x HE83 HH79 (wt0 rfl) (x_move rfl) rfl rfl fun a_84 HE85 => ?_
      refine pl_x HE85 HH79 (wt0 rfl) (x_move rfl) rfl rfl fun a_86 HE87 => ?_
      refine pl_x HE87 HH79 (wt0 rfl) (x_move rfl) rfl rfl fun a_88 HE89 => ?_
      refine pl_x HE89 HH79 (wt0 rfl) (x_move rfl) rfl rfl fun a_90 HE91 => ?_
      refine pl fun K_92 hK93 => ?_
      refine st_call HE91 (wt0 rfl) rfl rfl rfl en_49 rfl rfl (impl_PowersSeen _ _ a0 _ _ a1 a2 a3 _ (HH79.sl (i := 1) rfl) (HH79.sl (i := 0) rfl) (by omega)) fun e w' hr => ?_
      obtain ⟨Ar29_0, cr29_0, rfl, hor29_0, hbr29⟩ := hr
      obtain ⟨Sr29, HH94⟩ := HH79.newS hbr29 hor29_0
      refine ⟨_, rfl, fun a_95 HE96 => hK93 _ _ ?_⟩
      refine pl_x HE96 HH94 (wt0 rfl) (x_move rfl) rfl rfl fun a_97 HE98 => ?_
      refine pl_x HE98 HH94 (wt0 rfl) (x_extract rfl rfl) rfl rfl fun a_99 HE100 => ?_
      refine pl_x HE100 HH94 (wt0 rfl) (x_extract rfl rfl) rfl rfl fun a_101 HE102 => ?_
      refine pl_x HE102 HH94 (wt0 rfl) (x_assign rfl) rfl rfl fun a_103 HE104 => ?_
      refine pl_x HE104 HH94 (wt0 rfl) (x_assign rfl) rfl rfl fun a_105 HE106 => ?_
      refine wpList_nil ?_
      clear a_82 HE83 a_84 HE85 a_86 HE87 a_88 HE89 HH79 a_90 HE91 a_95 HE96 a_97 HE98 a_99 HE100 a_101 HE102 a_103 HE104 hK93 K_92
      refine nrm ?_
      refine wp_seq ?_
      refine wp_seq ?_
      refine rg ?_
      refine pl_x HE106 HH94 (wt0 rfl) (x_move rfl) rfl rfl fun a_107 HE108 => ?_
      refine pl_x HE108 HH94 (wt0 rfl) (x_move rfl) rfl rfl fun a_109 HE110 => ?_
      refine pl fun K_111 hK112 => ?_
      refine st_call HE110 (wt0 rfl) rfl rfl rfl en_24 rfl rfl (eq_L_c _ _ _ _ ((powersSeen a0 a1 a2 a3).1) ((powersSeen a0 a1 a2 a3).1) _ (HH94.sl (i := 0) rfl) (HH94.sl (i := 3) rfl)) fun e w' hr => ?_
      obtain ⟨rfl, hbr30⟩ := hr
      have HH113 := HH94.on hbr30
      clear hbr30
      refine ⟨_, rfl, fun a_114 HE115 => hK112 _ _ ?_⟩
      refine pl_x HE115 HH113 (wt0 rfl) (x_not rfl) rfl rfl fun a_116 HE117 => ?_
      refine pl_x HE117 HH113 (wt0 rfl) (x_move rfl) rfl rfl fun a_118 HE119 => ?_
      refine pl_x HE119 HH113 (wtT HE119 rfl rfl rfl (not_f (eq_L_refl _))) (x_move rfl) rfl rfl fun a_120 HE121 => ?_
      refine pl_x HE121 HH113 (wtT HE121 rfl rfl rfl (not_f (eq_L_refl _))) (x_move rfl) rfl rfl fun a_122 HE123 => ?_
      refine pl_x HE123 HH113 (wtT HE123 rfl rfl rfl (not_f (eq_L_refl _))) (x_neq rfl rfl) rfl rfl fun a_124 HE125 => ?_
      refine pl_x HE125 HH113 (wt0 rfl) (x_pickF rfl (not_f (eq_L_refl _)) rfl) rfl rfl fun a_126 HE127 => ?_
      refine wpList_nil ?_
      clear a_105 HE106 a_107 HE108 HH94 a_109 HE110 a_114 HE115 a_116 HE117 a_118 HE119 a_120 HE121 a_122 HE123 a_124 HE125 hK112 K_111
      refine nrm ?_
      refine cndF HE127 rfl (bne_f rfl) ?_
      refine wp_skip ?_
      refine nrm ?_
      refine wp_seq ?_
      refine wp_seq ?_
      refine rg ?_
      refine pl_x HE127 HH113 (wt0 rfl) (x_move rfl) rfl rfl fun a_128 HE129 => ?_
      refine pl_x HE129 HH113 (wt0 rfl) (x_move rfl) rfl rfl fun a_130 HE131 => ?_
      refine pl fun K_132 hK133 => ?_
      refine st_call HE131 (wt0 rfl) rfl rfl rfl en_47 rfl rfl (to_FractionS _ _ a0 _ (HH113.old h0) (by omega)) fun e w' hr => ?_
      obtain ⟨Ar31, cr31, rfl, hor31, hbr31⟩ := hr
      obtain ⟨Sr31, HH134⟩ := HH113.newS hbr31 hor31
      clear hbr31 hor31
      refine ⟨_, rfl, fun a_135 HE136 => hK133 _ _ ?_⟩
      refine pl fun K_137 hK138 => ?_
      refine st_call HE136 (wt0 rfl) rfl rfl rfl en_50 rfl rfl (eq_SFraction_c _ _ _ _ a0 a0 _ (HH134.sl (i := 3) rfl) (HH134.sl (i := 0) rfl)) fun e w' hr => ?_
      obtain ⟨rfl, hbr32⟩ := hr
      have HH139 := HH134.on hbr32
      clear hbr32
      refine ⟨_, rfl, fun a_140 HE141 => hK138 _ _ ?_⟩
      refine pl_x HE141 HH139 (wt0 rfl) (x_not rfl) rfl rfl fun a_142 HE143 => ?_
      refine wpList_nil ?_
      clear a_126 HE127 a_128 HE129 HH113 a_130 HE131 K_132 hK133 HH134 a_135 HE136 a_140 HE141 hK138 K_137
      refine nrm ?_
      refine cndF HE143 rfl (not_f (eq_SFraction_refl _)) ?_
      refine wp_skip ?_
      refine nrm ?_
      refine wp_seq ?_
      refine wp_seq ?_
      refine rg ?_
      refine pl_x HE143 HH139 (wt0 rfl) (x_move rfl) rfl rfl fun a_144 HE145 => ?_
      refine pl_x HE145 HH139 (wt0 rfl) (x_move rfl) rfl rfl fun a_146 HE147 => ?_
      refine pl fun K_148 hK149 => ?_
      refine st_call HE147 (wt0 rfl) rfl rfl rfl en_48 rfl rfl (to_Int64S _ _ a1 _ (HH139.old h1) (by omega)) fun e w' hr => ?_
      obtain ⟨Ar33, cr33, rfl, hor33, hbr33⟩ := hr
      obtain ⟨Sr33, HH150⟩ := HH139.newS hbr33 hor33
      clear hbr33 hor33
      refine ⟨_, rfl, fun a_151 HE152 => hK149 _ _ ?_⟩
      refine pl fun K_153 hK154 => ?_
      refine st_call HE152 (wt0 rfl) rfl rfl rfl en_24 rfl rfl (eq_L_c _ _ _ _ a1 a1 _ (HH150.sl (i := 3) rfl) (HH150.sl (i := 0) rfl)) fun e w' hr => ?_
      obtain ⟨rfl, hbr34⟩ := hr
      have HH155 := HH150.on hbr34
      clear hbr34
      refine ⟨_, rfl, fun a_156 HE157 => hK154 _ _ ?_⟩
      refine pl_x HE157 HH155 (wt0 rfl) (x_not rfl) rfl rfl fun a_158 HE159 => ?_
      refine wpList_nil ?_
      clear a_142 HE143 a_144 HE145 HH139 a_146 HE147 K_148 hK149 HH150 a_151 HE152 a_156 HE157 hK154 K_153
      refine nrm ?_
      refine cndF HE159 rfl (not_f (eq_L_refl _)) ?_
      refine wp_skip ?_
      refine nrm ?_
      refine wp_seq ?_
      refine rg ?_
      refine pl_x HE159 HH155 (wt0 rfl) (x_assign rfl) rfl rfl fun a_160 HE161 => ?_
      refine wpList_nil ?_
      clear a_158 HE159
      refine nrm ?_
      refine wp_seq ?_
      refine rg ?_
      refine pl_x HE161 HH155 (wt0 rfl) (x_move rfl) rfl rfl fun a_162 HE163 => ?_
      refine pl_x HE163 HH155 (wt0 rfl) (x_move rfl) rfl rfl fun a_164 HE165 => ?_
      refine pl fun K_166 hK167 => ?_
      refine st_call HE165 (wt0 rfl) rfl rfl rfl en_51 rfl rfl (mark_SFraction_c _ _ a0 1 _ _ (so_of_o (HH155.get (i := 4) rfl)) (HH155.lt (i := 4) rfl) (by omega) (by omega)) fun e w' hr => ?_
      obtain ⟨rfl, hsr35, hcr35⟩ := hr
      have HH168 := HH155.mut (i := 4) rfl hcr35 (rSo eFraction Sr27 Ar27 cr27 (mk_SFraction a0 1)) (oSl hsr35) (fun b hb => .inl hb)
      clear hsr35 hcr35
      refine ⟨_, rfl, fun a_169 HE170 => hK167 _ _ ?_⟩
      refine pl_x HE170 HH168 (wt0 rfl) (x_assign rfl) rfl rfl fun a_171 HE172 => ?_
      refine wpList_nil ?_
      clear a_160 HE161 a_162 HE163 HH155 a_164 HE165 a_169 HE170 hK167 K_166
      refine nrm ?_
      refine wp_seq ?_
      refine rg ?_
      refine pl_x HE172 HH168 (wt0 rfl) (x_move rfl) rfl rfl fun a_173 HE174 => ?_
      refine pl_x HE174 HH168 (wt0 rfl) (x_move rfl) rfl rfl fun a_175 HE176 => ?_
      refine pl fun K_177 hK178 => ?_
      refine st_call HE176 (wt0 rfl) rfl rfl rfl en_25 rfl rfl (mark_L_c _ _ a1 (1 + (ct_SFraction a0 : Int)) _ _ (so_of_o (HH168.get (i := 3) rfl)) (HH168.lt (i := 3) rfl) (by omega) (by omega)) fun e w' hr => ?_
      obtain ⟨rfl, hsr36, hcr36⟩ := hr
      have HH179 := HH168.mut (i := 3) rfl hcr36 (rSo eInt Sr28 Ar28 cr28 (mk_L a1 (1 + (ct_SFraction a0 : Int)))) (oSl hsr36) (fun b hb => .inl hb)
      clear hsr36 hcr36
      refine ⟨_, rfl, fun a_180 HE181 => hK178 _ _ ?_⟩
      refine pl_x HE181 HH179 (wt0 rfl) (x_assign rfl) rfl rfl fun a_182 HE183 => ?_
      refine wpList_nil ?_
      clear a_171 HE172 a_173 HE174 HH168 a_175 HE176 a_180 HE181 hK178 K_177
      refine nrm ?_
      refine wp_seq ?_
      refine wp_seq ?_
      refine rg ?_
      refine pl_x HE183 HH179 (wt0 rfl) (x_move rfl) rfl rfl fun a_184 HE185 => ?_
      refine pl_x HE185 HH179 (wt0 rfl) (x_lss rfl rfl) rfl rfl fun a_186 HE187 => ?_
      refine pl_x HE187 HH179 (wt0 rfl) (x_move rfl) rfl rfl fun a_188 HE189 => ?_
      by_cases hc37 : ((1 + (ct_SFraction a0 : Int)) + (ct_L a1 : Int)) < 0
      · refine pl_no HE189 (wtF HE189 rfl rfl rfl (decide_eq_true hc37)) rfl rfl fun a_190 HE191 => ?_
        refine pl_no HE191 (wtF HE191 rfl rfl rfl (decide_eq_true hc37)) rfl rfl fun a_192 HE193 => ?_
        refine pl_no HE193 (wtF HE193 rfl rfl rfl (decide_eq_true hc37)) rfl rfl fun a_194 HE195 => ?_
        refine pl_no HE195 (wtF HE195 rfl rfl rfl (decide_eq_true hc37)) rfl rfl fun a_196 HE197 => ?_
        refine pl_x HE197 HH179 (wt0 rfl) (x_pickT rfl (decide_eq_true hc37) rfl) rfl rfl fun a_198 HE199 => ?_
        refine pl_x HE199 HH179 (wt0 rfl) (x_move rfl) rfl rfl fun a_200 HE201 => ?_
        refine pl_no HE201 (wtF HE201 rfl rfl rfl rfl) rfl rfl fun a_202 HE203 => ?_
        refine pl_no HE203 (wtF HE203 rfl rfl rfl rfl) rfl rfl fun a_204 HE205 => ?_
        refine pl_no HE205 (wtF HE205 rfl rfl rfl rfl) rfl rfl fun a_206 HE207 => ?_
        refine pl_x HE207 HH179 (wt0 rfl) (x_pickT rfl rfl rfl) rfl rfl fun a_208 HE209 => ?_
        refine wpList_nil ?_
        clear a_182 HE183 a_184 HE185 a_186 HE187 a_188 HE189 a_190 HE191 a_192 HE193 a_194 HE195 a_196 HE197 a_198 HE199 a_200 HE201 a_202 HE203 a_204 HE205 a_206 HE207
        refine nrm ?_
        refine cndT HE209 rfl rfl ?_
        refine wp_seq ?_
        refine rg ?_
        refine pl_x HE209 HH179 (wt0 rfl) (x_assign rfl) rfl rfl fun a_210 HE211 => ?_
        refine wpList_nil ?_
        clear a_208 HE209
        refine nrm ?_
        refine wp_ret ?_
        refine (thn_ret ?_)
        refine ret1 HE211 rfl (rv_tmp rfl) ?_
        have hF : true = false := by
          first | rfl | (exfalso; omega)
        exact ⟨by first | (rw [hF] <;> rfl) | rfl | (rw [hF]; simp only [Ending.returned.injEq, Value.slice.injEq, true_and, and_true]; first | omega | (simp; done)), HH179.below⟩
      · refine pl_x HE189 HH179 (wtT HE189 rfl rfl rfl (decide_eq_false hc37)) (x_move rfl) rfl rfl fun a_212 HE213 => ?_
        refine pl_x HE213 HH179 (wtT HE213 rfl rfl rfl (decide_eq_false hc37)) (x_move rfl) rfl rfl fun a_214 HE215 => ?_
        refine pl fun K_216 hK217 => ?_
        refine st_call HE215 (wtT HE215 rfl rfl rfl (decide_eq_false hc37)) rfl rfl rfl en_24 rfl rfl (eq_L_c _ _ _ _ ((powersSeen a0 a1 a2 a3).1) ((powersSeen a0 a1 a2 a3).1) _ (HH179.sl (i := 2) rfl) (HH179.sl (i := 5) rfl)) fun e w' hr => ?_
        obtain ⟨rfl, hbr38⟩ := hr
        have HH218 := HH179.on hbr38
        clear hbr38
        refine ⟨_, rfl, fun a_219 HE220 => hK217 _ _ ?_⟩
        refine pl_x HE220 HH218 (wtT HE220 rfl rfl rfl (decide_eq_false hc37)) (x_not rfl) rfl rfl fun a_221 HE222 => ?_
        refine pl_x HE222 HH218 (wt0 rfl) (x_pickF rfl (decide_eq_false hc37) rfl) rfl rfl fun a_223 HE224 => ?_
        refine pl_x HE224 HH218 (wt0 rfl) (x_move rfl) rfl rfl fun a_225 HE226 => ?_
        refine pl_x HE226 HH218 (wtT HE226 rfl rfl rfl (not_f (eq_L_refl _))) (x_move rfl) rfl rfl fun a_227 HE228 => ?_
        refine pl_x HE228 HH218 (wtT HE228 rfl rfl rfl (not_f (eq_L_refl _))) (x_move rfl) rfl rfl fun a_229 HE230 => ?_
        refine pl_x HE230 HH218 (wtT HE230 rfl rfl rfl (not_f (eq_L_refl _))) (x_neq rfl rfl) rfl rfl fun a_231 HE232 => ?_
        refine pl_x HE232 HH218 (wt0 rfl) (x_pickF rfl (not_f (eq_L_refl _)) rfl) rfl rfl fun a_233 HE234 => ?_
        refine wpList_nil ?_
        clear a_182 HE183 a_184 HE185 a_186 HE187 a_188 HE189 a_212 HE213 HH179 a_214 HE215 a_219 HE220 a_221 HE222 a_223 HE224 a_225 HE226 a_227 HE228 a_229 HE230 a_231 HE232 hK217 K_216
        refine nrm ?_
        refine cndF HE234 rfl (bne_f rfl) ?_
        refine wp_skip ?_
        refine nrm ?_
        refine wp_seq ?_
        refine rg ?_
        refine pl_x HE234 HH218 (wt0 rfl) (x_assign rfl) rfl rfl fun a_235 HE236 => ?_
        refine wpList_nil ?_
        clear a_233 HE234
        refine nrm ?_
        refine wp_seq ?_
        refine rg ?_
        refine pl_x HE236 HH218 (wt0 rfl) (x_move rfl) rfl rfl fun a_237 HE238 => ?_
        refine pl_x HE238 HH218 (wt0 rfl) (x_move rfl) rfl rfl fun a_239 HE240 => ?_
        refine pl fun K_241 hK242 => ?_
        refine st_call HE240 (wt0 rfl) rfl rfl rfl en_25 rfl rfl (mark_L_c _ _ ((powersSeen a0 a1 a2 a3).1) 1 _ _ (so_of_o (HH218.get (i := 2) rfl)) (HH218.lt (i := 2) rfl) (by omega) (by omega)) fun e w' hr => ?_
        obtain ⟨rfl, hsr39, hcr39⟩ := hr
        have HH243 := HH218.mut (i := 2) rfl hcr39 (rSo eInt Sr29 Ar29_0 cr29_0 (mk_L ((powersSeen a0 a1 a2 a3).1) 1)) (oSl hsr39) (fun b hb => .inl hb)
        clear hsr39 hcr39
        refine ⟨_, rfl, fun a_244 HE245 => hK242 _ _ ?_⟩
        refine pl_x HE245 HH243 (wt0 rfl) (x_assign rfl) rfl rfl fun a_246 HE247 => ?_
        refine wpList_nil ?_
        clear a_235 HE236 a_237 HE238 HH218 a_239 HE240 a_244 HE245 hK242 K_241
        refine nrm ?_
        refine wp_seq ?_
        refine rg ?_
        refine pl_x HE247 HH243 (wt0 rfl) (x_assign rfl) rfl rfl fun a_248 HE249 => ?_
        refine wpList_nil ?_
        clear a_246 HE247
        refine nrm ?_
        refine wp_seq ?_
        refine rg ?_
        refine pl_x HE249 HH243 (wt0 rfl) (x_move rfl) rfl rfl fun a_250 HE251 => ?_
        refine pl_x HE251 HH243 (wt0 rfl) (x_move rfl) rfl rfl fun a_252 HE253 => ?_
        refine pl fun K_254 hK255 => ?_
        refine st_call HE253 (wt0 rfl) rfl rfl rfl en_26 rfl rfl (held_L_c _ _ ((powersSeen a0 a1 a2 a3).1) 1 _ (HH243.sl (i := 2) rfl) (by omega) (by omega)) fun e w' hr => ?_
        obtain ⟨rfl, hbr40⟩ := hr
        have HH256 := HH243.on hbr40
        clear hbr40
        refine ⟨_, rfl, fun a_257 HE258 => hK255 _ _ ?_⟩
        refine pl_x HE258 HH256 (wt0 rfl) (x_assign rfl) rfl rfl fun a_259 HE260 => ?_
        refine wpList_nil ?_
        clear a_248 HE249 a_250 HE251 HH243 a_252 HE253 a_257 HE258 hK255 K_254
        refine nrm ?_
        refine wp_seq ?_
        refine wp_seq ?_
        refine rg ?_
        refine pl_x HE260 HH256 (wt0 rfl) (x_move rfl) rfl rfl fun a_261 HE262 => ?_
        refine pl_x HE262 HH256 (wt0 rfl) (x_lss rfl rfl) rfl rfl fun a_263 HE264 => ?_
        refine wpList_nil ?_
        clear a_259 HE260 a_261 HE262
        refine nrm ?_
        refine cnd_d HE264 rfl (fun hc41 => ?_) (fun hc41 => ?_)
        · refine wp_seq ?_
          refine rg ?_
          refine pl_x HE264 HH256 (wt0 rfl) (x_assign rfl) rfl rfl fun a_265 HE266 => ?_
          refine wpList_nil ?_
          clear a_263 HE264
          refine nrm ?_
          refine wp_ret ?_
          refine (thn_ret ?_)
          refine ret1 HE266 rfl (rv_tmp rfl) ?_
          have hF : true = false := by
            first | rfl | (exfalso; omega)
          exact ⟨by first | (rw [hF] <;> rfl) | rfl | (rw [hF]; simp only [Ending.returned.injEq, Value.slice.injEq, true_and, and_true]; first | omega | (simp; done)), HH256.below⟩
        · refine wp_skip ?_
          refine nrm ?_
          refine wp_seq ?_
          refine wp_seq ?_
          refine rg ?_
          refine pl_x HE264 HH256 (wt0 rfl) (x_move rfl) rfl rfl fun a_267 HE268 => ?_
          refine pl_x HE268 HH256 (wt0 rfl) (x_move rfl) rfl rfl fun a_269 HE270 => ?_
          refine pl_x HE270 HH256 (wt0 rfl) (x_neq rfl rfl) rfl rfl fun a_271 HE272 => ?_
          refine wpList_nil ?_
          clear a_263 HE264 a_267 HE268 a_269 HE270
          refine nrm ?_
          refine cndF HE272 rfl (bne_f rfl) ?_
          refine wp_skip ?_
          refine nrm ?_
          refine wp_seq ?_
          refine rg ?_
          refine pl_x HE272 HH256 (wt0 rfl) (x_move rfl) rfl rfl fun a_273 HE274 => ?_
          refine pl fun K_275 hK276 => ?_
          refine st_call HE274 (wt0 rfl) rfl rfl rfl en_47 rfl rfl (to_FractionS _ _ a0 _ (HH256.old h0) (by omega)) fun e w' hr => ?_
          obtain ⟨Ar42, cr42, rfl, hor42, hbr42⟩ := hr
          obtain ⟨Sr42, HH277⟩ := HH256.newS hbr42 hor42
          clear hbr42 hor42
          refine ⟨_, rfl, fun a_278 HE279 => hK276 _ _ ?_⟩
          refine pl_x HE279 HH277 (wt0 rfl) (x_move rfl) rfl rfl fun a_280 HE281 => ?_
          refine pl fun K_282 hK283 => ?_
          refine st_call HE281 (wt0 rfl) rfl rfl rfl en_48 rfl rfl (to_Int64S _ _ a1 _ (HH277.old h1) (by omega)) fun e w' hr => ?_
          obtain ⟨Ar43, cr43, rfl, hor43, hbr43⟩ := hr
          obtain ⟨Sr43, HH284⟩ := HH277.newS hbr43 hor43
          clear hbr43 hor43
          refine ⟨_, rfl, fun a_285 HE286 => hK283 _ _ ?_⟩
          refine pl_x HE286 HH284 (wt0 rfl) (x_move rfl) rfl rfl fun a_287 HE288 => ?_
          refine pl_x HE288 HH284 (wt0 rfl) (x_move rfl) rfl rfl fun a_289 HE290 => ?_
          refine pl fun K_291 hK292 => ?_
          refine st_call HE290 (wt0 rfl) rfl rfl rfl en_49 rfl rfl (impl_PowersSeen _ _ a0 _ _ a1 a2 a3 _ (HH284.sl (i := 1) rfl) (HH284.sl (i := 0) rfl) (by omega)) fun e w' hr => ?_
          obtain ⟨Ar44_0, cr44_0, rfl, hor44_0, hbr44⟩ := hr
          obtain ⟨Sr44, HH293⟩ := HH284.newS hbr44 hor44_0
          refine ⟨_, rfl, fun a_294 HE295 => hK292 _ _ ?_⟩
          refine pl_x HE295 HH293 (wt0 rfl) (x_move rfl) rfl rfl fun a_296 HE297 => ?_
          refine pl_x HE297 HH293 (wt0 rfl) (x_extract rfl rfl) rfl rfl fun a_298 HE299 => ?_
          refine pl_x HE299 HH293 (wt0 rfl) (x_extract rfl rfl) rfl rfl fun a_300 HE301 => ?_
          refine pl_x HE301 HH293 (wt0 rfl) (x_assign rfl) rfl rfl fun a_302 HE303 => ?_
          refine pl_x HE303 HH293 (wt0 rfl) (x_assign rfl) rfl rfl fun a_304 HE305 => ?_
          refine wpList_nil ?_
          clear a_271 HE272 HH256 a_273 HE274 a_278 HE279 K_275 hK276 HH277 a_280 HE281 a_285 HE286 a_287 HE288 K_282 hK283 HH284 a_289 HE290 a_294 HE295 a_296 HE297 a_298 HE299 a_300 HE301 a_302 HE303 hK292 K_291
          refine nrm ?_
          refine wp_seq ?_
          refine wp_seq ?_
          refine rg ?_
          refine pl_x HE305 HH293 (wt0 rfl) (x_move rfl) rfl rfl fun a_306 HE307 => ?_
          refine pl_x HE307 HH293 (wt0 rfl) (x_move rfl) rfl rfl fun a_308 HE309 => ?_
          refine pl fun K_310 hK311 => ?_
          refine st_call HE309 (wt0 rfl) rfl rfl rfl en_24 rfl rfl (eq_L_c _ _ _ _ ((powersSeen a0 a1 a2 a3).1) ((powersSeen a0 a1 a2 a3).1) _ (HH293.sl (i := 0) rfl) (HH293.sl (i := 8) rfl)) fun e w' hr => ?_
          obtain ⟨rfl, hbr45⟩ := hr
          have HH312 := HH293.on hbr45
          clear hbr45
          refine ⟨_, rfl, fun a_313 HE314 => hK311 _ _ ?_⟩
          refine pl_x HE314 HH312 (wt0 rfl) (x_not rfl) rfl rfl fun a_315 HE316 => ?_
          refine pl_x HE316 HH312 (wt0 rfl) (x_move rfl) rfl rfl fun a_317 HE318 => ?_
          refine pl_x HE318 HH312 (wtT HE318 rfl rfl rfl (not_f (eq_L_refl _))) (x_move rfl) rfl rfl fun a_319 HE320 => ?_
          refine pl_x HE320 HH312 (wtT HE320 rfl rfl rfl (not_f (eq_L_refl _))) (x_move rfl) rfl rfl fun a_321 HE322 => ?_
          refine pl_x HE322 HH312 (wtT HE322 rfl rfl rfl (not_f (eq_L_refl _))) (x_neq rfl rfl) rfl rfl fun a_323 HE324 => ?_
          refine pl_x HE324 HH312 (wt0 rfl) (x_pickF rfl (not_f (eq_L_refl _)) rfl) rfl rfl fun a_325 HE326 => ?_
          refine wpList_nil ?_
          clear a_304 HE305 a_306 HE307 HH293 a_308 HE309 a_313 HE314 a_315 HE316 a_317 HE318 a_319 HE320 a_321 HE322 a_323 HE324 hK311 K_310
          refine nrm ?_
          refine cndF HE326 rfl (bne_f rfl) ?_
          refine wp_skip ?_
          refine nrm ?_
          refine wp_seq ?_
          refine rg ?_
          refine pl_x HE326 HH312 (wt0 rfl) (x_assign rfl) rfl rfl fun a_327 HE328 => ?_
          refine wpList_nil ?_
          clear a_325 HE326
          refine nrm ?_
          refine wp_seq ?_
          refine rg ?_
          refine pl_x HE328 HH312 (wt0 rfl) (x_move rfl) rfl rfl fun a_329 HE330 => ?_
          refine pl_x HE330 HH312 (wt0 rfl) (x_move rfl) rfl rfl fun a_331 HE332 => ?_
          refine pl fun K_333 hK334 => ?_
          refine st_call HE332 (wt0 rfl) rfl rfl rfl en_26 rfl rfl (held_L_c _ _ ((powersSeen a0 a1 a2 a3).1) 1 _ (HH312.sl (i := 5) rfl) (by omega) (by omega)) fun e w' hr => ?_
          obtain ⟨rfl, hbr46⟩ := hr
          have HH335 := HH312.on hbr46
          clear hbr46
          refine ⟨_, rfl, fun a_336 HE337 => hK334 _ _ ?_⟩
          refine pl_x HE337 HH335 (wt0 rfl) (x_assign rfl) rfl rfl fun a_338 HE339 => ?_
          refine wpList_nil ?_
          clear a_327 HE328 a_329 HE330 HH312 a_331 HE332 a_336 HE337 hK334 K_333
          refine nrm ?_
          refine wp_seq ?_
          refine wp_seq ?_
          refine rg ?_
          refine pl_x HE339 HH335 (wt0 rfl) (x_move rfl) rfl rfl fun a_340 HE341 => ?_
          refine pl_x HE341 HH335 (wt0 rfl) (x_lss rfl rfl) rfl rfl fun a_342 HE343 => ?_
          refine wpList_nil ?_
          clear a_338 HE339 a_340 HE341
          refine nrm ?_
          refine cndF HE343 rfl (decide_eq_false hc41) ?_
          refine wp_skip ?_
          refine nrm ?_
          refine wp_seq ?_
          refine wp_seq ?_
          refine rg ?_
          refine pl_x HE343 HH335 (wt0 rfl) (x_move rfl) rfl rfl fun a_344 HE345 => ?_
          refine pl_x HE345 HH335 (wt0 rfl) (x_move rfl) rfl rfl fun a_346 HE347 => ?_
          refine pl_x HE347 HH335 (wt0 rfl) (x_neq rfl rfl) rfl rfl fun a_348 HE349 => ?_
          refine wpList_nil ?_
          clear a_342 HE343 a_344 HE345 a_346 HE347
          refine nrm ?_
          refine cndF HE349 rfl (bne_f rfl) ?_
          refine wp_skip ?_
          refine nrm ?_
          refine wp_seq ?_
          refine rg ?_
          refine pl_x HE349 HH335 (wt0 rfl) (x_assign rfl) rfl rfl fun a_350 HE351 => ?_
          refine wpList_nil ?_
          clear a_348 HE349
          refine nrm ?_
          refine wp_ret ?_
          refine ret1 HE351 rfl (rv_tmp rfl) ?_
          have hF : true = true := by
            first | rfl | (exfalso; omega)
          exact ⟨by first | (rw [hF] <;> rfl) | rfl | (rw [hF]; simp only [Ending.returned.injEq, Value.slice.injEq, true_and, and_true]; first | omega | (simp; done)), HH335.below⟩

end Go.Proofs.Ytnokeoejlfodkaa
