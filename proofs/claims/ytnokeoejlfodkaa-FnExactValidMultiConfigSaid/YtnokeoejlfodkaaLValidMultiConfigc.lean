/- What the proof of FnExactValidMultiConfig needs: contracts of the functions that it reaches, each once. -/
import Derived.Test.YtnokeoejlfodkaaProg
import Derived.Test.YtnokeoejlfodkaaQMem
import Derived.Test.YtnokeoejlfodkaaQOpen
import Derived.Test.YtnokeoejlfodkaaLValidMultiConfiga
import Derived.Test.YtnokeoejlfodkaaLValidMultiConfigb
import Derived.WalkKit
import Derived.WalkSpells
import Derived.Below
import Derived.LoopTactic
import Derived.Outline
import Derived.Deep.QuietTactic
import Derived.BigQuiet
import Derived.Deep.LoopGhost
import Derived.Handy
import Derived.Lib.Hide
import Derived.Shelf.Abstract
import Derived.StillTailTactics
import Derived.OwnWalk
import Derived.Maps.AppendAt
import Derived.RegionTactic
import Derived.Deep.RegionHeld3
import Derived.IntWalk
import Derived.Deep.Upon
import Derived.Laws.OwnMore
import Derived.Maps.AppendAt
import Derived.Lib.SliceRun
import Derived.Lib.AppendZeros
namespace Go.Proofs.Ytnokeoejlfodkaa
open Go.RowKit

set_option maxRecDepth 100000 in
set_option maxHeartbeats 4000000 in
theorem impl_ValidMultiConfig (es0 : List Value) (a0 : tMulti) (es1 : List Value) (a1 : tMultiConfig) (w : World) (h0 : eMulti.R w (Old w) es0 a0) (h1 : eMultiConfig.R w (Old w) es1 a1) :
    Calls Try.prog 57 #[.agg es0.toArray, .agg es1.toArray] w fun e w' => e = .returned (.bool (validMC a0 a1)) ∧ Below w.heap.size w w' := by
  have H0 := h0
  obtain ⟨Az0_3, cz0_3, rfl, gz0_0, gz0_1, gz0_2, gz0_3⟩ := shape_Multi h0
  have jz0_0 := gz0_0; unfold I64 at jz0_0
  have jz0_1 := gz0_1; unfold I64 at jz0_1
  have jz0_2 := gz0_2; unfold I64 at jz0_2
  have lz0_3 := gz0_3.len
  have H1 := h1
  obtain ⟨Az1_1, cz1_1, rfl, gz1_0, gz1_1⟩ := shape_MultiConfig h1
  have jz1_0 := gz1_0; unfold I64 at jz1_0
  have lz1_1 := gz1_1.len
  have HH1 := Held.start Nob w
  refine enter (n := 30) Try.func57 rfl rfl rfl fun a_2 HE3 => ?_
  refine wp_seq ?_
  refine rg ?_
  refine pl fun K_4 hK5 => ?_
  refine st_box (cs := [.int .i64 (a0.1), .int .i64 (a0.2.1), .int .i64 (a0.2.2.1), .slice Az0_3 (a0.2.2.2.length) cz0_3]) HE3 HH1 rfl rfl (wt0 rfl) rfl fun q21 a_6 w' HE7 HH8 => hK5 _ _ ?_
  refine pl fun K_9 hK10 => ?_
  refine st_box (cs := [.int .i64 (a1.1), .slice Az1_1 (a1.2.length) cz1_1]) HE7 HH8 rfl rfl (wt0 rfl) rfl fun q22 a_11 w' HE12 HH13 => hK10 _ _ ?_
  refine pl_x HE12 HH13 (wt0 rfl) (x_assign rfl) rfl rfl fun a_14 HE15 => ?_
  refine wpList_nil ?_
  clear a_2 HE3 HH1 K_4 hK5 a_6 HE7 HH8 a_11 HE12 hK10 K_9
  refine nrm ?_
  refine wp_seq ?_
  refine wp_seq ?_
  refine dr_start (Held Nob w [rBlk q22 87 [.int .i64 (a1.1), .slice Az1_1 (a1.2.length) cz1_1], rBlk q21 83 [.int .i64 (a0.1), .int .i64 (a0.2.1), .int .i64 (a0.2.2.1), .slice Az0_3 (a0.2.2.2.length) cz0_3]]) 20 #[false, false, false, false, false, false, false, false, false, false, false, false, false, false, false, false, false, false, false, false] hmix rfl rfl HH13 (fun _ h => h.sel [0, 1] (by decide) rfl) fun w' HH16 => ?_
  have HS17 := HH16
  refine dr_take (i := 0) (ls' := #[true, false, false, false, false, false, false, false, false, false, false, false, false, false, false, false, false, false, false, false]) HE15 HS17 rfl (by kernel_rfl) (by kernel_rfl) (by kernel_rfl) (fun _ _ _ h => h) rfl (wt0 rfl) (x_loadN (cs := [.int .i64 (a0.1), .int .i64 (a0.2.1), .int .i64 (a0.2.2.1), .slice Az0_3 (a0.2.2.2.length) cz0_3]) tv_83 rfl rfl (c_blkN 1 rfl)) rfl rfl fun a_18 HE19 => ?_
  refine dr_one (i := 1) (ls' := #[true, true, false, false, false, false, false, false, false, false, false, false, false, false, false, false, false, false, false, false]) rfl (by kernel_rfl) rfl fun K_20 hK21 => ?_
  refine st_call HE19 (wt0 rfl) rfl rfl rfl en_137 rfl rfl (impl_ValidMulti [.int .i64 (a0.1), .int .i64 (a0.2.1), .int .i64 (a0.2.2.1), .slice Az0_3 (a0.2.2.2.length) cz0_3] a0 _ (HH16.oldR H0)) fun e w' hr => ?_
  obtain ⟨rfl, hbr23⟩ := hr
  have HH22 := HH16.on hbr23
  refine ⟨_, rfl, fun a_23 HE24 => hK21 _ _ (by exact HH22.sel [0, 1] (by decide) rfl) ?_⟩
  have HS25 := HH22.sel [0, 1] (by decide) rfl
  refine dr_take (i := 2) (ls' := #[true, true, true, false, false, false, false, false, false, false, false, false, false, false, false, false, false, false, false, false]) HE24 HS25 rfl (by kernel_rfl) (by kernel_rfl) (by kernel_rfl) (fun _ _ _ h => h) rfl (wt0 rfl) (x_not rfl) rfl rfl fun a_26 HE27 => ?_
  refine dr_take (i := 3) (ls' := #[true, true, true, true, false, false, false, false, false, false, false, false, false, false, false, false, false, false, false, false]) HE27 HS25 rfl (by kernel_rfl) (by kernel_rfl) (by kernel_rfl) (fun _ _ _ h => h) rfl (wt0 rfl) (x_move rfl) rfl rfl fun a_28 HE29 => ?_
  rcases Bool.eq_false_or_eq_true ((validMulti a0)) with hc24 | hc24
  · obtain ⟨v0, v1, v2, v3⟩ := validMulti_facts hc24
    refine dr_take (i := 4) (ls' := #[true, true, true, true, true, false, false, false, false, false, false, false, false, false, false, false, false, false, false, false]) HE29 HS25 rfl (by kernel_rfl) (by kernel_rfl) (by kernel_rfl) (fun _ _ _ h => h) rfl (wtT HE29 rfl rfl rfl (not_f hc24)) (x_fieldAddr fa_87_0 rfl) rfl rfl fun a_30 HE31 => ?_
    refine dr_take (i := 5) (ls' := #[true, true, true, true, true, true, false, false, false, false, false, false, false, false, false, false, false, false, false, false]) HE31 HS25 rfl (by kernel_rfl) (by kernel_rfl) (by kernel_rfl) (fun _ _ _ h => h) rfl (wtT HE31 rfl rfl rfl (not_f hc24)) (x_load1 tv_2 rfl (c_blk 0 rfl rfl)) rfl rfl fun a_32 HE33 => ?_
    refine dr_take (i := 6) (ls' := #[true, true, true, true, true, true, true, false, false, false, false, false, false, false, false, false, false, false, false, false]) HE33 HS25 rfl (by kernel_rfl) (by kernel_rfl) (by kernel_rfl) (fun _ _ _ h => h) rfl (wtT HE33 rfl rfl rfl (not_f hc24)) (x_fieldAddr fa_83_2 rfl) rfl rfl fun a_34 HE35 => ?_
    refine dr_take (i := 7) (ls' := #[true, true, true, true, true, true, true, true, false, false, false, false, false, false, false, false, false, false, false, false]) HE35 HS25 rfl (by kernel_rfl) (by kernel_rfl) (by kernel_rfl) (fun _ _ _ h => h) rfl (wtT HE35 rfl rfl rfl (not_f hc24)) (x_load1 tv_2 rfl (c_blk 1 rfl rfl)) rfl rfl fun a_36 HE37 => ?_
    refine dr_take (i := 8) (ls' := #[true, true, true, true, true, true, true, true, true, false, false, false, false, false, false, false, false, false, false, false]) HE37 HS25 rfl (by kernel_rfl) (by kernel_rfl) (by kernel_rfl) (fun _ _ _ h => h) rfl (wtT HE37 rfl rfl rfl (not_f hc24)) (x_sub rfl rfl (by exact ⟨by omega, by omega⟩)) rfl rfl fun a_38 HE39 => ?_
    refine dr_one (i := 9) (ls' := #[true, true, true, true, true, true, true, true, true, true, false, false, false, false, false, false, false, false, false, false]) rfl (by kernel_rfl) rfl fun K_40 hK41 => ?_
    refine st_call HE39 (wtT HE39 rfl rfl rfl (not_f hc24)) rfl rfl rfl en_112 rfl rfl (impl_within a1.1 0 (a0.2.2.1 - 1) _ ) fun e w' hr => ?_
    obtain ⟨rfl, rfl⟩ := hr
    refine ⟨_, rfl, fun a_42 HE43 => hK41 _ _ (by exact HH22.sel [0, 1] (by decide) rfl) ?_⟩
    have HS44 := HH22.sel [0, 1] (by decide) rfl
    refine dr_take (i := 10) (ls' := #[true, true, true, true, true, true, true, true, true, true, true, false, false, false, false, false, false, false, false, false]) HE43 HS44 rfl (by kernel_rfl) (by kernel_rfl) (by kernel_rfl) (fun _ _ _ h => h) rfl (wtT HE43 rfl rfl rfl (not_f hc24)) (x_not rfl) rfl rfl fun a_45 HE46 => ?_
    refine dr_take (i := 11) (ls' := #[true, true, true, true, true, true, true, true, true, true, true, true, false, false, false, false, false, false, false, false]) HE46 HS44 rfl (by kernel_rfl) (by kernel_rfl) (by kernel_rfl) (fun _ _ _ h => h) rfl (wt0 rfl) (x_pickF rfl (not_f hc24) rfl) rfl rfl fun a_47 HE48 => ?_
    refine dr_take (i := 12) (ls' := #[true, true, true, true, true, true, true, true, true, true, true, true, true, false, false, false, false, false, false, false]) HE48 HS44 rfl (by kernel_rfl) (by kernel_rfl) (by kernel_rfl) (fun _ _ _ h => h) rfl (wt0 rfl) (x_move rfl) rfl rfl fun a_49 HE50 => ?_
    rcases Bool.eq_false_or_eq_true ((withinB a1.1 0 (a0.2.2.1 - 1))) with hc26 | hc26
    · refine dr_take (i := 13) (ls' := #[true, true, true, true, true, true, true, true, true, true, true, true, true, true, false, false, false, false, false, false]) HE50 HS44 rfl (by kernel_rfl) (by kernel_rfl) (by kernel_rfl) (fun _ _ _ h => h) rfl (wtT HE50 rfl rfl rfl (not_f hc26)) (x_fieldAddr fa_87_1 rfl) rfl rfl fun a_51 HE52 => ?_
      refine dr_take (i := 14) (ls' := #[true, true, true, true, true, true, true, true, true, true, true, true, true, true, true, false, false, false, false, false]) HE52 HS44 rfl (by kernel_rfl) (by kernel_rfl) (by kernel_rfl) (fun _ _ _ h => h) rfl (wtT HE52 rfl rfl rfl (not_f hc26)) (x_load1 tv_85 rfl (c_blk 0 rfl rfl)) rfl rfl fun a_53 HE54 => ?_
      refine dr_take (i := 16) (ls' := #[true, true, true, true, true, true, true, true, true, true, true, true, true, true, true, false, true, false, false, false]) HE54 HS44 rfl (by kernel_rfl) (by kernel_rfl) (by kernel_rfl) (fun _ _ _ h => h) rfl (wtT HE54 rfl rfl rfl (not_f hc26)) (x_fieldAddr fa_83_0 rfl) rfl rfl fun a_55 HE56 => ?_
      refine dr_take (i := 17) (ls' := #[true, true, true, true, true, true, true, true, true, true, true, true, true, true, true, false, true, true, false, false]) HE56 HS44 rfl (by kernel_rfl) (by kernel_rfl) (by kernel_rfl) (fun _ _ _ h => h) rfl (wtT HE56 rfl rfl rfl (not_f hc26)) (x_load1 tv_2 rfl (c_blk 1 rfl rfl)) rfl rfl fun a_57 HE58 => ?_
      refine dr_one (i := 15) (ls' := #[true, true, true, true, true, true, true, true, true, true, true, true, true, true, true, true, true, true, false, false]) rfl (by kernel_rfl) rfl fun K_59 hK60 => ?_
      refine st_call HE58 (wtT HE58 rfl rfl rfl (not_f hc26)) rfl rfl rfl en_138 rfl rfl (impl_size_Tape _ _ _ _) fun e w' hr => ?_
      obtain ⟨rfl, rfl⟩ := hr
      refine ⟨_, rfl, fun a_61 HE62 => hK60 _ _ (by exact HH22.sel [0, 1] (by decide) rfl) ?_⟩
      have HS63 := HH22.sel [0, 1] (by decide) rfl
      refine dr_take (i := 18) (ls' := #[true, true, true, true, true, true, true, true, true, true, true, true, true, true, true, true, true, true, true, false]) HE62 HS63 rfl (by kernel_rfl) (by kernel_rfl) (by kernel_rfl) (fun _ _ _ h => h) rfl (wtT HE62 rfl rfl rfl (not_f hc26)) (x_neq rfl rfl) rfl rfl fun a_64 HE65 => ?_
      refine dr_take (i := 19) (ls' := #[true, true, true, true, true, true, true, true, true, true, true, true, true, true, true, true, true, true, true, true]) HE65 HS63 rfl (by kernel_rfl) (by kernel_rfl) (by kernel_rfl) (fun _ _ _ h => h) rfl (wt0 rfl) (x_pickF rfl (not_f hc26) rfl) rfl rfl fun a_66 HE67 => ?_
      refine dr_done (by kernel_rfl) ?_
      clear HH13 a_14 HE15 HH16 a_18 HE19 HS17 a_23 HE24 a_26 HE27 a_28 HE29 a_30 HE31 a_32 HE33 a_34 HE35 a_36 HE37 K_20 hK21 a_38 HE39 HS25 a_42 HE43 a_45 HE46 a_47 HE48 a_49 HE50 a_51 HE52 a_53 HE54 a_55 HE56 K_40 hK41 a_57 HE58 HS44 a_61 HE62 a_64 HE65 hK60 K_59
      refine nrm ?_
      refine cnd_ne HE67 rfl (fun hc28 => ?_) (fun hc28 => ?_)
      · refine wp_seq ?_
        refine rg ?_
        refine pl_x HE67 HH22 (wt0 rfl) (x_assign rfl) rfl rfl fun a_68 HE69 => ?_
        refine wpList_nil ?_
        clear a_66 HE67
        refine nrm ?_
        refine wp_ret ?_
        refine (thn_ret ?_)
        refine ret1 HE69 rfl (rv_tmp rfl) ?_
        have hF : (validMC a0 a1) = false := by
          first | (simp [validMC, goodMC, hc24, hc26, hc28]; done) | (unfold validMC goodMC; grind)
        exact ⟨by rw [hF] <;> rfl, HH22.below⟩
      · refine wp_skip ?_
        refine nrm ?_
        refine wp_seq ?_
        refine rg ?_
        refine pl_x HE67 HH22 (wt0 rfl) (x_fieldAddr fa_87_1 rfl) rfl rfl fun a_70 HE71 => ?_
        refine pl_x HE71 HH22 (wt0 rfl) (x_load1 tv_85 rfl (c_blk 0 rfl rfl)) rfl rfl fun a_72 HE73 => ?_
        refine pl_x HE73 HH22 (wt0 rfl) (x_makeFunc rfl rfl) rfl rfl fun a_74 HE75 => ?_
        refine pl fun K_76 hK77 => ?_
        have hcl := ContainsFunc_Tape (fun t => !validTp a0 t) 140 #[.pointer (some ⟨q21, 0, none⟩)] _ _ a1.2 _ (HH22.old gz1_1) en_140 (fun W x es hx hb hR => impl_ValidMultiConfig1 es x _ [.int .i64 (a0.1), .int .i64 (a0.2.1), .int .i64 (a0.2.2.1), .slice Az0_3 (a0.2.2.2.length) cz0_3] a0 W hR (((HH22.on hb).oldR H0)) (HH22.capB 1 rfl hb) (by omega))
        refine st_call HE75 (wt0 rfl) rfl rfl rfl en_139 rfl rfl hcl fun e w' hr => ?_
        clear hcl
        obtain ⟨rfl, hbq⟩ := hr
        have HH78 := HH22.on hbq
        clear hbq
        refine ⟨_, rfl, fun a_79 HE80 => hK77 _ _ ?_⟩
        refine pl_x HE80 HH78 (wt0 rfl) (x_not rfl) rfl rfl fun a_81 HE82 => ?_
        refine pl_x HE82 HH78 (wt0 rfl) (x_assign rfl) rfl rfl fun a_83 HE84 => ?_
        refine wpList_nil ?_
        clear a_66 HE67 a_70 HE71 a_72 HE73 HH22 a_74 HE75 a_79 HE80 a_81 HE82 hK77 K_76
        refine nrm ?_
        refine wp_ret ?_
        refine ret1 HE84 rfl (rv_tmp rfl) ?_
        have hF : (validMC a0 a1) = !(a1.2.any (fun t => !validTp a0 t)) := by
          first | (simp [validMC, goodMC, hc24, hc26, hc28]; done) | (unfold validMC goodMC; grind)
        exact ⟨by rw [hF] <;> rfl, HH78.below⟩
    · refine dr_takeNo (i := 13) (ls' := #[true, true, true, true, true, true, true, true, true, true, true, true, true, true, false, false, false, false, false, false]) HE50 HS44 rfl (by kernel_rfl) (by kernel_rfl) (by kernel_rfl) (fun _ _ _ h => h) rfl (wtF HE50 rfl rfl rfl (not_t hc26)) rfl rfl fun a_85 HE86 => ?_
      refine dr_takeNo (i := 14) (ls' := #[true, true, true, true, true, true, true, true, true, true, true, true, true, true, true, false, false, false, false, false]) HE86 HS44 rfl (by kernel_rfl) (by kernel_rfl) (by kernel_rfl) (fun _ _ _ h => h) rfl (wtF HE86 rfl rfl rfl (not_t hc26)) rfl rfl fun a_87 HE88 => ?_
      refine dr_takeNo (i := 15) (ls' := #[true, true, true, true, true, true, true, true, true, true, true, true, true, true, true, true, false, false, false, false]) HE88 HS44 rfl (by kernel_rfl) (by kernel_rfl) (by kernel_rfl) (fun _ _ _ h => h) rfl (wtF HE88 rfl rfl rfl (not_t hc26)) rfl rfl fun a_89 HE90 => ?_
      refine dr_takeNo (i := 16) (ls' := #[true, true, true, true, true, true, true, true, true, true, true, true, true, true, true, true, true, false, false, false]) HE90 HS44 rfl (by kernel_rfl) (by kernel_rfl) (by kernel_rfl) (fun _ _ _ h => h) rfl (wtF HE90 rfl rfl rfl (not_t hc26)) rfl rfl fun a_91 HE92 => ?_
      refine dr_takeNo (i := 17) (ls' := #[true, true, true, true, true, true, true, true, true, true, true, true, true, true, true, true, true, true, false, false]) HE92 HS44 rfl (by kernel_rfl) (by kernel_rfl) (by kernel_rfl) (fun _ _ _ h => h) rfl (wtF HE92 rfl rfl rfl (not_t hc26)) rfl rfl fun a_93 HE94 => ?_
      refine dr_takeNo (i := 18) (ls' := #[true, true, true, true, true, true, true, true, true, true, true, true, true, true, true, true, true, true, true, false]) HE94 HS44 rfl (by kernel_rfl) (by kernel_rfl) (by kernel_rfl) (fun _ _ _ h => h) rfl (wtF HE94 rfl rfl rfl (not_t hc26)) rfl rfl fun a_95 HE96 => ?_
      refine dr_take (i := 19) (ls' := #[true, true, true, true, true, true, true, true, true, true, true, true, true, true, true, true, true, true, true, true]) HE96 HS44 rfl (by kernel_rfl) (by kernel_rfl) (by kernel_rfl) (fun _ _ _ h => h) rfl (wt0 rfl) (x_pickT rfl (not_t hc26) rfl) rfl rfl fun a_97 HE98 => ?_
      refine dr_done (by kernel_rfl) ?_
      clear HH13 a_14 HE15 HH16 a_18 HE19 HS17 a_23 HE24 a_26 HE27 a_28 HE29 a_30 HE31 a_32 HE33 a_34 HE35 a_36 HE37 K_20 hK21 a_38 HE39 HS25 a_42 HE43 a_45 HE46 a_47 HE48 a_49 HE50 a_85 HE86 a_87 HE88 a_89 HE90 a_91 HE92 a_93 HE94 a_95 HE96 hK41 K_40
      refine nrm ?_
      refine cndT HE98 rfl rfl ?_
      refine wp_seq ?_
      refine rg ?_
      refine pl_x HE98 HH22 (wt0 rfl) (x_assign rfl) rfl rfl fun a_99 HE100 => ?_
      refine wpList_nil ?_
      clear a_97 HE98
      refine nrm ?_
      refine wp_ret ?_
      refine (thn_ret ?_)
      refine ret1 HE100 rfl (rv_tmp rfl) ?_
      have hF : (validMC a0 a1) = false := by
        first | (simp [validMC, goodMC, hc24, hc26]; done) | (unfold validMC goodMC; grind)
      exact ⟨by rw [hF] <;> rfl, HH22.below⟩
  · refine dr_takeNo (i := 4) (ls' := #[true, true, true, true, true, false, false, false, false, false, false, false, false, false, false, false, false, false, false, false]) HE29 HS25 rfl (by kernel_rfl) (by kernel_rfl) (by kernel_rfl) (fun _ _ _ h => h) rfl (wtF HE29 rfl rfl rfl (not_t hc24)) rfl rfl fun a_101 HE102 => ?_
    refine dr_takeNo (i := 5) (ls' := #[true, true, true, true, true, true, false, false, false, false, false, false, false, false, false, false, false, false, false, false]) HE102 HS25 rfl (by kernel_rfl) (by kernel_rfl) (by kernel_rfl) (fun _ _ _ h => h) rfl (wtF HE102 rfl rfl rfl (not_t hc24)) rfl rfl fun a_103 HE104 => ?_
    refine dr_takeNo (i := 6) (ls' := #[true, true, true, true, true, true, true, false, false, false, false, false, false, false, false, false, false, false, false, false]) HE104 HS25 rfl (by kernel_rfl) (by kernel_rfl) (by kernel_rfl) (fun _ _ _ h => h) rfl (wtF HE104 rfl rfl rfl (not_t hc24)) rfl rfl fun a_105 HE106 => ?_
    refine dr_takeNo (i := 7) (ls' := #[true, true, true, true, true, true, true, true, false, false, false, false, false, false, false, false, false, false, false, false]) HE106 HS25 rfl (by kernel_rfl) (by kernel_rfl) (by kernel_rfl) (fun _ _ _ h => h) rfl (wtF HE106 rfl rfl rfl (not_t hc24)) rfl rfl fun a_107 HE108 => ?_
    refine dr_takeNo (i := 8) (ls' := #[true, true, true, true, true, true, true, true, true, false, false, false, false, false, false, false, false, false, false, false]) HE108 HS25 rfl (by kernel_rfl) (by kernel_rfl) (by kernel_rfl) (fun _ _ _ h => h) rfl (wtF HE108 rfl rfl rfl (not_t hc24)) rfl rfl fun a_109 HE110 => ?_
    refine dr_takeNo (i := 9) (ls' := #[true, true, true, true, true, true, true, true, true, true, false, false, false, false, false, false, false, false, false, false]) HE110 HS25 rfl (by kernel_rfl) (by kernel_rfl) (by kernel_rfl) (fun _ _ _ h => h) rfl (wtF HE110 rfl rfl rfl (not_t hc24)) rfl rfl fun a_111 HE112 => ?_
    refine dr_takeNo (i := 10) (ls' := #[true, true, true, true, true, true, true, true, true, true, true, false, false, false, false, false, false, false, false, false]) HE112 HS25 rfl (by kernel_rfl) (by kernel_rfl) (by kernel_rfl) (fun _ _ _ h => h) rfl (wtF HE112 rfl rfl rfl (not_t hc24)) rfl rfl fun a_113 HE114 => ?_
    refine dr_take (i := 11) (ls' := #[true, true, true, true, true, true, true, true, true, true, true, true, false, false, false, false, false, false, false, false]) HE114 HS25 rfl (by kernel_rfl) (by kernel_rfl) (by kernel_rfl) (fun _ _ _ h => h) rfl (wt0 rfl) (x_pickT rfl (not_t hc24) rfl) rfl rfl fun a_115 HE116 => ?_
    refine dr_take (i := 12) (ls' := #[true, true, true, true, true, true, true, true, true, true, true, true, true, false, false, false, false, false, false, false]) HE116 HS25 rfl (by kernel_rfl) (by kernel_rfl) (by kernel_rfl) (fun _ _ _ h => h) rfl (wt0 rfl) (x_move rfl) rfl rfl fun a_117 HE118 => ?_
    refine dr_takeNo (i := 13) (ls' := #[true, true, true, true, true, true, true, true, true, true, true, true, true, true, false, false, false, false, false, false]) HE118 HS25 rfl (by kernel_rfl) (by kernel_rfl) (by kernel_rfl) (fun _ _ _ h => h) rfl (wtF HE118 rfl rfl rfl rfl) rfl rfl fun a_119 HE120 => ?_
    refine dr_takeNo (i := 14) (ls' := #[true, true, true, true, true, true, true, true, true, true, true, true, true, true, true, false, false, false, false, false]) HE120 HS25 rfl (by kernel_rfl) (by kernel_rfl) (by kernel_rfl) (fun _ _ _ h => h) rfl (wtF HE120 rfl rfl rfl rfl) rfl rfl fun a_121 HE122 => ?_
    refine dr_takeNo (i := 15) (ls' := #[true, true, true, true, true, true, true, true, true, true, true, true, true, true, true, true, false, false, false, false]) HE122 HS25 rfl (by kernel_rfl) (by kernel_rfl) (by kernel_rfl) (fun _ _ _ h => h) rfl (wtF HE122 rfl rfl rfl rfl) rfl rfl fun a_123 HE124 => ?_
    refine dr_takeNo (i := 16) (ls' := #[true, true, true, true, true, true, true, true, true, true, true, true, true, true, true, true, true, false, false, false]) HE124 HS25 rfl (by kernel_rfl) (by kernel_rfl) (by kernel_rfl) (fun _ _ _ h => h) rfl (wtF HE124 rfl rfl rfl rfl) rfl rfl fun a_125 HE126 => ?_
    refine dr_takeNo (i := 17) (ls' := #[true, true, true, true, true, true, true, true, true, true, true, true, true, true, true, true, true, true, false, false]) HE126 HS25 rfl (by kernel_rfl) (by kernel_rfl) (by kernel_rfl) (fun _ _ _ h => h) rfl (wtF HE126 rfl rfl rfl rfl) rfl rfl fun a_127 HE128 => ?_
    refine dr_takeNo (i := 18) (ls' := #[true, true, true, true, true, true, true, true, true, true, true, true, true, true, true, true, true, true, true, false]) HE128 HS25 rfl (by kernel_rfl) (by kernel_rfl) (by kernel_rfl) (fun _ _ _ h => h) rfl (wtF HE128 rfl rfl rfl rfl) rfl rfl fun a_129 HE130 => ?_
    refine dr_take (i := 19) (ls' := #[true, true, true, true, true, true, true, true, true, true, true, true, true, true, true, true, true, true, true, true]) HE130 HS25 rfl (by kernel_rfl) (by kernel_rfl) (by kernel_rfl) (fun _ _ _ h => h) rfl (wt0 rfl) (x_pickT rfl rfl rfl) rfl rfl fun a_131 HE132 => ?_
    refine dr_done (by kernel_rfl) ?_
    clear HH13 a_14 HE15 HH16 a_18 HE19 HS17 a_23 HE24 a_26 HE27 a_28 HE29 a_101 HE102 a_103 HE104 a_105 HE106 a_107 HE108 a_109 HE110 a_111 HE112 a_113 HE114 a_115 HE116 a_117 HE118 a_119 HE120 a_121 HE122 a_123 HE124 a_125 HE126 a_127 HE128 a_129 HE130 hK21 K_20
    refine nrm ?_
    refine cndT HE132 rfl rfl ?_
    refine wp_seq ?_
    refine rg ?_
    refine pl_x HE132 HH22 (wt0 rfl) (x_assign rfl) rfl rfl fun a_133 HE134 => ?_
    refine wpList_nil ?_
    clear a_131 HE132
    refine nrm ?_
    refine wp_ret ?_
    refine (thn_ret ?_)
    refine ret1 HE134 rfl (rv_tmp rfl) ?_
    have hF : (validMC a0 a1) = false := by
      first | (simp [validMC, goodMC, hc24]; done) | (unfold validMC goodMC; grind)
    exact ⟨by rw [hF] <;> rfl, HH22.below⟩

set_option maxRecDepth 100000 in
set_option maxHeartbeats 4000000 in
theorem spec_l06Side (A0 : Option Addr) (c0 : Nat) (a0 : (List Int)) (a1 : Int) (w : World) (h0 : Sl eInt w (Old w) A0 c0 a0) (s0 : -1000 ≤ a1 ∧ a1 ≤ 1000) :
    Calls Try.prog 148 #[.slice A0 a0.length c0, .int .i64 a1] w fun e w' => e = .returned (.bool (side200 a0 a1)) ∧ Below w.heap.size w w' := by
  have l0 := h0.len
  have HH1 := Held.start Nob w
  refine enter (n := 35) Try.func148 rfl rfl rfl fun a_2 HE3 => ?_
  refine wp_seq ?_
  refine rg ?_
  refine pl_x HE3 HH1 (wt0 rfl) (x_assign rfl) rfl rfl fun a_4 HE5 => ?_
  refine wpList_nil ?_
  clear a_2 HE3
  refine nrm ?_
  refine wp_seq ?_
  refine wp_seq ?_
  refine rg ?_
  refine pl_x HE5 HH1 (wt0 rfl) (x_move rfl) rfl rfl fun a_6 HE7 => ?_
  refine pl_x HE7 HH1 (wt0 rfl) (x_len Try.underlying31 rfl) rfl rfl fun a_8 HE9 => ?_
  refine pl_x HE9 HH1 (wt0 rfl) (x_gtr rfl rfl) rfl rfl fun a_10 HE11 => ?_
  refine wpList_nil ?_
  clear a_4 HE5 a_6 HE7 a_8 HE9
  refine nrm ?_
  refine cnd_d HE11 rfl (fun hc21 => ?_) (fun hc21 => ?_)
  · refine wp_seq ?_
    refine rg ?_
    refine pl_x HE11 HH1 (wt0 rfl) (x_assign rfl) rfl rfl fun a_12 HE13 => ?_
    refine wpList_nil ?_
    clear a_10 HE11
    refine nrm ?_
    refine wp_ret ?_
    refine (thn_ret ?_)
    refine ret1 HE13 rfl (rv_tmp rfl) ?_
    have hF : (side200 a0 a1) = false := by
      unfold side200; first | (unfold sideB; rw [decide_eq_false (by omega)]; rfl) | (unfold sideB allW; rw [any_hit (by omega : k < a0.length) (by rw [← xe0, outB_eq, hc21]; rfl)]; simp) | (have hq := p0_1; rw [List.take_of_length_le (by omega)] at hq; unfold sideB allW; rw [hq]; grind)
    exact ⟨by rw [hF] <;> rfl, HH1.below⟩
  · refine wp_skip ?_
    refine nrm ?_
    refine wp_seq ?_
    refine wp_seq ?_
    refine rg ?_
    refine pl_x HE11 HH1 (wt0 rfl) (x_assign rfl) rfl rfl fun a_14 HE15 => ?_
    refine wpList_nil ?_
    clear a_10 HE11
    refine nrm ?_
    refine wp_block ?_
    refine lp (fun m a w' => ∃ (k : Nat), m = a0.length - k ∧ Env 35 [(5, .int .i64 (k : Int)), (0, .slice A0 (a0.length) c0), (1, .int .i64 (a1))] a ∧ Held Nob w [] w' ∧ (k ≤ a0.length) ∧ ((a0.take k).any (outB 0 (a1 - 1)) = false)) (a0.length - (0)) ?_ ?_
    · exact ⟨0, rfl, HE15.sub ⟨(lkI rfl (by first | rfl | omega | (simp [hc21]; done))), rfl, rfl, trivial⟩, (HH1.sel [] (by decide) rfl), (by first | omega | assumption | (simp; done) | simp_all), (by rfl)⟩
    · rintro m a_16 w' ⟨k, rfl, HE17, HH18, p22_0, p22_1⟩
      refine wp_seq ?_
      refine wp_seq ?_
      refine rg ?_
      refine pl_x HE17 HH18 (wt0 rfl) (x_move rfl) rfl rfl fun a_19 HE20 => ?_
      refine pl_x HE20 HH18 (wt0 rfl) (x_move rfl) rfl rfl fun a_21 HE22 => ?_
      refine pl_x HE22 HH18 (wt0 rfl) (x_len Try.underlying31 rfl) rfl rfl fun a_23 HE24 => ?_
      refine pl_x HE24 HH18 (wt0 rfl) (x_lss rfl rfl) rfl rfl fun a_25 HE26 => ?_
      refine wpList_nil ?_
      clear a_14 HE15 HH1 a_16 HE17 a_19 HE20 a_21 HE22 a_23 HE24
      refine nrm ?_
      refine cnd_d HE26 rfl (fun hc23 => ?_) (fun hc23 => ?_)
      · refine wp_skip ?_
        refine nrm ?_
        refine wp_seq ?_
        refine wp_block ?_
        refine wp_seq ?_
        refine rg ?_
        refine pl_x HE26 HH18 (wt0 rfl) (x_move rfl) rfl rfl fun a_27 HE28 => ?_
        refine pl_x HE28 HH18 (wt0 rfl) (x_move rfl) rfl rfl fun a_29 HE30 => ?_
        have ke24 : k < a0.length := by omega
        obtain ⟨be24, fe24, ese24, Ae24, Re24, De24⟩ := el_old h0 ke24
        obtain ⟨e24, xe24⟩ : ∃ x, x = a0[k] := ⟨_, rfl⟩
        rw [← xe24] at Re24
        have Qe24 := Re24
        obtain ⟨rfl, ie24⟩ := Re24
        have je24 := ie24; unfold I64 at je24
        refine pl_x HE30 HH18 (wt0 rfl) (x_indexAddr ts_31 rfl rfl Ae24 rfl ke24) rfl rfl fun a_31 HE32 => ?_
        refine pl_x HE32 HH18 (wt0 rfl) (x_load1 tv_2 rfl (c_old (De24 0 _ rfl))) rfl rfl fun a_33 HE34 => ?_
        refine pl_x HE34 HH18 (wt0 rfl) (x_move rfl) rfl rfl fun a_35 HE36 => ?_
        refine pl_x HE36 HH18 (wt0 rfl) (x_sub rfl rfl (by exact ⟨by omega, by omega⟩)) rfl rfl fun a_37 HE38 => ?_
        refine pl fun K_39 hK40 => ?_
        refine st_call HE38 (wt0 rfl) rfl rfl rfl en_108 rfl rfl (spec_l00In e24 0 (a1 - 1) _ ) fun e w' hr => ?_
        obtain ⟨rfl, rfl⟩ := hr
        refine ⟨_, rfl, fun a_41 HE42 => hK40 _ _ ?_⟩
        refine pl_x HE42 HH18 (wt0 rfl) (x_not rfl) rfl rfl fun a_43 HE44 => ?_
        refine wpList_nil ?_
        clear a_25 HE26 a_27 HE28 a_29 HE30 a_31 HE32 a_33 HE34 a_35 HE36 a_37 HE38 a_41 HE42 hK40 K_39
        refine nrm ?_
        refine cnd_nb HE44 rfl (fun hc26 => ?_) (fun hc26 => ?_)
        · refine wp_seq ?_
          refine rg ?_
          refine pl_x HE44 HH18 (wt0 rfl) (x_assign rfl) rfl rfl fun a_45 HE46 => ?_
          refine wpList_nil ?_
          clear a_43 HE44
          refine nrm ?_
          refine wp_ret ?_
          refine (blk_ret (thn_ret (thn_ret (blk_ret (thn_ret ?_)))))
          refine ret1 HE46 rfl (rv_tmp rfl) ?_
          have hF : (side200 a0 a1) = false := by
            unfold side200; first | (unfold sideB; rw [decide_eq_false (by omega)]; rfl) | (unfold sideB allW; rw [any_hit (by omega : k < a0.length) (by rw [← xe24, outB_eq, hc26]; rfl)]; simp) | (have hq := p22_1; rw [List.take_of_length_le (by omega)] at hq; unfold sideB allW; rw [hq]; grind)
          exact ⟨by rw [hF] <;> rfl, HH18.below⟩
        · refine wp_skip ?_
          refine blk_n ?_
          refine nrm ?_
          refine rg ?_
          refine pl_x HE44 HH18 (wt0 rfl) (x_move rfl) rfl rfl fun a_47 HE48 => ?_
          refine pl_x HE48 HH18 (wt0 rfl) (x_add rfl rfl (by exact ⟨by omega, by omega⟩)) rfl rfl fun a_49 HE50 => ?_
          refine pl_x HE50 HH18 (wt0 rfl) (x_assign rfl) rfl rfl fun a_51 HE52 => ?_
          refine wpList_nil ?_
          clear a_43 HE44 a_47 HE48 a_49 HE50
          exact nrm ⟨a0.length - (k + 1), (by omega), k + 1, rfl, HE52.sub ⟨(lkI rfl (by first | rfl | omega | (simp [hc21, p22_0, p22_1, hc23, xe24, hc26]; done))), rfl, rfl, trivial⟩, (HH18.sel [] (by decide) rfl), (by first | omega | assumption | (simp; done) | simp_all), (by exact any_step (by omega) p22_1 (by rw [← xe24, outB_eq, hc26]; rfl))⟩
      · refine wp_exit ?_
        refine (thn_exit (thn_exit (blk_hit ?_)))
        refine nrm ?_
        refine wp_seq ?_
        refine rg ?_
        refine pl_x HE26 HH18 (wt0 rfl) (x_move rfl) rfl rfl fun a_53 HE54 => ?_
        refine pl_x HE54 HH18 (wt0 rfl) (x_len Try.underlying31 rfl) rfl rfl fun a_55 HE56 => ?_
        refine pl_x HE56 HH18 (wt0 rfl) (x_eql rfl rfl) rfl rfl fun a_57 HE58 => ?_
        refine pl_x HE58 HH18 (wt0 rfl) (x_move rfl) rfl rfl fun a_59 HE60 => ?_
        by_cases hc27 : (a0.length : Int) = 0
        · refine pl_no HE60 (wtF HE60 rfl rfl rfl (beq_t hc27)) rfl rfl fun a_61 HE62 => ?_
          refine pl_no HE62 (wtF HE62 rfl rfl rfl (beq_t hc27)) rfl rfl fun a_63 HE64 => ?_
          refine pl_no HE64 (wtF HE64 rfl rfl rfl (beq_t hc27)) rfl rfl fun a_65 HE66 => ?_
          refine pl_no HE66 (wtF HE66 rfl rfl rfl (beq_t hc27)) rfl rfl fun a_67 HE68 => ?_
          refine pl_no HE68 (wtF HE68 rfl rfl rfl (beq_t hc27)) rfl rfl fun a_69 HE70 => ?_
          refine pl_no HE70 (wtF HE70 rfl rfl rfl (beq_t hc27)) rfl rfl fun a_71 HE72 => ?_
          refine pl_no HE72 (wtF HE72 rfl rfl rfl (beq_t hc27)) rfl rfl fun a_73 HE74 => ?_
          refine pl_x HE74 HH18 (wt0 rfl) (x_pickT rfl (beq_t hc27) rfl) rfl rfl fun a_75 HE76 => ?_
          refine pl_x HE76 HH18 (wt0 rfl) (x_assign rfl) rfl rfl fun a_77 HE78 => ?_
          refine wpList_nil ?_
          clear a_25 HE26 a_53 HE54 a_55 HE56 a_57 HE58 a_59 HE60 a_61 HE62 a_63 HE64 a_65 HE66 a_67 HE68 a_69 HE70 a_71 HE72 a_73 HE74 a_75 HE76
          refine nrm ?_
          refine wp_ret ?_
          refine ret1 HE78 rfl (rv_tmp rfl) ?_
          have hF : (side200 a0 a1) = true := by
            unfold side200; first | (unfold sideB; rw [decide_eq_false (by omega)]; rfl) | (unfold sideB allW; rw [any_hit (by omega : k < a0.length) (by rw [← xe0, outB_eq, hc27]; rfl)]; simp) | (have hq := p22_1; rw [List.take_of_length_le (by omega)] at hq; unfold sideB allW; rw [hq]; grind)
          exact ⟨by rw [hF] <;> rfl, HH18.below⟩
        · refine pl_x HE60 HH18 (wtT HE60 rfl rfl rfl (beq_f hc27)) (x_move rfl) rfl rfl fun a_79 HE80 => ?_
          refine pl_x HE80 HH18 (wtT HE80 rfl rfl rfl (beq_f hc27)) (x_move rfl) rfl rfl fun a_81 HE82 => ?_
          refine pl_x HE82 HH18 (wtT HE82 rfl rfl rfl (beq_f hc27)) (x_len Try.underlying31 rfl) rfl rfl fun a_83 HE84 => ?_
          refine pl_x HE84 HH18 (wtT HE84 rfl rfl rfl (beq_f hc27)) (x_sub rfl rfl (by exact ⟨by omega, by omega⟩)) rfl rfl fun a_85 HE86 => ?_
          have ke28 : (a0.length - 1) < a0.length := by omega
          obtain ⟨be28, fe28, ese28, Ae28, Re28, De28⟩ := el_old h0 ke28
          obtain ⟨e28, xe28⟩ : ∃ x, x = a0[(a0.length - 1)] := ⟨_, rfl⟩
          rw [← xe28] at Re28
          have Qe28 := Re28
          obtain ⟨rfl, ie28⟩ := Re28
          have je28 := ie28; unfold I64 at je28
          refine pl_x HE86 HH18 (wtT HE86 rfl rfl rfl (beq_f hc27)) (x_indexAddr ts_31 rfl rfl Ae28 (by omega) ke28) rfl rfl fun a_87 HE88 => ?_
          refine pl_x HE88 HH18 (wtT HE88 rfl rfl rfl (beq_f hc27)) (x_load1 tv_2 rfl (c_old (De28 0 _ rfl))) rfl rfl fun a_89 HE90 => ?_
          refine pl_x HE90 HH18 (wtT HE90 rfl rfl rfl (beq_f hc27)) (x_neq rfl rfl) rfl rfl fun a_91 HE92 => ?_
          refine pl_x HE92 HH18 (wt0 rfl) (x_pickF rfl (beq_f hc27) rfl) rfl rfl fun a_93 HE94 => ?_
          refine pl_x HE94 HH18 (wt0 rfl) (x_assign rfl) rfl rfl fun a_95 HE96 => ?_
          refine wpList_nil ?_
          clear a_25 HE26 a_53 HE54 a_55 HE56 a_57 HE58 a_59 HE60 a_79 HE80 a_81 HE82 a_83 HE84 a_85 HE86 a_87 HE88 a_89 HE90 a_91 HE92 a_93 HE94
          refine nrm ?_
          refine wp_ret ?_
          refine ret1 HE96 rfl (rv_tmp rfl) ?_
          have hF : (side200 a0 a1) = (e28 != 0) := by
            unfold side200; first | (unfold sideB; rw [decide_eq_false (by omega)]; rfl) | (unfold sideB allW; rw [any_hit (by omega : k < a0.length) (by rw [← xe28, outB_eq, hc27]; rfl)]; simp) | (have hq := p22_1; rw [List.take_of_length_le (by omega)] at hq; unfold sideB allW; rw [hq]; grind)
          exact ⟨by rw [hF] <;> rfl, HH18.below⟩

set_option maxRecDepth 100000 in
set_option maxHeartbeats 4000000 in
theorem spec_l06Good (p0 o0 : Nat) (es0 : List Value) (a0 : tMulti) (p1 o1 : Nat) (es1 : List Value) (a1 : tMultiConfig) (w : World) (h0 : eMulti.R w (Old w) es0 a0) (hq0 : ∀ j v, es0[j]? = some v → w.cell? ⟨p0, o0 + j, none⟩ = some v) (h1 : eMultiConfig.R w (Old w) es1 a1) (hq1 : ∀ j v, es1[j]? = some v → w.cell? ⟨p1, o1 + j, none⟩ = some v) (s0 : 1 ≤ a0.2.2.1 ∧ a0.2.2.1 ≤ 16) (s1 : 2 ≤ a0.2.1 ∧ a0.2.1 ≤ 3) :
    Calls Try.prog 134 #[.pointer (some ⟨p0, o0, none⟩), .pointer (some ⟨p1, o1, none⟩)] w fun e w' => e = .returned (.bool (goodMC a0 a1)) ∧ Below w.heap.size w w' := by
  have H0 := h0
  obtain ⟨Az0_3, cz0_3, rfl, gz0_0, gz0_1, gz0_2, gz0_3⟩ := shape_Multi h0
  have jz0_0 := gz0_0; unfold I64 at jz0_0
  have jz0_1 := gz0_1; unfold I64 at jz0_1
  have jz0_2 := gz0_2; unfold I64 at jz0_2
  have lz0_3 := gz0_3.len
  have H1 := h1
  obtain ⟨Az1_1, cz1_1, rfl, gz1_0, gz1_1⟩ := shape_MultiConfig h1
  have jz1_0 := gz1_0; unfold I64 at jz1_0
  have lz1_1 := gz1_1.len
  have HH1 := Held.start Nob w
  refine enter (n := 68) Try.func134 rfl rfl rfl fun a_2 HE3 => ?_
  refine wp_seq ?_
  refine rg ?_
  refine pl_x HE3 HH1 (wt0 rfl) (x_assign rfl) rfl rfl fun a_4 HE5 => ?_
  refine wpList_nil ?_
  clear a_2 HE3
  refine nrm ?_
  refine wp_seq ?_
  refine wp_seq ?_
  refine dr_start (Held Nob w []) 23 #[false, false, false, false, false, false, false, false, false, false, false, false, false, false, false, false, false, false, false, false, false, false, false] hmix rfl rfl HH1 (fun _ h => h.sel [] (by decide) rfl) fun w' HH6 => ?_
  have HS7 := HH6
  refine dr_take (i := 0) (ls' := #[true, false, false, false, false, false, false, false, false, false, false, false, false, false, false, false, false, false, false, false, false, false, false]) HE5 HS7 rfl (by kernel_rfl) (by kernel_rfl) (by kernel_rfl) (fun _ _ _ h => h) rfl (wt0 rfl) (x_move rfl) rfl rfl fun a_8 HE9 => ?_
  refine dr_take (i := 1) (ls' := #[true, true, false, false, false, false, false, false, false, false, false, false, false, false, false, false, false, false, false, false, false, false, false]) HE9 HS7 rfl (by kernel_rfl) (by kernel_rfl) (by kernel_rfl) (fun _ _ _ h => h) rfl (wt0 rfl) (x_nilCheck rfl) rfl rfl fun a_10 HE11 => ?_
  refine dr_take (i := 2) (ls' := #[true, true, true, false, false, false, false, false, false, false, false, false, false, false, false, false, false, false, false, false, false, false, false]) HE11 HS7 rfl (by kernel_rfl) (by kernel_rfl) (by kernel_rfl) (fun _ _ _ h => h) rfl (wt0 rfl) (x_fieldAddr fa_87_0 rfl) rfl rfl fun a_12 HE13 => ?_
  refine dr_take (i := 3) (ls' := #[true, true, true, true, false, false, false, false, false, false, false, false, false, false, false, false, false, false, false, false, false, false, false]) HE13 HS7 rfl (by kernel_rfl) (by kernel_rfl) (by kernel_rfl) (fun _ _ _ h => h) rfl (wt0 rfl) (x_load1 tv_2 rfl (c_old (hq1 0 _ rfl))) rfl rfl fun a_14 HE15 => ?_
  refine dr_take (i := 4) (ls' := #[true, true, true, true, true, false, false, false, false, false, false, false, false, false, false, false, false, false, false, false, false, false, false]) HE15 HS7 rfl (by kernel_rfl) (by kernel_rfl) (by kernel_rfl) (fun _ _ _ h => h) rfl (wt0 rfl) (x_move rfl) rfl rfl fun a_16 HE17 => ?_
  refine dr_take (i := 5) (ls' := #[true, true, true, true, true, true, false, false, false, false, false, false, false, false, false, false, false, false, false, false, false, false, false]) HE17 HS7 rfl (by kernel_rfl) (by kernel_rfl) (by kernel_rfl) (fun _ _ _ h => h) rfl (wt0 rfl) (x_nilCheck rfl) rfl rfl fun a_18 HE19 => ?_
  refine dr_take (i := 6) (ls' := #[true, true, true, true, true, true, true, false, false, false, false, false, false, false, false, false, false, false, false, false, false, false, false]) HE19 HS7 rfl (by kernel_rfl) (by kernel_rfl) (by kernel_rfl) (fun _ _ _ h => h) rfl (wt0 rfl) (x_fieldAddr fa_83_2 rfl) rfl rfl fun a_20 HE21 => ?_
  refine dr_take (i := 7) (ls' := #[true, true, true, true, true, true, true, true, false, false, false, false, false, false, false, false, false, false, false, false, false, false, false]) HE21 HS7 rfl (by kernel_rfl) (by kernel_rfl) (by kernel_rfl) (fun _ _ _ h => h) rfl (wt0 rfl) (x_load1 tv_2 rfl (c_old (hq0 2 _ rfl))) rfl rfl fun a_22 HE23 => ?_
  refine dr_take (i := 8) (ls' := #[true, true, true, true, true, true, true, true, true, false, false, false, false, false, false, false, false, false, false, false, false, false, false]) HE23 HS7 rfl (by kernel_rfl) (by kernel_rfl) (by kernel_rfl) (fun _ _ _ h => h) rfl (wt0 rfl) (x_sub rfl rfl (by exact ⟨by omega, by omega⟩)) rfl rfl fun a_24 HE25 => ?_
  refine dr_one (i := 9) (ls' := #[true, true, true, true, true, true, true, true, true, true, false, false, false, false, false, false, false, false, false, false, false, false, false]) rfl (by kernel_rfl) rfl fun K_26 hK27 => ?_
  refine st_call HE25 (wt0 rfl) rfl rfl rfl en_108 rfl rfl (spec_l00In a1.1 0 (a0.2.2.1 - 1) _ ) fun e w' hr => ?_
  obtain ⟨rfl, rfl⟩ := hr
  refine ⟨_, rfl, fun a_28 HE29 => hK27 _ _ (by exact HH6.sel [] (by decide) rfl) ?_⟩
  have HS30 := HH6.sel [] (by decide) rfl
  refine dr_take (i := 10) (ls' := #[true, true, true, true, true, true, true, true, true, true, true, false, false, false, false, false, false, false, false, false, false, false, false]) HE29 HS30 rfl (by kernel_rfl) (by kernel_rfl) (by kernel_rfl) (fun _ _ _ h => h) rfl (wt0 rfl) (x_not rfl) rfl rfl fun a_31 HE32 => ?_
  refine dr_take (i := 11) (ls' := #[true, true, true, true, true, true, true, true, true, true, true, true, false, false, false, false, false, false, false, false, false, false, false]) HE32 HS30 rfl (by kernel_rfl) (by kernel_rfl) (by kernel_rfl) (fun _ _ _ h => h) rfl (wt0 rfl) (x_move rfl) rfl rfl fun a_33 HE34 => ?_
  rcases Bool.eq_false_or_eq_true ((withinB a1.1 0 (a0.2.2.1 - 1))) with hc22 | hc22
  · refine dr_take (i := 12) (ls' := #[true, true, true, true, true, true, true, true, true, true, true, true, true, false, false, false, false, false, false, false, false, false, false]) HE34 HS30 rfl (by kernel_rfl) (by kernel_rfl) (by kernel_rfl) (fun _ _ _ h => h) rfl (wtT HE34 rfl rfl rfl (not_f hc22)) (x_move rfl) rfl rfl fun a_35 HE36 => ?_
    refine dr_take (i := 13) (ls' := #[true, true, true, true, true, true, true, true, true, true, true, true, true, true, false, false, false, false, false, false, false, false, false]) HE36 HS30 rfl (by kernel_rfl) (by kernel_rfl) (by kernel_rfl) (fun _ _ _ h => h) rfl (wtT HE36 rfl rfl rfl (not_f hc22)) (x_nilCheck rfl) rfl rfl fun a_37 HE38 => ?_
    refine dr_take (i := 14) (ls' := #[true, true, true, true, true, true, true, true, true, true, true, true, true, true, true, false, false, false, false, false, false, false, false]) HE38 HS30 rfl (by kernel_rfl) (by kernel_rfl) (by kernel_rfl) (fun _ _ _ h => h) rfl (wtT HE38 rfl rfl rfl (not_f hc22)) (x_fieldAddr fa_87_1 rfl) rfl rfl fun a_39 HE40 => ?_
    refine dr_take (i := 15) (ls' := #[true, true, true, true, true, true, true, true, true, true, true, true, true, true, true, true, false, false, false, false, false, false, false]) HE40 HS30 rfl (by kernel_rfl) (by kernel_rfl) (by kernel_rfl) (fun _ _ _ h => h) rfl (wtT HE40 rfl rfl rfl (not_f hc22)) (x_load1 tv_85 rfl (c_old (hq1 1 _ rfl))) rfl rfl fun a_41 HE42 => ?_
    refine dr_take (i := 16) (ls' := #[true, true, true, true, true, true, true, true, true, true, true, true, true, true, true, true, true, false, false, false, false, false, false]) HE42 HS30 rfl (by kernel_rfl) (by kernel_rfl) (by kernel_rfl) (fun _ _ _ h => h) rfl (wtT HE42 rfl rfl rfl (not_f hc22)) (x_len Try.underlying85 rfl) rfl rfl fun a_43 HE44 => ?_
    refine dr_take (i := 17) (ls' := #[true, true, true, true, true, true, true, true, true, true, true, true, true, true, true, true, true, true, false, false, false, false, false]) HE44 HS30 rfl (by kernel_rfl) (by kernel_rfl) (by kernel_rfl) (fun _ _ _ h => h) rfl (wtT HE44 rfl rfl rfl (not_f hc22)) (x_move rfl) rfl rfl fun a_45 HE46 => ?_
    refine dr_take (i := 18) (ls' := #[true, true, true, true, true, true, true, true, true, true, true, true, true, true, true, true, true, true, true, false, false, false, false]) HE46 HS30 rfl (by kernel_rfl) (by kernel_rfl) (by kernel_rfl) (fun _ _ _ h => h) rfl (wtT HE46 rfl rfl rfl (not_f hc22)) (x_nilCheck rfl) rfl rfl fun a_47 HE48 => ?_
    refine dr_take (i := 19) (ls' := #[true, true, true, true, true, true, true, true, true, true, true, true, true, true, true, true, true, true, true, true, false, false, false]) HE48 HS30 rfl (by kernel_rfl) (by kernel_rfl) (by kernel_rfl) (fun _ _ _ h => h) rfl (wtT HE48 rfl rfl rfl (not_f hc22)) (x_fieldAddr fa_83_0 rfl) rfl rfl fun a_49 HE50 => ?_
    refine dr_take (i := 20) (ls' := #[true, true, true, true, true, true, true, true, true, true, true, true, true, true, true, true, true, true, true, true, true, false, false]) HE50 HS30 rfl (by kernel_rfl) (by kernel_rfl) (by kernel_rfl) (fun _ _ _ h => h) rfl (wtT HE50 rfl rfl rfl (not_f hc22)) (x_load1 tv_2 rfl (c_old (hq0 0 _ rfl))) rfl rfl fun a_51 HE52 => ?_
    refine dr_take (i := 21) (ls' := #[true, true, true, true, true, true, true, true, true, true, true, true, true, true, true, true, true, true, true, true, true, true, false]) HE52 HS30 rfl (by kernel_rfl) (by kernel_rfl) (by kernel_rfl) (fun _ _ _ h => h) rfl (wtT HE52 rfl rfl rfl (not_f hc22)) (x_neq rfl rfl) rfl rfl fun a_53 HE54 => ?_
    refine dr_take (i := 22) (ls' := #[true, true, true, true, true, true, true, true, true, true, true, true, true, true, true, true, true, true, true, true, true, true, true]) HE54 HS30 rfl (by kernel_rfl) (by kernel_rfl) (by kernel_rfl) (fun _ _ _ h => h) rfl (wt0 rfl) (x_pickF rfl (not_f hc22) rfl) rfl rfl fun a_55 HE56 => ?_
    refine dr_done (by kernel_rfl) ?_
    clear HH1 a_4 HE5 a_8 HE9 a_10 HE11 a_12 HE13 a_14 HE15 a_16 HE17 a_18 HE19 a_20 HE21 a_22 HE23 a_24 HE25 HS7 a_28 HE29 a_31 HE32 a_33 HE34 a_35 HE36 a_37 HE38 a_39 HE40 a_41 HE42 a_43 HE44 a_45 HE46 a_47 HE48 a_49 HE50 a_51 HE52 a_53 HE54 hK27 K_26
    refine nrm ?_
    refine cnd_ne HE56 rfl (fun hc23 => ?_) (fun hc23 => ?_)
    · refine wp_seq ?_
      refine rg ?_
      refine pl_x HE56 HH6 (wt0 rfl) (x_assign rfl) rfl rfl fun a_57 HE58 => ?_
      refine wpList_nil ?_
      clear a_55 HE56
      refine nrm ?_
      refine wp_ret ?_
      refine (thn_ret ?_)
      refine ret1 HE58 rfl (rv_tmp rfl) ?_
      have hF : (goodMC a0 a1) = false := by
        first | (simp [goodMC, hc22, hc23]; done) | (unfold goodMC; rw [any_hit (by omega : k < a1.2.length) (by rw [← xe0]; unfold validTp; grind [side200])]; simp) | (have hq := p0_1; rw [List.take_of_length_le (by omega)] at hq; unfold goodMC; rw [hq]; simp [hc22, hc23]) | (unfold goodMC; grind)
      exact ⟨by rw [hF] <;> rfl, HH6.below⟩
    · refine wp_skip ?_
      refine nrm ?_
      refine wp_seq ?_
      refine wp_seq ?_
      refine rg ?_
      refine pl_x HE56 HH6 (wt0 rfl) (x_assign rfl) rfl rfl fun a_59 HE60 => ?_
      refine wpList_nil ?_
      clear a_55 HE56
      refine nrm ?_
      refine wp_block ?_
      refine lp (fun m a w' => ∃ (k : Nat), m = a1.2.length - k ∧ Env 68 [(5, .int .i64 (k : Int)), (0, .pointer (some ⟨p0, o0, none⟩)), (1, .pointer (some ⟨p1, o1, none⟩))] a ∧ Held Nob w [] w' ∧ (k ≤ a1.2.length) ∧ ((a1.2.take k).any (fun t => !validTp a0 t) = false)) (a1.2.length - (0)) ?_ ?_
      · exact ⟨0, rfl, HE60.sub ⟨(lkI rfl (by first | rfl | omega | (simp [hc22, hc23]; done))), rfl, rfl, trivial⟩, (HH6.sel [] (by decide) rfl), (by first | omega | assumption | (simp; done) | simp_all), (by rfl)⟩
      · rintro m a_61 w' ⟨k, rfl, HE62, HH63, p24_0, p24_1⟩
        refine wp_seq ?_
        refine wp_seq ?_
        refine rg ?_
        refine pl_x HE62 HH63 (wt0 rfl) (x_move rfl) rfl rfl fun a_64 HE65 => ?_
        refine pl_x HE65 HH63 (wt0 rfl) (x_move rfl) rfl rfl fun a_66 HE67 => ?_
        refine pl_x HE67 HH63 (wt0 rfl) (x_nilCheck rfl) rfl rfl fun a_68 HE69 => ?_
        refine pl_x HE69 HH63 (wt0 rfl) (x_fieldAddr fa_87_1 rfl) rfl rfl fun a_70 HE71 => ?_
        refine pl_x HE71 HH63 (wt0 rfl) (x_load1 tv_85 rfl (c_old (hq1 1 _ rfl))) rfl rfl fun a_72 HE73 => ?_
        refine pl_x HE73 HH63 (wt0 rfl) (x_len Try.underlying85 rfl) rfl rfl fun a_74 HE75 => ?_
        refine pl_x HE75 HH63 (wt0 rfl) (x_lss rfl rfl) rfl rfl fun a_76 HE77 => ?_
        refine wpList_nil ?_
        clear a_59 HE60 HH6 a_61 HE62 a_64 HE65 a_66 HE67 a_68 HE69 a_70 HE71 a_72 HE73 a_74 HE75
        refine nrm ?_
        refine cnd_d HE77 rfl (fun hc25 => ?_) (fun hc25 => ?_)
        · refine wp_skip ?_
          refine nrm ?_
          refine wp_seq ?_
          refine wp_block ?_
          refine wp_seq ?_
          refine dr_start (Held Nob w []) 30 #[false, false, false, false, false, false, false, false, false, false, false, false, false, false, false, false, false, false, false, false, false, false, false, false, false, false, false, false, false, false] hmix rfl rfl HH63 (fun _ h => h.sel [] (by decide) rfl) fun w' HH78 => ?_
          have HS79 := HH78
          refine dr_take (i := 0) (ls' := #[true, false, false, false, false, false, false, false, false, false, false, false, false, false, false, false, false, false, false, false, false, false, false, false, false, false, false, false, false, false]) HE77 HS79 rfl (by kernel_rfl) (by kernel_rfl) (by kernel_rfl) (fun _ _ _ h => h) rfl (wt0 rfl) (x_move rfl) rfl rfl fun a_80 HE81 => ?_
          refine dr_take (i := 1) (ls' := #[true, true, false, false, false, false, false, false, false, false, false, false, false, false, false, false, false, false, false, false, false, false, false, false, false, false, false, false, false, false]) HE81 HS79 rfl (by kernel_rfl) (by kernel_rfl) (by kernel_rfl) (fun _ _ _ h => h) rfl (wt0 rfl) (x_nilCheck rfl) rfl rfl fun a_82 HE83 => ?_
          refine dr_take (i := 2) (ls' := #[true, true, true, false, false, false, false, false, false, false, false, false, false, false, false, false, false, false, false, false, false, false, false, false, false, false, false, false, false, false]) HE83 HS79 rfl (by kernel_rfl) (by kernel_rfl) (by kernel_rfl) (fun _ _ _ h => h) rfl (wt0 rfl) (x_fieldAddr fa_87_1 rfl) rfl rfl fun a_84 HE85 => ?_
          refine dr_take (i := 3) (ls' := #[true, true, true, true, false, false, false, false, false, false, false, false, false, false, false, false, false, false, false, false, false, false, false, false, false, false, false, false, false, false]) HE85 HS79 rfl (by kernel_rfl) (by kernel_rfl) (by kernel_rfl) (fun _ _ _ h => h) rfl (wt0 rfl) (x_load1 tv_85 rfl (c_old (hq1 1 _ rfl))) rfl rfl fun a_86 HE87 => ?_
          refine dr_take (i := 4) (ls' := #[true, true, true, true, true, false, false, false, false, false, false, false, false, false, false, false, false, false, false, false, false, false, false, false, false, false, false, false, false, false]) HE87 HS79 rfl (by kernel_rfl) (by kernel_rfl) (by kernel_rfl) (fun _ _ _ h => h) rfl (wt0 rfl) (x_move rfl) rfl rfl fun a_88 HE89 => ?_
          have ke26 : k < a1.2.length := by omega
          obtain ⟨be26, fe26, ese26, Ae26, Re26, De26⟩ := el_old gz1_1 ke26
          obtain ⟨e26, xe26⟩ : ∃ x, x = a1.2[k] := ⟨_, rfl⟩
          rw [← xe26] at Re26
          have Qe26 := Re26
          obtain ⟨Ae26_0, ce26_0, Ae26_1, ce26_1, rfl, ge26_0, ge26_1⟩ := shape_Tape Re26
          have le26_0 := ge26_0.len
          have le26_1 := ge26_1.len
          refine dr_take (i := 5) (ls' := #[true, true, true, true, true, true, false, false, false, false, false, false, false, false, false, false, false, false, false, false, false, false, false, false, false, false, false, false, false, false]) HE89 HS79 rfl (by kernel_rfl) (by kernel_rfl) (by kernel_rfl) (fun _ _ _ h => h) rfl (wt0 rfl) (x_indexAddr ts_85 rfl rfl Ae26 rfl ke26) rfl rfl fun a_90 HE91 => ?_
          refine dr_take (i := 6) (ls' := #[true, true, true, true, true, true, true, false, false, false, false, false, false, false, false, false, false, false, false, false, false, false, false, false, false, false, false, false, false, false]) HE91 HS79 rfl (by kernel_rfl) (by kernel_rfl) (by kernel_rfl) (fun _ _ _ h => h) rfl (wt0 rfl) (x_fieldAddr fa_176_0 rfl) rfl rfl fun a_92 HE93 => ?_
          refine dr_take (i := 7) (ls' := #[true, true, true, true, true, true, true, true, false, false, false, false, false, false, false, false, false, false, false, false, false, false, false, false, false, false, false, false, false, false]) HE93 HS79 rfl (by kernel_rfl) (by kernel_rfl) (by kernel_rfl) (fun _ _ _ h => h) rfl (wt0 rfl) (x_load1 tv_31 rfl (c_old (De26 0 _ rfl))) rfl rfl fun a_94 HE95 => ?_
          refine dr_take (i := 8) (ls' := #[true, true, true, true, true, true, true, true, true, false, false, false, false, false, false, false, false, false, false, false, false, false, false, false, false, false, false, false, false, false]) HE95 HS79 rfl (by kernel_rfl) (by kernel_rfl) (by kernel_rfl) (fun _ _ _ h => h) rfl (wt0 rfl) (x_move rfl) rfl rfl fun a_96 HE97 => ?_
          refine dr_take (i := 9) (ls' := #[true, true, true, true, true, true, true, true, true, true, false, false, false, false, false, false, false, false, false, false, false, false, false, false, false, false, false, false, false, false]) HE97 HS79 rfl (by kernel_rfl) (by kernel_rfl) (by kernel_rfl) (fun _ _ _ h => h) rfl (wt0 rfl) (x_nilCheck rfl) rfl rfl fun a_98 HE99 => ?_
          refine dr_take (i := 10) (ls' := #[true, true, true, true, true, true, true, true, true, true, true, false, false, false, false, false, false, false, false, false, false, false, false, false, false, false, false, false, false, false]) HE99 HS79 rfl (by kernel_rfl) (by kernel_rfl) (by kernel_rfl) (fun _ _ _ h => h) rfl (wt0 rfl) (x_fieldAddr fa_83_1 rfl) rfl rfl fun a_100 HE101 => ?_
          refine dr_take (i := 11) (ls' := #[true, true, true, true, true, true, true, true, true, true, true, true, false, false, false, false, false, false, false, false, false, false, false, false, false, false, false, false, false, false]) HE101 HS79 rfl (by kernel_rfl) (by kernel_rfl) (by kernel_rfl) (fun _ _ _ h => h) rfl (wt0 rfl) (x_load1 tv_2 rfl (c_old (hq0 1 _ rfl))) rfl rfl fun a_102 HE103 => ?_
          refine dr_one (i := 12) (ls' := #[true, true, true, true, true, true, true, true, true, true, true, true, true, false, false, false, false, false, false, false, false, false, false, false, false, false, false, false, false, false]) rfl (by kernel_rfl) rfl fun K_104 hK105 => ?_
          refine st_call HE103 (wt0 rfl) rfl rfl rfl en_148 rfl rfl (spec_l06Side _ _ e26.1 a0.2.1 _ (HH78.old ge26_0) (by omega)) fun e w' hr => ?_
          obtain ⟨rfl, hbr27⟩ := hr
          have HH106 := HH78.on hbr27
          refine ⟨_, rfl, fun a_107 HE108 => hK105 _ _ (by exact HH106.sel [] (by decide) rfl) ?_⟩
          have HS109 := HH106.sel [] (by decide) rfl
          refine dr_take (i := 13) (ls' := #[true, true, true, true, true, true, true, true, true, true, true, true, true, true, false, false, false, false, false, false, false, false, false, false, false, false, false, false, false, false]) HE108 HS109 rfl (by kernel_rfl) (by kernel_rfl) (by kernel_rfl) (fun _ _ _ h => h) rfl (wt0 rfl) (x_not rfl) rfl rfl fun a_110 HE111 => ?_
          refine dr_take (i := 14) (ls' := #[true, true, true, true, true, true, true, true, true, true, true, true, true, true, true, false, false, false, false, false, false, false, false, false, false, false, false, false, false, false]) HE111 HS109 rfl (by kernel_rfl) (by kernel_rfl) (by kernel_rfl) (fun _ _ _ h => h) rfl (wt0 rfl) (x_move rfl) rfl rfl fun a_112 HE113 => ?_
          rcases Bool.eq_false_or_eq_true ((side200 e26.1 a0.2.1)) with hc28 | hc28
          · refine dr_take (i := 15) (ls' := #[true, true, true, true, true, true, true, true, true, true, true, true, true, true, true, true, false, false, false, false, false, false, false, false, false, false, false, false, false, false]) HE113 HS109 rfl (by kernel_rfl) (by kernel_rfl) (by kernel_rfl) (fun _ _ _ h => h) rfl (wtT HE113 rfl rfl rfl (not_f hc28)) (x_move rfl) rfl rfl fun a_114 HE115 => ?_
            refine dr_take (i := 16) (ls' := #[true, true, true, true, true, true, true, true, true, true, true, true, true, true, true, true, true, false, false, false, false, false, false, false, false, false, false, false, false, false]) HE115 HS109 rfl (by kernel_rfl) (by kernel_rfl) (by kernel_rfl) (fun _ _ _ h => h) rfl (wtT HE115 rfl rfl rfl (not_f hc28)) (x_nilCheck rfl) rfl rfl fun a_116 HE117 => ?_
            refine dr_take (i := 17) (ls' := #[true, true, true, true, true, true, true, true, true, true, true, true, true, true, true, true, true, true, false, false, false, false, false, false, false, false, false, false, false, false]) HE117 HS109 rfl (by kernel_rfl) (by kernel_rfl) (by kernel_rfl) (fun _ _ _ h => h) rfl (wtT HE117 rfl rfl rfl (not_f hc28)) (x_fieldAddr fa_87_1 rfl) rfl rfl fun a_118 HE119 => ?_
            refine dr_take (i := 18) (ls' := #[true, true, true, true, true, true, true, true, true, true, true, true, true, true, true, true, true, true, true, false, false, false, false, false, false, false, false, false, false, false]) HE119 HS109 rfl (by kernel_rfl) (by kernel_rfl) (by kernel_rfl) (fun _ _ _ h => h) rfl (wtT HE119 rfl rfl rfl (not_f hc28)) (x_load1 tv_85 rfl (c_old (hq1 1 _ rfl))) rfl rfl fun a_120 HE121 => ?_
            refine dr_take (i := 19) (ls' := #[true, true, true, true, true, true, true, true, true, true, true, true, true, true, true, true, true, true, true, true, false, false, false, false, false, false, false, false, false, false]) HE121 HS109 rfl (by kernel_rfl) (by kernel_rfl) (by kernel_rfl) (fun _ _ _ h => h) rfl (wtT HE121 rfl rfl rfl (not_f hc28)) (x_move rfl) rfl rfl fun a_122 HE123 => ?_
            refine dr_take (i := 20) (ls' := #[true, true, true, true, true, true, true, true, true, true, true, true, true, true, true, true, true, true, true, true, true, false, false, false, false, false, false, false, false, false]) HE123 HS109 rfl (by kernel_rfl) (by kernel_rfl) (by kernel_rfl) (fun _ _ _ h => h) rfl (wtT HE123 rfl rfl rfl (not_f hc28)) (x_indexAddr ts_85 rfl rfl Ae26 rfl ke26) rfl rfl fun a_124 HE125 => ?_
            refine dr_take (i := 21) (ls' := #[true, true, true, true, true, true, true, true, true, true, true, true, true, true, true, true, true, true, true, true, true, true, false, false, false, false, false, false, false, false]) HE125 HS109 rfl (by kernel_rfl) (by kernel_rfl) (by kernel_rfl) (fun _ _ _ h => h) rfl (wtT HE125 rfl rfl rfl (not_f hc28)) (x_fieldAddr fa_176_1 rfl) rfl rfl fun a_126 HE127 => ?_
            refine dr_take (i := 22) (ls' := #[true, true, true, true, true, true, true, true, true, true, true, true, true, true, true, true, true, true, true, true, true, true, true, false, false, false, false, false, false, false]) HE127 HS109 rfl (by kernel_rfl) (by kernel_rfl) (by kernel_rfl) (fun _ _ _ h => h) rfl (wtT HE127 rfl rfl rfl (not_f hc28)) (x_load1 tv_31 rfl (c_old (De26 1 _ rfl))) rfl rfl fun a_128 HE129 => ?_
            refine dr_take (i := 23) (ls' := #[true, true, true, true, true, true, true, true, true, true, true, true, true, true, true, true, true, true, true, true, true, true, true, true, false, false, false, false, false, false]) HE129 HS109 rfl (by kernel_rfl) (by kernel_rfl) (by kernel_rfl) (fun _ _ _ h => h) rfl (wtT HE129 rfl rfl rfl (not_f hc28)) (x_move rfl) rfl rfl fun a_130 HE131 => ?_
            refine dr_take (i := 24) (ls' := #[true, true, true, true, true, true, true, true, true, true, true, true, true, true, true, true, true, true, true, true, true, true, true, true, true, false, false, false, false, false]) HE131 HS109 rfl (by kernel_rfl) (by kernel_rfl) (by kernel_rfl) (fun _ _ _ h => h) rfl (wtT HE131 rfl rfl rfl (not_f hc28)) (x_nilCheck rfl) rfl rfl fun a_132 HE133 => ?_
            refine dr_take (i := 25) (ls' := #[true, true, true, true, true, true, true, true, true, true, true, true, true, true, true, true, true, true, true, true, true, true, true, true, true, true, false, false, false, false]) HE133 HS109 rfl (by kernel_rfl) (by kernel_rfl) (by kernel_rfl) (fun _ _ _ h => h) rfl (wtT HE133 rfl rfl rfl (not_f hc28)) (x_fieldAddr fa_83_1 rfl) rfl rfl fun a_134 HE135 => ?_
            refine dr_take (i := 26) (ls' := #[true, true, true, true, true, true, true, true, true, true, true, true, true, true, true, true, true, true, true, true, true, true, true, true, true, true, true, false, false, false]) HE135 HS109 rfl (by kernel_rfl) (by kernel_rfl) (by kernel_rfl) (fun _ _ _ h => h) rfl (wtT HE135 rfl rfl rfl (not_f hc28)) (x_load1 tv_2 rfl (c_old (hq0 1 _ rfl))) rfl rfl fun a_136 HE137 => ?_
            refine dr_one (i := 27) (ls' := #[true, true, true, true, true, true, true, true, true, true, true, true, true, true, true, true, true, true, true, true, true, true, true, true, true, true, true, true, false, false]) rfl (by kernel_rfl) rfl fun K_138 hK139 => ?_
            refine st_call HE137 (wtT HE137 rfl rfl rfl (not_f hc28)) rfl rfl rfl en_148 rfl rfl (spec_l06Side _ _ e26.2 a0.2.1 _ (HH106.old ge26_1) (by omega)) fun e w' hr => ?_
            obtain ⟨rfl, hbr29⟩ := hr
            have HH140 := HH106.on hbr29
            refine ⟨_, rfl, fun a_141 HE142 => hK139 _ _ (by exact HH140.sel [] (by decide) rfl) ?_⟩
            have HS143 := HH140.sel [] (by decide) rfl
            refine dr_take (i := 28) (ls' := #[true, true, true, true, true, true, true, true, true, true, true, true, true, true, true, true, true, true, true, true, true, true, true, true, true, true, true, true, true, false]) HE142 HS143 rfl (by kernel_rfl) (by kernel_rfl) (by kernel_rfl) (fun _ _ _ h => h) rfl (wtT HE142 rfl rfl rfl (not_f hc28)) (x_not rfl) rfl rfl fun a_144 HE145 => ?_
            refine dr_take (i := 29) (ls' := #[true, true, true, true, true, true, true, true, true, true, true, true, true, true, true, true, true, true, true, true, true, true, true, true, true, true, true, true, true, true]) HE145 HS143 rfl (by kernel_rfl) (by kernel_rfl) (by kernel_rfl) (fun _ _ _ h => h) rfl (wt0 rfl) (x_pickF rfl (not_f hc28) rfl) rfl rfl fun a_146 HE147 => ?_
            refine dr_done (by kernel_rfl) ?_
            clear HH63 HS30 a_76 HE77 a_80 HE81 a_82 HE83 a_84 HE85 a_86 HE87 a_88 HE89 a_90 HE91 a_92 HE93 a_94 HE95 a_96 HE97 a_98 HE99 a_100 HE101 HH78 a_102 HE103 HS79 a_107 HE108 a_110 HE111 a_112 HE113 a_114 HE115 a_116 HE117 a_118 HE119 a_120 HE121 a_122 HE123 a_124 HE125 a_126 HE127 a_128 HE129 a_130 HE131 a_132 HE133 a_134 HE135 K_104 hK105 HH106 a_136 HE137 HS109 a_141 HE142 a_144 HE145 hK139 K_138
            refine nrm ?_
            refine cnd_nb HE147 rfl (fun hc30 => ?_) (fun hc30 => ?_)
            · refine wp_seq ?_
              refine rg ?_
              refine pl_x HE147 HH140 (wt0 rfl) (x_assign rfl) rfl rfl fun a_148 HE149 => ?_
              refine wpList_nil ?_
              clear a_146 HE147
              refine nrm ?_
              refine wp_ret ?_
              refine (blk_ret (thn_ret (thn_ret (blk_ret (thn_ret ?_)))))
              refine ret1 HE149 rfl (rv_tmp rfl) ?_
              have hF : (goodMC a0 a1) = false := by
                first | (simp [goodMC, hc22, hc23, p24_0, p24_1, hc25, xe26, hc28, hc30]; done) | (unfold goodMC; rw [any_hit (by omega : k < a1.2.length) (by rw [← xe26]; unfold validTp; grind [side200])]; simp) | (have hq := p24_1; rw [List.take_of_length_le (by omega)] at hq; unfold goodMC; rw [hq]; simp [hc22, hc23, p24_0, p24_1, hc25, xe26, hc28, hc30]) | (unfold goodMC; grind)
              exact ⟨by rw [hF] <;> rfl, HH140.below⟩
            · refine wp_skip ?_
              refine blk_n ?_
              refine nrm ?_
              refine rg ?_
              refine pl_x HE147 HH140 (wt0 rfl) (x_move rfl) rfl rfl fun a_150 HE151 => ?_
              refine pl_x HE151 HH140 (wt0 rfl) (x_add rfl rfl (by exact ⟨by omega, by omega⟩)) rfl rfl fun a_152 HE153 => ?_
              refine pl_x HE153 HH140 (wt0 rfl) (x_assign rfl) rfl rfl fun a_154 HE155 => ?_
              refine wpList_nil ?_
              clear a_146 HE147 a_150 HE151 a_152 HE153
              exact nrm ⟨a1.2.length - (k + 1), (by omega), k + 1, rfl, HE155.sub ⟨(lkI rfl (by first | rfl | omega | (simp [hc22, hc23, p24_0, p24_1, hc25, xe26, hc28, hc30]; done))), rfl, rfl, trivial⟩, (HH140.sel [] (by decide) rfl), (by first | omega | assumption | (simp; done) | simp_all), (by exact any_step (by omega) p24_1 (by rw [← xe26]; unfold validTp; grind [side200]))⟩
          · refine dr_takeNo (i := 15) (ls' := #[true, true, true, true, true, true, true, true, true, true, true, true, true, true, true, true, false, false, false, false, false, false, false, false, false, false, false, false, false, false]) HE113 HS109 rfl (by kernel_rfl) (by kernel_rfl) (by kernel_rfl) (fun _ _ _ h => h) rfl (wtF HE113 rfl rfl rfl (not_t hc28)) rfl rfl fun a_156 HE157 => ?_
            refine dr_takeNo (i := 16) (ls' := #[true, true, true, true, true, true, true, true, true, true, true, true, true, true, true, true, true, false, false, false, false, false, false, false, false, false, false, false, false, false]) HE157 HS109 rfl (by kernel_rfl) (by kernel_rfl) (by kernel_rfl) (fun _ _ _ h => h) rfl (wtF HE157 rfl rfl rfl (not_t hc28)) rfl rfl fun a_158 HE159 => ?_
            refine dr_takeNo (i := 17) (ls' := #[true, true, true, true, true, true, true, true, true, true, true, true, true, true, true, true, true, true, false, false, false, false, false, false, false, false, false, false, false, false]) HE159 HS109 rfl (by kernel_rfl) (by kernel_rfl) (by kernel_rfl) (fun _ _ _ h => h) rfl (wtF HE159 rfl rfl rfl (not_t hc28)) rfl rfl fun a_160 HE161 => ?_
            refine dr_takeNo (i := 18) (ls' := #[true, true, true, true, true, true, true, true, true, true, true, true, true, true, true, true, true, true, true, false, false, false, false, false, false, false, false, false, false, false]) HE161 HS109 rfl (by kernel_rfl) (by kernel_rfl) (by kernel_rfl) (fun _ _ _ h => h) rfl (wtF HE161 rfl rfl rfl (not_t hc28)) rfl rfl fun a_162 HE163 => ?_
            refine dr_takeNo (i := 19) (ls' := #[true, true, true, true, true, true, true, true, true, true, true, true, true, true, true, true, true, true, true, true, false, false, false, false, false, false, false, false, false, false]) HE163 HS109 rfl (by kernel_rfl) (by kernel_rfl) (by kernel_rfl) (fun _ _ _ h => h) rfl (wtF HE163 rfl rfl rfl (not_t hc28)) rfl rfl fun a_164 HE165 => ?_
            refine dr_takeNo (i := 20) (ls' := #[true, true, true, true, true, true, true, true, true, true, true, true, true, true, true, true, true, true, true, true, true, false, false, false, false, false, false, false, false, false]) HE165 HS109 rfl (by kernel_rfl) (by kernel_rfl) (by kernel_rfl) (fun _ _ _ h => h) rfl (wtF HE165 rfl rfl rfl (not_t hc28)) rfl rfl fun a_166 HE167 => ?_
            refine dr_takeNo (i := 21) (ls' := #[true, true, true, true, true, true, true, true, true, true, true, true, true, true, true, true, true, true, true, true, true, true, false, false, false, false, false, false, false, false]) HE167 HS109 rfl (by kernel_rfl) (by kernel_rfl) (by kernel_rfl) (fun _ _ _ h => h) rfl (wtF HE167 rfl rfl rfl (not_t hc28)) rfl rfl fun a_168 HE169 => ?_
            refine dr_takeNo (i := 22) (ls' := #[true, true, true, true, true, true, true, true, true, true, true, true, true, true, true, true, true, true, true, true, true, true, true, false, false, false, false, false, false, false]) HE169 HS109 rfl (by kernel_rfl) (by kernel_rfl) (by kernel_rfl) (fun _ _ _ h => h) rfl (wtF HE169 rfl rfl rfl (not_t hc28)) rfl rfl fun a_170 HE171 => ?_
            refine dr_takeNo (i := 23) (ls' := #[true, true, true, true, true, true, true, true, true, true, true, true, true, true, true, true, true, true, true, true, true, true, true, true, false, false, false, false, false, false]) HE171 HS109 rfl (by kernel_rfl) (by kernel_rfl) (by kernel_rfl) (fun _ _ _ h => h) rfl (wtF HE171 rfl rfl rfl (not_t hc28)) rfl rfl fun a_172 HE173 => ?_
            refine dr_takeNo (i := 24) (ls' := #[true, true, true, true, true, true, true, true, true, true, true, true, true, true, true, true, true, true, true, true, true, true, true, true, true, false, false, false, false, false]) HE173 HS109 rfl (by kernel_rfl) (by kernel_rfl) (by kernel_rfl) (fun _ _ _ h => h) rfl (wtF HE173 rfl rfl rfl (not_t hc28)) rfl rfl fun a_174 HE175 => ?_
            refine dr_takeNo (i := 25) (ls' := #[true, true, true, true, true, true, true, true, true, true, true, true, true, true, true, true, true, true, true, true, true, true, true, true, true, true, false, false, false, false]) HE175 HS109 rfl (by kernel_rfl) (by kernel_rfl) (by kernel_rfl) (fun _ _ _ h => h) rfl (wtF HE175 rfl rfl rfl (not_t hc28)) rfl rfl fun a_176 HE177 => ?_
            refine dr_takeNo (i := 26) (ls' := #[true, true, true, true, true, true, true, true, true, true, true, true, true, true, true, true, true, true, true, true, true, true, true, true, true, true, true, false, false, false]) HE177 HS109 rfl (by kernel_rfl) (by kernel_rfl) (by kernel_rfl) (fun _ _ _ h => h) rfl (wtF HE177 rfl rfl rfl (not_t hc28)) rfl rfl fun a_178 HE179 => ?_
            refine dr_takeNo (i := 27) (ls' := #[true, true, true, true, true, true, true, true, true, true, true, true, true, true, true, true, true, true, true, true, true, true, true, true, true, true, true, true, false, false]) HE179 HS109 rfl (by kernel_rfl) (by kernel_rfl) (by kernel_rfl) (fun _ _ _ h => h) rfl (wtF HE179 rfl rfl rfl (not_t hc28)) rfl rfl fun a_180 HE181 => ?_
            refine dr_takeNo (i := 28) (ls' := #[true, true, true, true, true, true, true, true, true, true, true, true, true, true, true, true, true, true, true, true, true, true, true, true, true, true, true, true, true, false]) HE181 HS109 rfl (by kernel_rfl) (by kernel_rfl) (by kernel_rfl) (fun _ _ _ h => h) rfl (wtF HE181 rfl rfl rfl (not_t hc28)) rfl rfl fun a_182 HE183 => ?_
            refine dr_take (i := 29) (ls' := #[true, true, true, true, true, true, true, true, true, true, true, true, true, true, true, true, true, true, true, true, true, true, true, true, true, true, true, true, true, true]) HE183 HS109 rfl (by kernel_rfl) (by kernel_rfl) (by kernel_rfl) (fun _ _ _ h => h) rfl (wt0 rfl) (x_pickT rfl (not_t hc28) rfl) rfl rfl fun a_184 HE185 => ?_
            refine dr_done (by kernel_rfl) ?_
            clear HH63 HS30 a_76 HE77 a_80 HE81 a_82 HE83 a_84 HE85 a_86 HE87 a_88 HE89 a_90 HE91 a_92 HE93 a_94 HE95 a_96 HE97 a_98 HE99 a_100 HE101 HH78 a_102 HE103 HS79 a_107 HE108 a_110 HE111 a_112 HE113 a_156 HE157 a_158 HE159 a_160 HE161 a_162 HE163 a_164 HE165 a_166 HE167 a_168 HE169 a_170 HE171 a_172 HE173 a_174 HE175 a_176 HE177 a_178 HE179 a_180 HE181 a_182 HE183 hK105 K_104
            refine nrm ?_
            refine cndT HE185 rfl rfl ?_
            refine wp_seq ?_
            refine rg ?_
            refine pl_x HE185 HH106 (wt0 rfl) (x_assign rfl) rfl rfl fun a_186 HE187 => ?_
            refine wpList_nil ?_
            clear a_184 HE185
            refine nrm ?_
            refine wp_ret ?_
            refine (blk_ret (thn_ret (thn_ret (blk_ret (thn_ret ?_)))))
            refine ret1 HE187 rfl (rv_tmp rfl) ?_
            have hF : (goodMC a0 a1) = false := by
              first | (simp [goodMC, hc22, hc23, p24_0, p24_1, hc25, xe26, hc28]; done) | (unfold goodMC; rw [any_hit (by omega : k < a1.2.length) (by rw [← xe26]; unfold validTp; grind [side200])]; simp) | (have hq := p24_1; rw [List.take_of_length_le (by omega)] at hq; unfold goodMC; rw [hq]; simp [hc22, hc23, p24_0, p24_1, hc25, xe26, hc28]) | (unfold goodMC; grind)
            exact ⟨by rw [hF] <;> rfl, HH106.below⟩
        · refine wp_exit ?_
          refine (thn_exit (thn_exit (blk_hit ?_)))
          refine nrm ?_
          refine wp_seq ?_
          refine rg ?_
          refine pl_x HE77 HH63 (wt0 rfl) (x_assign rfl) rfl rfl fun a_188 HE189 => ?_
          refine wpList_nil ?_
          clear a_76 HE77
          refine nrm ?_
          refine wp_ret ?_
          refine ret1 HE189 rfl (rv_tmp rfl) ?_
          have hF : (goodMC a0 a1) = true := by
            first | (simp [goodMC, hc22, hc23, p24_0, p24_1, hc25]; done) | (unfold goodMC; rw [any_hit (by omega : k < a1.2.length) (by rw [← xe0]; unfold validTp; grind [side200])]; simp) | (have hq := p24_1; rw [List.take_of_length_le (by omega)] at hq; unfold goodMC; rw [hq]; simp [hc22, hc23, p24_0, p24_1, hc25]) | (unfold goodMC; grind)
          exact ⟨by rw [hF] <;> rfl, HH63.below⟩
  · refine dr_takeNo (i := 12) (ls' := #[true, true, true, true, true, true, true, true, true, true, true, true, true, false, false, false, false, false, false, false, false, false, false]) HE34 HS30 rfl (by kernel_rfl) (by kernel_rfl) (by kernel_rfl) (fun _ _ _ h => h) rfl (wtF HE34 rfl rfl rfl (not_t hc22)) rfl rfl fun a_190 HE191 => ?_
    refine dr_takeNo (i := 13) (ls' := #[true, true, true, true, true, true, true, true, true, true, true, true, true, true, false, false, false, false, false, false, false, false, false]) HE191 HS30 rfl (by kernel_rfl) (by kernel_rfl) (by kernel_rfl) (fun _ _ _ h => h) rfl (wtF HE191 rfl rfl rfl (not_t hc22)) rfl rfl fun a_192 HE193 => ?_
    refine dr_takeNo (i := 14) (ls' := #[true, true, true, true, true, true, true, true, true, true, true, true, true, true, true, false, false, false, false, false, false, false, false]) HE193 HS30 rfl (by kernel_rfl) (by kernel_rfl) (by kernel_rfl) (fun _ _ _ h => h) rfl (wtF HE193 rfl rfl rfl (not_t hc22)) rfl rfl fun a_194 HE195 => ?_
    refine dr_takeNo (i := 15) (ls' := #[true, true, true, true, true, true, true, true, true, true, true, true, true, true, true, true, false, false, false, false, false, false, false]) HE195 HS30 rfl (by kernel_rfl) (by kernel_rfl) (by kernel_rfl) (fun _ _ _ h => h) rfl (wtF HE195 rfl rfl rfl (not_t hc22)) rfl rfl fun a_196 HE197 => ?_
    refine dr_takeNo (i := 16) (ls' := #[true, true, true, true, true, true, true, true, true, true, true, true, true, true, true, true, true, false, false, false, false, false, false]) HE197 HS30 rfl (by kernel_rfl) (by kernel_rfl) (by kernel_rfl) (fun _ _ _ h => h) rfl (wtF HE197 rfl rfl rfl (not_t hc22)) rfl rfl fun a_198 HE199 => ?_
    refine dr_takeNo (i := 17) (ls' := #[true, true, true, true, true, true, true, true, true, true, true, true, true, true, true, true, true, true, false, false, false, false, false]) HE199 HS30 rfl (by kernel_rfl) (by kernel_rfl) (by kernel_rfl) (fun _ _ _ h => h) rfl (wtF HE199 rfl rfl rfl (not_t hc22)) rfl rfl fun a_200 HE201 => ?_
    refine dr_takeNo (i := 18) (ls' := #[true, true, true, true, true, true, true, true, true, true, true, true, true, true, true, true, true, true, true, false, false, false, false]) HE201 HS30 rfl (by kernel_rfl) (by kernel_rfl) (by kernel_rfl) (fun _ _ _ h => h) rfl (wtF HE201 rfl rfl rfl (not_t hc22)) rfl rfl fun a_202 HE203 => ?_
    refine dr_takeNo (i := 19) (ls' := #[true, true, true, true, true, true, true, true, true, true, true, true, true, true, true, true, true, true, true, true, false, false, false]) HE203 HS30 rfl (by kernel_rfl) (by kernel_rfl) (by kernel_rfl) (fun _ _ _ h => h) rfl (wtF HE203 rfl rfl rfl (not_t hc22)) rfl rfl fun a_204 HE205 => ?_
    refine dr_takeNo (i := 20) (ls' := #[true, true, true, true, true, true, true, true, true, true, true, true, true, true, true, true, true, true, true, true, true, false, false]) HE205 HS30 rfl (by kernel_rfl) (by kernel_rfl) (by kernel_rfl) (fun _ _ _ h => h) rfl (wtF HE205 rfl rfl rfl (not_t hc22)) rfl rfl fun a_206 HE207 => ?_
    refine dr_takeNo (i := 21) (ls' := #[true, true, true, true, true, true, true, true, true, true, true, true, true, true, true, true, true, true, true, true, true, true, false]) HE207 HS30 rfl (by kernel_rfl) (by kernel_rfl) (by kernel_rfl) (fun _ _ _ h => h) rfl (wtF HE207 rfl rfl rfl (not_t hc22)) rfl rfl fun a_208 HE209 => ?_
    refine dr_take (i := 22) (ls' := #[true, true, true, true, true, true, true, true, true, true, true, true, true, true, true, true, true, true, true, true, true, true, true]) HE209 HS30 rfl (by kernel_rfl) (by kernel_rfl) (by kernel_rfl) (fun _ _ _ h => h) rfl (wt0 rfl) (x_pickT rfl (not_t hc22) rfl) rfl rfl fun a_210 HE211 => ?_
    refine dr_done (by kernel_rfl) ?_
    clear HH1 a_4 HE5 a_8 HE9 a_10 HE11 a_12 HE13 a_14 HE15 a_16 HE17 a_18 HE19 a_20 HE21 a_22 HE23 a_24 HE25 HS7 a_28 HE29 a_31 HE32 a_33 HE34 a_190 HE191 a_192 HE193 a_194 HE195 a_196 HE197 a_198 HE199 a_200 HE201 a_202 HE203 a_204 HE205 a_206 HE207 a_208 HE209 hK27 K_26
    refine nrm ?_
    refine cndT HE211 rfl rfl ?_
    refine wp_seq ?_
    refine rg ?_
    refine pl_x HE211 HH6 (wt0 rfl) (x_assign rfl) rfl rfl fun a_212 HE213 => ?_
    refine wpList_nil ?_
    clear a_210 HE211
    refine nrm ?_
    refine wp_ret ?_
    refine (thn_ret ?_)
    refine ret1 HE213 rfl (rv_tmp rfl) ?_
    have hF : (goodMC a0 a1) = false := by
      first | (simp [goodMC, hc22]; done) | (unfold goodMC; rw [any_hit (by omega : k < a1.2.length) (by rw [← xe0]; unfold validTp; grind [side200])]; simp) | (have hq := p0_1; rw [List.take_of_length_le (by omega)] at hq; unfold goodMC; rw [hq]; simp [hc22]) | (unfold goodMC; grind)
    exact ⟨by rw [hF] <;> rfl, HH6.below⟩

set_option maxRecDepth 100000 in
set_option maxHeartbeats 4000000 in
theorem spec_ValidMultiConfig (es0 : List Value) (a0 : tMulti) (es1 : List Value) (a1 : tMultiConfig) (w : World) (h0 : eMulti.R w (Old w) es0 a0) (h1 : eMultiConfig.R w (Old w) es1 a1) :
    Calls Try.prog 54 #[.agg es0.toArray, .agg es1.toArray] w fun e w' => e = .returned (.bool (validMC a0 a1)) ∧ Below w.heap.size w w' := by
  have H0 := h0
  obtain ⟨Az0_3, cz0_3, rfl, gz0_0, gz0_1, gz0_2, gz0_3⟩ := shape_Multi h0
  have jz0_0 := gz0_0; unfold I64 at jz0_0
  have jz0_1 := gz0_1; unfold I64 at jz0_1
  have jz0_2 := gz0_2; unfold I64 at jz0_2
  have lz0_3 := gz0_3.len
  have H1 := h1
  obtain ⟨Az1_1, cz1_1, rfl, gz1_0, gz1_1⟩ := shape_MultiConfig h1
  have jz1_0 := gz1_0; unfold I64 at jz1_0
  have lz1_1 := gz1_1.len
  have HH1 := Held.start Nob w
  refine enter (n := 9) Try.func54 rfl rfl rfl fun a_2 HE3 => ?_
  refine wp_seq ?_
  refine rg ?_
  refine pl fun K_4 hK5 => ?_
  refine st_box (cs := [.int .i64 (a0.1), .int .i64 (a0.2.1), .int .i64 (a0.2.2.1), .slice Az0_3 (a0.2.2.2.length) cz0_3]) HE3 HH1 rfl rfl (wt0 rfl) rfl fun q21 a_6 w' HE7 HH8 => hK5 _ _ ?_
  refine pl fun K_9 hK10 => ?_
  refine st_box (cs := [.int .i64 (a1.1), .slice Az1_1 (a1.2.length) cz1_1]) HE7 HH8 rfl rfl (wt0 rfl) rfl fun q22 a_11 w' HE12 HH13 => hK10 _ _ ?_
  refine pl_x HE12 HH13 (wt0 rfl) (x_assign rfl) rfl rfl fun a_14 HE15 => ?_
  refine wpList_nil ?_
  clear a_2 HE3 HH1 K_4 hK5 a_6 HE7 HH8 a_11 HE12 hK10 K_9
  refine nrm ?_
  refine wp_seq ?_
  refine rg ?_
  refine pl fun K_16 hK17 => ?_
  refine st_call HE15 (wt0 rfl) rfl rfl rfl en_133 rfl rfl (spec_l06Is _ _ _ a0 _ (HH13.oldR H0) (c_blkN 1 rfl _ HH13)) fun e w' hr => ?_
  obtain ⟨rfl, hbr23⟩ := hr
  have HH18 := HH13.on hbr23
  refine ⟨_, rfl, fun a_19 HE20 => hK17 _ _ ?_⟩
  refine pl_x HE20 HH18 (wt0 rfl) (x_move rfl) rfl rfl fun a_21 HE22 => ?_
  rcases Bool.eq_false_or_eq_true ((validMulti a0)) with hc24 | hc24
  · obtain ⟨v0, v1, v2, v3⟩ := validMulti_facts hc24
    refine pl fun K_23 hK24 => ?_
    refine st_call HE22 (wtT HE22 rfl rfl rfl hc24) rfl rfl rfl en_134 rfl rfl (spec_l06Good _ _ _ a0 _ _ _ a1 _ (HH18.oldR H0) (c_blkN 1 rfl _ HH18) (HH18.oldR H1) (c_blkN 0 rfl _ HH18) (by omega) (by omega)) fun e w' hr => ?_
    obtain ⟨rfl, hbr25⟩ := hr
    have HH25 := HH18.on hbr25
    refine ⟨_, rfl, fun a_26 HE27 => hK24 _ _ ?_⟩
    refine pl_x HE27 HH25 (wt0 rfl) (x_pickT rfl hc24 rfl) rfl rfl fun a_28 HE29 => ?_
    refine pl_x HE29 HH25 (wt0 rfl) (x_assign rfl) rfl rfl fun a_30 HE31 => ?_
    refine wpList_nil ?_
    clear HH13 a_14 HE15 a_19 HE20 K_16 hK17 HH18 a_21 HE22 a_26 HE27 a_28 HE29 hK24 K_23
    refine nrm ?_
    refine wp_ret ?_
    refine ret1 HE31 rfl (rv_tmp rfl) ?_
    have hF : (validMC a0 a1) = (goodMC a0 a1) := by
      first | rfl | (simp [validMC, hc24]; done) | (simp [validMC, hc24]; omega) | grind [validMC]
    exact ⟨by rw [hF] <;> rfl, HH25.below⟩
  · refine pl_no HE22 (wtF HE22 rfl rfl rfl hc24) rfl rfl fun a_32 HE33 => ?_
    refine pl_x HE33 HH18 (wt0 rfl) (x_pickF rfl hc24 rfl) rfl rfl fun a_34 HE35 => ?_
    refine pl_x HE35 HH18 (wt0 rfl) (x_assign rfl) rfl rfl fun a_36 HE37 => ?_
    refine wpList_nil ?_
    clear HH13 a_14 HE15 a_19 HE20 a_21 HE22 a_32 HE33 a_34 HE35 hK17 K_16
    refine nrm ?_
    refine wp_ret ?_
    refine ret1 HE37 rfl (rv_tmp rfl) ?_
    have hF : (validMC a0 a1) = false := by
      first | rfl | (simp [validMC, hc24]; done) | (simp [validMC, hc24]; omega) | grind [validMC]
    exact ⟨by rw [hF] <;> rfl, HH18.below⟩

set_option maxRecDepth 100000 in
set_option maxHeartbeats 4000000 in
theorem law_ValidMultiConfig (es0 : List Value) (a0 : tMulti) (es1 : List Value) (a1 : tMultiConfig) (w : World) (h0 : eMulti.R w (Old w) es0 a0) (h1 : eMultiConfig.R w (Old w) es1 a1) :
    Calls Try.prog 8 #[.agg es0.toArray, .agg es1.toArray] w fun e w' => e = .returned (.bool true) ∧ Below w.heap.size w w' := by
  have H0 := h0
  obtain ⟨Az0_3, cz0_3, rfl, gz0_0, gz0_1, gz0_2, gz0_3⟩ := shape_Multi h0
  have jz0_0 := gz0_0; unfold I64 at jz0_0
  have jz0_1 := gz0_1; unfold I64 at jz0_1
  have jz0_2 := gz0_2; unfold I64 at jz0_2
  have lz0_3 := gz0_3.len
  have H1 := h1
  obtain ⟨Az1_1, cz1_1, rfl, gz1_0, gz1_1⟩ := shape_MultiConfig h1
  have jz1_0 := gz1_0; unfold I64 at jz1_0
  have lz1_1 := gz1_1.len
  have HH1 := Held.start Nob w
  refine enter (n := 45) Try.func8 rfl rfl rfl fun a_2 HE3 => ?_
  refine wp_seq ?_
  refine rg ?_
  refine pl fun K_4 hK5 => ?_
  refine st_box (cs := [.int .i64 (a0.1), .int .i64 (a0.2.1), .int .i64 (a0.2.2.1), .slice Az0_3 (a0.2.2.2.length) cz0_3]) HE3 HH1 rfl rfl (wt0 rfl) rfl fun q21 a_6 w' HE7 HH8 => hK5 _ _ ?_
  refine pl fun K_9 hK10 => ?_
  refine st_box (cs := [.int .i64 (a1.1), .slice Az1_1 (a1.2.length) cz1_1]) HE7 HH8 rfl rfl (wt0 rfl) rfl fun q22 a_11 w' HE12 HH13 => hK10 _ _ ?_
  refine pl_x HE12 HH13 (wt0 rfl) (x_assign rfl) rfl rfl fun a_14 HE15 => ?_
  refine wpList_nil ?_
  clear a_2 HE3 HH1 K_4 hK5 a_6 HE7 HH8 a_11 HE12 hK10 K_9
  refine nrm ?_
  refine wp_seq ?_
  refine rg ?_
  refine pl_x HE15 HH13 (wt0 rfl) (x_assign rfl) rfl rfl fun a_16 HE17 => ?_
  refine wpList_nil ?_
  clear a_14 HE15
  refine nrm ?_
  refine wp_seq ?_
  refine rg ?_
  refine pl_x HE17 HH13 (wt0 rfl) (x_loadN (cs := [.int .i64 (a0.1), .int .i64 (a0.2.1), .int .i64 (a0.2.2.1), .slice Az0_3 (a0.2.2.2.length) cz0_3]) tv_74 rfl rfl (c_blkN 1 rfl)) rfl rfl fun a_18 HE19 => ?_
  refine pl_x HE19 HH13 (wt0 rfl) (x_move rfl) rfl rfl fun a_20 HE21 => ?_
  refine pl fun K_22 hK23 => ?_
  refine st_call HE21 (wt0 rfl) rfl rfl rfl en_52 rfl rfl (sz_Multi [.int .i64 (a0.1), .int .i64 (a0.2.1), .int .i64 (a0.2.2.1), .slice Az0_3 (a0.2.2.2.length) cz0_3] a0 1048576 _ (HH13.oldR H0) (by omega) (by omega)) fun e w' hr => ?_
  obtain ⟨rfl, hbr23⟩ := hr
  have HH24 := HH13.on hbr23
  clear hbr23
  refine ⟨_, rfl, fun a_25 HE26 => hK23 _ _ ?_⟩
  refine pl_x HE26 HH24 (wt0 rfl) (x_assign rfl) rfl rfl fun a_27 HE28 => ?_
  refine wpList_nil ?_
  clear a_16 HE17 a_18 HE19 HH13 a_20 HE21 a_25 HE26 hK23 K_22
  refine nrm ?_
  refine wp_seq ?_
  refine wp_seq ?_
  refine rg ?_
  refine pl_x HE28 HH24 (wt0 rfl) (x_move rfl) rfl rfl fun a_29 HE30 => ?_
  refine pl_x HE30 HH24 (wt0 rfl) (x_lss rfl rfl) rfl rfl fun a_31 HE32 => ?_
  refine wpList_nil ?_
  clear a_27 HE28 a_29 HE30
  refine nrm ?_
  refine cnd_d HE32 rfl (fun hc24 => ?_) (fun hc24 => ?_)
  · refine wp_seq ?_
    refine rg ?_
    refine pl_x HE32 HH24 (wt0 rfl) (x_assign rfl) rfl rfl fun a_33 HE34 => ?_
    refine wpList_nil ?_
    clear a_31 HE32
    refine nrm ?_
    refine wp_ret ?_
    refine (thn_ret ?_)
    refine ret1 HE34 rfl (rv_tmp rfl) ?_
    have hF : true = true := by
      first | rfl | (exfalso; omega)
    exact ⟨by rw [hF] <;> rfl, HH24.below⟩
  · have zr23 := left_ok hc24
    refine wp_skip ?_
    refine nrm ?_
    refine wp_seq ?_
    refine rg ?_
    refine pl_x HE32 HH24 (wt0 rfl) (x_loadN (cs := [.int .i64 (a1.1), .slice Az1_1 (a1.2.length) cz1_1]) tv_77 rfl rfl (c_blkN 0 rfl)) rfl rfl fun a_35 HE36 => ?_
    refine pl_x HE36 HH24 (wt0 rfl) (x_move rfl) rfl rfl fun a_37 HE38 => ?_
    refine pl fun K_39 hK40 => ?_
    refine st_call HE38 (wt0 rfl) rfl rfl rfl en_53 rfl rfl (sz_MultiConfig [.int .i64 (a1.1), .slice Az1_1 (a1.2.length) cz1_1] a1 (left 1048576 (cost_Multi a0)) _ (HH24.oldR H1) (by omega) (by omega)) fun e w' hr => ?_
    obtain ⟨rfl, hbr25⟩ := hr
    have HH41 := HH24.on hbr25
    clear hbr25
    refine ⟨_, rfl, fun a_42 HE43 => hK40 _ _ ?_⟩
    refine pl_x HE43 HH41 (wt0 rfl) (x_assign rfl) rfl rfl fun a_44 HE45 => ?_
    refine wpList_nil ?_
    clear a_31 HE32 a_35 HE36 HH24 a_37 HE38 a_42 HE43 hK40 K_39
    refine nrm ?_
    refine wp_seq ?_
    refine wp_seq ?_
    refine rg ?_
    refine pl_x HE45 HH41 (wt0 rfl) (x_move rfl) rfl rfl fun a_46 HE47 => ?_
    refine pl_x HE47 HH41 (wt0 rfl) (x_lss rfl rfl) rfl rfl fun a_48 HE49 => ?_
    refine wpList_nil ?_
    clear a_44 HE45 a_46 HE47
    refine nrm ?_
    refine cnd_d HE49 rfl (fun hc26 => ?_) (fun hc26 => ?_)
    · refine wp_seq ?_
      refine rg ?_
      refine pl_x HE49 HH41 (wt0 rfl) (x_assign rfl) rfl rfl fun a_50 HE51 => ?_
      refine wpList_nil ?_
      clear a_48 HE49
      refine nrm ?_
      refine wp_ret ?_
      refine (thn_ret ?_)
      refine ret1 HE51 rfl (rv_tmp rfl) ?_
      have hF : true = true := by
        first | rfl | (exfalso; omega)
      exact ⟨by rw [hF] <;> rfl, HH41.below⟩
    · have zr25 := left_ok hc26
      refine wp_skip ?_
      refine nrm ?_
      refine wp_seq ?_
      refine dr_start (Held Nob w [rBlk q22 77 [.int .i64 (a1.1), .slice Az1_1 (a1.2.length) cz1_1], rBlk q21 74 [.int .i64 (a0.1), .int .i64 (a0.2.1), .int .i64 (a0.2.2.1), .slice Az0_3 (a0.2.2.2.length) cz0_3]]) 6 #[false, false, false, false, false, false] hmix rfl rfl HH41 (fun _ h => h.sel [0, 1] (by decide) rfl) fun w' HH52 => ?_
      have HS53 := HH52
      refine dr_take (i := 0) (ls' := #[true, false, false, false, false, false]) HE49 HS53 rfl (by kernel_rfl) (by kernel_rfl) (by kernel_rfl) (fun _ _ _ h => h) rfl (wt0 rfl) (x_loadN (cs := [.int .i64 (a0.1), .int .i64 (a0.2.1), .int .i64 (a0.2.2.1), .slice Az0_3 (a0.2.2.2.length) cz0_3]) tv_74 rfl rfl (c_blkN 1 rfl)) rfl rfl fun a_54 HE55 => ?_
      refine dr_take (i := 2) (ls' := #[true, false, true, false, false, false]) HE55 HS53 rfl (by kernel_rfl) (by kernel_rfl) (by kernel_rfl) (fun _ _ _ h => h) rfl (wt0 rfl) (x_loadN (cs := [.int .i64 (a1.1), .slice Az1_1 (a1.2.length) cz1_1]) tv_77 rfl rfl (c_blkN 0 rfl)) rfl rfl fun a_56 HE57 => ?_
      refine dr_one (i := 1) (ls' := #[true, true, true, false, false, false]) rfl (by kernel_rfl) rfl fun K_58 hK59 => ?_
      refine st_call HE57 (wt0 rfl) rfl rfl rfl en_55 rfl rfl (to_Multi [.int .i64 (a0.1), .int .i64 (a0.2.1), .int .i64 (a0.2.2.1), .slice Az0_3 (a0.2.2.2.length) cz0_3] a0 _ (HH52.oldR H0) (by omega)) fun e w' hr => ?_
      obtain ⟨esr27, rfl, hor27, hbr27⟩ := hr
      have hr := eMulti.read hor27
      obtain ⟨Sr27, HH60⟩ := HH52.newO hbr27 hor27
      obtain ⟨Ar27_3, cr27_3, rfl, gr27_0, gr27_1, gr27_2, gr27_3⟩ := shape_Multi hr
      clear hbr27 hor27 gr27_0 gr27_1 gr27_2 gr27_3
      refine ⟨_, rfl, fun a_61 HE62 => hK59 _ _ (by exact HH60.sel [1, 2] (by decide) rfl) ?_⟩
      have HS63 := HH60.sel [1, 2] (by decide) rfl
      refine dr_one (i := 3) (ls' := #[true, true, true, true, false, false]) rfl (by kernel_rfl) rfl fun K_64 hK65 => ?_
      refine st_call HE62 (wt0 rfl) rfl rfl rfl en_56 rfl rfl (to_MultiConfig [.int .i64 (a1.1), .slice Az1_1 (a1.2.length) cz1_1] a1 _ (HH60.oldR H1) (by omega)) fun e w' hr => ?_
      obtain ⟨esr28, rfl, hor28, hbr28⟩ := hr
      have hr := eMultiConfig.read hor28
      obtain ⟨Sr28, HH66⟩ := HH60.newO hbr28 hor28
      obtain ⟨Ar28_1, cr28_1, rfl, gr28_0, gr28_1⟩ := shape_MultiConfig hr
      clear hbr28 hor28 gr28_0 gr28_1
      refine ⟨_, rfl, fun a_67 HE68 => hK65 _ _ (by exact HH66.sel [2, 3] (by decide) rfl) ?_⟩
      have HS69 := HH66.sel [2, 3] (by decide) rfl
      refine dr_one (i := 4) (ls' := #[true, true, true, true, true, false]) rfl (by kernel_rfl) rfl fun K_70 hK71 => ?_
      refine st_call HE68 (wt0 rfl) rfl rfl rfl en_54 rfl rfl (spec_ValidMultiConfig [.int .i64 (a0.1), .int .i64 (a0.2.1), .int .i64 (a0.2.2.1), .slice Ar27_3 (a0.2.2.2.length) cr27_3] a0 [.int .i64 (a1.1), .slice Ar28_1 (a1.2.length) cr28_1] a1 _ (HH66.rd (i := 1) rfl) (HH66.rd (i := 0) rfl)) fun e w' hr => ?_
      obtain ⟨rfl, hbr29⟩ := hr
      have HH72 := HH66.on hbr29
      refine ⟨_, rfl, fun a_73 HE74 => hK71 _ _ (by exact HH72.sel [2, 3] (by decide) rfl) ?_⟩
      have HS75 := HH72.sel [2, 3] (by decide) rfl
      refine dr_take (i := 5) (ls' := #[true, true, true, true, true, true]) HE74 HS75 rfl (by kernel_rfl) (by kernel_rfl) (by kernel_rfl) (fun _ _ _ h => h) rfl (wt0 rfl) (x_assign rfl) rfl rfl fun a_76 HE77 => ?_
      refine dr_done (by kernel_rfl) ?_
      clear HH41 a_48 HE49 a_54 HE55 HH52 a_56 HE57 HS53 K_58 hK59 HH60 a_61 HE62 HS63 K_64 hK65 HH66 a_67 HE68 HS69 a_73 HE74 hK71 K_70
      refine nrm ?_
      refine wp_seq ?_
      refine rg ?_
      refine pl_x HE77 HH72 (wt0 rfl) (x_loadN (cs := [.int .i64 (a0.1), .int .i64 (a0.2.1), .int .i64 (a0.2.2.1), .slice Az0_3 (a0.2.2.2.length) cz0_3]) tv_74 rfl rfl (c_blkN 3 rfl)) rfl rfl fun a_78 HE79 => ?_
      refine pl fun K_80 hK81 => ?_
      refine st_call HE79 (wt0 rfl) rfl rfl rfl en_55 rfl rfl (to_Multi [.int .i64 (a0.1), .int .i64 (a0.2.1), .int .i64 (a0.2.2.1), .slice Az0_3 (a0.2.2.2.length) cz0_3] a0 _ (HH72.oldR H0) (by omega)) fun e w' hr => ?_
      obtain ⟨esr30, rfl, hor30, hbr30⟩ := hr
      have hr := eMulti.read hor30
      obtain ⟨Sr30, HH82⟩ := HH72.newO hbr30 hor30
      obtain ⟨Ar30_3, cr30_3, rfl, gr30_0, gr30_1, gr30_2, gr30_3⟩ := shape_Multi hr
      clear hbr30 hor30 gr30_0 gr30_1 gr30_2 gr30_3
      refine ⟨_, rfl, fun a_83 HE84 => hK81 _ _ ?_⟩
      refine pl fun K_85 hK86 => ?_
      refine st_alloc HE84 HH82 tv_83 (wt0 rfl) rfl fun q31 a_87 w' HE88 HH89 => hK86 _ _ ?_
      refine pl fun K_90 hK91 => ?_
      refine st_store (vs := [.int .i64 (a0.1), .int .i64 (a0.2.1), .int .i64 (a0.2.2.1), .slice Ar30_3 (a0.2.2.2.length) cr30_3]) 0 HE88 HH89 tv_83 rfl rfl rfl rfl rfl rfl (by simp [Value.oneCell']) (wt0 rfl) fun w' HH92 => hK91 _ _ ?_
      refine wpList_nil ?_
      clear a_76 HE77 HH72 a_78 HE79 K_80 hK81 a_83 HE84 HH82 K_85 hK86 HH89 hK91 K_90
      refine nrm ?_
      refine wp_seq ?_
      refine rg ?_
      refine pl_x HE88 HH92 (wt0 rfl) (x_loadN (cs := [.int .i64 (a1.1), .slice Az1_1 (a1.2.length) cz1_1]) tv_77 rfl rfl (c_blkN 4 rfl)) rfl rfl fun a_93 HE94 => ?_
      refine pl fun K_95 hK96 => ?_
      refine st_call HE94 (wt0 rfl) rfl rfl rfl en_56 rfl rfl (to_MultiConfig [.int .i64 (a1.1), .slice Az1_1 (a1.2.length) cz1_1] a1 _ (HH92.oldR H1) (by omega)) fun e w' hr => ?_
      obtain ⟨esr32, rfl, hor32, hbr32⟩ := hr
      have hr := eMultiConfig.read hor32
      obtain ⟨Sr32, HH97⟩ := HH92.newO hbr32 hor32
      obtain ⟨Ar32_1, cr32_1, rfl, gr32_0, gr32_1⟩ := shape_MultiConfig hr
      clear hbr32 hor32 gr32_0 gr32_1
      refine ⟨_, rfl, fun a_98 HE99 => hK96 _ _ ?_⟩
      refine pl fun K_100 hK101 => ?_
      refine st_alloc HE99 HH97 tv_87 (wt0 rfl) rfl fun q33 a_102 w' HE103 HH104 => hK101 _ _ ?_
      refine pl fun K_105 hK106 => ?_
      refine st_store (vs := [.int .i64 (a1.1), .slice Ar32_1 (a1.2.length) cr32_1]) 0 HE103 HH104 tv_87 rfl rfl rfl rfl rfl rfl (by simp [Value.oneCell']) (wt0 rfl) fun w' HH107 => hK106 _ _ ?_
      refine wpList_nil ?_
      clear a_87 HE88 HH92 a_93 HE94 K_95 hK96 a_98 HE99 HH97 K_100 hK101 HH104 hK106 K_105
      refine nrm ?_
      refine wp_seq ?_
      refine rg ?_
      refine pl_x HE103 HH107 (wt0 rfl) (x_loadN (cs := [.int .i64 (a0.1), .int .i64 (a0.2.1), .int .i64 (a0.2.2.1), .slice Ar30_3 (a0.2.2.2.length) cr30_3]) tv_83 rfl rfl (c_blkN 2 rfl)) rfl rfl fun a_108 HE109 => ?_
      refine pl_x HE109 HH107 (wt0 rfl) (x_loadN (cs := [.int .i64 (a1.1), .slice Ar32_1 (a1.2.length) cr32_1]) tv_87 rfl rfl (c_blkN 0 rfl)) rfl rfl fun a_110 HE111 => ?_
      refine pl fun K_112 hK113 => ?_
      refine st_call HE111 (wt0 rfl) rfl rfl rfl en_57 rfl rfl (impl_ValidMultiConfig [.int .i64 (a0.1), .int .i64 (a0.2.1), .int .i64 (a0.2.2.1), .slice Ar30_3 (a0.2.2.2.length) cr30_3] a0 [.int .i64 (a1.1), .slice Ar32_1 (a1.2.length) cr32_1] a1 _ (HH107.rd (i := 3) rfl) (HH107.rd (i := 1) rfl)) fun e w' hr => ?_
      obtain ⟨rfl, hbr34⟩ := hr
      have HH114 := HH107.on hbr34
      refine ⟨_, rfl, fun a_115 HE116 => hK113 _ _ ?_⟩
      refine pl_x HE116 HH114 (wt0 rfl) (x_assign rfl) rfl rfl fun a_117 HE118 => ?_
      refine wpList_nil ?_
      clear a_102 HE103 a_108 HE109 HH107 a_110 HE111 a_115 HE116 hK113 K_112
      refine nrm ?_
      refine wp_seq ?_
      refine wp_seq ?_
      refine rg ?_
      refine pl_x HE118 HH114 (wt0 rfl) (x_move rfl) rfl rfl fun a_119 HE120 => ?_
      refine pl_x HE120 HH114 (wt0 rfl) (x_move rfl) rfl rfl fun a_121 HE122 => ?_
      refine pl_x HE122 HH114 (wt0 rfl) (x_bneq Try.underlying4 rfl rfl) rfl rfl fun a_123 HE124 => ?_
      refine wpList_nil ?_
      clear a_117 HE118 a_119 HE120 a_121 HE122
      refine nrm ?_
      refine cndF HE124 rfl (not_f (beq_self_eq_true _)) ?_
      refine wp_skip ?_
      refine nrm ?_
      refine wp_seq ?_
      refine wp_seq ?_
      refine dr_start (Held Nob w [rBlk q33 87 [.int .i64 (a1.1), .slice Ar32_1 (a1.2.length) cr32_1], rO eMultiConfig Sr32 [.int .i64 (a1.1), .slice Ar32_1 (a1.2.length) cr32_1] a1, rBlk q31 83 [.int .i64 (a0.1), .int .i64 (a0.2.1), .int .i64 (a0.2.2.1), .slice Ar30_3 (a0.2.2.2.length) cr30_3], rO eMulti Sr30 [.int .i64 (a0.1), .int .i64 (a0.2.1), .int .i64 (a0.2.2.1), .slice Ar30_3 (a0.2.2.2.length) cr30_3] a0, rO eMultiConfig Sr28 [.int .i64 (a1.1), .slice Ar28_1 (a1.2.length) cr28_1] a1, rO eMulti Sr27 [.int .i64 (a0.1), .int .i64 (a0.2.1), .int .i64 (a0.2.2.1), .slice Ar27_3 (a0.2.2.2.length) cr27_3] a0, rBlk q22 77 [.int .i64 (a1.1), .slice Az1_1 (a1.2.length) cz1_1], rBlk q21 74 [.int .i64 (a0.1), .int .i64 (a0.2.1), .int .i64 (a0.2.2.1), .slice Az0_3 (a0.2.2.2.length) cz0_3]]) 5 #[false, false, false, false, false] hmix rfl rfl HH114 (fun _ h => h.sel [0, 1, 2, 3, 4, 5, 6, 7] (by decide) rfl) fun w' HH125 => ?_
      have HS126 := HH125
      refine dr_take (i := 0) (ls' := #[true, false, false, false, false]) HE124 HS126 rfl (by kernel_rfl) (by kernel_rfl) (by kernel_rfl) (fun _ _ _ h => h) rfl (wt0 rfl) (x_loadN (cs := [.int .i64 (a0.1), .int .i64 (a0.2.1), .int .i64 (a0.2.2.1), .slice Ar30_3 (a0.2.2.2.length) cr30_3]) tv_83 rfl rfl (c_blkN 2 rfl)) rfl rfl fun a_127 HE128 => ?_
      refine dr_take (i := 1) (ls' := #[true, true, false, false, false]) HE128 HS126 rfl (by kernel_rfl) (by kernel_rfl) (by kernel_rfl) (fun _ _ _ h => h) rfl (wt0 rfl) (x_loadN (cs := [.int .i64 (a0.1), .int .i64 (a0.2.1), .int .i64 (a0.2.2.1), .slice Az0_3 (a0.2.2.2.length) cz0_3]) tv_74 rfl rfl (c_blkN 7 rfl)) rfl rfl fun a_129 HE130 => ?_
      refine dr_one (i := 2) (ls' := #[true, true, true, false, false]) rfl (by kernel_rfl) rfl fun K_131 hK132 => ?_
      refine st_call HE130 (wt0 rfl) rfl rfl rfl en_55 rfl rfl (to_Multi [.int .i64 (a0.1), .int .i64 (a0.2.1), .int .i64 (a0.2.2.1), .slice Az0_3 (a0.2.2.2.length) cz0_3] a0 _ (HH125.oldR H0) (by omega)) fun e w' hr => ?_
      obtain ⟨esr35, rfl, hor35, hbr35⟩ := hr
      have hr := eMulti.read hor35
      obtain ⟨Sr35, HH133⟩ := HH125.newO hbr35 hor35
      obtain ⟨Ar35_3, cr35_3, rfl, gr35_0, gr35_1, gr35_2, gr35_3⟩ := shape_Multi hr
      clear hbr35 hor35 gr35_0 gr35_1 gr35_2 gr35_3
      refine ⟨_, rfl, fun a_134 HE135 => hK132 _ _ (by exact HH133.sel [1, 2, 3, 4, 5, 6, 7, 8] (by decide) rfl) ?_⟩
      have HS136 := HH133.sel [1, 2, 3, 4, 5, 6, 7, 8] (by decide) rfl
      refine dr_one (i := 3) (ls' := #[true, true, true, true, false]) rfl (by kernel_rfl) rfl fun K_137 hK138 => ?_
      refine st_call HE135 (wt0 rfl) rfl rfl rfl en_58 rfl rfl (eq_Multi_c [.int .i64 (a0.1), .int .i64 (a0.2.1), .int .i64 (a0.2.2.1), .slice Ar30_3 (a0.2.2.2.length) cr30_3] [.int .i64 (a0.1), .int .i64 (a0.2.1), .int .i64 (a0.2.2.1), .slice Ar35_3 (a0.2.2.2.length) cr35_3] a0 a0 _ (HH133.rd (i := 4) rfl) (HH133.rd (i := 0) rfl)) fun e w' hr => ?_
      obtain ⟨rfl, hbr36⟩ := hr
      have HH139 := HH133.on hbr36
      clear hbr36
      refine ⟨_, rfl, fun a_140 HE141 => hK138 _ _ (by exact HH139.sel [1, 2, 3, 4, 5, 6, 7, 8] (by decide) rfl) ?_⟩
      have HS142 := HH139.sel [1, 2, 3, 4, 5, 6, 7, 8] (by decide) rfl
      refine dr_take (i := 4) (ls' := #[true, true, true, true, true]) HE141 HS142 rfl (by kernel_rfl) (by kernel_rfl) (by kernel_rfl) (fun _ _ _ h => h) rfl (wt0 rfl) (x_not rfl) rfl rfl fun a_143 HE144 => ?_
      refine dr_done (by kernel_rfl) ?_
      clear HH114 HS75 a_123 HE124 a_127 HE128 HH125 a_129 HE130 HS126 K_131 hK132 HH133 a_134 HE135 HS136 a_140 HE141 hK138 K_137
      refine nrm ?_
      refine cndF HE144 rfl (not_f (eq_Multi_refl _)) ?_
      refine wp_skip ?_
      refine nrm ?_
      refine wp_seq ?_
      refine wp_seq ?_
      refine dr_start (Held Nob w [rO eMulti Sr35 [.int .i64 (a0.1), .int .i64 (a0.2.1), .int .i64 (a0.2.2.1), .slice Ar35_3 (a0.2.2.2.length) cr35_3] a0, rBlk q33 87 [.int .i64 (a1.1), .slice Ar32_1 (a1.2.length) cr32_1], rO eMultiConfig Sr32 [.int .i64 (a1.1), .slice Ar32_1 (a1.2.length) cr32_1] a1, rBlk q31 83 [.int .i64 (a0.1), .int .i64 (a0.2.1), .int .i64 (a0.2.2.1), .slice Ar30_3 (a0.2.2.2.length) cr30_3], rO eMulti Sr30 [.int .i64 (a0.1), .int .i64 (a0.2.1), .int .i64 (a0.2.2.1), .slice Ar30_3 (a0.2.2.2.length) cr30_3] a0, rO eMultiConfig Sr28 [.int .i64 (a1.1), .slice Ar28_1 (a1.2.length) cr28_1] a1, rO eMulti Sr27 [.int .i64 (a0.1), .int .i64 (a0.2.1), .int .i64 (a0.2.2.1), .slice Ar27_3 (a0.2.2.2.length) cr27_3] a0, rBlk q22 77 [.int .i64 (a1.1), .slice Az1_1 (a1.2.length) cz1_1], rBlk q21 74 [.int .i64 (a0.1), .int .i64 (a0.2.1), .int .i64 (a0.2.2.1), .slice Az0_3 (a0.2.2.2.length) cz0_3]]) 5 #[false, false, false, false, false] hmix rfl rfl HH139 (fun _ h => h.sel [0, 1, 2, 3, 4, 5, 6, 7, 8] (by decide) rfl) fun w' HH145 => ?_
      have HS146 := HH145
      refine dr_take (i := 0) (ls' := #[true, false, false, false, false]) HE144 HS146 rfl (by kernel_rfl) (by kernel_rfl) (by kernel_rfl) (fun _ _ _ h => h) rfl (wt0 rfl) (x_loadN (cs := [.int .i64 (a1.1), .slice Ar32_1 (a1.2.length) cr32_1]) tv_87 rfl rfl (c_blkN 1 rfl)) rfl rfl fun a_147 HE148 => ?_
      refine dr_take (i := 1) (ls' := #[true, true, false, false, false]) HE148 HS146 rfl (by kernel_rfl) (by kernel_rfl) (by kernel_rfl) (fun _ _ _ h => h) rfl (wt0 rfl) (x_loadN (cs := [.int .i64 (a1.1), .slice Az1_1 (a1.2.length) cz1_1]) tv_77 rfl rfl (c_blkN 7 rfl)) rfl rfl fun a_149 HE150 => ?_
      refine dr_one (i := 2) (ls' := #[true, true, true, false, false]) rfl (by kernel_rfl) rfl fun K_151 hK152 => ?_
      refine st_call HE150 (wt0 rfl) rfl rfl rfl en_56 rfl rfl (to_MultiConfig [.int .i64 (a1.1), .slice Az1_1 (a1.2.length) cz1_1] a1 _ (HH145.oldR H1) (by omega)) fun e w' hr => ?_
      obtain ⟨esr37, rfl, hor37, hbr37⟩ := hr
      have hr := eMultiConfig.read hor37
      obtain ⟨Sr37, HH153⟩ := HH145.newO hbr37 hor37
      obtain ⟨Ar37_1, cr37_1, rfl, gr37_0, gr37_1⟩ := shape_MultiConfig hr
      clear hbr37 hor37 gr37_0 gr37_1
      refine ⟨_, rfl, fun a_154 HE155 => hK152 _ _ (by exact HH153.sel [1, 2, 3, 4, 5, 6, 7, 8, 9] (by decide) rfl) ?_⟩
      have HS156 := HH153.sel [1, 2, 3, 4, 5, 6, 7, 8, 9] (by decide) rfl
      refine dr_one (i := 3) (ls' := #[true, true, true, true, false]) rfl (by kernel_rfl) rfl fun K_157 hK158 => ?_
      refine st_call HE155 (wt0 rfl) rfl rfl rfl en_59 rfl rfl (eq_MultiConfig_c [.int .i64 (a1.1), .slice Ar32_1 (a1.2.length) cr32_1] [.int .i64 (a1.1), .slice Ar37_1 (a1.2.length) cr37_1] a1 a1 _ (HH153.rd (i := 3) rfl) (HH153.rd (i := 0) rfl)) fun e w' hr => ?_
      obtain ⟨rfl, hbr38⟩ := hr
      have HH159 := HH153.on hbr38
      clear hbr38
      refine ⟨_, rfl, fun a_160 HE161 => hK158 _ _ (by exact HH159.sel [1, 2, 3, 4, 5, 6, 7, 8, 9] (by decide) rfl) ?_⟩
      have HS162 := HH159.sel [1, 2, 3, 4, 5, 6, 7, 8, 9] (by decide) rfl
      refine dr_take (i := 4) (ls' := #[true, true, true, true, true]) HE161 HS162 rfl (by kernel_rfl) (by kernel_rfl) (by kernel_rfl) (fun _ _ _ h => h) rfl (wt0 rfl) (x_not rfl) rfl rfl fun a_163 HE164 => ?_
      refine dr_done (by kernel_rfl) ?_
      clear HH139 HS142 a_143 HE144 a_147 HE148 HH145 a_149 HE150 HS146 K_151 hK152 HH153 a_154 HE155 HS156 a_160 HE161 hK158 K_157
      refine nrm ?_
      refine cndF HE164 rfl (not_f (eq_MultiConfig_refl _)) ?_
      refine wp_skip ?_
      refine nrm ?_
      refine wp_seq ?_
      refine rg ?_
      refine pl_x HE164 HH159 (wt0 rfl) (x_assign rfl) rfl rfl fun a_165 HE166 => ?_
      refine wpList_nil ?_
      clear a_163 HE164
      refine nrm ?_
      refine wp_ret ?_
      refine ret1 HE166 rfl (rv_tmp rfl) ?_
      have hF : true = true := by
        first | rfl | (exfalso; omega)
      exact ⟨by rw [hF] <;> rfl, HH159.below⟩

end Go.Proofs.Ytnokeoejlfodkaa
