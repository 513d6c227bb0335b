/- What the proof of FnExactReadMachine needs: contracts of the functions that it reaches, each once. -/
import Derived.Test.YthfihlfjphiihaaGreatDoorProg
import Derived.Test.YthfihlfjphiihaaGreatDoorQMem
import Derived.Test.YthfihlfjphiihaaGreatDoorQOpen
import Derived.Test.YthfihlfjphiihaaGreatDoorLReadMachinea
import Derived.Test.YthfihlfjphiihaaGreatDoorLReadMachineb
import Derived.WalkKit
import Derived.WalkSpells
import Derived.Below
import Derived.LoopTactic
import Derived.Outline
import Derived.Deep.QuietTactic
import Derived.BigQuiet
import Derived.Deep.LoopGhost
import Derived.Handy
import Derived.Lib.Hide
import Derived.Shelf.Abstract
import Derived.StillTailTactics
import Derived.OwnWalk
import Derived.Maps.AppendAt
import Derived.RegionTactic
import Derived.Deep.RegionHeld3
import Derived.IntWalk
import Derived.Deep.Upon
import Derived.Laws.OwnMore
import Derived.Maps.AppendAt
import Derived.Laws.Small
import Derived.Laws.BytesString
import Derived.Laws.Strings
import Derived.Lib.Bytes
import Derived.Lib.Strings
import Derived.Lib.FrozenHead
import Derived.Lib.RuneBytes
import Derived.Lib.LaidTab
import Derived.Laws.StructEq
import Derived.Lib.MapLaws
import Derived.Lib.OthersKept
import Derived.Laws.RangeAny
import Derived.Scope
import Derived.RangeFuncNested
import Derived.RangeFuncBound
import Derived.RangeFuncCalls
import Derived.RangeFuncLeaves
import Derived.OwnWalkIn
import Derived.TacticsInMore
import Derived.Lib.ItoaLen
import Derived.Lib.Join
import Derived.Shelf.Strconv.Itoa4
import Derived.Shelf.Strings.OnBuilder
import Derived.Shelf.Strings.BuilderK
import Derived.Shelf.Strings.BuilderRune
import Derived.Shelf.LaysM
import Derived.Ground.NamesProg
import Derived.Lib.ParseIntBTie
import Derived.Lib.SplitLaws
import Derived.Lib.Replace
import Derived.Shelf.LaysC
import Derived.Shelf.Strconv.ErrVarParseInt
import Derived.Shelf.Strconv.ParseIntPublic10
import Derived.Shelf.Strings.Prefix
import Derived.Shelf.Strings.Cut
import Derived.Shelf.Strings.Split
import Derived.Shelf.Strings.Replace
import Derived.Shelf.Small.Wraps
import Derived.Stop.IfaceNil
import Derived.Shelf.Small.Utf8
import Derived.Shelf.Strings.Runes
import Derived.Lib.IndexAny
import Derived.Shelf.Strings.IndexAnyAll
namespace Go.Proofs.YthfihlfjphiihaaGreatDoor
open Go.RowKit

set_option maxRecDepth 100000 in
set_option maxHeartbeats 4000000 in
theorem impl_ValidMachine (es0 : List Value) (a0 : tMachine) (w : World) (h0 : eMachine.R w (Old w) es0 a0) :
    Calls Tryz.prog 13 #[.agg es0.toArray] w fun e w' => e = .returned (.bool (validMach a0)) ∧ Below w.heap.size w w' := by
  have H0 := h0
  obtain ⟨Az0_2, cz0_2, rfl, gz0_0, gz0_1, gz0_2⟩ := shape_Machine h0
  have jz0_0 := gz0_0; unfold I64 at jz0_0
  have jz0_1 := gz0_1; unfold I64 at jz0_1
  have lz0_2 := gz0_2.len
  have HH1 := Held.start Nob w
  refine enter (n := 29) Tryz.func13 rfl rfl rfl fun a_2 HE3 => ?_
  refine wp_seq ?_
  refine rg ?_
  refine pl fun K_4 hK5 => ?_
  refine st_box (cs := [.int .i64 (a0.1), .int .i64 (a0.2.1), .slice Az0_2 (a0.2.2.length) cz0_2]) HE3 HH1 rfl rfl (wt0 rfl) rfl fun q21 a_6 w' HE7 HH8 => hK5 _ _ ?_
  refine pl_x HE7 HH8 (wt0 rfl) (x_assign rfl) rfl rfl fun a_9 HE10 => ?_
  refine wpList_nil ?_
  clear a_2 HE3 HH1 a_6 HE7 hK5 K_4
  refine nrm ?_
  refine wp_seq ?_
  refine wp_seq ?_
  refine dr_start (Held Nob w [rBlk q21 24 [.int .i64 (a0.1), .int .i64 (a0.2.1), .slice Az0_2 (a0.2.2.length) cz0_2]]) 21 #[false, false, false, false, false, false, false, false, false, false, false, false, false, false, false, false, false, false, false, false, false] hmix rfl rfl HH8 (fun _ h => h.sel [0] (by decide) rfl) fun w' HH11 => ?_
  have HS12 := HH11
  refine dr_take (i := 0) (ls' := #[true, false, false, false, false, false, false, false, false, false, false, false, false, false, false, false, false, false, false, false, false]) HE10 HS12 rfl (by kernel_rfl) (by kernel_rfl) (by kernel_rfl) (fun _ _ _ h => h) rfl (wt0 rfl) (x_fieldAddr fa_24_0 rfl) rfl rfl fun a_13 HE14 => ?_
  refine dr_take (i := 1) (ls' := #[true, true, false, false, false, false, false, false, false, false, false, false, false, false, false, false, false, false, false, false, false]) HE14 HS12 rfl (by kernel_rfl) (by kernel_rfl) (by kernel_rfl) (fun _ _ _ h => h) rfl (wt0 rfl) (x_load1 tv_2 rfl (c_blk 0 rfl rfl)) rfl rfl fun a_15 HE16 => ?_
  refine dr_one (i := 2) (ls' := #[true, true, true, false, false, false, false, false, false, false, false, false, false, false, false, false, false, false, false, false, false]) rfl (by kernel_rfl) rfl fun K_17 hK18 => ?_
  refine st_call HE16 (wt0 rfl) rfl rfl rfl en_25 rfl rfl (impl_within a0.1 2 6 _ ) fun e w' hr => ?_
  obtain ⟨rfl, rfl⟩ := hr
  refine ⟨_, rfl, fun a_19 HE20 => hK18 _ _ (by exact HH11.sel [0] (by decide) rfl) ?_⟩
  have HS21 := HH11.sel [0] (by decide) rfl
  refine dr_take (i := 3) (ls' := #[true, true, true, true, false, false, false, false, false, false, false, false, false, false, false, false, false, false, false, false, false]) HE20 HS21 rfl (by kernel_rfl) (by kernel_rfl) (by kernel_rfl) (fun _ _ _ h => h) rfl (wt0 rfl) (x_not rfl) rfl rfl fun a_22 HE23 => ?_
  refine dr_take (i := 4) (ls' := #[true, true, true, true, true, false, false, false, false, false, false, false, false, false, false, false, false, false, false, false, false]) HE23 HS21 rfl (by kernel_rfl) (by kernel_rfl) (by kernel_rfl) (fun _ _ _ h => h) rfl (wt0 rfl) (x_move rfl) rfl rfl fun a_24 HE25 => ?_
  rcases Bool.eq_false_or_eq_true ((withinB a0.1 2 6)) with hc23 | hc23
  · have m0 := withinB_true.1 hc23
    refine dr_take (i := 5) (ls' := #[true, true, true, true, true, true, false, false, false, false, false, false, false, false, false, false, false, false, false, false, false]) HE25 HS21 rfl (by kernel_rfl) (by kernel_rfl) (by kernel_rfl) (fun _ _ _ h => h) rfl (wtT HE25 rfl rfl rfl (not_f hc23)) (x_fieldAddr fa_24_1 rfl) rfl rfl fun a_26 HE27 => ?_
    refine dr_take (i := 6) (ls' := #[true, true, true, true, true, true, true, false, false, false, false, false, false, false, false, false, false, false, false, false, false]) HE27 HS21 rfl (by kernel_rfl) (by kernel_rfl) (by kernel_rfl) (fun _ _ _ h => h) rfl (wtT HE27 rfl rfl rfl (not_f hc23)) (x_load1 tv_2 rfl (c_blk 0 rfl rfl)) rfl rfl fun a_28 HE29 => ?_
    refine dr_one (i := 7) (ls' := #[true, true, true, true, true, true, true, true, false, false, false, false, false, false, false, false, false, false, false, false, false]) rfl (by kernel_rfl) rfl fun K_30 hK31 => ?_
    refine st_call HE29 (wtT HE29 rfl rfl rfl (not_f hc23)) rfl rfl rfl en_25 rfl rfl (impl_within a0.2.1 1 1000 _ ) fun e w' hr => ?_
    obtain ⟨rfl, rfl⟩ := hr
    refine ⟨_, rfl, fun a_32 HE33 => hK31 _ _ (by exact HH11.sel [0] (by decide) rfl) ?_⟩
    have HS34 := HH11.sel [0] (by decide) rfl
    refine dr_take (i := 8) (ls' := #[true, true, true, true, true, true, true, true, true, false, false, false, false, false, false, false, false, false, false, false, false]) HE33 HS34 rfl (by kernel_rfl) (by kernel_rfl) (by kernel_rfl) (fun _ _ _ h => h) rfl (wtT HE33 rfl rfl rfl (not_f hc23)) (x_not rfl) rfl rfl fun a_35 HE36 => ?_
    refine dr_take (i := 9) (ls' := #[true, true, true, true, true, true, true, true, true, true, false, false, false, false, false, false, false, false, false, false, false]) HE36 HS34 rfl (by kernel_rfl) (by kernel_rfl) (by kernel_rfl) (fun _ _ _ h => h) rfl (wt0 rfl) (x_pickF rfl (not_f hc23) rfl) rfl rfl fun a_37 HE38 => ?_
    refine dr_take (i := 10) (ls' := #[true, true, true, true, true, true, true, true, true, true, true, false, false, false, false, false, false, false, false, false, false]) HE38 HS34 rfl (by kernel_rfl) (by kernel_rfl) (by kernel_rfl) (fun _ _ _ h => h) rfl (wt0 rfl) (x_move rfl) rfl rfl fun a_39 HE40 => ?_
    rcases Bool.eq_false_or_eq_true ((withinB a0.2.1 1 1000)) with hc25 | hc25
    · have m1 := withinB_true.1 hc25
      obtain ⟨m2, m3⟩ := mul_bd2 m0 m1
      refine dr_take (i := 11) (ls' := #[true, true, true, true, true, true, true, true, true, true, true, true, false, false, false, false, false, false, false, false, false]) HE40 HS34 rfl (by kernel_rfl) (by kernel_rfl) (by kernel_rfl) (fun _ _ _ h => h) rfl (wtT HE40 rfl rfl rfl (not_f hc25)) (x_fieldAddr fa_24_2 rfl) rfl rfl fun a_41 HE42 => ?_
      refine dr_take (i := 12) (ls' := #[true, true, true, true, true, true, true, true, true, true, true, true, true, false, false, false, false, false, false, false, false]) HE42 HS34 rfl (by kernel_rfl) (by kernel_rfl) (by kernel_rfl) (fun _ _ _ h => h) rfl (wtT HE42 rfl rfl rfl (not_f hc25)) (x_load1 tv_22 rfl (c_blk 0 rfl rfl)) rfl rfl fun a_43 HE44 => ?_
      refine dr_take (i := 14) (ls' := #[true, true, true, true, true, true, true, true, true, true, true, true, true, false, true, false, false, false, false, false, false]) HE44 HS34 rfl (by kernel_rfl) (by kernel_rfl) (by kernel_rfl) (fun _ _ _ h => h) rfl (wtT HE44 rfl rfl rfl (not_f hc25)) (x_fieldAddr fa_24_1 rfl) rfl rfl fun a_45 HE46 => ?_
      refine dr_take (i := 15) (ls' := #[true, true, true, true, true, true, true, true, true, true, true, true, true, false, true, true, false, false, false, false, false]) HE46 HS34 rfl (by kernel_rfl) (by kernel_rfl) (by kernel_rfl) (fun _ _ _ h => h) rfl (wtT HE46 rfl rfl rfl (not_f hc25)) (x_load1 tv_2 rfl (c_blk 0 rfl rfl)) rfl rfl fun a_47 HE48 => ?_
      refine dr_take (i := 16) (ls' := #[true, true, true, true, true, true, true, true, true, true, true, true, true, false, true, true, true, false, false, false, false]) HE48 HS34 rfl (by kernel_rfl) (by kernel_rfl) (by kernel_rfl) (fun _ _ _ h => h) rfl (wtT HE48 rfl rfl rfl (not_f hc25)) (x_fieldAddr fa_24_0 rfl) rfl rfl fun a_49 HE50 => ?_
      refine dr_take (i := 17) (ls' := #[true, true, true, true, true, true, true, true, true, true, true, true, true, false, true, true, true, true, false, false, false]) HE50 HS34 rfl (by kernel_rfl) (by kernel_rfl) (by kernel_rfl) (fun _ _ _ h => h) rfl (wtT HE50 rfl rfl rfl (not_f hc25)) (x_load1 tv_2 rfl (c_blk 0 rfl rfl)) rfl rfl fun a_51 HE52 => ?_
      refine dr_take (i := 18) (ls' := #[true, true, true, true, true, true, true, true, true, true, true, true, true, false, true, true, true, true, true, false, false]) HE52 HS34 rfl (by kernel_rfl) (by kernel_rfl) (by kernel_rfl) (fun _ _ _ h => h) rfl (wtT HE52 rfl rfl rfl (not_f hc25)) (x_mul rfl rfl (by exact ⟨by omega, by omega⟩)) rfl rfl fun a_53 HE54 => ?_
      refine dr_one (i := 13) (ls' := #[true, true, true, true, true, true, true, true, true, true, true, true, true, true, true, true, true, true, true, false, false]) rfl (by kernel_rfl) rfl fun K_55 hK56 => ?_
      refine st_call HE54 (wtT HE54 rfl rfl rfl (not_f hc25)) rfl rfl rfl en_26 rfl rfl (impl_size_Rule _ _ _ _) fun e w' hr => ?_
      obtain ⟨rfl, rfl⟩ := hr
      refine ⟨_, rfl, fun a_57 HE58 => hK56 _ _ (by exact HH11.sel [0] (by decide) rfl) ?_⟩
      have HS59 := HH11.sel [0] (by decide) rfl
      refine dr_take (i := 19) (ls' := #[true, true, true, true, true, true, true, true, true, true, true, true, true, true, true, true, true, true, true, true, false]) HE58 HS59 rfl (by kernel_rfl) (by kernel_rfl) (by kernel_rfl) (fun _ _ _ h => h) rfl (wtT HE58 rfl rfl rfl (not_f hc25)) (x_neq rfl rfl) rfl rfl fun a_60 HE61 => ?_
      refine dr_take (i := 20) (ls' := #[true, true, true, true, true, true, true, true, true, true, true, true, true, true, true, true, true, true, true, true, true]) HE61 HS59 rfl (by kernel_rfl) (by kernel_rfl) (by kernel_rfl) (fun _ _ _ h => h) rfl (wt0 rfl) (x_pickF rfl (not_f hc25) rfl) rfl rfl fun a_62 HE63 => ?_
      refine dr_done (by kernel_rfl) ?_
      clear HH8 a_9 HE10 a_13 HE14 a_15 HE16 HS12 a_19 HE20 a_22 HE23 a_24 HE25 a_26 HE27 K_17 hK18 a_28 HE29 HS21 a_32 HE33 a_35 HE36 a_37 HE38 a_39 HE40 a_41 HE42 a_43 HE44 a_45 HE46 a_47 HE48 a_49 HE50 a_51 HE52 K_30 hK31 a_53 HE54 HS34 a_57 HE58 a_60 HE61 hK56 K_55
      refine nrm ?_
      refine cnd_ne HE63 rfl (fun hc27 => ?_) (fun hc27 => ?_)
      · refine wp_seq ?_
        refine rg ?_
        refine pl_x HE63 HH11 (wt0 rfl) (x_assign rfl) rfl rfl fun a_64 HE65 => ?_
        refine wpList_nil ?_
        clear a_62 HE63
        refine nrm ?_
        refine wp_ret ?_
        refine (thn_ret ?_)
        refine ret1 HE65 rfl (rv_tmp rfl) ?_
        have hF : (validMach a0) = false := by
          first | (simp [validMach, hc23, hc25, hc27]; done) | (unfold validMach; grind)
        exact ⟨by first | (rw [hF] <;> rfl) | rfl | (rw [hF]; simp only [Ending.returned.injEq, Value.slice.injEq, true_and, and_true]; first | omega | (simp; done)) | (rw [hF]; simp; omega), HH11.below⟩
      · refine wp_skip ?_
        refine nrm ?_
        refine wp_seq ?_
        refine rg ?_
        refine pl_x HE63 HH11 (wt0 rfl) (x_fieldAddr fa_24_2 rfl) rfl rfl fun a_66 HE67 => ?_
        refine pl_x HE67 HH11 (wt0 rfl) (x_load1 tv_22 rfl (c_blk 0 rfl rfl)) rfl rfl fun a_68 HE69 => ?_
        refine pl_x HE69 HH11 (wt0 rfl) (x_makeFunc rfl rfl) rfl rfl fun a_70 HE71 => ?_
        refine pl fun K_72 hK73 => ?_
        have hcl := ContainsFunc_Rule (fun r => !ruleB a0.1 a0.2.1 r) 28 #[.pointer (some ⟨q21, 0, none⟩)] _ _ a0.2.2 _ (HH11.old gz0_2) en_28 (fun W x es hx hb hR => impl_ValidMachine1 es x _ [.int .i64 (a0.1), .int .i64 (a0.2.1), .slice Az0_2 (a0.2.2.length) cz0_2] a0 W hR (((HH11.on hb).oldR H0)) (HH11.capB 0 rfl hb) (by omega) (by omega))
        refine st_call HE71 (wt0 rfl) rfl rfl rfl en_27 rfl rfl hcl fun e w' hr => ?_
        clear hcl
        obtain ⟨rfl, hbq⟩ := hr
        have HH74 := HH11.on hbq
        clear hbq
        refine ⟨_, rfl, fun a_75 HE76 => hK73 _ _ ?_⟩
        refine pl_x HE76 HH74 (wt0 rfl) (x_not rfl) rfl rfl fun a_77 HE78 => ?_
        refine pl_x HE78 HH74 (wt0 rfl) (x_assign rfl) rfl rfl fun a_79 HE80 => ?_
        refine wpList_nil ?_
        clear a_62 HE63 a_66 HE67 a_68 HE69 HH11 a_70 HE71 a_75 HE76 a_77 HE78 hK73 K_72
        refine nrm ?_
        refine wp_ret ?_
        refine ret1 HE80 rfl (rv_tmp rfl) ?_
        have hF : (validMach a0) = !(a0.2.2.any (fun r => !ruleB a0.1 a0.2.1 r)) := by
          first | (simp [validMach, hc23, hc25, hc27]; done) | (unfold validMach; grind)
        exact ⟨by first | (rw [hF] <;> rfl) | rfl | (rw [hF]; simp only [Ending.returned.injEq, Value.slice.injEq, true_and, and_true]; first | omega | (simp; done)) | (rw [hF]; simp; omega), HH74.below⟩
    · refine dr_takeNo (i := 11) (ls' := #[true, true, true, true, true, true, true, true, true, true, true, true, false, false, false, false, false, false, false, false, false]) HE40 HS34 rfl (by kernel_rfl) (by kernel_rfl) (by kernel_rfl) (fun _ _ _ h => h) rfl (wtF HE40 rfl rfl rfl (not_t hc25)) rfl rfl fun a_81 HE82 => ?_
      refine dr_takeNo (i := 12) (ls' := #[true, true, true, true, true, true, true, true, true, true, true, true, true, false, false, false, false, false, false, false, false]) HE82 HS34 rfl (by kernel_rfl) (by kernel_rfl) (by kernel_rfl) (fun _ _ _ h => h) rfl (wtF HE82 rfl rfl rfl (not_t hc25)) rfl rfl fun a_83 HE84 => ?_
      refine dr_takeNo (i := 13) (ls' := #[true, true, true, true, true, true, true, true, true, true, true, true, true, true, false, false, false, false, false, false, false]) HE84 HS34 rfl (by kernel_rfl) (by kernel_rfl) (by kernel_rfl) (fun _ _ _ h => h) rfl (wtF HE84 rfl rfl rfl (not_t hc25)) rfl rfl fun a_85 HE86 => ?_
      refine dr_takeNo (i := 14) (ls' := #[true, true, true, true, true, true, true, true, true, true, true, true, true, true, true, false, false, false, false, false, false]) HE86 HS34 rfl (by kernel_rfl) (by kernel_rfl) (by kernel_rfl) (fun _ _ _ h => h) rfl (wtF HE86 rfl rfl rfl (not_t hc25)) rfl rfl fun a_87 HE88 => ?_
      refine dr_takeNo (i := 15) (ls' := #[true, true, true, true, true, true, true, true, true, true, true, true, true, true, true, true, false, false, false, false, false]) HE88 HS34 rfl (by kernel_rfl) (by kernel_rfl) (by kernel_rfl) (fun _ _ _ h => h) rfl (wtF HE88 rfl rfl rfl (not_t hc25)) rfl rfl fun a_89 HE90 => ?_
      refine dr_takeNo (i := 16) (ls' := #[true, true, true, true, true, true, true, true, true, true, true, true, true, true, true, true, true, false, false, false, false]) HE90 HS34 rfl (by kernel_rfl) (by kernel_rfl) (by kernel_rfl) (fun _ _ _ h => h) rfl (wtF HE90 rfl rfl rfl (not_t hc25)) rfl rfl fun a_91 HE92 => ?_
      refine dr_takeNo (i := 17) (ls' := #[true, true, true, true, true, true, true, true, true, true, true, true, true, true, true, true, true, true, false, false, false]) HE92 HS34 rfl (by kernel_rfl) (by kernel_rfl) (by kernel_rfl) (fun _ _ _ h => h) rfl (wtF HE92 rfl rfl rfl (not_t hc25)) rfl rfl fun a_93 HE94 => ?_
      refine dr_takeNo (i := 18) (ls' := #[true, true, true, true, true, true, true, true, true, true, true, true, true, true, true, true, true, true, true, false, false]) HE94 HS34 rfl (by kernel_rfl) (by kernel_rfl) (by kernel_rfl) (fun _ _ _ h => h) rfl (wtF HE94 rfl rfl rfl (not_t hc25)) rfl rfl fun a_95 HE96 => ?_
      refine dr_takeNo (i := 19) (ls' := #[true, true, true, true, true, true, true, true, true, true, true, true, true, true, true, true, true, true, true, true, false]) HE96 HS34 rfl (by kernel_rfl) (by kernel_rfl) (by kernel_rfl) (fun _ _ _ h => h) rfl (wtF HE96 rfl rfl rfl (not_t hc25)) rfl rfl fun a_97 HE98 => ?_
      refine dr_take (i := 20) (ls' := #[true, true, true, true, true, true, true, true, true, true, true, true, true, true, true, true, true, true, true, true, true]) HE98 HS34 rfl (by kernel_rfl) (by kernel_rfl) (by kernel_rfl) (fun _ _ _ h => h) rfl (wt0 rfl) (x_pickT rfl (not_t hc25) rfl) rfl rfl fun a_99 HE100 => ?_
      refine dr_done (by kernel_rfl) ?_
      clear HH8 a_9 HE10 a_13 HE14 a_15 HE16 HS12 a_19 HE20 a_22 HE23 a_24 HE25 a_26 HE27 K_17 hK18 a_28 HE29 HS21 a_32 HE33 a_35 HE36 a_37 HE38 a_39 HE40 a_81 HE82 a_83 HE84 a_85 HE86 a_87 HE88 a_89 HE90 a_91 HE92 a_93 HE94 a_95 HE96 a_97 HE98 hK31 K_30
      refine nrm ?_
      refine cndT HE100 rfl rfl ?_
      refine wp_seq ?_
      refine rg ?_
      refine pl_x HE100 HH11 (wt0 rfl) (x_assign rfl) rfl rfl fun a_101 HE102 => ?_
      refine wpList_nil ?_
      clear a_99 HE100
      refine nrm ?_
      refine wp_ret ?_
      refine (thn_ret ?_)
      refine ret1 HE102 rfl (rv_tmp rfl) ?_
      have hF : (validMach a0) = false := by
        first | (simp [validMach, hc23, hc25]; done) | (unfold validMach; grind)
      exact ⟨by first | (rw [hF] <;> rfl) | rfl | (rw [hF]; simp only [Ending.returned.injEq, Value.slice.injEq, true_and, and_true]; first | omega | (simp; done)) | (rw [hF]; simp; omega), HH11.below⟩
  · refine dr_takeNo (i := 5) (ls' := #[true, true, true, true, true, true, false, false, false, false, false, false, false, false, false, false, false, false, false, false, false]) HE25 HS21 rfl (by kernel_rfl) (by kernel_rfl) (by kernel_rfl) (fun _ _ _ h => h) rfl (wtF HE25 rfl rfl rfl (not_t hc23)) rfl rfl fun a_103 HE104 => ?_
    refine dr_takeNo (i := 6) (ls' := #[true, true, true, true, true, true, true, false, false, false, false, false, false, false, false, false, false, false, false, false, false]) HE104 HS21 rfl (by kernel_rfl) (by kernel_rfl) (by kernel_rfl) (fun _ _ _ h => h) rfl (wtF HE104 rfl rfl rfl (not_t hc23)) rfl rfl fun a_105 HE106 => ?_
    refine dr_takeNo (i := 7) (ls' := #[true, true, true, true, true, true, true, true, false, false, false, false, false, false, false, false, false, false, false, false, false]) HE106 HS21 rfl (by kernel_rfl) (by kernel_rfl) (by kernel_rfl) (fun _ _ _ h => h) rfl (wtF HE106 rfl rfl rfl (not_t hc23)) rfl rfl fun a_107 HE108 => ?_
    refine dr_takeNo (i := 8) (ls' := #[true, true, true, true, true, true, true, true, true, false, false, false, false, false, false, false, false, false, false, false, false]) HE108 HS21 rfl (by kernel_rfl) (by kernel_rfl) (by kernel_rfl) (fun _ _ _ h => h) rfl (wtF HE108 rfl rfl rfl (not_t hc23)) rfl rfl fun a_109 HE110 => ?_
    refine dr_take (i := 9) (ls' := #[true, true, true, true, true, true, true, true, true, true, false, false, false, false, false, false, false, false, false, false, false]) HE110 HS21 rfl (by kernel_rfl) (by kernel_rfl) (by kernel_rfl) (fun _ _ _ h => h) rfl (wt0 rfl) (x_pickT rfl (not_t hc23) rfl) rfl rfl fun a_111 HE112 => ?_
    refine dr_take (i := 10) (ls' := #[true, true, true, true, true, true, true, true, true, true, true, false, false, false, false, false, false, false, false, false, false]) HE112 HS21 rfl (by kernel_rfl) (by kernel_rfl) (by kernel_rfl) (fun _ _ _ h => h) rfl (wt0 rfl) (x_move rfl) rfl rfl fun a_113 HE114 => ?_
    refine dr_takeNo (i := 11) (ls' := #[true, true, true, true, true, true, true, true, true, true, true, true, false, false, false, false, false, false, false, false, false]) HE114 HS21 rfl (by kernel_rfl) (by kernel_rfl) (by kernel_rfl) (fun _ _ _ h => h) rfl (wtF HE114 rfl rfl rfl rfl) rfl rfl fun a_115 HE116 => ?_
    refine dr_takeNo (i := 12) (ls' := #[true, true, true, true, true, true, true, true, true, true, true, true, true, false, false, false, false, false, false, false, false]) HE116 HS21 rfl (by kernel_rfl) (by kernel_rfl) (by kernel_rfl) (fun _ _ _ h => h) rfl (wtF HE116 rfl rfl rfl rfl) rfl rfl fun a_117 HE118 => ?_
    refine dr_takeNo (i := 13) (ls' := #[true, true, true, true, true, true, true, true, true, true, true, true, true, true, false, false, false, false, false, false, false]) HE118 HS21 rfl (by kernel_rfl) (by kernel_rfl) (by kernel_rfl) (fun _ _ _ h => h) rfl (wtF HE118 rfl rfl rfl rfl) rfl rfl fun a_119 HE120 => ?_
    refine dr_takeNo (i := 14) (ls' := #[true, true, true, true, true, true, true, true, true, true, true, true, true, true, true, false, false, false, false, false, false]) HE120 HS21 rfl (by kernel_rfl) (by kernel_rfl) (by kernel_rfl) (fun _ _ _ h => h) rfl (wtF HE120 rfl rfl rfl rfl) rfl rfl fun a_121 HE122 => ?_
    refine dr_takeNo (i := 15) (ls' := #[true, true, true, true, true, true, true, true, true, true, true, true, true, true, true, true, false, false, false, false, false]) HE122 HS21 rfl (by kernel_rfl) (by kernel_rfl) (by kernel_rfl) (fun _ _ _ h => h) rfl (wtF HE122 rfl rfl rfl rfl) rfl rfl fun a_123 HE124 => ?_
    refine dr_takeNo (i := 16) (ls' := #[true, true, true, true, true, true, true, true, true, true, true, true, true, true, true, true, true, false, false, false, false]) HE124 HS21 rfl (by kernel_rfl) (by kernel_rfl) (by kernel_rfl) (fun _ _ _ h => h) rfl (wtF HE124 rfl rfl rfl rfl) rfl rfl fun a_125 HE126 => ?_
    refine dr_takeNo (i := 17) (ls' := #[true, true, true, true, true, true, true, true, true, true, true, true, true, true, true, true, true, true, false, false, false]) HE126 HS21 rfl (by kernel_rfl) (by kernel_rfl) (by kernel_rfl) (fun _ _ _ h => h) rfl (wtF HE126 rfl rfl rfl rfl) rfl rfl fun a_127 HE128 => ?_
    refine dr_takeNo (i := 18) (ls' := #[true, true, true, true, true, true, true, true, true, true, true, true, true, true, true, true, true, true, true, false, false]) HE128 HS21 rfl (by kernel_rfl) (by kernel_rfl) (by kernel_rfl) (fun _ _ _ h => h) rfl (wtF HE128 rfl rfl rfl rfl) rfl rfl fun a_129 HE130 => ?_
    refine dr_takeNo (i := 19) (ls' := #[true, true, true, true, true, true, true, true, true, true, true, true, true, true, true, true, true, true, true, true, false]) HE130 HS21 rfl (by kernel_rfl) (by kernel_rfl) (by kernel_rfl) (fun _ _ _ h => h) rfl (wtF HE130 rfl rfl rfl rfl) rfl rfl fun a_131 HE132 => ?_
    refine dr_take (i := 20) (ls' := #[true, true, true, true, true, true, true, true, true, true, true, true, true, true, true, true, true, true, true, true, true]) HE132 HS21 rfl (by kernel_rfl) (by kernel_rfl) (by kernel_rfl) (fun _ _ _ h => h) rfl (wt0 rfl) (x_pickT rfl rfl rfl) rfl rfl fun a_133 HE134 => ?_
    refine dr_done (by kernel_rfl) ?_
    clear HH8 a_9 HE10 a_13 HE14 a_15 HE16 HS12 a_19 HE20 a_22 HE23 a_24 HE25 a_103 HE104 a_105 HE106 a_107 HE108 a_109 HE110 a_111 HE112 a_113 HE114 a_115 HE116 a_117 HE118 a_119 HE120 a_121 HE122 a_123 HE124 a_125 HE126 a_127 HE128 a_129 HE130 a_131 HE132 hK18 K_17
    refine nrm ?_
    refine cndT HE134 rfl rfl ?_
    refine wp_seq ?_
    refine rg ?_
    refine pl_x HE134 HH11 (wt0 rfl) (x_assign rfl) rfl rfl fun a_135 HE136 => ?_
    refine wpList_nil ?_
    clear a_133 HE134
    refine nrm ?_
    refine wp_ret ?_
    refine (thn_ret ?_)
    refine ret1 HE136 rfl (rv_tmp rfl) ?_
    have hF : (validMach a0) = false := by
      first | (simp [validMach, hc23]; done) | (unfold validMach; grind)
    exact ⟨by first | (rw [hF] <;> rfl) | rfl | (rw [hF]; simp only [Ending.returned.injEq, Value.slice.injEq, true_and, and_true]; first | omega | (simp; done)) | (rw [hF]; simp; omega), HH11.below⟩

set_option maxRecDepth 100000 in
set_option maxHeartbeats 4000000 in
theorem spec_l05None  (w : World)  :
    Calls Tryz.prog 34 #[] w fun e w' => ∃ (es0' : List Value), e = .returned (.agg es0'.toArray) ∧ eRule.O w' (Fr w w') es0' noRl ∧ Below w.heap.size w w' := by
  have HH1 := Held.start Nob w
  refine enter (n := 2) Tryz.func34 rfl rfl rfl fun a_2 HE3 => ?_
  refine wp_seq ?_
  refine rg ?_
  refine pl fun K_4 hK5 => ?_
  refine st_alloc HE3 HH1 tv_34 (wt0 rfl) rfl fun q21 a_6 w' HE7 HH8 => hK5 _ _ ?_
  refine wpList_nil ?_
  clear a_2 HE3 HH1 hK5 K_4
  refine nrm ?_
  refine wp_seq ?_
  refine rg ?_
  refine pl_x HE7 HH8 (wt0 rfl) (show XS _ _ _ _ (.agg #[.int .i64 (0), .int .i64 (0), .int .i64 (-1)]) from x_build (vs := [(2, .int .i64 (-1))]) tb_34 rfl (by simp [Value.oneCell'])) rfl rfl fun a_9 HE10 => ?_
  refine pl fun K_11 hK12 => ?_
  refine st_store (vs := [.int .i64 (0), .int .i64 (0), .int .i64 (-1)]) 0 HE10 HH8 tv_34 rfl rfl rfl rfl rfl rfl (by simp [Value.oneCell']) (wt0 rfl) fun w' HH13 => hK12 _ _ ?_
  refine wpList_nil ?_
  clear a_6 HE7 HH8 hK12 K_11
  refine nrm ?_
  refine wp_ret ?_
  refine ret1 HE10 rfl (rv_cell rfl (tv_34.loadN (cs := [.int .i64 (0), .int .i64 (0), .int .i64 (-1)]) rfl (c_blkN 0 rfl _ HH13))) ?_
  have HH14 := HH13.flatO (E := eRule) (cs := [.int .i64 (0), .int .i64 (0), .int .i64 (-1)]) (x := (0, 0, -1)) (fun _ => (oPrN (oI (by exact ⟨by omega, by omega⟩)) (oPrN (oI (by exact ⟨by omega, by omega⟩)) (oI (by exact ⟨by omega, by omega⟩)))))
  have hF : noRl = (0, 0, -1) := by
    rfl
  exact ⟨_, rfl, by rw [hF]; exact (HH14.o (i := 0) rfl), HH14.below⟩

set_option maxRecDepth 100000 in
set_option maxHeartbeats 4000000 in
theorem spec_l05Rule (es0 : List Value) (a0 : tRule) (a1 : Int) (a2 : Int) (w : World) (h0 : eRule.R w (Old w) es0 a0) (s0 : 2 ≤ a1 ∧ a1 ≤ 6) (s1 : 1 ≤ a2 ∧ a2 ≤ 1000) :
    Calls Tryz.prog 38 #[.agg es0.toArray, .int .i64 a1, .int .i64 a2] w fun e w' => e = .returned (.bool ((fun r s t => ruleB s t r) a0 a1 a2)) ∧ Below w.heap.size w w' := by
  have H0 := h0
  obtain ⟨rfl, gz0_0, gz0_1, gz0_2⟩ := shape_Rule h0
  have jz0_0 := gz0_0; unfold I64 at jz0_0
  have jz0_1 := gz0_1; unfold I64 at jz0_1
  have jz0_2 := gz0_2; unfold I64 at jz0_2
  have HH1 := Held.start Nob w
  refine enter (n := 32) Tryz.func38 rfl rfl rfl fun a_2 HE3 => ?_
  refine wp_seq ?_
  refine rg ?_
  refine pl fun K_4 hK5 => ?_
  refine st_box (cs := [.int .i64 (a0.1), .int .i64 (a0.2.1), .int .i64 (a0.2.2)]) HE3 HH1 rfl rfl (wt0 rfl) rfl fun q21 a_6 w' HE7 HH8 => hK5 _ _ ?_
  refine pl_x HE7 HH8 (wt0 rfl) (x_assign rfl) rfl rfl fun a_9 HE10 => ?_
  refine wpList_nil ?_
  clear a_2 HE3 HH1 a_6 HE7 hK5 K_4
  refine nrm ?_
  refine wp_seq ?_
  refine wp_seq ?_
  refine dr_start (Held Nob w [rBlk q21 34 [.int .i64 (a0.1), .int .i64 (a0.2.1), .int .i64 (a0.2.2)]]) 3 #[false, false, false] hmix rfl rfl HH8 (fun _ h => h.sel [0] (by decide) rfl) fun w' HH11 => ?_
  have HS12 := HH11
  refine dr_take (i := 0) (ls' := #[true, false, false]) HE10 HS12 rfl (by kernel_rfl) (by kernel_rfl) (by kernel_rfl) (fun _ _ _ h => h) rfl (wt0 rfl) (x_loadN (cs := [.int .i64 (a0.1), .int .i64 (a0.2.1), .int .i64 (a0.2.2)]) tv_34 rfl rfl (c_blkN 0 rfl)) rfl rfl fun a_13 HE14 => ?_
  refine dr_one (i := 1) (ls' := #[true, true, false]) rfl (by kernel_rfl) rfl fun K_15 hK16 => ?_
  refine st_call HE14 (wt0 rfl) rfl rfl rfl en_34 rfl rfl (spec_l05None  _ ) fun e w' hr => ?_
  obtain ⟨esr22_0, rfl, hor22_0, hbr22⟩ := hr
  have hr := eRule.read hor22_0
  obtain ⟨Sr22, HH17⟩ := HH11.newO hbr22 hor22_0
  obtain ⟨rfl, gr22_0_0, gr22_0_1, gr22_0_2⟩ := shape_Rule hr
  have jr22_0_0 := gr22_0_0; unfold I64 at jr22_0_0
  have jr22_0_1 := gr22_0_1; unfold I64 at jr22_0_1
  have jr22_0_2 := gr22_0_2; unfold I64 at jr22_0_2
  have HH18 := HH17.sel [1] (by decide) rfl
  refine ⟨_, rfl, fun a_19 HE20 => hK16 _ _ (by exact HH18.sel [0] (by decide) rfl) ?_⟩
  have HS21 := HH18.sel [0] (by decide) rfl
  refine dr_take (i := 2) (ls' := #[true, true, true]) HE20 HS21 rfl (by kernel_rfl) (by kernel_rfl) (by kernel_rfl) (fun _ _ _ h => h) rfl (wt0 rfl) (x_aeql eqg_Rule (fun w => eqr_Rule w _ _ _ _ _ _) rfl rfl) rfl rfl fun a_22 HE23 => ?_
  refine dr_done (by kernel_rfl) ?_
  clear HH8 a_9 HE10 HH11 HH17 a_13 HE14 HS12 a_19 HE20 hK16 K_15
  refine nrm ?_
  refine cnd_b HE23 rfl (fun hc23 => ?_) (fun hc23 => ?_)
  · refine wp_seq ?_
    refine rg ?_
    refine pl_x HE23 HH18 (wt0 rfl) (x_assign rfl) rfl rfl fun a_24 HE25 => ?_
    refine wpList_nil ?_
    clear a_22 HE23
    refine nrm ?_
    refine wp_ret ?_
    refine (thn_ret ?_)
    refine ret1 HE25 rfl (rv_tmp rfl) ?_
    have hF : ((fun r s t => ruleB s t r) a0 a1 a2) = true := by
      unfold ruleB isRl; first | (simp [hc23]; done) | grind
    exact ⟨by first | (rw [hF] <;> rfl) | rfl | (rw [hF]; simp only [Ending.returned.injEq, Value.slice.injEq, true_and, and_true]; first | omega | (simp; done)) | (rw [hF]; simp; omega), HH18.below⟩
  · refine wp_skip ?_
    refine nrm ?_
    refine wp_seq ?_
    refine rg ?_
    refine pl_x HE23 HH18 (wt0 rfl) (x_fieldAddr fa_34_0 rfl) rfl rfl fun a_26 HE27 => ?_
    refine pl_x HE27 HH18 (wt0 rfl) (x_load1 tv_2 rfl (c_blk 0 rfl rfl)) rfl rfl fun a_28 HE29 => ?_
    refine pl_x HE29 HH18 (wt0 rfl) (x_move rfl) rfl rfl fun a_30 HE31 => ?_
    refine pl_x HE31 HH18 (wt0 rfl) (x_sub rfl rfl (by exact ⟨by omega, by omega⟩)) rfl rfl fun a_32 HE33 => ?_
    refine pl fun K_34 hK35 => ?_
    refine st_call HE33 (wt0 rfl) rfl rfl rfl en_37 rfl rfl (spec_l00In a0.1 0 (a1 - 1) _ ) fun e w' hr => ?_
    obtain ⟨rfl, rfl⟩ := hr
    refine ⟨_, rfl, fun a_36 HE37 => hK35 _ _ ?_⟩
    refine pl_x HE37 HH18 (wt0 rfl) (x_move rfl) rfl rfl fun a_38 HE39 => ?_
    rcases Bool.eq_false_or_eq_true ((withinB a0.1 0 (a1 - 1))) with hc25 | hc25
    · refine pl_x HE39 HH18 (wtT HE39 rfl rfl rfl hc25) (x_fieldAddr fa_34_1 rfl) rfl rfl fun a_40 HE41 => ?_
      refine pl_x HE41 HH18 (wtT HE41 rfl rfl rfl hc25) (x_load1 tv_2 rfl (c_blk 0 rfl rfl)) rfl rfl fun a_42 HE43 => ?_
      refine pl_x HE43 HH18 (wtT HE43 rfl rfl rfl hc25) (x_eql rfl rfl) rfl rfl fun a_44 HE45 => ?_
      refine pl_x HE45 HH18 (wtT HE45 rfl rfl rfl hc25) (x_move rfl) rfl rfl fun a_46 HE47 => ?_
      by_cases hc26 : a0.2.1 = 1
      · refine pl_no HE47 (wtF HE47 rfl rfl rfl (beq_t hc26)) rfl rfl fun a_48 HE49 => ?_
        refine pl_no HE49 (wtF HE49 rfl rfl rfl (beq_t hc26)) rfl rfl fun a_50 HE51 => ?_
        refine pl_no HE51 (wtF HE51 rfl rfl rfl (beq_t hc26)) rfl rfl fun a_52 HE53 => ?_
        refine pl_x HE53 HH18 (wtT HE53 rfl rfl rfl hc25) (x_pickT rfl (beq_t hc26) rfl) rfl rfl fun a_54 HE55 => ?_
        refine pl_x HE55 HH18 (wt0 rfl) (x_pickT rfl hc25 rfl) rfl rfl fun a_56 HE57 => ?_
        refine pl_x HE57 HH18 (wt0 rfl) (x_move rfl) rfl rfl fun a_58 HE59 => ?_
        refine pl_x HE59 HH18 (wtT HE59 rfl rfl rfl rfl) (x_fieldAddr fa_34_2 rfl) rfl rfl fun a_60 HE61 => ?_
        refine pl_x HE61 HH18 (wtT HE61 rfl rfl rfl rfl) (x_load1 tv_2 rfl (c_blk 0 rfl rfl)) rfl rfl fun a_62 HE63 => ?_
        refine pl_x HE63 HH18 (wtT HE63 rfl rfl rfl rfl) (x_move rfl) rfl rfl fun a_64 HE65 => ?_
        refine pl_x HE65 HH18 (wtT HE65 rfl rfl rfl rfl) (x_sub rfl rfl (by exact ⟨by omega, by omega⟩)) rfl rfl fun a_66 HE67 => ?_
        refine pl fun K_68 hK69 => ?_
        refine st_call HE67 (wtT HE67 rfl rfl rfl rfl) rfl rfl rfl en_37 rfl rfl (spec_l00In a0.2.2 0 (a2 - 1) _ ) fun e w' hr => ?_
        obtain ⟨rfl, rfl⟩ := hr
        refine ⟨_, rfl, fun a_70 HE71 => hK69 _ _ ?_⟩
        refine pl_x HE71 HH18 (wt0 rfl) (x_pickT rfl rfl rfl) rfl rfl fun a_72 HE73 => ?_
        refine pl_x HE73 HH18 (wt0 rfl) (x_assign rfl) rfl rfl fun a_74 HE75 => ?_
        refine wpList_nil ?_
        clear a_22 HE23 a_26 HE27 a_28 HE29 a_30 HE31 a_32 HE33 a_36 HE37 a_38 HE39 a_40 HE41 a_42 HE43 a_44 HE45 a_46 HE47 a_48 HE49 a_50 HE51 a_52 HE53 a_54 HE55 a_56 HE57 a_58 HE59 a_60 HE61 a_62 HE63 a_64 HE65 K_34 hK35 a_66 HE67 a_70 HE71 a_72 HE73 hK69 K_68
        refine nrm ?_
        refine wp_ret ?_
        refine ret1 HE75 rfl (rv_tmp rfl) ?_
        have hF : ((fun r s t => ruleB s t r) a0 a1 a2) = (withinB a0.2.2 0 (a2 - 1)) := by
          unfold ruleB isRl; first | (simp [hc23, hc25, hc26]; done) | grind
        exact ⟨by first | (rw [hF] <;> rfl) | rfl | (rw [hF]; simp only [Ending.returned.injEq, Value.slice.injEq, true_and, and_true]; first | omega | (simp; done)) | (rw [hF]; simp; omega), HH18.below⟩
      · refine pl_x HE47 HH18 (wtT HE47 rfl rfl rfl (beq_f hc26)) (x_fieldAddr fa_34_1 rfl) rfl rfl fun a_76 HE77 => ?_
        refine pl_x HE77 HH18 (wtT HE77 rfl rfl rfl (beq_f hc26)) (x_load1 tv_2 rfl (c_blk 0 rfl rfl)) rfl rfl fun a_78 HE79 => ?_
        refine pl_x HE79 HH18 (wtT HE79 rfl rfl rfl (beq_f hc26)) (x_eql rfl rfl) rfl rfl fun a_80 HE81 => ?_
        refine pl_x HE81 HH18 (wtT HE81 rfl rfl rfl hc25) (x_pickF rfl (beq_f hc26) rfl) rfl rfl fun a_82 HE83 => ?_
        refine pl_x HE83 HH18 (wt0 rfl) (x_pickT rfl hc25 rfl) rfl rfl fun a_84 HE85 => ?_
        refine pl_x HE85 HH18 (wt0 rfl) (x_move rfl) rfl rfl fun a_86 HE87 => ?_
        by_cases hc28 : a0.2.1 = -1
        · refine pl_x HE87 HH18 (wtT HE87 rfl rfl rfl (beq_t hc28)) (x_fieldAddr fa_34_2 rfl) rfl rfl fun a_88 HE89 => ?_
          refine pl_x HE89 HH18 (wtT HE89 rfl rfl rfl (beq_t hc28)) (x_load1 tv_2 rfl (c_blk 0 rfl rfl)) rfl rfl fun a_90 HE91 => ?_
          refine pl_x HE91 HH18 (wtT HE91 rfl rfl rfl (beq_t hc28)) (x_move rfl) rfl rfl fun a_92 HE93 => ?_
          refine pl_x HE93 HH18 (wtT HE93 rfl rfl rfl (beq_t hc28)) (x_sub rfl rfl (by exact ⟨by omega, by omega⟩)) rfl rfl fun a_94 HE95 => ?_
          refine pl fun K_96 hK97 => ?_
          refine st_call HE95 (wtT HE95 rfl rfl rfl (beq_t hc28)) rfl rfl rfl en_37 rfl rfl (spec_l00In a0.2.2 0 (a2 - 1) _ ) fun e w' hr => ?_
          obtain ⟨rfl, rfl⟩ := hr
          refine ⟨_, rfl, fun a_98 HE99 => hK97 _ _ ?_⟩
          refine pl_x HE99 HH18 (wt0 rfl) (x_pickT rfl (beq_t hc28) rfl) rfl rfl fun a_100 HE101 => ?_
          refine pl_x HE101 HH18 (wt0 rfl) (x_assign rfl) rfl rfl fun a_102 HE103 => ?_
          refine wpList_nil ?_
          clear a_22 HE23 a_26 HE27 a_28 HE29 a_30 HE31 a_32 HE33 a_36 HE37 a_38 HE39 a_40 HE41 a_42 HE43 a_44 HE45 a_46 HE47 a_76 HE77 a_78 HE79 a_80 HE81 a_82 HE83 a_84 HE85 a_86 HE87 a_88 HE89 a_90 HE91 a_92 HE93 K_34 hK35 a_94 HE95 a_98 HE99 a_100 HE101 hK97 K_96
          refine nrm ?_
          refine wp_ret ?_
          refine ret1 HE103 rfl (rv_tmp rfl) ?_
          have hF : ((fun r s t => ruleB s t r) a0 a1 a2) = (withinB a0.2.2 0 (a2 - 1)) := by
            unfold ruleB isRl; first | (simp [hc23, hc25, hc26, hc28]; done) | grind
          exact ⟨by first | (rw [hF] <;> rfl) | rfl | (rw [hF]; simp only [Ending.returned.injEq, Value.slice.injEq, true_and, and_true]; first | omega | (simp; done)) | (rw [hF]; simp; omega), HH18.below⟩
        · refine pl_no HE87 (wtF HE87 rfl rfl rfl (beq_f hc28)) rfl rfl fun a_104 HE105 => ?_
          refine pl_no HE105 (wtF HE105 rfl rfl rfl (beq_f hc28)) rfl rfl fun a_106 HE107 => ?_
          refine pl_no HE107 (wtF HE107 rfl rfl rfl (beq_f hc28)) rfl rfl fun a_108 HE109 => ?_
          refine pl_no HE109 (wtF HE109 rfl rfl rfl (beq_f hc28)) rfl rfl fun a_110 HE111 => ?_
          refine pl_no HE111 (wtF HE111 rfl rfl rfl (beq_f hc28)) rfl rfl fun a_112 HE113 => ?_
          refine pl_x HE113 HH18 (wt0 rfl) (x_pickF rfl (beq_f hc28) rfl) rfl rfl fun a_114 HE115 => ?_
          refine pl_x HE115 HH18 (wt0 rfl) (x_assign rfl) rfl rfl fun a_116 HE117 => ?_
          refine wpList_nil ?_
          clear a_22 HE23 a_26 HE27 a_28 HE29 a_30 HE31 a_32 HE33 a_36 HE37 a_38 HE39 a_40 HE41 a_42 HE43 a_44 HE45 a_46 HE47 a_76 HE77 a_78 HE79 a_80 HE81 a_82 HE83 a_84 HE85 a_86 HE87 a_104 HE105 a_106 HE107 a_108 HE109 a_110 HE111 a_112 HE113 a_114 HE115 hK35 K_34
          refine nrm ?_
          refine wp_ret ?_
          refine ret1 HE117 rfl (rv_tmp rfl) ?_
          have hF : ((fun r s t => ruleB s t r) a0 a1 a2) = false := by
            unfold ruleB isRl; first | (simp [hc23, hc25, hc26, hc28]; done) | grind
          exact ⟨by first | (rw [hF] <;> rfl) | rfl | (rw [hF]; simp only [Ending.returned.injEq, Value.slice.injEq, true_and, and_true]; first | omega | (simp; done)) | (rw [hF]; simp; omega), HH18.below⟩
    · refine pl_no HE39 (wtF HE39 rfl rfl rfl hc25) rfl rfl fun a_118 HE119 => ?_
      refine pl_no HE119 (wtF HE119 rfl rfl rfl hc25) rfl rfl fun a_120 HE121 => ?_
      refine pl_no HE121 (wtF HE121 rfl rfl rfl hc25) rfl rfl fun a_122 HE123 => ?_
      refine pl_no HE123 (wtF HE123 rfl rfl rfl hc25) rfl rfl fun a_124 HE125 => ?_
      refine pl_no HE125 (wtU HE125 rfl rfl rfl) rfl rfl fun a_126 HE127 => ?_
      refine pl_no HE127 (wtU HE127 rfl rfl rfl) rfl rfl fun a_128 HE129 => ?_
      refine pl_no HE129 (wtU HE129 rfl rfl rfl) rfl rfl fun a_130 HE131 => ?_
      refine pl_no HE131 (wtF HE131 rfl rfl rfl hc25) rfl rfl fun a_132 HE133 => ?_
      refine pl_x HE133 HH18 (wt0 rfl) (x_pickF rfl hc25 rfl) rfl rfl fun a_134 HE135 => ?_
      refine pl_x HE135 HH18 (wt0 rfl) (x_move rfl) rfl rfl fun a_136 HE137 => ?_
      refine pl_no HE137 (wtF HE137 rfl rfl rfl rfl) rfl rfl fun a_138 HE139 => ?_
      refine pl_no HE139 (wtF HE139 rfl rfl rfl rfl) rfl rfl fun a_140 HE141 => ?_
      refine pl_no HE141 (wtF HE141 rfl rfl rfl rfl) rfl rfl fun a_142 HE143 => ?_
      refine pl_no HE143 (wtF HE143 rfl rfl rfl rfl) rfl rfl fun a_144 HE145 => ?_
      refine pl_no HE145 (wtF HE145 rfl rfl rfl rfl) rfl rfl fun a_146 HE147 => ?_
      refine pl_x HE147 HH18 (wt0 rfl) (x_pickF rfl rfl rfl) rfl rfl fun a_148 HE149 => ?_
      refine pl_x HE149 HH18 (wt0 rfl) (x_assign rfl) rfl rfl fun a_150 HE151 => ?_
      refine wpList_nil ?_
      clear a_22 HE23 a_26 HE27 a_28 HE29 a_30 HE31 a_32 HE33 a_36 HE37 a_38 HE39 a_118 HE119 a_120 HE121 a_122 HE123 a_124 HE125 a_126 HE127 a_128 HE129 a_130 HE131 a_132 HE133 a_134 HE135 a_136 HE137 a_138 HE139 a_140 HE141 a_142 HE143 a_144 HE145 a_146 HE147 a_148 HE149 hK35 K_34
      refine nrm ?_
      refine wp_ret ?_
      refine ret1 HE151 rfl (rv_tmp rfl) ?_
      have hF : ((fun r s t => ruleB s t r) a0 a1 a2) = false := by
        unfold ruleB isRl; first | (simp [hc23, hc25]; done) | grind
      exact ⟨by first | (rw [hF] <;> rfl) | rfl | (rw [hF]; simp only [Ending.returned.injEq, Value.slice.injEq, true_and, and_true]; first | omega | (simp; done)) | (rw [hF]; simp; omega), HH18.below⟩

set_option maxRecDepth 100000 in
set_option maxHeartbeats 4000000 in
theorem spec_l05Is (p0 o0 : Nat) (es0 : List Value) (a0 : tMachine) (w : World) (h0 : eMachine.R w (Old w) es0 a0) (hq0 : ∀ j v, es0[j]? = some v → w.cell? ⟨p0, o0 + j, none⟩ = some v) :
    Calls Tryz.prog 20 #[.pointer (some ⟨p0, o0, none⟩)] w fun e w' => e = .returned (.bool (validMach a0)) ∧ Below w.heap.size w w' := by
  have H0 := h0
  obtain ⟨Az0_2, cz0_2, rfl, gz0_0, gz0_1, gz0_2⟩ := shape_Machine h0
  have jz0_0 := gz0_0; unfold I64 at jz0_0
  have jz0_1 := gz0_1; unfold I64 at jz0_1
  have lz0_2 := gz0_2.len
  have HH1 := Held.start Nob w
  refine enter (n := 61) Tryz.func20 rfl rfl rfl fun a_2 HE3 => ?_
  refine wp_seq ?_
  refine rg ?_
  refine pl_x HE3 HH1 (wt0 rfl) (x_assign rfl) rfl rfl fun a_4 HE5 => ?_
  refine wpList_nil ?_
  clear a_2 HE3
  refine nrm ?_
  refine wp_seq ?_
  refine wp_seq ?_
  refine dr_start (Held Nob w []) 31 #[false, false, false, false, false, false, false, false, false, false, false, false, false, false, false, false, false, false, false, false, false, false, false, false, false, false, false, false, false, false, false] hmix rfl rfl HH1 (fun _ h => h.sel [] (by decide) rfl) fun w' HH6 => ?_
  have HS7 := HH6
  refine dr_take (i := 0) (ls' := #[true, false, false, false, false, false, false, false, false, false, false, false, false, false, false, false, false, false, false, false, false, false, false, false, false, false, false, false, false, false, false]) HE5 HS7 rfl (by kernel_rfl) (by kernel_rfl) (by kernel_rfl) (fun _ _ _ h => h) rfl (wt0 rfl) (x_move rfl) rfl rfl fun a_8 HE9 => ?_
  refine dr_take (i := 1) (ls' := #[true, true, false, false, false, false, false, false, false, false, false, false, false, false, false, false, false, false, false, false, false, false, false, false, false, false, false, false, false, false, false]) HE9 HS7 rfl (by kernel_rfl) (by kernel_rfl) (by kernel_rfl) (fun _ _ _ h => h) rfl (wt0 rfl) (x_nilCheck rfl) rfl rfl fun a_10 HE11 => ?_
  refine dr_take (i := 2) (ls' := #[true, true, true, false, false, false, false, false, false, false, false, false, false, false, false, false, false, false, false, false, false, false, false, false, false, false, false, false, false, false, false]) HE11 HS7 rfl (by kernel_rfl) (by kernel_rfl) (by kernel_rfl) (fun _ _ _ h => h) rfl (wt0 rfl) (x_fieldAddr fa_24_0 rfl) rfl rfl fun a_12 HE13 => ?_
  refine dr_take (i := 3) (ls' := #[true, true, true, true, false, false, false, false, false, false, false, false, false, false, false, false, false, false, false, false, false, false, false, false, false, false, false, false, false, false, false]) HE13 HS7 rfl (by kernel_rfl) (by kernel_rfl) (by kernel_rfl) (fun _ _ _ h => h) rfl (wt0 rfl) (x_load1 tv_2 rfl (c_old (hq0 0 _ rfl))) rfl rfl fun a_14 HE15 => ?_
  refine dr_one (i := 4) (ls' := #[true, true, true, true, true, false, false, false, false, false, false, false, false, false, false, false, false, false, false, false, false, false, false, false, false, false, false, false, false, false, false]) rfl (by kernel_rfl) rfl fun K_16 hK17 => ?_
  refine st_call HE15 (wt0 rfl) rfl rfl rfl en_37 rfl rfl (spec_l00In a0.1 2 6 _ ) fun e w' hr => ?_
  obtain ⟨rfl, rfl⟩ := hr
  refine ⟨_, rfl, fun a_18 HE19 => hK17 _ _ (by exact HH6.sel [] (by decide) rfl) ?_⟩
  have HS20 := HH6.sel [] (by decide) rfl
  refine dr_take (i := 5) (ls' := #[true, true, true, true, true, true, false, false, false, false, false, false, false, false, false, false, false, false, false, false, false, false, false, false, false, false, false, false, false, false, false]) HE19 HS20 rfl (by kernel_rfl) (by kernel_rfl) (by kernel_rfl) (fun _ _ _ h => h) rfl (wt0 rfl) (x_not rfl) rfl rfl fun a_21 HE22 => ?_
  refine dr_take (i := 6) (ls' := #[true, true, true, true, true, true, true, false, false, false, false, false, false, false, false, false, false, false, false, false, false, false, false, false, false, false, false, false, false, false, false]) HE22 HS20 rfl (by kernel_rfl) (by kernel_rfl) (by kernel_rfl) (fun _ _ _ h => h) rfl (wt0 rfl) (x_move rfl) rfl rfl fun a_23 HE24 => ?_
  rcases Bool.eq_false_or_eq_true ((withinB a0.1 2 6)) with hc22 | hc22
  · have m0 := withinB_true.1 hc22
    refine dr_take (i := 7) (ls' := #[true, true, true, true, true, true, true, true, false, false, false, false, false, false, false, false, false, false, false, false, false, false, false, false, false, false, false, false, false, false, false]) HE24 HS20 rfl (by kernel_rfl) (by kernel_rfl) (by kernel_rfl) (fun _ _ _ h => h) rfl (wtT HE24 rfl rfl rfl (not_f hc22)) (x_move rfl) rfl rfl fun a_25 HE26 => ?_
    refine dr_take (i := 8) (ls' := #[true, true, true, true, true, true, true, true, true, false, false, false, false, false, false, false, false, false, false, false, false, false, false, false, false, false, false, false, false, false, false]) HE26 HS20 rfl (by kernel_rfl) (by kernel_rfl) (by kernel_rfl) (fun _ _ _ h => h) rfl (wtT HE26 rfl rfl rfl (not_f hc22)) (x_nilCheck rfl) rfl rfl fun a_27 HE28 => ?_
    refine dr_take (i := 9) (ls' := #[true, true, true, true, true, true, true, true, true, true, false, false, false, false, false, false, false, false, false, false, false, false, false, false, false, false, false, false, false, false, false]) HE28 HS20 rfl (by kernel_rfl) (by kernel_rfl) (by kernel_rfl) (fun _ _ _ h => h) rfl (wtT HE28 rfl rfl rfl (not_f hc22)) (x_fieldAddr fa_24_1 rfl) rfl rfl fun a_29 HE30 => ?_
    refine dr_take (i := 10) (ls' := #[true, true, true, true, true, true, true, true, true, true, true, false, false, false, false, false, false, false, false, false, false, false, false, false, false, false, false, false, false, false, false]) HE30 HS20 rfl (by kernel_rfl) (by kernel_rfl) (by kernel_rfl) (fun _ _ _ h => h) rfl (wtT HE30 rfl rfl rfl (not_f hc22)) (x_load1 tv_2 rfl (c_old (hq0 1 _ rfl))) rfl rfl fun a_31 HE32 => ?_
    refine dr_one (i := 11) (ls' := #[true, true, true, true, true, true, true, true, true, true, true, true, false, false, false, false, false, false, false, false, false, false, false, false, false, false, false, false, false, false, false]) rfl (by kernel_rfl) rfl fun K_33 hK34 => ?_
    refine st_call HE32 (wtT HE32 rfl rfl rfl (not_f hc22)) rfl rfl rfl en_37 rfl rfl (spec_l00In a0.2.1 1 1000 _ ) fun e w' hr => ?_
    obtain ⟨rfl, rfl⟩ := hr
    refine ⟨_, rfl, fun a_35 HE36 => hK34 _ _ (by exact HH6.sel [] (by decide) rfl) ?_⟩
    have HS37 := HH6.sel [] (by decide) rfl
    refine dr_take (i := 12) (ls' := #[true, true, true, true, true, true, true, true, true, true, true, true, true, false, false, false, false, false, false, false, false, false, false, false, false, false, false, false, false, false, false]) HE36 HS37 rfl (by kernel_rfl) (by kernel_rfl) (by kernel_rfl) (fun _ _ _ h => h) rfl (wtT HE36 rfl rfl rfl (not_f hc22)) (x_not rfl) rfl rfl fun a_38 HE39 => ?_
    refine dr_take (i := 13) (ls' := #[true, true, true, true, true, true, true, true, true, true, true, true, true, true, false, false, false, false, false, false, false, false, false, false, false, false, false, false, false, false, false]) HE39 HS37 rfl (by kernel_rfl) (by kernel_rfl) (by kernel_rfl) (fun _ _ _ h => h) rfl (wt0 rfl) (x_pickF rfl (not_f hc22) rfl) rfl rfl fun a_40 HE41 => ?_
    refine dr_take (i := 14) (ls' := #[true, true, true, true, true, true, true, true, true, true, true, true, true, true, true, false, false, false, false, false, false, false, false, false, false, false, false, false, false, false, false]) HE41 HS37 rfl (by kernel_rfl) (by kernel_rfl) (by kernel_rfl) (fun _ _ _ h => h) rfl (wt0 rfl) (x_move rfl) rfl rfl fun a_42 HE43 => ?_
    rcases Bool.eq_false_or_eq_true ((withinB a0.2.1 1 1000)) with hc24 | hc24
    · have m1 := withinB_true.1 hc24
      obtain ⟨m2, m3⟩ := mul_bd2 m0 m1
      refine dr_take (i := 15) (ls' := #[true, true, true, true, true, true, true, true, true, true, true, true, true, true, true, true, false, false, false, false, false, false, false, false, false, false, false, false, false, false, false]) HE43 HS37 rfl (by kernel_rfl) (by kernel_rfl) (by kernel_rfl) (fun _ _ _ h => h) rfl (wtT HE43 rfl rfl rfl (not_f hc24)) (x_move rfl) rfl rfl fun a_44 HE45 => ?_
      refine dr_take (i := 16) (ls' := #[true, true, true, true, true, true, true, true, true, true, true, true, true, true, true, true, true, false, false, false, false, false, false, false, false, false, false, false, false, false, false]) HE45 HS37 rfl (by kernel_rfl) (by kernel_rfl) (by kernel_rfl) (fun _ _ _ h => h) rfl (wtT HE45 rfl rfl rfl (not_f hc24)) (x_nilCheck rfl) rfl rfl fun a_46 HE47 => ?_
      refine dr_take (i := 17) (ls' := #[true, true, true, true, true, true, true, true, true, true, true, true, true, true, true, true, true, true, false, false, false, false, false, false, false, false, false, false, false, false, false]) HE47 HS37 rfl (by kernel_rfl) (by kernel_rfl) (by kernel_rfl) (fun _ _ _ h => h) rfl (wtT HE47 rfl rfl rfl (not_f hc24)) (x_fieldAddr fa_24_2 rfl) rfl rfl fun a_48 HE49 => ?_
      refine dr_take (i := 18) (ls' := #[true, true, true, true, true, true, true, true, true, true, true, true, true, true, true, true, true, true, true, false, false, false, false, false, false, false, false, false, false, false, false]) HE49 HS37 rfl (by kernel_rfl) (by kernel_rfl) (by kernel_rfl) (fun _ _ _ h => h) rfl (wtT HE49 rfl rfl rfl (not_f hc24)) (x_load1 tv_22 rfl (c_old (hq0 2 _ rfl))) rfl rfl fun a_50 HE51 => ?_
      refine dr_take (i := 19) (ls' := #[true, true, true, true, true, true, true, true, true, true, true, true, true, true, true, true, true, true, true, true, false, false, false, false, false, false, false, false, false, false, false]) HE51 HS37 rfl (by kernel_rfl) (by kernel_rfl) (by kernel_rfl) (fun _ _ _ h => h) rfl (wtT HE51 rfl rfl rfl (not_f hc24)) (x_len Tryz.underlying22 rfl) rfl rfl fun a_52 HE53 => ?_
      refine dr_take (i := 20) (ls' := #[true, true, true, true, true, true, true, true, true, true, true, true, true, true, true, true, true, true, true, true, true, false, false, false, false, false, false, false, false, false, false]) HE53 HS37 rfl (by kernel_rfl) (by kernel_rfl) (by kernel_rfl) (fun _ _ _ h => h) rfl (wtT HE53 rfl rfl rfl (not_f hc24)) (x_move rfl) rfl rfl fun a_54 HE55 => ?_
      refine dr_take (i := 21) (ls' := #[true, true, true, true, true, true, true, true, true, true, true, true, true, true, true, true, true, true, true, true, true, true, false, false, false, false, false, false, false, false, false]) HE55 HS37 rfl (by kernel_rfl) (by kernel_rfl) (by kernel_rfl) (fun _ _ _ h => h) rfl (wtT HE55 rfl rfl rfl (not_f hc24)) (x_nilCheck rfl) rfl rfl fun a_56 HE57 => ?_
      refine dr_take (i := 22) (ls' := #[true, true, true, true, true, true, true, true, true, true, true, true, true, true, true, true, true, true, true, true, true, true, true, false, false, false, false, false, false, false, false]) HE57 HS37 rfl (by kernel_rfl) (by kernel_rfl) (by kernel_rfl) (fun _ _ _ h => h) rfl (wtT HE57 rfl rfl rfl (not_f hc24)) (x_fieldAddr fa_24_0 rfl) rfl rfl fun a_58 HE59 => ?_
      refine dr_take (i := 23) (ls' := #[true, true, true, true, true, true, true, true, true, true, true, true, true, true, true, true, true, true, true, true, true, true, true, true, false, false, false, false, false, false, false]) HE59 HS37 rfl (by kernel_rfl) (by kernel_rfl) (by kernel_rfl) (fun _ _ _ h => h) rfl (wtT HE59 rfl rfl rfl (not_f hc24)) (x_load1 tv_2 rfl (c_old (hq0 0 _ rfl))) rfl rfl fun a_60 HE61 => ?_
      refine dr_take (i := 24) (ls' := #[true, true, true, true, true, true, true, true, true, true, true, true, true, true, true, true, true, true, true, true, true, true, true, true, true, false, false, false, false, false, false]) HE61 HS37 rfl (by kernel_rfl) (by kernel_rfl) (by kernel_rfl) (fun _ _ _ h => h) rfl (wtT HE61 rfl rfl rfl (not_f hc24)) (x_move rfl) rfl rfl fun a_62 HE63 => ?_
      refine dr_take (i := 25) (ls' := #[true, true, true, true, true, true, true, true, true, true, true, true, true, true, true, true, true, true, true, true, true, true, true, true, true, true, false, false, false, false, false]) HE63 HS37 rfl (by kernel_rfl) (by kernel_rfl) (by kernel_rfl) (fun _ _ _ h => h) rfl (wtT HE63 rfl rfl rfl (not_f hc24)) (x_nilCheck rfl) rfl rfl fun a_64 HE65 => ?_
      refine dr_take (i := 26) (ls' := #[true, true, true, true, true, true, true, true, true, true, true, true, true, true, true, true, true, true, true, true, true, true, true, true, true, true, true, false, false, false, false]) HE65 HS37 rfl (by kernel_rfl) (by kernel_rfl) (by kernel_rfl) (fun _ _ _ h => h) rfl (wtT HE65 rfl rfl rfl (not_f hc24)) (x_fieldAddr fa_24_1 rfl) rfl rfl fun a_66 HE67 => ?_
      refine dr_take (i := 27) (ls' := #[true, true, true, true, true, true, true, true, true, true, true, true, true, true, true, true, true, true, true, true, true, true, true, true, true, true, true, true, false, false, false]) HE67 HS37 rfl (by kernel_rfl) (by kernel_rfl) (by kernel_rfl) (fun _ _ _ h => h) rfl (wtT HE67 rfl rfl rfl (not_f hc24)) (x_load1 tv_2 rfl (c_old (hq0 1 _ rfl))) rfl rfl fun a_68 HE69 => ?_
      refine dr_take (i := 28) (ls' := #[true, true, true, true, true, true, true, true, true, true, true, true, true, true, true, true, true, true, true, true, true, true, true, true, true, true, true, true, true, false, false]) HE69 HS37 rfl (by kernel_rfl) (by kernel_rfl) (by kernel_rfl) (fun _ _ _ h => h) rfl (wtT HE69 rfl rfl rfl (not_f hc24)) (x_mul rfl rfl (by exact ⟨by omega, by omega⟩)) rfl rfl fun a_70 HE71 => ?_
      refine dr_take (i := 29) (ls' := #[true, true, true, true, true, true, true, true, true, true, true, true, true, true, true, true, true, true, true, true, true, true, true, true, true, true, true, true, true, true, false]) HE71 HS37 rfl (by kernel_rfl) (by kernel_rfl) (by kernel_rfl) (fun _ _ _ h => h) rfl (wtT HE71 rfl rfl rfl (not_f hc24)) (x_neq rfl rfl) rfl rfl fun a_72 HE73 => ?_
      refine dr_take (i := 30) (ls' := #[true, true, true, true, true, true, true, true, true, true, true, true, true, true, true, true, true, true, true, true, true, true, true, true, true, true, true, true, true, true, true]) HE73 HS37 rfl (by kernel_rfl) (by kernel_rfl) (by kernel_rfl) (fun _ _ _ h => h) rfl (wt0 rfl) (x_pickF rfl (not_f hc24) rfl) rfl rfl fun a_74 HE75 => ?_
      refine dr_done (by kernel_rfl) ?_
      clear HH1 a_4 HE5 a_8 HE9 a_10 HE11 a_12 HE13 a_14 HE15 HS7 a_18 HE19 a_21 HE22 a_23 HE24 a_25 HE26 a_27 HE28 a_29 HE30 K_16 hK17 a_31 HE32 HS20 a_35 HE36 a_38 HE39 a_40 HE41 a_42 HE43 a_44 HE45 a_46 HE47 a_48 HE49 a_50 HE51 a_52 HE53 a_54 HE55 a_56 HE57 a_58 HE59 a_60 HE61 a_62 HE63 a_64 HE65 a_66 HE67 a_68 HE69 a_70 HE71 a_72 HE73 hK34 K_33
      refine nrm ?_
      refine cnd_ne HE75 rfl (fun hc25 => ?_) (fun hc25 => ?_)
      · refine wp_seq ?_
        refine rg ?_
        refine pl_x HE75 HH6 (wt0 rfl) (x_assign rfl) rfl rfl fun a_76 HE77 => ?_
        refine wpList_nil ?_
        clear a_74 HE75
        refine nrm ?_
        refine wp_ret ?_
        refine (thn_ret ?_)
        refine ret1 HE77 rfl (rv_tmp rfl) ?_
        have hF : (validMach a0) = false := by
          first | (simp [validMach, hc22, hc24, hc25]; done) | (unfold validMach; rw [any_hit (by omega : k < a0.2.2.length) (by rw [← xe0]; simp [hc25])]; simp; done) | (have hq := p0_1; rw [List.take_of_length_le (by omega)] at hq; unfold validMach; rw [hq]; grind) | (unfold validMach; grind)
        exact ⟨by first | (rw [hF] <;> rfl) | rfl | (rw [hF]; simp only [Ending.returned.injEq, Value.slice.injEq, true_and, and_true]; first | omega | (simp; done)) | (rw [hF]; simp; omega), HH6.below⟩
      · refine wp_skip ?_
        refine nrm ?_
        refine wp_seq ?_
        refine wp_seq ?_
        refine rg ?_
        refine pl_x HE75 HH6 (wt0 rfl) (x_assign rfl) rfl rfl fun a_78 HE79 => ?_
        refine wpList_nil ?_
        clear a_74 HE75
        refine nrm ?_
        refine wp_block ?_
        refine lp (fun m a w' => ∃ (k : Nat), m = a0.2.2.length - k ∧ Env 61 [(3, .int .i64 (k : Int)), (0, .pointer (some ⟨p0, o0, none⟩))] a ∧ Held Nob w [] w' ∧ (k ≤ a0.2.2.length) ∧ ((a0.2.2.take k).any (fun r => !ruleB a0.1 a0.2.1 r) = false)) (a0.2.2.length - (0)) ?_ ?_
        · exact ⟨0, rfl, HE79.sub ⟨(lkI rfl (by first | rfl | omega | (simp [hc22, hc24, hc25]; done))), rfl, trivial⟩, (HH6.sel [] (by decide) rfl), (by first | omega | assumption | (simp; done) | simp_all), (by rfl)⟩
        · rintro m a_80 w' ⟨k, rfl, HE81, HH82, p26_0, p26_1⟩
          refine wp_seq ?_
          refine wp_seq ?_
          refine rg ?_
          refine pl_x HE81 HH82 (wt0 rfl) (x_move rfl) rfl rfl fun a_83 HE84 => ?_
          refine pl_x HE84 HH82 (wt0 rfl) (x_move rfl) rfl rfl fun a_85 HE86 => ?_
          refine pl_x HE86 HH82 (wt0 rfl) (x_nilCheck rfl) rfl rfl fun a_87 HE88 => ?_
          refine pl_x HE88 HH82 (wt0 rfl) (x_fieldAddr fa_24_2 rfl) rfl rfl fun a_89 HE90 => ?_
          refine pl_x HE90 HH82 (wt0 rfl) (x_load1 tv_22 rfl (c_old (hq0 2 _ rfl))) rfl rfl fun a_91 HE92 => ?_
          refine pl_x HE92 HH82 (wt0 rfl) (x_len Tryz.underlying22 rfl) rfl rfl fun a_93 HE94 => ?_
          refine pl_x HE94 HH82 (wt0 rfl) (x_lss rfl rfl) rfl rfl fun a_95 HE96 => ?_
          refine wpList_nil ?_
          clear a_78 HE79 HH6 a_80 HE81 a_83 HE84 a_85 HE86 a_87 HE88 a_89 HE90 a_91 HE92 a_93 HE94
          refine nrm ?_
          refine cnd_d HE96 rfl (fun hc27 => ?_) (fun hc27 => ?_)
          · refine wp_skip ?_
            refine nrm ?_
            refine wp_seq ?_
            refine wp_block ?_
            refine wp_seq ?_
            refine dr_start (Held Nob w []) 17 #[false, false, false, false, false, false, false, false, false, false, false, false, false, false, false, false, false] hmix rfl rfl HH82 (fun _ h => h.sel [] (by decide) rfl) fun w' HH97 => ?_
            have HS98 := HH97
            refine dr_take (i := 0) (ls' := #[true, false, false, false, false, false, false, false, false, false, false, false, false, false, false, false, false]) HE96 HS98 rfl (by kernel_rfl) (by kernel_rfl) (by kernel_rfl) (fun _ _ _ h => h) rfl (wt0 rfl) (x_move rfl) rfl rfl fun a_99 HE100 => ?_
            refine dr_take (i := 1) (ls' := #[true, true, false, false, false, false, false, false, false, false, false, false, false, false, false, false, false]) HE100 HS98 rfl (by kernel_rfl) (by kernel_rfl) (by kernel_rfl) (fun _ _ _ h => h) rfl (wt0 rfl) (x_nilCheck rfl) rfl rfl fun a_101 HE102 => ?_
            refine dr_take (i := 2) (ls' := #[true, true, true, false, false, false, false, false, false, false, false, false, false, false, false, false, false]) HE102 HS98 rfl (by kernel_rfl) (by kernel_rfl) (by kernel_rfl) (fun _ _ _ h => h) rfl (wt0 rfl) (x_fieldAddr fa_24_2 rfl) rfl rfl fun a_103 HE104 => ?_
            refine dr_take (i := 3) (ls' := #[true, true, true, true, false, false, false, false, false, false, false, false, false, false, false, false, false]) HE104 HS98 rfl (by kernel_rfl) (by kernel_rfl) (by kernel_rfl) (fun _ _ _ h => h) rfl (wt0 rfl) (x_load1 tv_22 rfl (c_old (hq0 2 _ rfl))) rfl rfl fun a_105 HE106 => ?_
            refine dr_take (i := 4) (ls' := #[true, true, true, true, true, false, false, false, false, false, false, false, false, false, false, false, false]) HE106 HS98 rfl (by kernel_rfl) (by kernel_rfl) (by kernel_rfl) (fun _ _ _ h => h) rfl (wt0 rfl) (x_move rfl) rfl rfl fun a_107 HE108 => ?_
            have ke28 : k < a0.2.2.length := by omega
            obtain ⟨be28, fe28, ese28, Ae28, Re28, De28⟩ := el_old gz0_2 ke28
            obtain ⟨e28, xe28⟩ : ∃ x_, x_ = a0.2.2[k] := ⟨_, rfl⟩
            rw [← xe28] at Re28
            have Qe28 := Re28
            obtain ⟨rfl, ge28_0, ge28_1, ge28_2⟩ := shape_Rule Re28
            have je28_0 := ge28_0; unfold I64 at je28_0
            have je28_1 := ge28_1; unfold I64 at je28_1
            have je28_2 := ge28_2; unfold I64 at je28_2
            refine dr_take (i := 5) (ls' := #[true, true, true, true, true, true, false, false, false, false, false, false, false, false, false, false, false]) HE108 HS98 rfl (by kernel_rfl) (by kernel_rfl) (by kernel_rfl) (fun _ _ _ h => h) rfl (wt0 rfl) (x_indexAddr ts_22 rfl rfl Ae28 rfl ke28) rfl rfl fun a_109 HE110 => ?_
            refine dr_take (i := 6) (ls' := #[true, true, true, true, true, true, true, false, false, false, false, false, false, false, false, false, false]) HE110 HS98 rfl (by kernel_rfl) (by kernel_rfl) (by kernel_rfl) (fun _ _ _ h => h) rfl (wt0 rfl) (x_loadN (cs := [.int .i64 (e28.1), .int .i64 (e28.2.1), .int .i64 (e28.2.2)]) tv_34 rfl rfl (c_oldN De28)) rfl rfl fun a_111 HE112 => ?_
            refine dr_take (i := 7) (ls' := #[true, true, true, true, true, true, true, true, false, false, false, false, false, false, false, false, false]) HE112 HS98 rfl (by kernel_rfl) (by kernel_rfl) (by kernel_rfl) (fun _ _ _ h => h) rfl (wt0 rfl) (x_move rfl) rfl rfl fun a_113 HE114 => ?_
            refine dr_take (i := 8) (ls' := #[true, true, true, true, true, true, true, true, true, false, false, false, false, false, false, false, false]) HE114 HS98 rfl (by kernel_rfl) (by kernel_rfl) (by kernel_rfl) (fun _ _ _ h => h) rfl (wt0 rfl) (x_nilCheck rfl) rfl rfl fun a_115 HE116 => ?_
            refine dr_take (i := 9) (ls' := #[true, true, true, true, true, true, true, true, true, true, false, false, false, false, false, false, false]) HE116 HS98 rfl (by kernel_rfl) (by kernel_rfl) (by kernel_rfl) (fun _ _ _ h => h) rfl (wt0 rfl) (x_fieldAddr fa_24_0 rfl) rfl rfl fun a_117 HE118 => ?_
            refine dr_take (i := 10) (ls' := #[true, true, true, true, true, true, true, true, true, true, true, false, false, false, false, false, false]) HE118 HS98 rfl (by kernel_rfl) (by kernel_rfl) (by kernel_rfl) (fun _ _ _ h => h) rfl (wt0 rfl) (x_load1 tv_2 rfl (c_old (hq0 0 _ rfl))) rfl rfl fun a_119 HE120 => ?_
            refine dr_take (i := 11) (ls' := #[true, true, true, true, true, true, true, true, true, true, true, true, false, false, false, false, false]) HE120 HS98 rfl (by kernel_rfl) (by kernel_rfl) (by kernel_rfl) (fun _ _ _ h => h) rfl (wt0 rfl) (x_move rfl) rfl rfl fun a_121 HE122 => ?_
            refine dr_take (i := 12) (ls' := #[true, true, true, true, true, true, true, true, true, true, true, true, true, false, false, false, false]) HE122 HS98 rfl (by kernel_rfl) (by kernel_rfl) (by kernel_rfl) (fun _ _ _ h => h) rfl (wt0 rfl) (x_nilCheck rfl) rfl rfl fun a_123 HE124 => ?_
            refine dr_take (i := 13) (ls' := #[true, true, true, true, true, true, true, true, true, true, true, true, true, true, false, false, false]) HE124 HS98 rfl (by kernel_rfl) (by kernel_rfl) (by kernel_rfl) (fun _ _ _ h => h) rfl (wt0 rfl) (x_fieldAddr fa_24_1 rfl) rfl rfl fun a_125 HE126 => ?_
            refine dr_take (i := 14) (ls' := #[true, true, true, true, true, true, true, true, true, true, true, true, true, true, true, false, false]) HE126 HS98 rfl (by kernel_rfl) (by kernel_rfl) (by kernel_rfl) (fun _ _ _ h => h) rfl (wt0 rfl) (x_load1 tv_2 rfl (c_old (hq0 1 _ rfl))) rfl rfl fun a_127 HE128 => ?_
            refine dr_one (i := 15) (ls' := #[true, true, true, true, true, true, true, true, true, true, true, true, true, true, true, true, false]) rfl (by kernel_rfl) rfl fun K_129 hK130 => ?_
            refine st_call HE128 (wt0 rfl) rfl rfl rfl en_38 rfl rfl (spec_l05Rule [.int .i64 (e28.1), .int .i64 (e28.2.1), .int .i64 (e28.2.2)] e28 a0.1 a0.2.1 _ (HH97.oldR Qe28) (by omega) (by omega)) fun e w' hr => ?_
            obtain ⟨rfl, hbr29⟩ := hr
            have HH131 := HH97.on hbr29
            refine ⟨_, rfl, fun a_132 HE133 => hK130 _ _ (by exact HH131.sel [] (by decide) rfl) ?_⟩
            have HS134 := HH131.sel [] (by decide) rfl
            refine dr_take (i := 16) (ls' := #[true, true, true, true, true, true, true, true, true, true, true, true, true, true, true, true, true]) HE133 HS134 rfl (by kernel_rfl) (by kernel_rfl) (by kernel_rfl) (fun _ _ _ h => h) rfl (wt0 rfl) (x_not rfl) rfl rfl fun a_135 HE136 => ?_
            refine dr_done (by kernel_rfl) ?_
            clear HH82 HS37 a_95 HE96 a_99 HE100 a_101 HE102 a_103 HE104 a_105 HE106 a_107 HE108 a_109 HE110 a_111 HE112 a_113 HE114 a_115 HE116 a_117 HE118 a_119 HE120 a_121 HE122 a_123 HE124 a_125 HE126 HH97 a_127 HE128 HS98 a_132 HE133 hK130 K_129
            refine nrm ?_
            refine cnd_nb HE136 rfl (fun hc30 => ?_) (fun hc30 => ?_)
            · refine wp_seq ?_
              refine rg ?_
              refine pl_x HE136 HH131 (wt0 rfl) (x_assign rfl) rfl rfl fun a_137 HE138 => ?_
              refine wpList_nil ?_
              clear a_135 HE136
              refine nrm ?_
              refine wp_ret ?_
              refine (blk_ret (thn_ret (thn_ret (blk_ret (thn_ret ?_)))))
              refine ret1 HE138 rfl (rv_tmp rfl) ?_
              have hF : (validMach a0) = false := by
                first | (simp [validMach, hc22, hc24, hc25, p26_0, p26_1, hc27, xe28, hc30]; done) | (unfold validMach; rw [any_hit (by omega : k < a0.2.2.length) (by rw [← xe28]; simp [hc30])]; simp; done) | (have hq := p26_1; rw [List.take_of_length_le (by omega)] at hq; unfold validMach; rw [hq]; grind) | (unfold validMach; grind)
              exact ⟨by first | (rw [hF] <;> rfl) | rfl | (rw [hF]; simp only [Ending.returned.injEq, Value.slice.injEq, true_and, and_true]; first | omega | (simp; done)) | (rw [hF]; simp; omega), HH131.below⟩
            · refine wp_skip ?_
              refine blk_n ?_
              refine nrm ?_
              refine rg ?_
              refine pl_x HE136 HH131 (wt0 rfl) (x_move rfl) rfl rfl fun a_139 HE140 => ?_
              refine pl_x HE140 HH131 (wt0 rfl) (x_add rfl rfl (by exact ⟨by omega, by omega⟩)) rfl rfl fun a_141 HE142 => ?_
              refine pl_x HE142 HH131 (wt0 rfl) (x_assign rfl) rfl rfl fun a_143 HE144 => ?_
              refine wpList_nil ?_
              clear a_135 HE136 a_139 HE140 a_141 HE142
              exact nrm ⟨a0.2.2.length - (k + 1), (by omega), k + 1, rfl, HE144.sub ⟨(lkI rfl (by first | rfl | omega | (simp [hc22, hc24, hc25, p26_0, p26_1, hc27, xe28, hc30]; done))), rfl, trivial⟩, (HH131.sel [] (by decide) rfl), (by first | omega | assumption | (simp; done) | simp_all), (by exact any_step (by omega) p26_1 (by rw [← xe28]; simp [hc30]))⟩
          · refine wp_exit ?_
            refine (thn_exit (thn_exit (blk_hit ?_)))
            refine nrm ?_
            refine wp_seq ?_
            refine rg ?_
            refine pl_x HE96 HH82 (wt0 rfl) (x_assign rfl) rfl rfl fun a_145 HE146 => ?_
            refine wpList_nil ?_
            clear a_95 HE96
            refine nrm ?_
            refine wp_ret ?_
            refine ret1 HE146 rfl (rv_tmp rfl) ?_
            have hF : (validMach a0) = true := by
              first | (simp [validMach, hc22, hc24, hc25, p26_0, p26_1, hc27]; done) | (unfold validMach; rw [any_hit (by omega : k < a0.2.2.length) (by rw [← xe0]; simp [hc27])]; simp; done) | (have hq := p26_1; rw [List.take_of_length_le (by omega)] at hq; unfold validMach; rw [hq]; grind) | (unfold validMach; grind)
            exact ⟨by first | (rw [hF] <;> rfl) | rfl | (rw [hF]; simp only [Ending.returned.injEq, Value.slice.injEq, true_and, and_true]; first | omega | (simp; done)) | (rw [hF]; simp; omega), HH82.below⟩
    · refine dr_takeNo (i := 15) (ls' := #[true, true, true, true, true, true, true, true, true, true, true, true, true, true, true, true, false, false, false, false, false, false, false, false, false, false, false, false, false, false, false]) HE43 HS37 rfl (by kernel_rfl) (by kernel_rfl) (by kernel_rfl) (fun _ _ _ h => h) rfl (wtF HE43 rfl rfl rfl (not_t hc24)) rfl rfl fun a_147 HE148 => ?_
      refine dr_takeNo (i := 16) (ls' := #[true, true, true, true, true, true, true, true, true, true, true, true, true, true, true, true, true, false, false, false, false, false, false, false, false, false, false, false, false, false, false]) HE148 HS37 rfl (by kernel_rfl) (by kernel_rfl) (by kernel_rfl) (fun _ _ _ h => h) rfl (wtF HE148 rfl rfl rfl (not_t hc24)) rfl rfl fun a_149 HE150 => ?_
      refine dr_takeNo (i := 17) (ls' := #[true, true, true, true, true, true, true, true, true, true, true, true, true, true, true, true, true, true, false, false, false, false, false, false, false, false, false, false, false, false, false]) HE150 HS37 rfl (by kernel_rfl) (by kernel_rfl) (by kernel_rfl) (fun _ _ _ h => h) rfl (wtF HE150 rfl rfl rfl (not_t hc24)) rfl rfl fun a_151 HE152 => ?_
      refine dr_takeNo (i := 18) (ls' := #[true, true, true, true, true, true, true, true, true, true, true, true, true, true, true, true, true, true, true, false, false, false, false, false, false, false, false, false, false, false, false]) HE152 HS37 rfl (by kernel_rfl) (by kernel_rfl) (by kernel_rfl) (fun _ _ _ h => h) rfl (wtF HE152 rfl rfl rfl (not_t hc24)) rfl rfl fun a_153 HE154 => ?_
      refine dr_takeNo (i := 19) (ls' := #[true, true, true, true, true, true, true, true, true, true, true, true, true, true, true, true, true, true, true, true, false, false, false, false, false, false, false, false, false, false, false]) HE154 HS37 rfl (by kernel_rfl) (by kernel_rfl) (by kernel_rfl) (fun _ _ _ h => h) rfl (wtF HE154 rfl rfl rfl (not_t hc24)) rfl rfl fun a_155 HE156 => ?_
      refine dr_takeNo (i := 20) (ls' := #[true, true, true, true, true, true, true, true, true, true, true, true, true, true, true, true, true, true, true, true, true, false, false, false, false, false, false, false, false, false, false]) HE156 HS37 rfl (by kernel_rfl) (by kernel_rfl) (by kernel_rfl) (fun _ _ _ h => h) rfl (wtF HE156 rfl rfl rfl (not_t hc24)) rfl rfl fun a_157 HE158 => ?_
      refine dr_takeNo (i := 21) (ls' := #[true, true, true, true, true, true, true, true, true, true, true, true, true, true, true, true, true, true, true, true, true, true, false, false, false, false, false, false, false, false, false]) HE158 HS37 rfl (by kernel_rfl) (by kernel_rfl) (by kernel_rfl) (fun _ _ _ h => h) rfl (wtF HE158 rfl rfl rfl (not_t hc24)) rfl rfl fun a_159 HE160 => ?_
      refine dr_takeNo (i := 22) (ls' := #[true, true, true, true, true, true, true, true, true, true, true, true, true, true, true, true, true, true, true, true, true, true, true, false, false, false, false, false, false, false, false]) HE160 HS37 rfl (by kernel_rfl) (by kernel_rfl) (by kernel_rfl) (fun _ _ _ h => h) rfl (wtF HE160 rfl rfl rfl (not_t hc24)) rfl rfl fun a_161 HE162 => ?_
      refine dr_takeNo (i := 23) (ls' := #[true, true, true, true, true, true, true, true, true, true, true, true, true, true, true, true, true, true, true, true, true, true, true, true, false, false, false, false, false, false, false]) HE162 HS37 rfl (by kernel_rfl) (by kernel_rfl) (by kernel_rfl) (fun _ _ _ h => h) rfl (wtF HE162 rfl rfl rfl (not_t hc24)) rfl rfl fun a_163 HE164 => ?_
      refine dr_takeNo (i := 24) (ls' := #[true, true, true, true, true, true, true, true, true, true, true, true, true, true, true, true, true, true, true, true, true, true, true, true, true, false, false, false, false, false, false]) HE164 HS37 rfl (by kernel_rfl) (by kernel_rfl) (by kernel_rfl) (fun _ _ _ h => h) rfl (wtF HE164 rfl rfl rfl (not_t hc24)) rfl rfl fun a_165 HE166 => ?_
      refine dr_takeNo (i := 25) (ls' := #[true, true, true, true, true, true, true, true, true, true, true, true, true, true, true, true, true, true, true, true, true, true, true, true, true, true, false, false, false, false, false]) HE166 HS37 rfl (by kernel_rfl) (by kernel_rfl) (by kernel_rfl) (fun _ _ _ h => h) rfl (wtF HE166 rfl rfl rfl (not_t hc24)) rfl rfl fun a_167 HE168 => ?_
      refine dr_takeNo (i := 26) (ls' := #[true, true, true, true, true, true, true, true, true, true, true, true, true, true, true, true, true, true, true, true, true, true, true, true, true, true, true, false, false, false, false]) HE168 HS37 rfl (by kernel_rfl) (by kernel_rfl) (by kernel_rfl) (fun _ _ _ h => h) rfl (wtF HE168 rfl rfl rfl (not_t hc24)) rfl rfl fun a_169 HE170 => ?_
      refine dr_takeNo (i := 27) (ls' := #[true, true, true, true, true, true, true, true, true, true, true, true, true, true, true, true, true, true, true, true, true, true, true, true, true, true, true, true, false, false, false]) HE170 HS37 rfl (by kernel_rfl) (by kernel_rfl) (by kernel_rfl) (fun _ _ _ h => h) rfl (wtF HE170 rfl rfl rfl (not_t hc24)) rfl rfl fun a_171 HE172 => ?_
      refine dr_takeNo (i := 28) (ls' := #[true, true, true, true, true, true, true, true, true, true, true, true, true, true, true, true, true, true, true, true, true, true, true, true, true, true, true, true, true, false, false]) HE172 HS37 rfl (by kernel_rfl) (by kernel_rfl) (by kernel_rfl) (fun _ _ _ h => h) rfl (wtF HE172 rfl rfl rfl (not_t hc24)) rfl rfl fun a_173 HE174 => ?_
      refine dr_takeNo (i := 29) (ls' := #[true, true, true, true, true, true, true, true, true, true, true, true, true, true, true, true, true, true, true, true, true, true, true, true, true, true, true, true, true, true, false]) HE174 HS37 rfl (by kernel_rfl) (by kernel_rfl) (by kernel_rfl) (fun _ _ _ h => h) rfl (wtF HE174 rfl rfl rfl (not_t hc24)) rfl rfl fun a_175 HE176 => ?_
      refine dr_take (i := 30) (ls' := #[true, true, true, true, true, true, true, true, true, true, true, true, true, true, true, true, true, true, true, true, true, true, true, true, true, true, true, true, true, true, true]) HE176 HS37 rfl (by kernel_rfl) (by kernel_rfl) (by kernel_rfl) (fun _ _ _ h => h) rfl (wt0 rfl) (x_pickT rfl (not_t hc24) rfl) rfl rfl fun a_177 HE178 => ?_
      refine dr_done (by kernel_rfl) ?_
      clear HH1 a_4 HE5 a_8 HE9 a_10 HE11 a_12 HE13 a_14 HE15 HS7 a_18 HE19 a_21 HE22 a_23 HE24 a_25 HE26 a_27 HE28 a_29 HE30 K_16 hK17 a_31 HE32 HS20 a_35 HE36 a_38 HE39 a_40 HE41 a_42 HE43 a_147 HE148 a_149 HE150 a_151 HE152 a_153 HE154 a_155 HE156 a_157 HE158 a_159 HE160 a_161 HE162 a_163 HE164 a_165 HE166 a_167 HE168 a_169 HE170 a_171 HE172 a_173 HE174 a_175 HE176 hK34 K_33
      refine nrm ?_
      refine cndT HE178 rfl rfl ?_
      refine wp_seq ?_
      refine rg ?_
      refine pl_x HE178 HH6 (wt0 rfl) (x_assign rfl) rfl rfl fun a_179 HE180 => ?_
      refine wpList_nil ?_
      clear a_177 HE178
      refine nrm ?_
      refine wp_ret ?_
      refine (thn_ret ?_)
      refine ret1 HE180 rfl (rv_tmp rfl) ?_
      have hF : (validMach a0) = false := by
        first | (simp [validMach, hc22, hc24]; done) | (unfold validMach; rw [any_hit (by omega : k < a0.2.2.length) (by rw [← xe0]; simp [hc24])]; simp; done) | (have hq := p0_1; rw [List.take_of_length_le (by omega)] at hq; unfold validMach; rw [hq]; grind) | (unfold validMach; grind)
      exact ⟨by first | (rw [hF] <;> rfl) | rfl | (rw [hF]; simp only [Ending.returned.injEq, Value.slice.injEq, true_and, and_true]; first | omega | (simp; done)) | (rw [hF]; simp; omega), HH6.below⟩
  · refine dr_takeNo (i := 7) (ls' := #[true, true, true, true, true, true, true, true, false, false, false, false, false, false, false, false, false, false, false, false, false, false, false, false, false, false, false, false, false, false, false]) HE24 HS20 rfl (by kernel_rfl) (by kernel_rfl) (by kernel_rfl) (fun _ _ _ h => h) rfl (wtF HE24 rfl rfl rfl (not_t hc22)) rfl rfl fun a_181 HE182 => ?_
    refine dr_takeNo (i := 8) (ls' := #[true, true, true, true, true, true, true, true, true, false, false, false, false, false, false, false, false, false, false, false, false, false, false, false, false, false, false, false, false, false, false]) HE182 HS20 rfl (by kernel_rfl) (by kernel_rfl) (by kernel_rfl) (fun _ _ _ h => h) rfl (wtF HE182 rfl rfl rfl (not_t hc22)) rfl rfl fun a_183 HE184 => ?_
    refine dr_takeNo (i := 9) (ls' := #[true, true, true, true, true, true, true, true, true, true, false, false, false, false, false, false, false, false, false, false, false, false, false, false, false, false, false, false, false, false, false]) HE184 HS20 rfl (by kernel_rfl) (by kernel_rfl) (by kernel_rfl) (fun _ _ _ h => h) rfl (wtF HE184 rfl rfl rfl (not_t hc22)) rfl rfl fun a_185 HE186 => ?_
    refine dr_takeNo (i := 10) (ls' := #[true, true, true, true, true, true, true, true, true, true, true, false, false, false, false, false, false, false, false, false, false, false, false, false, false, false, false, false, false, false, false]) HE186 HS20 rfl (by kernel_rfl) (by kernel_rfl) (by kernel_rfl) (fun _ _ _ h => h) rfl (wtF HE186 rfl rfl rfl (not_t hc22)) rfl rfl fun a_187 HE188 => ?_
    refine dr_takeNo (i := 11) (ls' := #[true, true, true, true, true, true, true, true, true, true, true, true, false, false, false, false, false, false, false, false, false, false, false, false, false, false, false, false, false, false, false]) HE188 HS20 rfl (by kernel_rfl) (by kernel_rfl) (by kernel_rfl) (fun _ _ _ h => h) rfl (wtF HE188 rfl rfl rfl (not_t hc22)) rfl rfl fun a_189 HE190 => ?_
    refine dr_takeNo (i := 12) (ls' := #[true, true, true, true, true, true, true, true, true, true, true, true, true, false, false, false, false, false, false, false, false, false, false, false, false, false, false, false, false, false, false]) HE190 HS20 rfl (by kernel_rfl) (by kernel_rfl) (by kernel_rfl) (fun _ _ _ h => h) rfl (wtF HE190 rfl rfl rfl (not_t hc22)) rfl rfl fun a_191 HE192 => ?_
    refine dr_take (i := 13) (ls' := #[true, true, true, true, true, true, true, true, true, true, true, true, true, true, false, false, false, false, false, false, false, false, false, false, false, false, false, false, false, false, false]) HE192 HS20 rfl (by kernel_rfl) (by kernel_rfl) (by kernel_rfl) (fun _ _ _ h => h) rfl (wt0 rfl) (x_pickT rfl (not_t hc22) rfl) rfl rfl fun a_193 HE194 => ?_
    refine dr_take (i := 14) (ls' := #[true, true, true, true, true, true, true, true, true, true, true, true, true, true, true, false, false, false, false, false, false, false, false, false, false, false, false, false, false, false, false]) HE194 HS20 rfl (by kernel_rfl) (by kernel_rfl) (by kernel_rfl) (fun _ _ _ h => h) rfl (wt0 rfl) (x_move rfl) rfl rfl fun a_195 HE196 => ?_
    refine dr_takeNo (i := 15) (ls' := #[true, true, true, true, true, true, true, true, true, true, true, true, true, true, true, true, false, false, false, false, false, false, false, false, false, false, false, false, false, false, false]) HE196 HS20 rfl (by kernel_rfl) (by kernel_rfl) (by kernel_rfl) (fun _ _ _ h => h) rfl (wtF HE196 rfl rfl rfl rfl) rfl rfl fun a_197 HE198 => ?_
    refine dr_takeNo (i := 16) (ls' := #[true, true, true, true, true, true, true, true, true, true, true, true, true, true, true, true, true, false, false, false, false, false, false, false, false, false, false, false, false, false, false]) HE198 HS20 rfl (by kernel_rfl) (by kernel_rfl) (by kernel_rfl) (fun _ _ _ h => h) rfl (wtF HE198 rfl rfl rfl rfl) rfl rfl fun a_199 HE200 => ?_
    refine dr_takeNo (i := 17) (ls' := #[true, true, true, true, true, true, true, true, true, true, true, true, true, true, true, true, true, true, false, false, false, false, false, false, false, false, false, false, false, false, false]) HE200 HS20 rfl (by kernel_rfl) (by kernel_rfl) (by kernel_rfl) (fun _ _ _ h => h) rfl (wtF HE200 rfl rfl rfl rfl) rfl rfl fun a_201 HE202 => ?_
    refine dr_takeNo (i := 18) (ls' := #[true, true, true, true, true, true, true, true, true, true, true, true, true, true, true, true, true, true, true, false, false, false, false, false, false, false, false, false, false, false, false]) HE202 HS20 rfl (by kernel_rfl) (by kernel_rfl) (by kernel_rfl) (fun _ _ _ h => h) rfl (wtF HE202 rfl rfl rfl rfl) rfl rfl fun a_203 HE204 => ?_
    refine dr_takeNo (i := 19) (ls' := #[true, true, true, true, true, true, true, true, true, true, true, true, true, true, true, true, true, true, true, true, false, false, false, false, false, false, false, false, false, false, false]) HE204 HS20 rfl (by kernel_rfl) (by kernel_rfl) (by kernel_rfl) (fun _ _ _ h => h) rfl (wtF HE204 rfl rfl rfl rfl) rfl rfl fun a_205 HE206 => ?_
    refine dr_takeNo (i := 20) (ls' := #[true, true, true, true, true, true, true, true, true, true, true, true, true, true, true, true, true, true, true, true, true, false, false, false, false, false, false, false, false, false, false]) HE206 HS20 rfl (by kernel_rfl) (by kernel_rfl) (by kernel_rfl) (fun _ _ _ h => h) rfl (wtF HE206 rfl rfl rfl rfl) rfl rfl fun a_207 HE208 => ?_
    refine dr_takeNo (i := 21) (ls' := #[true, true, true, true, true, true, true, true, true, true, true, true, true, true, true, true, true, true, true, true, true, true, false, false, false, false, false, false, false, false, false]) HE208 HS20 rfl (by kernel_rfl) (by kernel_rfl) (by kernel_rfl) (fun _ _ _ h => h) rfl (wtF HE208 rfl rfl rfl rfl) rfl rfl fun a_209 HE210 => ?_
    refine dr_takeNo (i := 22) (ls' := #[true, true, true, true, true, true, true, true, true, true, true, true, true, true, true, true, true, true, true, true, true, true, true, false, false, false, false, false, false, false, false]) HE210 HS20 rfl (by kernel_rfl) (by kernel_rfl) (by kernel_rfl) (fun _ _ _ h => h) rfl (wtF HE210 rfl rfl rfl rfl) rfl rfl fun a_211 HE212 => ?_
    refine dr_takeNo (i := 23) (ls' := #[true, true, true, true, true, true, true, true, true, true, true, true, true, true, true, true, true, true, true, true, true, true, true, true, false, false, false, false, false, false, false]) HE212 HS20 rfl (by kernel_rfl) (by kernel_rfl) (by kernel_rfl) (fun _ _ _ h => h) rfl (wtF HE212 rfl rfl rfl rfl) rfl rfl fun a_213 HE214 => ?_
    refine dr_takeNo (i := 24) (ls' := #[true, true, true, true, true, true, true, true, true, true, true, true, true, true, true, true, true, true, true, true, true, true, true, true, true, false, false, false, false, false, false]) HE214 HS20 rfl (by kernel_rfl) (by kernel_rfl) (by kernel_rfl) (fun _ _ _ h => h) rfl (wtF HE214 rfl rfl rfl rfl) rfl rfl fun a_215 HE216 => ?_
    refine dr_takeNo (i := 25) (ls' := #[true, true, true, true, true, true, true, true, true, true, true, true, true, true, true, true, true, true, true, true, true, true, true, true, true, true, false, false, false, false, false]) HE216 HS20 rfl (by kernel_rfl) (by kernel_rfl) (by kernel_rfl) (fun _ _ _ h => h) rfl (wtF HE216 rfl rfl rfl rfl) rfl rfl fun a_217 HE218 => ?_
    refine dr_takeNo (i := 26) (ls' := #[true, true, true, true, true, true, true, true, true, true, true, true, true, true, true, true, true, true, true, true, true, true, true, true, true, true, true, false, false, false, false]) HE218 HS20 rfl (by kernel_rfl) (by kernel_rfl) (by kernel_rfl) (fun _ _ _ h => h) rfl (wtF HE218 rfl rfl rfl rfl) rfl rfl fun a_219 HE220 => ?_
    refine dr_takeNo (i := 27) (ls' := #[true, true, true, true, true, true, true, true, true, true, true, true, true, true, true, true, true, true, true, true, true, true, true, true, true, true, true, true, false, false, false]) HE220 HS20 rfl (by kernel_rfl) (by kernel_rfl) (by kernel_rfl) (fun _ _ _ h => h) rfl (wtF HE220 rfl rfl rfl rfl) rfl rfl fun a_221 HE222 => ?_
    refine dr_takeNo (i := 28) (ls' := #[true, true, true, true, true, true, true, true, true, true, true, true, true, true, true, true, true, true, true, true, true, true, true, true, true, true, true, true, true, false, false]) HE222 HS20 rfl (by kernel_rfl) (by kernel_rfl) (by kernel_rfl) (fun _ _ _ h => h) rfl (wtF HE222 rfl rfl rfl rfl) rfl rfl fun a_223 HE224 => ?_
    refine dr_takeNo (i := 29) (ls' := #[true, true, true, true, true, true, true, true, true, true, true, true, true, true, true, true, true, true, true, true, true, true, true, true, true, true, true, true, true, true, false]) HE224 HS20 rfl (by kernel_rfl) (by kernel_rfl) (by kernel_rfl) (fun _ _ _ h => h) rfl (wtF HE224 rfl rfl rfl rfl) rfl rfl fun a_225 HE226 => ?_
    refine dr_take (i := 30) (ls' := #[true, true, true, true, true, true, true, true, true, true, true, true, true, true, true, true, true, true, true, true, true, true, true, true, true, true, true, true, true, true, true]) HE226 HS20 rfl (by kernel_rfl) (by kernel_rfl) (by kernel_rfl) (fun _ _ _ h => h) rfl (wt0 rfl) (x_pickT rfl rfl rfl) rfl rfl fun a_227 HE228 => ?_
    refine dr_done (by kernel_rfl) ?_
    clear HH1 a_4 HE5 a_8 HE9 a_10 HE11 a_12 HE13 a_14 HE15 HS7 a_18 HE19 a_21 HE22 a_23 HE24 a_181 HE182 a_183 HE184 a_185 HE186 a_187 HE188 a_189 HE190 a_191 HE192 a_193 HE194 a_195 HE196 a_197 HE198 a_199 HE200 a_201 HE202 a_203 HE204 a_205 HE206 a_207 HE208 a_209 HE210 a_211 HE212 a_213 HE214 a_215 HE216 a_217 HE218 a_219 HE220 a_221 HE222 a_223 HE224 a_225 HE226 hK17 K_16
    refine nrm ?_
    refine cndT HE228 rfl rfl ?_
    refine wp_seq ?_
    refine rg ?_
    refine pl_x HE228 HH6 (wt0 rfl) (x_assign rfl) rfl rfl fun a_229 HE230 => ?_
    refine wpList_nil ?_
    clear a_227 HE228
    refine nrm ?_
    refine wp_ret ?_
    refine (thn_ret ?_)
    refine ret1 HE230 rfl (rv_tmp rfl) ?_
    have hF : (validMach a0) = false := by
      first | (simp [validMach, hc22]; done) | (unfold validMach; rw [any_hit (by omega : k < a0.2.2.length) (by rw [← xe0]; simp [hc22])]; simp; done) | (have hq := p0_1; rw [List.take_of_length_le (by omega)] at hq; unfold validMach; rw [hq]; grind) | (unfold validMach; grind)
    exact ⟨by first | (rw [hF] <;> rfl) | rfl | (rw [hF]; simp only [Ending.returned.injEq, Value.slice.injEq, true_and, and_true]; first | omega | (simp; done)) | (rw [hF]; simp; omega), HH6.below⟩

theorem itoa_one {x : Int} (h : 0 ≤ x ∧ x ≤ 9) : Go.Lib.itoa x = [UInt8.ofNat (48 + x).toNat] := by
  unfold Go.Lib.itoa
  rw [if_neg (by omega), Go.Lib.decDigits, dif_pos (by omega), show (48 + x).toNat = 48 + x.toNat from by omega]

open Go.Lib in
def isDg (c : UInt8) : Bool := decide (48 ≤ c.toNat) && decide (c.toNat ≤ 57)

open Go.Lib in
def dgv (c : UInt8) : Nat := c.toNat - 48

open Go.Lib in
/-- What digits spell, on from acc. -/
def valD (acc : Nat) (l : List UInt8) : Nat := l.foldl (fun a c => a * 10 + dgv c) acc

open Go.Lib in
theorem valD_cons (acc : Nat) (c : UInt8) (r : List UInt8) : valD acc (c :: r) = valD (acc * 10 + dgv c) r := by unfold valD; rw [List.foldl_cons]

open Go.Lib in
theorem valD_nil (acc : Nat) : valD acc [] = acc := by unfold valD; rw [List.foldl_nil]

open Go.Lib in
theorem valD_snoc (l : List UInt8) (c : UInt8) (acc : Nat) : valD acc (l ++ [c]) = valD acc l * 10 + dgv c := by
  unfold valD; rw [List.foldl_append, List.foldl_cons, List.foldl_nil]

open Go.Lib in
theorem dgv_def (c : UInt8) : dgv c = c.toNat - 48 := rfl

open Go.Lib in
theorem valD_one (c : UInt8) : valD 0 [c] = c.toNat - 48 := by rw [valD_cons, valD_nil, dgv_def]; omega

open Go.Lib in
theorem valD_ge (l : List UInt8) : ∀ acc : Nat, acc ≤ valD acc l := by
  induction l with
  | nil => intro acc; rw [valD_nil]; exact Nat.le_refl _
  | cons c l ih => intro acc; rw [valD_cons]; exact Nat.le_trans (by omega) (ih _)

open Go.Lib in
theorem val_arith {a d p v : Nat} (hd : d ≤ 57) (h1 : v < (a * 10 + (d - 48) + 1) * p) : v < (a + 1) * (p * 10) := by
  refine Nat.lt_of_lt_of_le h1 ?_
  rw [Nat.mul_comm p 10, ← Nat.mul_assoc]
  exact Nat.mul_le_mul_right _ (by omega)

open Go.Lib in
theorem isDg_iff {c : UInt8} : isDg c = true ↔ 48 ≤ c.toNat ∧ c.toNat ≤ 57 := by unfold isDg; simp

open Go.Lib in
theorem valD_lt (l : List UInt8) : ∀ acc : Nat, l.all isDg = true → valD acc l < (acc + 1) * 10 ^ l.length := by
  induction l with
  | nil => intro acc _; rw [List.length_nil, Nat.pow_zero, Nat.mul_one, valD_nil]; exact Nat.lt_succ_self _
  | cons c l ih =>
    intro acc h
    rw [List.all_cons, Bool.and_eq_true] at h
    rw [List.length_cons, Nat.pow_succ, valD_cons]
    exact val_arith (isDg_iff.1 h.1).2 (ih _ h.2)

open Go.Lib in
theorem dec_val : ∀ (n : Nat) (l : List UInt8), l.length = n → l ≠ [] → l.all isDg = true → (l.head? = some 48 → l.length = 1) → decDigits (valD 0 l) = l
  | 0, l, hl, hn, _, _ => absurd (List.eq_nil_of_length_eq_zero hl) hn
  | n + 1, l, hl, hn, hd, h0 => by
    obtain ⟨q, c, rfl⟩ : ∃ q c, l = q ++ [c] := ⟨l.dropLast, l.getLast hn, (List.dropLast_concat_getLast hn).symm⟩
    rw [List.all_append, Bool.and_eq_true] at hd
    have hc : 48 ≤ c.toNat ∧ c.toNat ≤ 57 := by have := hd.2; rw [List.all_cons, List.all_nil, Bool.and_true] at this; exact isDg_iff.1 this
    have hcc : UInt8.ofNat (48 + (c.toNat - 48)) = c := by rw [show 48 + (c.toNat - 48) = c.toNat from by omega]; simp
    rw [valD_snoc, dgv_def]
    by_cases hq : q = []
    · subst hq
      have e0 : valD 0 ([] : List UInt8) * 10 + (c.toNat - 48) = c.toNat - 48 := by rw [valD_nil]; omega
      rw [e0, decDigits, dif_pos (by omega), hcc, List.nil_append]
    · have hq1 : q.head? ≠ some 48 := by
        intro e
        have := h0 (by cases q with | nil => exact absurd rfl hq | cons _ _ => simpa using e)
        rw [List.length_append] at this
        have : q.length = 0 := by simp at this; exact absurd this hq
        exact hq (List.eq_nil_of_length_eq_zero this)
      have ih := dec_val n q (by rw [List.length_append] at hl; simp at hl; omega) hq hd.1 (fun e => absurd e hq1)
      have hpos : 1 ≤ valD 0 q := by
        cases q with
        | nil => exact absurd rfl hq
        | cons d q =>
          have hd1 := hd.1
          rw [List.all_cons, Bool.and_eq_true] at hd1
          have hdd : 48 ≤ d.toNat ∧ d.toNat ≤ 57 := isDg_iff.1 hd1.1
          have hne : d ≠ 48 := fun e => hq1 (by rw [e]; rfl)
          have hne2 : d.toNat ≠ 48 := fun e => hne (UInt8.toNat_inj.1 e)
          rw [valD_cons, dgv_def]
          exact Nat.le_trans (by omega) (valD_ge q _)
      rw [decDigits, dif_neg (by omega), show (valD 0 q * 10 + (c.toNat - 48)) / 10 = valD 0 q from by omega, show (valD 0 q * 10 + (c.toNat - 48)) % 10 = c.toNat - 48 from by omega, ih, hcc]

open Go.Lib in
theorem dec_dig (n : Nat) : (decDigits n).all isDg = true ∧ decDigits n ≠ [] ∧ valD 0 (decDigits n) = n ∧ ((decDigits n).head? = some 48 → n = 0) := by
  induction n using Nat.strongRecOn with
  | _ n ih =>
    by_cases h : n < 10
    · rw [decDigits, dif_pos h]
      have e : (UInt8.ofNat (48 + n)).toNat = 48 + n := by simp; omega
      refine ⟨by rw [List.all_cons, List.all_nil, Bool.and_true]; exact isDg_iff.2 (by rw [e]; omega), by simp, by rw [valD_one, e]; omega, ?_⟩
      intro h2
      simp only [List.head?_cons, Option.some.injEq] at h2
      have := congrArg UInt8.toNat h2
      rw [e] at this
      have h3 : (48 : UInt8).toNat = 48 := rfl
      omega
    · obtain ⟨h1, h2, h3, h4⟩ := ih (n / 10) (by omega)
      rw [decDigits, dif_neg h]
      have e : (UInt8.ofNat (48 + n % 10)).toNat = 48 + n % 10 := by simp; omega
      refine ⟨by rw [List.all_append, h1, List.all_cons, List.all_nil, Bool.and_true, Bool.true_and]; exact isDg_iff.2 (by rw [e]; omega), by simp, by rw [valD_snoc, h3, dgv_def, e]; omega, ?_⟩
      intro h5
      have h6 : (decDigits (n / 10)).head? = some 48 := by
        cases hq : decDigits (n / 10) with
        | nil => exact absurd hq h2
        | cons a b => rw [hq] at h5; exact h5
      have := h4 h6
      omega

open Go.Lib in
theorem parse_dig (M : Nat) (l : List UInt8) : ∀ acc : Nat, l.all isDg = true → valD acc l ≤ M → valD acc l < 18446744073709551615 → parseUintM M acc l = .ok (valD acc l) := by
  induction l with
  | nil => intro acc _ _ _; rw [valD_nil, parseUintM]
  | cons c l ih =>
    intro acc h h1 h2
    rw [List.all_cons, Bool.and_eq_true] at h
    have hc := isDg_iff.1 h.1
    have hg := valD_ge l (acc * 10 + dgv c)
    rw [valD_cons] at h1 h2 ⊢
    have hd := dgv_def c
    rw [parseUintM, if_pos hc, ← hd, if_neg (by omega), if_neg (by omega)]
    exact ih _ h.2 h1 h2

open Go.Lib in
/-- The part of a numeral behind its sign. -/
def unsg (s : List UInt8) : List UInt8 := if s.head? = some 45 then s.tail else s

open Go.Lib in
/-- A numeral of at most 18 digits, in its one form. -/
def okNum (s : List UInt8) : Bool := decide (unsg s ≠ []) && decide ((unsg s).length ≤ 18) && (unsg s).all isDg && !(decide ((unsg s).head? = some 48) && decide (1 < s.length))

open Go.Lib in
def numOf (s : List UInt8) : Int := if s.head? = some 45 then -(valD 0 (unsg s) : Int) else (valD 0 (unsg s) : Int)

open Go.Lib in
def numC (s : List UInt8) : Int × Bool := if okNum s = true then (numOf s, true) else (0, false)

open Go.Lib in
/-- The program's way. -/
def numR (s : List UInt8) : Int × Bool :=
  match parseIntB 64 s with
  | .ok v => if itoa v = s ∧ (unsg s).length ≤ 18 then (v, true) else (0, false)
  | _ => (0, false)

open Go.Lib in
theorem okNum_iff (s : List UInt8) : okNum s = true ↔ unsg s ≠ [] ∧ (unsg s).length ≤ 18 ∧ (unsg s).all isDg = true ∧ ¬ ((unsg s).head? = some 48 ∧ 1 < s.length) := by
  unfold okNum
  simp only [Bool.and_eq_true, decide_eq_true_eq, Bool.not_eq_true', Bool.and_eq_false_iff, decide_eq_false_iff_not]
  constructor
  · rintro ⟨⟨⟨h1, h2⟩, h3⟩, h4⟩; exact ⟨h1, h2, h3, fun ⟨a, b⟩ => h4.elim (fun h => h a) (fun h => h b)⟩
  · rintro ⟨h1, h2, h3, h4⟩
    refine ⟨⟨⟨h1, h2⟩, h3⟩, ?_⟩
    by_cases a : (unsg s).head? = some 48
    · exact .inr fun b => h4 ⟨a, b⟩
    · exact .inl a

open Go.Lib in
theorem dig_head {l : List UInt8} (h : l.all isDg = true) : l.head? ≠ some 45 := by
  cases l with
  | nil => simp
  | cons c l =>
    rw [List.all_cons, Bool.and_eq_true] at h
    intro e
    simp only [List.head?_cons, Option.some.injEq] at e
    have := h.1
    rw [e] at this
    exact absurd this (by decide)

open Go.Lib in
/-- The one form of a number has it again. -/
theorem okNum_itoa {v : Int} (h : -1000000000000000000 < v ∧ v < 1000000000000000000) : okNum (itoa v) = true ∧ numOf (itoa v) = v := by
  have key : ∀ n : Nat, n < 1000000000000000000 → (decDigits n).length ≤ 18 := by
    intro n hn
    rw [decDigits_length]
    exact nDigits_le 17 n (by simpa using hn)
  by_cases hv : v < 0
  · obtain ⟨h1, h2, h3, h4⟩ := dec_dig v.natAbs
    have e : itoa v = 45 :: decDigits v.natAbs := by unfold itoa; rw [if_pos hv]
    rw [e]
    have eu : unsg (45 :: decDigits v.natAbs) = decDigits v.natAbs := rfl
    refine ⟨(okNum_iff _).2 ?_, ?_⟩
    · rw [eu]
      exact ⟨h2, key _ (by omega), h1, fun hq => by have := h4 hq.1; omega⟩
    · unfold numOf
      rw [eu, List.head?_cons, if_pos rfl, h3]; omega
  · obtain ⟨h1, h2, h3, h4⟩ := dec_dig v.toNat
    have e : itoa v = decDigits v.toNat := by unfold itoa; rw [if_neg hv]
    rw [e]
    have eu : unsg (decDigits v.toNat) = decDigits v.toNat := by unfold unsg; rw [if_neg (dig_head h1)]
    refine ⟨(okNum_iff _).2 ?_, ?_⟩
    · rw [eu]
      refine ⟨h2, key _ (by omega), h1, fun hq => ?_⟩
      have h5 := h4 hq.1
      rw [h5] at hq
      rw [decDigits, dif_pos (by omega)] at hq
      exact absurd hq.2 (by simp)
    · unfold numOf
      rw [eu, if_neg (dig_head h1), h3]; omega

open Go.Lib in
theorem itoa_num {s : List UInt8} (h : okNum s = true) : itoa (numOf s) = s ∧ -1000000000000000000 < numOf s ∧ numOf s < 1000000000000000000 := by
  obtain ⟨h1, h2, h3, h4⟩ := (okNum_iff s).1 h
  have hb := valD_lt (unsg s) 0 h3
  have hb2 : valD 0 (unsg s) < 1000000000000000000 := by
    refine Nat.lt_of_lt_of_le hb ?_
    have := Nat.pow_le_pow_right (n := 10) (by omega) h2
    omega
  by_cases hs : s.head? = some 45
  · have eu : unsg s = s.tail := by unfold unsg; rw [if_pos hs]
    have es : s = 45 :: s.tail := by cases s with | nil => cases hs | cons c r => simp at hs; rw [hs]; rfl
    have hl : 1 < s.length := by rw [es]; rw [eu] at h1; cases hq : s.tail with | nil => exact absurd hq h1 | cons _ _ => simp
    have hne : ¬ (unsg s).head? = some 48 := fun e => h4 ⟨e, hl⟩
    have hd := dec_val _ (unsg s) rfl h1 h3 (fun e => absurd e hne)
    have hpos : valD 0 (unsg s) ≠ 0 := by
      intro e0
      rw [e0] at hd
      have : decDigits 0 = [48] := by rw [decDigits, dif_pos (by omega)]; rfl
      rw [this] at hd
      exact hne (by rw [← hd]; rfl)
    unfold numOf
    rw [if_pos hs]
    refine ⟨?_, by omega, by omega⟩
    unfold itoa
    rw [if_pos (by omega), show (-(valD 0 (unsg s) : Int)).natAbs = valD 0 (unsg s) from by omega, hd, eu]
    exact es.symm
  · have eu : unsg s = s := by unfold unsg; rw [if_neg hs]
    have hd := dec_val _ (unsg s) rfl h1 h3 (fun e => by
      rw [eu] at e ⊢
      rcases Nat.lt_or_ge 1 s.length with hl | hl
      · exact absurd ⟨by rw [eu]; exact e, hl⟩ h4
      · have : s.length ≠ 0 := fun e0 => h1 (by rw [eu]; exact List.eq_nil_of_length_eq_zero e0)
        omega)
    unfold numOf
    rw [if_neg hs]
    refine ⟨?_, by omega, by omega⟩
    unfold itoa
    rw [if_neg (by omega), Int.toNat_natCast, hd, eu]

open Go.Lib in
theorem parse_num {s : List UInt8} (h : okNum s = true) : parseIntB 64 s = .ok (numOf s) := by
  obtain ⟨h1, h2, h3, h4⟩ := (okNum_iff s).1 h
  have hb := valD_lt (unsg s) 0 h3
  have hb2 : valD 0 (unsg s) < 1000000000000000000 := by
    refine Nat.lt_of_lt_of_le hb ?_
    have := Nat.pow_le_pow_right (n := 10) (by omega) h2
    omega
  have hp : parseUintB 64 (unsg s) = .ok (valD 0 (unsg s)) := by
    unfold parseUintB
    rw [if_neg h1]
    exact parse_dig _ _ 0 h3 (by omega) (by omega)
  by_cases hs : s.head? = some 45
  · have eu : unsg s = s.tail := by unfold unsg; rw [if_pos hs]
    have es : s = 45 :: s.tail := by cases s with | nil => cases hs | cons c r => simp at hs; rw [hs]; rfl
    rw [eu] at hp hb2
    unfold numOf
    rw [if_pos hs, eu]
    conv => lhs; rw [es]
    rw [parseIntB_minus, hp, signedC, if_neg (by omega)]
  · have eu : unsg s = s := by unfold unsg; rw [if_neg hs]
    rw [eu] at hp hb2 h1 h3
    unfold numOf
    rw [if_neg hs, eu]
    cases s with
    | nil => exact absurd rfl h1
    | cons c r =>
      rw [List.all_cons, Bool.and_eq_true] at h3
      have hc : 48 ≤ c.toNat ∧ c.toNat ≤ 57 := isDg_iff.1 h3.1
      rw [parseIntB_plain 64 c r (by omega) (by omega), hp, signlessC, if_neg (by omega)]

open Go.Lib in
theorem numR_eq (s : List UInt8) : numR s = numC s := by
  unfold numC
  by_cases h : okNum s = true
  · rw [if_pos h]
    unfold numR
    rw [parse_num h]
    exact if_pos ⟨(itoa_num h).1, ((okNum_iff s).1 h).2.1⟩
  · rw [if_neg h]
    unfold numR
    split
    · rename_i v hv
      rw [if_neg]
      rintro ⟨h1, h2⟩
      have hb := parseIntB_bounds hv
      apply h
      have hsm : -1000000000000000000 < v ∧ v < 1000000000000000000 := by
        have hk : ∀ n : Nat, (decDigits n).length ≤ 18 → n < 1000000000000000000 := by
          intro n hn
          rw [decDigits_length] at hn
          have := lt_pow_nDigits n
          have h5 := Nat.pow_le_pow_right (n := 10) (by omega) hn
          omega
        by_cases hv0 : v < 0
        · have e : itoa v = 45 :: decDigits v.natAbs := by unfold itoa; rw [if_pos hv0]
          have : unsg s = decDigits v.natAbs := by rw [← h1, e]; rfl
          rw [this] at h2
          have := hk _ h2
          omega
        · have e : itoa v = decDigits v.toNat := by unfold itoa; rw [if_neg hv0]
          have : unsg s = decDigits v.toNat := by rw [← h1, e]; unfold unsg; rw [if_neg (dig_head (dec_dig _).1)]
          rw [this] at h2
          have := hk _ h2
          omega
      rw [← h1]
      exact (okNum_itoa hsm).1
    · rfl

open Go.Lib in
/-- A text divided at each byte c. -/
def splitR (c : UInt8) : List UInt8 → List (List UInt8)
  | [] => [[]]
  | b :: l => if b = c then [] :: splitR c l else match splitR c l with
    | p :: r => (b :: p) :: r
    | [] => [[b]]

open Go.Lib in
theorem splitR_nil (c : UInt8) : splitR c [] = [[]] := by rw [splitR]

open Go.Lib in
theorem splitR_eq (c : UInt8) (l : List UInt8) : splitR c (c :: l) = [] :: splitR c l := by rw [splitR, if_pos rfl]

open Go.Lib in
theorem splitR_ne {b c : UInt8} (h : ¬ b = c) {l p : List UInt8} {r : List (List UInt8)} (e : splitR c l = p :: r) : splitR c (b :: l) = (b :: p) :: r := by rw [splitR, if_neg h, e]

open Go.Lib in
theorem splitR_some (c : UInt8) (l : List UInt8) : ∃ p r, splitR c l = p :: r := by
  cases l with
  | nil => exact ⟨_, _, splitR_nil c⟩
  | cons b l =>
    by_cases h : b = c
    · subst h; exact ⟨_, _, splitR_eq b l⟩
    · rw [splitR, if_neg h]
      split
      · exact ⟨_, _, rfl⟩
      · exact ⟨_, _, rfl⟩

open Go.Lib in
theorem index_one_ne {b c : UInt8} (l : List UInt8) (h : ¬ b = c) : index (b :: l) [c] = if index l [c] == -1 then -1 else index l [c] + 1 := by
  have hp : ([c] : List UInt8).isPrefixOf (b :: l) = false := by simp [List.isPrefixOf]; exact fun e => h e.symm
  rw [index, hp]; simp

open Go.Lib in
theorem index_one_eq (c : UInt8) (l : List UInt8) : index (c :: l) [c] = 0 := by rw [index]; simp [List.isPrefixOf]

open Go.Lib in
theorem split_one (c : UInt8) : ∀ s : List UInt8, splitK [c] 0 (count s [c]) s = splitR c s
  | [] => by rw [count_miss (by simp [index]), splitR_nil]; rfl
  | b :: l => by
    have ih := split_one c l
    by_cases h : b = c
    · subst h
      rw [count_cons_eq, Nat.add_comm, splitK, if_neg (by rw [index_one_eq]; decide), index_one_eq, splitR_eq, ← ih]
      simp
    · rw [count_cons_ne b c l h]
      cases hk : count l [c] with
      | zero =>
        rw [hk] at ih
        have e : splitR c l = l :: [] := by rw [← ih]; rfl
        rw [splitR_ne h e]; rfl
      | succ k =>
        rw [hk] at ih
        obtain ⟨j, hj⟩ := index_of_count (s := l) (old := [c]) (by omega)
        have hm : ¬ (index l [c] == -1) = true := by rw [hj]; intro e; have := beq_iff_eq.1 e; omega
        rw [splitK, if_neg hm, hj] at ih
        have hj2 : index (b :: l) [c] = ((j + 1 : Nat) : Int) := by rw [index_one_ne l h, if_neg hm, hj]; omega
        rw [splitR_ne h ih.symm, splitK, if_neg (by rw [hj2]; intro e; have := beq_iff_eq.1 e; omega), hj2]
        simp

open Go.Lib in
theorem splitR_no {c : UInt8} : ∀ {l : List UInt8}, c ∉ l → splitR c l = [l]
  | [], _ => splitR_nil c
  | b :: l, h => by
    have h1 := splitR_no (c := c) (l := l) fun hm => h (List.mem_cons_of_mem _ hm)
    exact splitR_ne (fun e => h (by rw [e]; exact List.mem_cons_self)) h1

open Go.Lib in
theorem splitR_app {c : UInt8} {r : List UInt8} : ∀ {p : List UInt8}, c ∉ p → splitR c (p ++ c :: r) = p :: splitR c r
  | [], _ => splitR_eq c r
  | b :: l, h => splitR_ne (fun e => h (by rw [e]; exact List.mem_cons_self)) (splitR_app (p := l) fun hm => h (List.mem_cons_of_mem _ hm))

open Go.Lib in
/-- Pieces without c, joined by c, are divided into themselves. -/
theorem splitR_join {c : UInt8} {x : List UInt8} : ∀ {r : List (List UInt8)}, (∀ p ∈ x :: r, c ∉ p) → splitR c (join (x :: r) [c]) = x :: r
  | [], h => by rw [join_one]; exact splitR_no (h x (by simp))
  | y :: r, h => by
    have ih := splitR_join (x := y) (r := r) fun p hp => h p (List.mem_cons_of_mem _ hp)
    have e : join (x :: y :: r) [c] = x ++ c :: join (y :: r) [c] := by rw [join_cons, join_cons]; simp [joinTail]
    rw [e, splitR_app (h x (by simp)), ih]

open Go.Lib in
/-- .. and the other way. -/
theorem join_splitR (c : UInt8) : ∀ l : List UInt8, join (splitR c l) [c] = l ∧ ∀ p ∈ splitR c l, c ∉ p
  | [] => by rw [splitR_nil]; exact ⟨join_one _ _, by simp⟩
  | b :: l => by
    obtain ⟨h1, h2⟩ := join_splitR c l
    obtain ⟨p, r, e⟩ := splitR_some c l
    by_cases h : b = c
    · subst h
      rw [splitR_eq]
      refine ⟨?_, fun q hq => ?_⟩
      · rw [e] at h1 ⊢
        rw [join_cons] at h1 ⊢
        simp only [joinTail, List.map_cons, List.flatten_cons, List.nil_append, List.cons_append] at h1 ⊢
        rw [h1]
      · rcases List.mem_cons.1 hq with rfl | hq
        · simp
        · exact h2 q hq
    · rw [splitR_ne h e]
      rw [e] at h1 h2
      refine ⟨?_, fun q hq => ?_⟩
      · rw [join_cons] at h1 ⊢
        rw [List.cons_append, h1]
      · rcases List.mem_cons.1 hq with rfl | hq
        · intro hm
          rcases List.mem_cons.1 hm with hm | hm
          · exact h hm.symm
          · exact h2 p (by simp) hm
        · exact h2 q (List.mem_cons_of_mem _ hq)

open Go.Lib in
theorem splitR_len (c : UInt8) : ∀ l : List UInt8, (splitR c l).length ≤ l.length + 1 ∧ 1 ≤ (splitR c l).length
  | [] => by rw [splitR_nil]; simp
  | b :: l => by
    obtain ⟨h1, h2⟩ := splitR_len c l
    obtain ⟨p, r, e⟩ := splitR_some c l
    by_cases h : b = c
    · subst h; rw [splitR_eq]; simp only [List.length_cons]; omega
    · rw [splitR_ne h e]; rw [e] at h1 h2; simp only [List.length_cons] at h1 h2 ⊢; omega

open Go.Lib in
theorem splitR_piece (c : UInt8) : ∀ (l : List UInt8), ∀ p ∈ splitR c l, p.length ≤ l.length
  | [], p, hp => by rw [splitR_nil] at hp; rw [List.mem_singleton.1 hp]; simp
  | b :: l, p, hp => by
    obtain ⟨q, r, e⟩ := splitR_some c l
    by_cases h : b = c
    · subst h
      rw [splitR_eq] at hp
      rcases List.mem_cons.1 hp with rfl | hp
      · simp
      · have := splitR_piece b l p hp; simp only [List.length_cons]; omega
    · rw [splitR_ne h e] at hp
      rcases List.mem_cons.1 hp with rfl | hp
      · have := splitR_piece c l q (by rw [e]; simp); simp only [List.length_cons]; omega
      · have := splitR_piece c l p (by rw [e]; exact List.mem_cons_of_mem _ hp); simp only [List.length_cons]; omega

open Go.Lib in
def IfVar (w : World) (n : String) : Prop := ∃ tp p, w.var? Tryz.prog n = some #[.iface tp p]

open Go.Lib in
def MaxAt (w : World) : Prop := ∃ m, w.cell? ⟨0, 0, none⟩ = some (.int .i64 m)

open Go.Lib in
/-- What the library's readers look up. -/
def Glob2 (w : World) : Prop := Glob w ∧ (IfVar w "strconv.ErrSyntax" ∧ IfVar w "strconv.ErrRange") ∧ MaxAt w

open Go.Lib in
theorem synNum : Tryz.prog.globalNamed "strconv.ErrSyntax" = some 3 := by kernel_rfl

open Go.Lib in
theorem rngNum : Tryz.prog.globalNamed "strconv.ErrRange" = some 4 := by kernel_rfl

open Go.Lib in
theorem ifvar_below {w w' : World} {n : String} {g : Nat} (hg : Tryz.prog.globalNamed n = some g) (h : IfVar w n) (hb : Below w.heap.size w w') : IfVar w' n := by
  obtain ⟨tp, p, h⟩ := h
  refine ⟨tp, p, ?_⟩
  unfold World.var? at h ⊢
  rw [hg] at h ⊢
  simp only [Option.bind_some] at h ⊢
  have hlt : g < w.heap.size := by
    rcases Nat.lt_or_ge g w.heap.size with hlt | hge
    · exact hlt
    · rw [Array.getElem?_eq_none hge] at h; cases h
  rw [hb.block g hlt]
  exact h

open Go.Lib in
theorem max_below {w w' : World} (h : MaxAt w) (hb : Below w.heap.size w w') : MaxAt w' := by
  obtain ⟨m, h⟩ := h
  refine ⟨m, ?_⟩
  unfold World.cell? at h ⊢
  have hlt : 0 < w.heap.size := by
    rcases Nat.lt_or_ge 0 w.heap.size with hlt | hge
    · exact hlt
    · rw [Array.getElem?_eq_none hge] at h; cases h
  rw [hb.block _ hlt]
  exact h

open Go.Lib in
theorem Held.glob2 {w0 w : World} {rs : List Res} (h : Held Nob w0 rs w) (hG : Glob2 w0) : Glob2 w := ⟨h.glob hG.1, ⟨ifvar_below synNum hG.2.1.1 h.below, ifvar_below rngNum hG.2.1.2 h.below⟩, max_below hG.2.2 h.below⟩

open Go.Lib in
def shelf_C174_ren : Go.Shelf.Ren := ⟨fun | 174 => 46 | 247 => 63 | 245 => 64 | 287 => 72 | 279 => 73 | 280 => 74 | 281 => 75 | 282 => 76 | 321 => 83 | 322 => 84 | 316 => 85 | 171 => 87 | 205 => 86 | 243 => 92 | 246 => 77 | 283 => 88 | 284 => 89 | 285 => 90 | 286 => 91 | 129 => 94 | 317 => 93 | 318 => 95 | 319 => 96 | 320 => 97 | 337 => 98 | 338 => 99 | n => n, fun | 9 => 9 | 3 => 3 | 2 => 2 | 75 => 71 | 85 => 72 | 4 => 4 | 167 => 97 | 5 => 5 | 53 => 98 | 175 => 99 | 46 => 92 | 168 => 101 | 37 => 79 | 0 => 0 | 210 => 118 | 21 => 21 | 127 => 96 | 145 => 128 | 143 => 126 | 171 => 121 | 173 => 124 | 212 => 130 | 51 => 112 | 20 => 20 | 213 => 131 | 232 => 134 | 233 => 135 | 80 => 85 | n => n, fun | 15 => 3 | 16 => 4 | 17 => 5 | 18 => 6 | 19 => 7 | n => n⟩

open Go.Lib in
theorem shelf_C174 : Go.Proofs.LaysC.n174 Tryz.prog shelf_C174_ren := {
  mixed := by kernel_rfl
  f129 := Tryz.func94.trans (congrArg some (by kernel_rfl))
  f171 := Tryz.func87.trans (congrArg some (by kernel_rfl))
  f174 := Tryz.func46.trans (congrArg some (by kernel_rfl))
  f205 := Tryz.func86.trans (congrArg some (by kernel_rfl))
  f243 := Tryz.func92.trans (congrArg some (by kernel_rfl))
  f245 := Tryz.func64.trans (congrArg some (by kernel_rfl))
  f246 := Tryz.func77.trans (congrArg some (by kernel_rfl))
  f247 := Tryz.func63.trans (congrArg some (by kernel_rfl))
  f279 := Tryz.func73.trans (congrArg some (by kernel_rfl))
  f280 := Tryz.func74.trans (congrArg some (by kernel_rfl))
  f281 := Tryz.func75.trans (congrArg some (by kernel_rfl))
  f282 := Tryz.func76.trans (congrArg some (by kernel_rfl))
  f283 := Tryz.func88.trans (congrArg some (by kernel_rfl))
  f284 := Tryz.func89.trans (congrArg some (by kernel_rfl))
  f285 := Tryz.func90.trans (congrArg some (by kernel_rfl))
  f286 := Tryz.func91.trans (congrArg some (by kernel_rfl))
  f287 := Tryz.func72.trans (congrArg some (by kernel_rfl))
  f316 := Tryz.func85.trans (congrArg some (by kernel_rfl))
  f317 := Tryz.func93.trans (congrArg some (by kernel_rfl))
  f318 := Tryz.func95.trans (congrArg some (by kernel_rfl))
  f319 := Tryz.func96.trans (congrArg some (by kernel_rfl))
  f320 := Tryz.func97.trans (congrArg some (by kernel_rfl))
  f321 := Tryz.func83.trans (congrArg some (by kernel_rfl))
  f322 := Tryz.func84.trans (congrArg some (by kernel_rfl))
  f337 := Tryz.func98.trans (congrArg some (by kernel_rfl))
  f338 := Tryz.func99.trans (congrArg some (by kernel_rfl))
  t0 := Tryz.underlying0
  a0 := Tryz.isAgg0
  z0 := Tryz.sizeOf0
  v0 := Tryz.zeroValue0
  t2 := Tryz.underlying2
  a2 := Tryz.isAgg2
  z2 := Tryz.sizeOf2
  v2 := Tryz.zeroValue2
  t3 := Tryz.underlying3
  a3 := Tryz.isAgg3
  z3 := Tryz.sizeOf3
  v3 := Tryz.zeroValue3
  t4 := Tryz.underlying4
  a4 := Tryz.isAgg4
  z4 := Tryz.sizeOf4
  v4 := Tryz.zeroValue4
  t5 := Tryz.underlying5
  a5 := Tryz.isAgg5
  z5 := Tryz.sizeOf5
  v5 := Tryz.zeroValue5
  t9 := Tryz.underlying9
  a9 := Tryz.isAgg9
  z9 := Tryz.sizeOf9
  v9 := Tryz.zeroValue9
  t20 := Tryz.underlying20
  a20 := Tryz.isAgg20
  z20 := Tryz.sizeOf20
  v20 := Tryz.zeroValue20
  t21 := Tryz.underlying21
  a21 := Tryz.isAgg21
  z21 := Tryz.sizeOf21
  v21 := Tryz.zeroValue21
  t37 := Tryz.underlying79
  a37 := Tryz.isAgg79
  z37 := Tryz.sizeOf79
  v37 := Tryz.zeroValue79
  t46 := Tryz.underlying92
  a46 := Tryz.isAgg92
  z46 := Tryz.sizeOf92
  v46 := Tryz.zeroValue92
  t51 := Tryz.underlying112
  a51 := Tryz.isAgg112
  z51 := Tryz.sizeOf112
  v51 := Tryz.zeroValue112
  t53 := Tryz.underlying98
  a53 := Tryz.isAgg98
  z53 := Tryz.sizeOf98
  v53 := Tryz.zeroValue98
  t75 := Tryz.underlying71
  a75 := Tryz.isAgg71
  z75 := Tryz.sizeOf71
  v75 := Tryz.zeroValue71
  t85 := Tryz.underlying72
  a85 := Tryz.isAgg72
  z85 := Tryz.sizeOf72
  v85 := Tryz.zeroValue72
  t127 := Tryz.underlying96
  a127 := Tryz.isAgg96
  z127 := Tryz.sizeOf96
  v127 := Tryz.zeroValue96
  t143 := Tryz.underlying126
  a143 := Tryz.isAgg126
  z143 := Tryz.sizeOf126
  v143 := Tryz.zeroValue126
  t145 := Tryz.underlying128
  a145 := Tryz.isAgg128
  z145 := Tryz.sizeOf128
  v145 := Tryz.zeroValue128
  t167 := Tryz.underlying97
  a167 := Tryz.isAgg97
  z167 := Tryz.sizeOf97
  v167 := Tryz.zeroValue97
  t168 := Tryz.underlying101
  a168 := Tryz.isAgg101
  z168 := Tryz.sizeOf101
  v168 := Tryz.zeroValue101
  t171 := Tryz.underlying121
  a171 := Tryz.isAgg121
  z171 := Tryz.sizeOf121
  v171 := Tryz.zeroValue121
  t173 := Tryz.underlying124
  a173 := Tryz.isAgg124
  z173 := Tryz.sizeOf124
  v173 := Tryz.zeroValue124
  t175 := Tryz.underlying99
  a175 := Tryz.isAgg99
  z175 := Tryz.sizeOf99
  v175 := Tryz.zeroValue99
  t210 := Tryz.underlying118
  a210 := Tryz.isAgg118
  z210 := Tryz.sizeOf118
  v210 := Tryz.zeroValue118
  t212 := Tryz.underlying130
  a212 := Tryz.isAgg130
  z212 := Tryz.sizeOf130
  v212 := Tryz.zeroValue130
  t213 := Tryz.underlying131
  a213 := Tryz.isAgg131
  z213 := Tryz.sizeOf131
  t232 := Tryz.underlying134
  a232 := Tryz.isAgg134
  z232 := Tryz.sizeOf134
  v232 := Tryz.zeroValue134
  t233 := Tryz.underlying135
  a233 := Tryz.isAgg135
  z233 := Tryz.sizeOf135
  v233 := Tryz.zeroValue135
  g15 := by kernel_rfl
  g16 := by kernel_rfl
  g17 := by kernel_rfl
  g18 := by kernel_rfl
  g19 := by kernel_rfl
  t80 := Tryz.underlying85
  a80 := Tryz.isAgg85
  z80 := Tryz.sizeOf85
  v80 := Tryz.zeroValue85
  i0 := by kernel_rfl
  i2 := by kernel_rfl
  i3 := by kernel_rfl
  i4 := by kernel_rfl
  i5 := by kernel_rfl
  i9 := by kernel_rfl
  i20 := by kernel_rfl
  i21 := by kernel_rfl
  i37 := by kernel_rfl
  i46 := by kernel_rfl
  i51 := by kernel_rfl
  i53 := by kernel_rfl
  i75 := by kernel_rfl
  i80 := by kernel_rfl
  i85 := by kernel_rfl
  i127 := by kernel_rfl
  i143 := by kernel_rfl
  i145 := by kernel_rfl
  i167 := by kernel_rfl
  i168 := by kernel_rfl
  i171 := by kernel_rfl
  i173 := by kernel_rfl
  i175 := by kernel_rfl
  i210 := by kernel_rfl
  i212 := by kernel_rfl
  i232 := by kernel_rfl
  i233 := by kernel_rfl
  m15 := by kernel_rfl
  m16 := by kernel_rfl
  m17 := by kernel_rfl
  m18 := by kernel_rfl
  m19 := by kernel_rfl
  c0 := by kernel_rfl
  c2 := by kernel_rfl
  c3 := by kernel_rfl
  c4 := by kernel_rfl
  c5 := by kernel_rfl
  c9 := by kernel_rfl
  c20 := by kernel_rfl
  c21 := by kernel_rfl
  c37 := by kernel_rfl
  c46 := by kernel_rfl
  c51 := by kernel_rfl
  c53 := by kernel_rfl
  c75 := by kernel_rfl
  c80 := by kernel_rfl
  c85 := by kernel_rfl
  c127 := by kernel_rfl
  c143 := by kernel_rfl
  c145 := by kernel_rfl
  c167 := by kernel_rfl
  c168 := by kernel_rfl
  c171 := by kernel_rfl
  c173 := by kernel_rfl
  c175 := by kernel_rfl
  c210 := by kernel_rfl
  c212 := by kernel_rfl
  c213 := by kernel_rfl
  c232 := by kernel_rfl
  c233 := by kernel_rfl }

open Go.Lib in
def shelf_146_ren : Go.Shelf.Ren := ⟨fun | 146 => 10 | 221 => 21 | 268 => 39 | 138 => 40 | 143 => 41 | 195 => 55 | 197 => 56 | 218 => 57 | 219 => 58 | 260 => 69 | 217 => 70 | 225 => 62 | 224 => 61 | 267 => 71 | 266 => 81 | 314 => 82 | n => n, fun | 9 => 9 | 31 => 30 | 3 => 3 | 4 => 4 | 0 => 0 | 105 => 87 | 21 => 21 | 5 => 5 | 46 => 92 | 119 => 108 | 139 => 111 | 138 => 110 | 146 => 113 | 51 => 112 | n => n, fun | 1 => 0 | 3 => 1 | 4 => 2 | n => n⟩

open Go.Lib in
theorem shelf_146 : Go.Proofs.Lays.n146 Tryz.prog shelf_146_ren := {
  mixed := by kernel_rfl
  f138 := Tryz.func40.trans (congrArg some (by kernel_rfl))
  f143 := Tryz.func41.trans (congrArg some (by kernel_rfl))
  f146 := Tryz.func10.trans (congrArg some (by kernel_rfl))
  f195 := Tryz.func55.trans (congrArg some (by kernel_rfl))
  f197 := Tryz.func56.trans (congrArg some (by kernel_rfl))
  f217 := Tryz.func70.trans (congrArg some (by kernel_rfl))
  f218 := Tryz.func57.trans (congrArg some (by kernel_rfl))
  f219 := Tryz.func58.trans (congrArg some (by kernel_rfl))
  f221 := Tryz.func21.trans (congrArg some (by kernel_rfl))
  f224 := Tryz.func61.trans (congrArg some (by kernel_rfl))
  f225 := Tryz.func62.trans (congrArg some (by kernel_rfl))
  f260 := Tryz.func69.trans (congrArg some (by kernel_rfl))
  f266 := Tryz.func81.trans (congrArg some (by kernel_rfl))
  f267 := Tryz.func71.trans (congrArg some (by kernel_rfl))
  f268 := Tryz.func39.trans (congrArg some (by kernel_rfl))
  f314 := Tryz.func82.trans (congrArg some (by kernel_rfl))
  t0 := Tryz.underlying0
  a0 := Tryz.isAgg0
  z0 := Tryz.sizeOf0
  v0 := Tryz.zeroValue0
  t3 := Tryz.underlying3
  a3 := Tryz.isAgg3
  z3 := Tryz.sizeOf3
  v3 := Tryz.zeroValue3
  t4 := Tryz.underlying4
  a4 := Tryz.isAgg4
  z4 := Tryz.sizeOf4
  v4 := Tryz.zeroValue4
  t5 := Tryz.underlying5
  a5 := Tryz.isAgg5
  z5 := Tryz.sizeOf5
  v5 := Tryz.zeroValue5
  t9 := Tryz.underlying9
  a9 := Tryz.isAgg9
  z9 := Tryz.sizeOf9
  v9 := Tryz.zeroValue9
  t21 := Tryz.underlying21
  a21 := Tryz.isAgg21
  z21 := Tryz.sizeOf21
  v21 := Tryz.zeroValue21
  t31 := Tryz.underlying30
  a31 := Tryz.isAgg30
  z31 := Tryz.sizeOf30
  v31 := Tryz.zeroValue30
  t46 := Tryz.underlying92
  a46 := Tryz.isAgg92
  z46 := Tryz.sizeOf92
  v46 := Tryz.zeroValue92
  t51 := Tryz.underlying112
  a51 := Tryz.isAgg112
  z51 := Tryz.sizeOf112
  v51 := Tryz.zeroValue112
  t105 := Tryz.underlying87
  a105 := Tryz.isAgg87
  z105 := Tryz.sizeOf87
  v105 := Tryz.zeroValue87
  t119 := Tryz.underlying108
  a119 := Tryz.isAgg108
  z119 := Tryz.sizeOf108
  t138 := Tryz.underlying110
  a138 := Tryz.isAgg110
  z138 := Tryz.sizeOf110
  v138 := Tryz.zeroValue110
  t139 := Tryz.underlying111
  a139 := Tryz.isAgg111
  z139 := Tryz.sizeOf111
  v139 := Tryz.zeroValue111
  t146 := Tryz.underlying113
  a146 := Tryz.isAgg113
  z146 := Tryz.sizeOf113
  v146 := Tryz.zeroValue113
  g1 := by kernel_rfl
  g3 := by kernel_rfl
  g4 := by kernel_rfl }

open Go.Lib in
def shelf_101_ren : Go.Shelf.Ren := ⟨fun | 101 => 48 | 208 => 66 | 206 => 78 | n => n, fun | 9 => 9 | 4 => 4 | 3 => 3 | n => n, fun | n => n⟩

open Go.Lib in
theorem shelf_101 : Go.Proofs.Lays.n101 Tryz.prog shelf_101_ren := {
  mixed := by kernel_rfl
  f101 := Tryz.func48.trans (congrArg some (by kernel_rfl))
  f206 := Tryz.func78.trans (congrArg some (by kernel_rfl))
  f208 := Tryz.func66.trans (congrArg some (by kernel_rfl))
  t3 := Tryz.underlying3
  a3 := Tryz.isAgg3
  z3 := Tryz.sizeOf3
  v3 := Tryz.zeroValue3
  t4 := Tryz.underlying4
  a4 := Tryz.isAgg4
  z4 := Tryz.sizeOf4
  v4 := Tryz.zeroValue4
  t9 := Tryz.underlying9
  a9 := Tryz.isAgg9
  z9 := Tryz.sizeOf9
  v9 := Tryz.zeroValue9 }

open Go.Lib in
/-- An error value that is nil or not. -/
def IsErr (v : Value) (b : Bool) : Prop := if b = true then ∃ t x, v = .iface t x else v = .nilIface

open Go.Lib in
theorem x_neqNil {P : Program} {S : World → Prop} {L : List (Nat × Value)} {d : Option Tmp} {t t' : TypeId} {x : Operand} {v : Value} {r : Bool} {ty : TypeId} {pos : String} {af : Array Edge} {g : Option (Nat × Bool)} (hv : IsErr v r) (hi : P.isIface t = true) (hx : ev L x = some v) : XS P S L ⟨d, .binOp .neq t x (.const .nilIface) t', ty, pos, af, g⟩ (.bool r) := fun _ a w hE _ => by
  have hn : a.eval (.const .nilIface) = Value.nilIface := rfl
  cases r with
  | true =>
    obtain ⟨u, y, rfl⟩ := hv
    have hg : (eqGuard .neq t x (.const .nilIface) (.iface u y) .nilIface).run P w = .ok () w := rfl
    simp only [execOp, hE.ev hx, hn, Sem.run_bind, hg, Result.andThen_ok, run_neq_iface_nil w t hi u y, Sem.run_pure]
  | false =>
    obtain rfl := hv
    have hg : (eqGuard .neq t x (.const .nilIface) .nilIface .nilIface).run P w = .ok () w := by
      cases x <;> rfl
    simp only [execOp, hE.ev hx, hn, Sem.run_bind, hg, Result.andThen_ok, run_neq_nil_nil_at w t hi, Sem.run_pure]

open Go.Lib in
def parI (s : List UInt8) : Int × Bool := match parseIntB 64 s with
  | .ok v => (v, false)
  | .range => (Go.Lib.intSat 64 s, true)
  | _ => (0, true)

open Go.Lib in
theorem bs_list (s : List UInt8) : (bs s).data.toList = s := by simp [bs]

open Go.Lib in
theorem ParseInt_64 (a0 : List UInt8) (a1 a2 : Int) (w : World) (hG : Glob2 w) (s0 : a0.length ≤ 1000000000) (s1 : a1 = 10) (s2 : a2 = 64) :
    Calls Tryz.prog 46 #[.string (bs a0), .int .i64 a1, .int .i64 a2] w fun e w' => ∃ er, e = .returned (.tuple #[.int .i64 (parI a0).1, er]) ∧ IsErr er (parI a0).2 ∧ Below w.heap.size w w' := by
  subst s1; subst s2
  have hz := bs_size a0
  have hl := bs_list a0
  cases hp : parseIntB 64 a0 with
  | ok v =>
    refine (show Calls Tryz.prog 46 #[.string (bs a0), .int .i64 10, .int .i64 64] w _ from Any.strconv_ParseInt_10_at64_ok shelf_C174 (bs a0) (by omega) v (by rw [hl]; exact hp) w).mono ?_
    rintro e w' ⟨rfl, h⟩
    unfold parI; rw [hp]
    refine ⟨_, rfl, rfl, ?_⟩
    rcases h with rfl | ⟨t, rfl⟩
    · exact Below.refl _ _
    · exact Go.Lib.bytesWorld_below _ _ _
  | range =>
    obtain ⟨tp, p, hv⟩ := hG.2.1.2
    refine (show Calls Tryz.prog 46 #[.string (bs a0), .int .i64 10, .int .i64 64] w _ from Any.strconv_ParseInt_10_at64_range_var shelf_C174 (bs a0) (by omega) (by rw [hl]; exact hp) tp p w hv).mono ?_
    rintro e w' ⟨N, rfl, _, _, h⟩
    unfold parI; rw [hp]
    rw [hl]
    exact ⟨_, rfl, ⟨_, _, rfl⟩, h⟩
  | _ =>
    obtain ⟨tp, p, hv⟩ := hG.2.1.1
    refine (show Calls Tryz.prog 46 #[.string (bs a0), .int .i64 10, .int .i64 64] w _ from Any.strconv_ParseInt_10_at64_syntax_var shelf_C174 (bs a0) (by omega) (by rw [hl]; exact hp) tp p w hv).mono ?_
    rintro e w' ⟨N, rfl, _, _, h⟩
    unfold parI; rw [hp]
    exact ⟨_, rfl, ⟨_, _, rfl⟩, h⟩

open Go.Lib in
theorem so_txt_alloc (w : World) (t : TypeId) (xs : List (List UInt8)) (h : ∀ x ∈ xs, x.length ≤ 9223372036854775807) (hl : xs.length ≤ 1000000000000) : So eTxt (w.alloc (.cells (xs.map fun x => Value.string (bs x)).toArray t)) (Fr w (w.alloc (.cells (xs.map fun x => Value.string (bs x)).toArray t))) (some ⟨w.heap.size, 0, none⟩) xs.length xs := by
  refine ⟨Nat.le_refl _, by unfold maxLen; omega, fun _ => ⟨w.heap.size, 0, t, (xs.map fun x => Value.string (bs x)).toArray, fun _ _ => False, rfl, ⟨Nat.le_refl _, by simp⟩, Blk.new _ _ _, fun _ _ h => h.elim, fun _ _ _ h => h.elim, fun i x hx => ⟨[.string (bs x)], ⟨rfl, h x (List.mem_of_getElem? hx)⟩, fun j v hj => ?_⟩⟩⟩
  match j, hj with
  | 0, hj =>
    simp only [List.getElem?_cons_zero, Option.some.injEq] at hj
    subst hj
    simp [eTxt, hx]

open Go.Lib in
theorem split_bs (c : UInt8) (s : List UInt8) : (splitB (bs [c]) 0 (countB (bs s) (bs [c])) (bs s)).map Value.string = (splitR c s).map fun x => Value.string (bs x) := by
  have h1 := splitB_data (bs [c]) 0 (countB (bs s) (bs [c])) (bs s)
  have h2 : countB (bs s) (bs [c]) = count s [c] := by unfold countB; rw [bs_list, bs_list]
  rw [bs_list, bs_list, h2, split_one] at h1
  rw [← h1, List.map_map, h2]
  exact List.map_congr_left fun x _ => by simp [bs_eta]

open Go.Lib in
theorem split_count (c : UInt8) (s : List UInt8) : countB (bs s) (bs [c]) + 1 = (splitR c s).length := by
  have h := congrArg List.length (split_bs c s)
  rw [List.length_map, List.length_map, splitB_all (bs [c]) (by rw [bs_size]; simp) 0 _ (bs s) rfl] at h
  exact h

open Go.Lib in
theorem Split_1 (a0 a1 : List UInt8) (c : UInt8) (w : World) (hG : Glob2 w) (s0 : a0.length ≤ 1000000000) (s1 : a1 = [c]) :
    Calls Tryz.prog 10 #[.string (bs a0), .string (bs a1)] w fun e w' => ∃ A' c', e = .returned (.slice A' (splitR c a0).length c') ∧ So eTxt w' (Fr w w') A' c' (splitR c a0) ∧ Below w.heap.size w w' := by
  subst s1
  have hz := bs_size a0
  have h1 := splitR_len c a0
  obtain ⟨m, hm⟩ := hG.2.2
  refine (show Calls Tryz.prog 10 #[.string (bs a0), .string (bs [c])] w _ from Any.strings_Split shelf_146 (by kernel_rfl) (bs a0) (bs [c]) m w (by omega) hm (by rw [bs_size]; simp)).mono ?_
  rintro e w' ⟨rfl, rfl⟩
  rw [split_bs, split_count]
  exact ⟨_, _, rfl, so_txt_alloc w _ _ (fun x hx => by have := splitR_piece c a0 x hx; omega) (by omega), (Below.refl _ w).alloc (Nat.le_refl _) _⟩

open Go.Lib in
theorem TrimMinus (a0 a1 : List UInt8) (w : World) (s1 : a1 = [45]) :
    Calls Tryz.prog 48 #[.string (bs a0), .string (bs a1)] w fun e w' => e = .returned (.string (bs (unsg a0))) ∧ Below w.heap.size w w' := by
  subst s1
  refine (show Calls Tryz.prog 48 #[.string (bs a0), .string (bs [45])] w _ from Any.strings_TrimPrefix shelf_101 (bs a0) (bs [45]) w).mono ?_
  rintro e w' ⟨rfl, rfl⟩
  refine ⟨?_, Below.refl _ _⟩
  rw [bs_list, bs_list]
  have : trimPrefix a0 [45] = unsg a0 := by
    unfold trimPrefix unsg
    cases a0 with
    | nil => simp [hasPrefix]
    | cons x r =>
      by_cases h : x = 45
      · subst h; simp [hasPrefix, List.isPrefixOf]
      · have h2 : ¬ (45 : UInt8) = x := fun e => h e.symm
        simp [hasPrefix, h, h2, List.isPrefixOf]
  rw [this]

open Go.Lib in
theorem unsg_len (s : List UInt8) : (unsg s).length ≤ s.length := by
  unfold unsg; split
  · simp
  · exact Nat.le_refl _

open Go.Lib in
theorem parI_bd {s : List UInt8} (h : (parI s).2 = false) : -9223372036854775808 ≤ (parI s).1 ∧ (parI s).1 ≤ 9223372036854775807 := by
  unfold parI at h ⊢
  cases hp : parseIntB 64 s with
  | ok v => have := parseIntB_bounds hp; rw [hp] at h; simp only; omega
  | _ => rw [hp] at h; exact absurd h (by simp)

open Go.Lib in
theorem numR_def (s : List UInt8) : numR s = if (parI s).2 = true then (0, false) else if Go.Lib.itoa (parI s).1 = s ∧ (unsg s).length ≤ 18 then ((parI s).1, true) else (0, false) := by
  unfold numR parI
  cases hp : parseIntB 64 s with
  | ok v => simp
  | _ => simp

open Go.Lib in
theorem numC_bd (s : List UInt8) : -1000000000000000000 < (numC s).1 ∧ (numC s).1 < 1000000000000000000 := by
  unfold numC
  split
  · rename_i h; exact (itoa_num h).2
  · decide

open Go.Lib in
theorem numR_bd (s : List UInt8) : -1000000000000000000 < (numR s).1 ∧ (numR s).1 < 1000000000000000000 := by rw [numR_eq]; exact numC_bd s

open Go.Lib in
/-- What the program looks through. -/
def lrs (s : List UInt8) : Prop := s = [76, 83, 82] ∨ s = [76, 82]

open Go.Lib in
theorem lrs_byte {s : List UInt8} (h : lrs s) : ∀ c ∈ s, c.toNat < 128 := by
  rcases h with rfl | rfl
  · decide
  · decide

open Go.Lib in
theorem lrs_rune {s : List UInt8} (h : lrs s) {p : Nat} (hp : p < s.length) : (rnA s p).1 < 128 ∧ (rnA s p).2 = 1 := by
  have hb := lrs_byte h s[p] (List.getElem_mem _)
  rw [rnA_one hp hb]
  exact ⟨hb, rfl⟩

open Go.Lib in
theorem lrs_len {s : List UInt8} (h : lrs s) : 2 ≤ s.length ∧ s.length ≤ 3 := by
  rcases h with rfl | rfl <;> simp

open Go.Lib in
theorem index_no {s : List UInt8} {c : UInt8} (h : c ∉ s) : indexByte s c = -1 := by
  induction s with
  | nil => rfl
  | cons b l ih =>
    have h1 := ih fun hm => h (List.mem_cons_of_mem _ hm)
    have h2 : ¬ b = c := fun e => h (by rw [e]; exact List.mem_cons_self)
    rw [indexByte]
    simp [h2, h1]

open Go.Lib in
def shelf_137_ren : Go.Shelf.Ren := ⟨fun | 137 => 59 | 217 => 70 | 266 => 81 | n => n, fun | 9 => 9 | 5 => 5 | 3 => 3 | n => n, fun | n => n⟩

open Go.Lib in
theorem shelf_137 : Go.Proofs.Lays.n137 Tryz.prog shelf_137_ren := {
  mixed := by kernel_rfl
  f137 := Tryz.func59.trans (congrArg some (by kernel_rfl))
  f217 := Tryz.func70.trans (congrArg some (by kernel_rfl))
  f266 := Tryz.func81.trans (congrArg some (by kernel_rfl))
  t3 := Tryz.underlying3
  a3 := Tryz.isAgg3
  z3 := Tryz.sizeOf3
  v3 := Tryz.zeroValue3
  t5 := Tryz.underlying5
  a5 := Tryz.isAgg5
  z5 := Tryz.sizeOf5
  v5 := Tryz.zeroValue5
  t9 := Tryz.underlying9
  a9 := Tryz.isAgg9
  z9 := Tryz.sizeOf9
  v9 := Tryz.zeroValue9 }

open Go.Lib in
def shelf_119_ren : Go.Shelf.Ren := ⟨fun | 119 => 60 | n => n, fun | 21 => 21 | 4 => 4 | n => n, fun | n => n⟩

open Go.Lib in
theorem shelf_119 : Go.Proofs.Lays.n119 Tryz.prog shelf_119_ren := {
  mixed := by kernel_rfl
  f119 := Tryz.func60.trans (congrArg some (by kernel_rfl))
  t4 := Tryz.underlying4
  a4 := Tryz.isAgg4
  z4 := Tryz.sizeOf4
  v4 := Tryz.zeroValue4
  t21 := Tryz.underlying21
  a21 := Tryz.isAgg21
  z21 := Tryz.sizeOf21
  v21 := Tryz.zeroValue21 }

open Go.Lib in
def shelf_152_ren : Go.Shelf.Ren := ⟨fun | 152 => 42 | 137 => 59 | 119 => 60 | 224 => 61 | 225 => 62 | 217 => 70 | 266 => 81 | n => n, fun | 9 => 9 | 21 => 21 | 3 => 3 | 4 => 4 | 5 => 5 | 0 => 0 | 46 => 92 | n => n, fun | n => n⟩

open Go.Lib in
theorem shelf_152 : Go.Proofs.Lays.n152 Tryz.prog shelf_152_ren := {
  mixed := by kernel_rfl
  f119 := Tryz.func60.trans (congrArg some (by kernel_rfl))
  f137 := Tryz.func59.trans (congrArg some (by kernel_rfl))
  f152 := Tryz.func42.trans (congrArg some (by kernel_rfl))
  f217 := Tryz.func70.trans (congrArg some (by kernel_rfl))
  f224 := Tryz.func61.trans (congrArg some (by kernel_rfl))
  f225 := Tryz.func62.trans (congrArg some (by kernel_rfl))
  f266 := Tryz.func81.trans (congrArg some (by kernel_rfl))
  t0 := Tryz.underlying0
  a0 := Tryz.isAgg0
  z0 := Tryz.sizeOf0
  v0 := Tryz.zeroValue0
  t3 := Tryz.underlying3
  a3 := Tryz.isAgg3
  z3 := Tryz.sizeOf3
  v3 := Tryz.zeroValue3
  t4 := Tryz.underlying4
  a4 := Tryz.isAgg4
  z4 := Tryz.sizeOf4
  v4 := Tryz.zeroValue4
  t5 := Tryz.underlying5
  a5 := Tryz.isAgg5
  z5 := Tryz.sizeOf5
  v5 := Tryz.zeroValue5
  t9 := Tryz.underlying9
  a9 := Tryz.isAgg9
  z9 := Tryz.sizeOf9
  v9 := Tryz.zeroValue9
  t21 := Tryz.underlying21
  a21 := Tryz.isAgg21
  z21 := Tryz.sizeOf21
  v21 := Tryz.zeroValue21
  t46 := Tryz.underlying92
  a46 := Tryz.isAgg92
  z46 := Tryz.sizeOf92
  v46 := Tryz.zeroValue92 }

open Go.Lib in
theorem IndexByte_no (s : List UInt8) (c : Int) (w : World) (h : UInt8.ofNat c.toNat ∉ s) : Calls Tryz.prog 59 #[.string (bs s), .int .u8 c] w fun e w' => e = .returned (.int .i64 (-1)) ∧ w = w' := by
  refine (Any.strings_IndexByte shelf_137 (bs s) c w).mono fun e w' ⟨he, hw⟩ => ⟨?_, hw.symm⟩
  rw [he, show (bs s).data.toList = s from by simp [bs], show c.toNat.toUInt8 = UInt8.ofNat c.toNat from rfl, index_no h]

open Go.Lib in
theorem valid_eq (r : Int) : Go.Lib.validRune r = Utf8.valid r := by
  unfold Go.Lib.validRune Utf8.valid
  rw [← Bool.coe_iff_coe]
  simp
  omega

open Go.Lib in
theorem ValidRune_r (r : Int) (w : World) : Calls Tryz.prog 60 #[.int .i32 r] w fun e w' => e = .returned (.bool (Utf8.valid r)) ∧ w = w' := by
  refine (Any.utf8_ValidRune shelf_119 r w).mono fun e w' ⟨he, hw⟩ => ⟨?_, hw.symm⟩
  rw [he, valid_eq]

open Go.Lib in
theorem not_big {s : List UInt8} (h : lrs s) {c : UInt8} (hc : 128 ≤ c.toNat) (k : Nat) : UInt8.ofNat ((c.toNat : Int)).toNat ∉ s.drop k := by
  intro hm
  have e : UInt8.ofNat ((c.toNat : Int)).toNat = c := by simp
  rw [e] at hm
  have := lrs_byte h c (List.mem_of_mem_drop hm)
  omega

end Go.Proofs.YthfihlfjphiihaaGreatDoor
