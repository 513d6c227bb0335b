/- What the proof of FnExactConfigText needs: contracts of the functions that it reaches, each once. -/
import Derived.Test.YtjnnkmflpbildaaDoorProg
import Derived.Test.YtjnnkmflpbildaaDoorQMem
import Derived.Test.YtjnnkmflpbildaaDoorQOpen
import Derived.Test.YtjnnkmflpbildaaDoorLConfigTexta
import Derived.Test.YtjnnkmflpbildaaDoorLConfigTextb
import Derived.Test.YtjnnkmflpbildaaDoorLConfigTextc
import Derived.WalkKit
import Derived.WalkSpells
import Derived.Below
import Derived.LoopTactic
import Derived.Outline
import Derived.Deep.QuietTactic
import Derived.BigQuiet
import Derived.Deep.LoopGhost
import Derived.Handy
import Derived.Lib.Hide
import Derived.Shelf.Abstract
import Derived.StillTailTactics
import Derived.OwnWalk
import Derived.Maps.AppendAt
import Derived.RegionTactic
import Derived.Deep.RegionHeld3
import Derived.IntWalk
import Derived.Deep.Upon
import Derived.Laws.OwnMore
import Derived.Maps.AppendAt
import Derived.Laws.BytesString
import Derived.Laws.Strings
import Derived.Lib.Bytes
import Derived.Lib.Strings
import Derived.Lib.FrozenHead
import Derived.Lib.RuneBytes
import Derived.Lib.LaidTab
import Derived.Laws.StructEq
import Derived.Lib.SliceRun
import Derived.Lib.AppendZeros
import Derived.Lib.ItoaLen
import Derived.Lib.Join
import Derived.Shelf.Strconv.Itoa4
import Derived.Shelf.Strings.OnBuilder
import Derived.Shelf.Strings.BuilderK
import Derived.Shelf.Strings.BuilderRune
import Derived.Shelf.LaysM
import Derived.Ground.NamesProg
namespace Go.Proofs.YtjnnkmflpbildaaDoor
open Go.RowKit

set_option maxRecDepth 100000 in
set_option maxHeartbeats 4000000 in
theorem spec_l05Is (p0 o0 : Nat) (es0 : List Value) (a0 : tMachine) (w : World) (h0 : eMachine.R w (Old w) es0 a0) (hq0 : ∀ j v, es0[j]? = some v → w.cell? ⟨p0, o0 + j, none⟩ = some v) :
    Calls Tryd.prog 88 #[.pointer (some ⟨p0, o0, none⟩)] w fun e w' => e = .returned (.bool (validMach a0)) ∧ Below w.heap.size w w' := by
  have H0 := h0
  obtain ⟨Az0_2, cz0_2, rfl, gz0_0, gz0_1, gz0_2⟩ := shape_Machine h0
  have jz0_0 := gz0_0; unfold I64 at jz0_0
  have jz0_1 := gz0_1; unfold I64 at jz0_1
  have lz0_2 := gz0_2.len
  have HH1 := Held.start Nob w
  refine enter (n := 61) Tryd.func88 rfl rfl rfl fun a_2 HE3 => ?_
  refine wp_seq ?_
  refine rg ?_
  refine pl_x HE3 HH1 (wt0 rfl) (x_assign rfl) rfl rfl fun a_4 HE5 => ?_
  refine wpList_nil ?_
  clear a_2 HE3
  refine nrm ?_
  refine wp_seq ?_
  refine wp_seq ?_
  refine dr_start (Held Nob w []) 31 #[false, false, false, false, false, false, false, false, false, false, false, false, false, false, false, false, false, false, false, false, false, false, false, false, false, false, false, false, false, false, false] hmix rfl rfl HH1 (fun _ h => h.sel [] (by decide) rfl) fun w' HH6 => ?_
  have HS7 := HH6
  refine dr_take (i := 0) (ls' := #[true, false, false, false, false, false, false, false, false, false, false, false, false, false, false, false, false, false, false, false, false, false, false, false, false, false, false, false, false, false, false]) HE5 HS7 rfl (by kernel_rfl) (by kernel_rfl) (by kernel_rfl) (fun _ _ _ h => h) rfl (wt0 rfl) (x_move rfl) rfl rfl fun a_8 HE9 => ?_
  refine dr_take (i := 1) (ls' := #[true, true, false, false, false, false, false, false, false, false, false, false, false, false, false, false, false, false, false, false, false, false, false, false, false, false, false, false, false, false, false]) HE9 HS7 rfl (by kernel_rfl) (by kernel_rfl) (by kernel_rfl) (fun _ _ _ h => h) rfl (wt0 rfl) (x_nilCheck rfl) rfl rfl fun a_10 HE11 => ?_
  refine dr_take (i := 2) (ls' := #[true, true, true, false, false, false, false, false, false, false, false, false, false, false, false, false, false, false, false, false, false, false, false, false, false, false, false, false, false, false, false]) HE11 HS7 rfl (by kernel_rfl) (by kernel_rfl) (by kernel_rfl) (fun _ _ _ h => h) rfl (wt0 rfl) (x_fieldAddr fa_78_0 rfl) rfl rfl fun a_12 HE13 => ?_
  refine dr_take (i := 3) (ls' := #[true, true, true, true, false, false, false, false, false, false, false, false, false, false, false, false, false, false, false, false, false, false, false, false, false, false, false, false, false, false, false]) HE13 HS7 rfl (by kernel_rfl) (by kernel_rfl) (by kernel_rfl) (fun _ _ _ h => h) rfl (wt0 rfl) (x_load1 tv_2 rfl (c_old (hq0 0 _ rfl))) rfl rfl fun a_14 HE15 => ?_
  refine dr_one (i := 4) (ls' := #[true, true, true, true, true, false, false, false, false, false, false, false, false, false, false, false, false, false, false, false, false, false, false, false, false, false, false, false, false, false, false]) rfl (by kernel_rfl) rfl fun K_16 hK17 => ?_
  refine st_call HE15 (wt0 rfl) rfl rfl rfl en_52 rfl rfl (spec_l00In a0.1 2 6 _ ) fun e w' hr => ?_
  obtain ⟨rfl, rfl⟩ := hr
  refine ⟨_, rfl, fun a_18 HE19 => hK17 _ _ (by exact HH6.sel [] (by decide) rfl) ?_⟩
  have HS20 := HH6.sel [] (by decide) rfl
  refine dr_take (i := 5) (ls' := #[true, true, true, true, true, true, false, false, false, false, false, false, false, false, false, false, false, false, false, false, false, false, false, false, false, false, false, false, false, false, false]) HE19 HS20 rfl (by kernel_rfl) (by kernel_rfl) (by kernel_rfl) (fun _ _ _ h => h) rfl (wt0 rfl) (x_not rfl) rfl rfl fun a_21 HE22 => ?_
  refine dr_take (i := 6) (ls' := #[true, true, true, true, true, true, true, false, false, false, false, false, false, false, false, false, false, false, false, false, false, false, false, false, false, false, false, false, false, false, false]) HE22 HS20 rfl (by kernel_rfl) (by kernel_rfl) (by kernel_rfl) (fun _ _ _ h => h) rfl (wt0 rfl) (x_move rfl) rfl rfl fun a_23 HE24 => ?_
  rcases Bool.eq_false_or_eq_true ((withinB a0.1 2 6)) with hc22 | hc22
  · have m0 := withinB_true.1 hc22
    refine dr_take (i := 7) (ls' := #[true, true, true, true, true, true, true, true, false, false, false, false, false, false, false, false, false, false, false, false, false, false, false, false, false, false, false, false, false, false, false]) HE24 HS20 rfl (by kernel_rfl) (by kernel_rfl) (by kernel_rfl) (fun _ _ _ h => h) rfl (wtT HE24 rfl rfl rfl (not_f hc22)) (x_move rfl) rfl rfl fun a_25 HE26 => ?_
    refine dr_take (i := 8) (ls' := #[true, true, true, true, true, true, true, true, true, false, false, false, false, false, false, false, false, false, false, false, false, false, false, false, false, false, false, false, false, false, false]) HE26 HS20 rfl (by kernel_rfl) (by kernel_rfl) (by kernel_rfl) (fun _ _ _ h => h) rfl (wtT HE26 rfl rfl rfl (not_f hc22)) (x_nilCheck rfl) rfl rfl fun a_27 HE28 => ?_
    refine dr_take (i := 9) (ls' := #[true, true, true, true, true, true, true, true, true, true, false, false, false, false, false, false, false, false, false, false, false, false, false, false, false, false, false, false, false, false, false]) HE28 HS20 rfl (by kernel_rfl) (by kernel_rfl) (by kernel_rfl) (fun _ _ _ h => h) rfl (wtT HE28 rfl rfl rfl (not_f hc22)) (x_fieldAddr fa_78_1 rfl) rfl rfl fun a_29 HE30 => ?_
    refine dr_take (i := 10) (ls' := #[true, true, true, true, true, true, true, true, true, true, true, false, false, false, false, false, false, false, false, false, false, false, false, false, false, false, false, false, false, false, false]) HE30 HS20 rfl (by kernel_rfl) (by kernel_rfl) (by kernel_rfl) (fun _ _ _ h => h) rfl (wtT HE30 rfl rfl rfl (not_f hc22)) (x_load1 tv_2 rfl (c_old (hq0 1 _ rfl))) rfl rfl fun a_31 HE32 => ?_
    refine dr_one (i := 11) (ls' := #[true, true, true, true, true, true, true, true, true, true, true, true, false, false, false, false, false, false, false, false, false, false, false, false, false, false, false, false, false, false, false]) rfl (by kernel_rfl) rfl fun K_33 hK34 => ?_
    refine st_call HE32 (wtT HE32 rfl rfl rfl (not_f hc22)) rfl rfl rfl en_52 rfl rfl (spec_l00In a0.2.1 1 1000 _ ) fun e w' hr => ?_
    obtain ⟨rfl, rfl⟩ := hr
    refine ⟨_, rfl, fun a_35 HE36 => hK34 _ _ (by exact HH6.sel [] (by decide) rfl) ?_⟩
    have HS37 := HH6.sel [] (by decide) rfl
    refine dr_take (i := 12) (ls' := #[true, true, true, true, true, true, true, true, true, true, true, true, true, false, false, false, false, false, false, false, false, false, false, false, false, false, false, false, false, false, false]) HE36 HS37 rfl (by kernel_rfl) (by kernel_rfl) (by kernel_rfl) (fun _ _ _ h => h) rfl (wtT HE36 rfl rfl rfl (not_f hc22)) (x_not rfl) rfl rfl fun a_38 HE39 => ?_
    refine dr_take (i := 13) (ls' := #[true, true, true, true, true, true, true, true, true, true, true, true, true, true, false, false, false, false, false, false, false, false, false, false, false, false, false, false, false, false, false]) HE39 HS37 rfl (by kernel_rfl) (by kernel_rfl) (by kernel_rfl) (fun _ _ _ h => h) rfl (wt0 rfl) (x_pickF rfl (not_f hc22) rfl) rfl rfl fun a_40 HE41 => ?_
    refine dr_take (i := 14) (ls' := #[true, true, true, true, true, true, true, true, true, true, true, true, true, true, true, false, false, false, false, false, false, false, false, false, false, false, false, false, false, false, false]) HE41 HS37 rfl (by kernel_rfl) (by kernel_rfl) (by kernel_rfl) (fun _ _ _ h => h) rfl (wt0 rfl) (x_move rfl) rfl rfl fun a_42 HE43 => ?_
    rcases Bool.eq_false_or_eq_true ((withinB a0.2.1 1 1000)) with hc24 | hc24
    · have m1 := withinB_true.1 hc24
      obtain ⟨m2, m3⟩ := mul_bd2 m0 m1
      refine dr_take (i := 15) (ls' := #[true, true, true, true, true, true, true, true, true, true, true, true, true, true, true, true, false, false, false, false, false, false, false, false, false, false, false, false, false, false, false]) HE43 HS37 rfl (by kernel_rfl) (by kernel_rfl) (by kernel_rfl) (fun _ _ _ h => h) rfl (wtT HE43 rfl rfl rfl (not_f hc24)) (x_move rfl) rfl rfl fun a_44 HE45 => ?_
      refine dr_take (i := 16) (ls' := #[true, true, true, true, true, true, true, true, true, true, true, true, true, true, true, true, true, false, false, false, false, false, false, false, false, false, false, false, false, false, false]) HE45 HS37 rfl (by kernel_rfl) (by kernel_rfl) (by kernel_rfl) (fun _ _ _ h => h) rfl (wtT HE45 rfl rfl rfl (not_f hc24)) (x_nilCheck rfl) rfl rfl fun a_46 HE47 => ?_
      refine dr_take (i := 17) (ls' := #[true, true, true, true, true, true, true, true, true, true, true, true, true, true, true, true, true, true, false, false, false, false, false, false, false, false, false, false, false, false, false]) HE47 HS37 rfl (by kernel_rfl) (by kernel_rfl) (by kernel_rfl) (fun _ _ _ h => h) rfl (wtT HE47 rfl rfl rfl (not_f hc24)) (x_fieldAddr fa_78_2 rfl) rfl rfl fun a_48 HE49 => ?_
      refine dr_take (i := 18) (ls' := #[true, true, true, true, true, true, true, true, true, true, true, true, true, true, true, true, true, true, true, false, false, false, false, false, false, false, false, false, false, false, false]) HE49 HS37 rfl (by kernel_rfl) (by kernel_rfl) (by kernel_rfl) (fun _ _ _ h => h) rfl (wtT HE49 rfl rfl rfl (not_f hc24)) (x_load1 tv_76 rfl (c_old (hq0 2 _ rfl))) rfl rfl fun a_50 HE51 => ?_
      refine dr_take (i := 19) (ls' := #[true, true, true, true, true, true, true, true, true, true, true, true, true, true, true, true, true, true, true, true, false, false, false, false, false, false, false, false, false, false, false]) HE51 HS37 rfl (by kernel_rfl) (by kernel_rfl) (by kernel_rfl) (fun _ _ _ h => h) rfl (wtT HE51 rfl rfl rfl (not_f hc24)) (x_len Tryd.underlying76 rfl) rfl rfl fun a_52 HE53 => ?_
      refine dr_take (i := 20) (ls' := #[true, true, true, true, true, true, true, true, true, true, true, true, true, true, true, true, true, true, true, true, true, false, false, false, false, false, false, false, false, false, false]) HE53 HS37 rfl (by kernel_rfl) (by kernel_rfl) (by kernel_rfl) (fun _ _ _ h => h) rfl (wtT HE53 rfl rfl rfl (not_f hc24)) (x_move rfl) rfl rfl fun a_54 HE55 => ?_
      refine dr_take (i := 21) (ls' := #[true, true, true, true, true, true, true, true, true, true, true, true, true, true, true, true, true, true, true, true, true, true, false, false, false, false, false, false, false, false, false]) HE55 HS37 rfl (by kernel_rfl) (by kernel_rfl) (by kernel_rfl) (fun _ _ _ h => h) rfl (wtT HE55 rfl rfl rfl (not_f hc24)) (x_nilCheck rfl) rfl rfl fun a_56 HE57 => ?_
      refine dr_take (i := 22) (ls' := #[true, true, true, true, true, true, true, true, true, true, true, true, true, true, true, true, true, true, true, true, true, true, true, false, false, false, false, false, false, false, false]) HE57 HS37 rfl (by kernel_rfl) (by kernel_rfl) (by kernel_rfl) (fun _ _ _ h => h) rfl (wtT HE57 rfl rfl rfl (not_f hc24)) (x_fieldAddr fa_78_0 rfl) rfl rfl fun a_58 HE59 => ?_
      refine dr_take (i := 23) (ls' := #[true, true, true, true, true, true, true, true, true, true, true, true, true, true, true, true, true, true, true, true, true, true, true, true, false, false, false, false, false, false, false]) HE59 HS37 rfl (by kernel_rfl) (by kernel_rfl) (by kernel_rfl) (fun _ _ _ h => h) rfl (wtT HE59 rfl rfl rfl (not_f hc24)) (x_load1 tv_2 rfl (c_old (hq0 0 _ rfl))) rfl rfl fun a_60 HE61 => ?_
      refine dr_take (i := 24) (ls' := #[true, true, true, true, true, true, true, true, true, true, true, true, true, true, true, true, true, true, true, true, true, true, true, true, true, false, false, false, false, false, false]) HE61 HS37 rfl (by kernel_rfl) (by kernel_rfl) (by kernel_rfl) (fun _ _ _ h => h) rfl (wtT HE61 rfl rfl rfl (not_f hc24)) (x_move rfl) rfl rfl fun a_62 HE63 => ?_
      refine dr_take (i := 25) (ls' := #[true, true, true, true, true, true, true, true, true, true, true, true, true, true, true, true, true, true, true, true, true, true, true, true, true, true, false, false, false, false, false]) HE63 HS37 rfl (by kernel_rfl) (by kernel_rfl) (by kernel_rfl) (fun _ _ _ h => h) rfl (wtT HE63 rfl rfl rfl (not_f hc24)) (x_nilCheck rfl) rfl rfl fun a_64 HE65 => ?_
      refine dr_take (i := 26) (ls' := #[true, true, true, true, true, true, true, true, true, true, true, true, true, true, true, true, true, true, true, true, true, true, true, true, true, true, true, false, false, false, false]) HE65 HS37 rfl (by kernel_rfl) (by kernel_rfl) (by kernel_rfl) (fun _ _ _ h => h) rfl (wtT HE65 rfl rfl rfl (not_f hc24)) (x_fieldAddr fa_78_1 rfl) rfl rfl fun a_66 HE67 => ?_
      refine dr_take (i := 27) (ls' := #[true, true, true, true, true, true, true, true, true, true, true, true, true, true, true, true, true, true, true, true, true, true, true, true, true, true, true, true, false, false, false]) HE67 HS37 rfl (by kernel_rfl) (by kernel_rfl) (by kernel_rfl) (fun _ _ _ h => h) rfl (wtT HE67 rfl rfl rfl (not_f hc24)) (x_load1 tv_2 rfl (c_old (hq0 1 _ rfl))) rfl rfl fun a_68 HE69 => ?_
      refine dr_take (i := 28) (ls' := #[true, true, true, true, true, true, true, true, true, true, true, true, true, true, true, true, true, true, true, true, true, true, true, true, true, true, true, true, true, false, false]) HE69 HS37 rfl (by kernel_rfl) (by kernel_rfl) (by kernel_rfl) (fun _ _ _ h => h) rfl (wtT HE69 rfl rfl rfl (not_f hc24)) (x_mul rfl rfl (by exact ⟨by omega, by omega⟩)) rfl rfl fun a_70 HE71 => ?_
      refine dr_take (i := 29) (ls' := #[true, true, true, true, true, true, true, true, true, true, true, true, true, true, true, true, true, true, true, true, true, true, true, true, true, true, true, true, true, true, false]) HE71 HS37 rfl (by kernel_rfl) (by kernel_rfl) (by kernel_rfl) (fun _ _ _ h => h) rfl (wtT HE71 rfl rfl rfl (not_f hc24)) (x_neq rfl rfl) rfl rfl fun a_72 HE73 => ?_
      refine dr_take (i := 30) (ls' := #[true, true, true, true, true, true, true, true, true, true, true, true, true, true, true, true, true, true, true, true, true, true, true, true, true, true, true, true, true, true, true]) HE73 HS37 rfl (by kernel_rfl) (by kernel_rfl) (by kernel_rfl) (fun _ _ _ h => h) rfl (wt0 rfl) (x_pickF rfl (not_f hc24) rfl) rfl rfl fun a_74 HE75 => ?_
      refine dr_done (by kernel_rfl) ?_
      clear HH1 a_4 HE5 a_8 HE9 a_10 HE11 a_12 HE13 a_14 HE15 HS7 a_18 HE19 a_21 HE22 a_23 HE24 a_25 HE26 a_27 HE28 a_29 HE30 K_16 hK17 a_31 HE32 HS20 a_35 HE36 a_38 HE39 a_40 HE41 a_42 HE43 a_44 HE45 a_46 HE47 a_48 HE49 a_50 HE51 a_52 HE53 a_54 HE55 a_56 HE57 a_58 HE59 a_60 HE61 a_62 HE63 a_64 HE65 a_66 HE67 a_68 HE69 a_70 HE71 a_72 HE73 hK34 K_33
      refine nrm ?_
      refine cnd_ne HE75 rfl (fun hc25 => ?_) (fun hc25 => ?_)
      · refine wp_seq ?_
        refine rg ?_
        refine pl_x HE75 HH6 (wt0 rfl) (x_assign rfl) rfl rfl fun a_76 HE77 => ?_
        refine wpList_nil ?_
        clear a_74 HE75
        refine nrm ?_
        refine wp_ret ?_
        refine (thn_ret ?_)
        refine ret1 HE77 rfl (rv_tmp rfl) ?_
        have hF : (validMach a0) = false := by
          first | (simp [validMach, hc22, hc24, hc25]; done) | (unfold validMach; rw [any_hit (by omega : k < a0.2.2.length) (by rw [← xe0]; simp [hc25])]; simp; done) | (have hq := p0_1; rw [List.take_of_length_le (by omega)] at hq; unfold validMach; rw [hq]; grind) | (unfold validMach; grind)
        exact ⟨by first | (rw [hF] <;> rfl) | rfl | (rw [hF]; simp only [Ending.returned.injEq, Value.slice.injEq, true_and, and_true]; first | omega | (simp; done)) | (rw [hF]; simp; omega), HH6.below⟩
      · refine wp_skip ?_
        refine nrm ?_
        refine wp_seq ?_
        refine wp_seq ?_
        refine rg ?_
        refine pl_x HE75 HH6 (wt0 rfl) (x_assign rfl) rfl rfl fun a_78 HE79 => ?_
        refine wpList_nil ?_
        clear a_74 HE75
        refine nrm ?_
        refine wp_block ?_
        refine lp (fun m a w' => ∃ (k : Nat), m = a0.2.2.length - k ∧ Env 61 [(3, .int .i64 (k : Int)), (0, .pointer (some ⟨p0, o0, none⟩))] a ∧ Held Nob w [] w' ∧ (k ≤ a0.2.2.length) ∧ ((a0.2.2.take k).any (fun r => !ruleB a0.1 a0.2.1 r) = false)) (a0.2.2.length - (0)) ?_ ?_
        · exact ⟨0, rfl, HE79.sub ⟨(lkI rfl (by first | rfl | omega | (simp [hc22, hc24, hc25]; done))), rfl, trivial⟩, (HH6.sel [] (by decide) rfl), (by first | omega | assumption | (simp; done) | simp_all), (by rfl)⟩
        · rintro m a_80 w' ⟨k, rfl, HE81, HH82, p26_0, p26_1⟩
          refine wp_seq ?_
          refine wp_seq ?_
          refine rg ?_
          refine pl_x HE81 HH82 (wt0 rfl) (x_move rfl) rfl rfl fun a_83 HE84 => ?_
          refine pl_x HE84 HH82 (wt0 rfl) (x_move rfl) rfl rfl fun a_85 HE86 => ?_
          refine pl_x HE86 HH82 (wt0 rfl) (x_nilCheck rfl) rfl rfl fun a_87 HE88 => ?_
          refine pl_x HE88 HH82 (wt0 rfl) (x_fieldAddr fa_78_2 rfl) rfl rfl fun a_89 HE90 => ?_
          refine pl_x HE90 HH82 (wt0 rfl) (x_load1 tv_76 rfl (c_old (hq0 2 _ rfl))) rfl rfl fun a_91 HE92 => ?_
          refine pl_x HE92 HH82 (wt0 rfl) (x_len Tryd.underlying76 rfl) rfl rfl fun a_93 HE94 => ?_
          refine pl_x HE94 HH82 (wt0 rfl) (x_lss rfl rfl) rfl rfl fun a_95 HE96 => ?_
          refine wpList_nil ?_
          clear a_78 HE79 HH6 a_80 HE81 a_83 HE84 a_85 HE86 a_87 HE88 a_89 HE90 a_91 HE92 a_93 HE94
          refine nrm ?_
          refine cnd_d HE96 rfl (fun hc27 => ?_) (fun hc27 => ?_)
          · refine wp_skip ?_
            refine nrm ?_
            refine wp_seq ?_
            refine wp_block ?_
            refine wp_seq ?_
            refine dr_start (Held Nob w []) 17 #[false, false, false, false, false, false, false, false, false, false, false, false, false, false, false, false, false] hmix rfl rfl HH82 (fun _ h => h.sel [] (by decide) rfl) fun w' HH97 => ?_
            have HS98 := HH97
            refine dr_take (i := 0) (ls' := #[true, false, false, false, false, false, false, false, false, false, false, false, false, false, false, false, false]) HE96 HS98 rfl (by kernel_rfl) (by kernel_rfl) (by kernel_rfl) (fun _ _ _ h => h) rfl (wt0 rfl) (x_move rfl) rfl rfl fun a_99 HE100 => ?_
            refine dr_take (i := 1) (ls' := #[true, true, false, false, false, false, false, false, false, false, false, false, false, false, false, false, false]) HE100 HS98 rfl (by kernel_rfl) (by kernel_rfl) (by kernel_rfl) (fun _ _ _ h => h) rfl (wt0 rfl) (x_nilCheck rfl) rfl rfl fun a_101 HE102 => ?_
            refine dr_take (i := 2) (ls' := #[true, true, true, false, false, false, false, false, false, false, false, false, false, false, false, false, false]) HE102 HS98 rfl (by kernel_rfl) (by kernel_rfl) (by kernel_rfl) (fun _ _ _ h => h) rfl (wt0 rfl) (x_fieldAddr fa_78_2 rfl) rfl rfl fun a_103 HE104 => ?_
            refine dr_take (i := 3) (ls' := #[true, true, true, true, false, false, false, false, false, false, false, false, false, false, false, false, false]) HE104 HS98 rfl (by kernel_rfl) (by kernel_rfl) (by kernel_rfl) (fun _ _ _ h => h) rfl (wt0 rfl) (x_load1 tv_76 rfl (c_old (hq0 2 _ rfl))) rfl rfl fun a_105 HE106 => ?_
            refine dr_take (i := 4) (ls' := #[true, true, true, true, true, false, false, false, false, false, false, false, false, false, false, false, false]) HE106 HS98 rfl (by kernel_rfl) (by kernel_rfl) (by kernel_rfl) (fun _ _ _ h => h) rfl (wt0 rfl) (x_move rfl) rfl rfl fun a_107 HE108 => ?_
            have ke28 : k < a0.2.2.length := by omega
            obtain ⟨be28, fe28, ese28, Ae28, Re28, De28⟩ := el_old gz0_2 ke28
            obtain ⟨e28, xe28⟩ : ∃ x_, x_ = a0.2.2[k] := ⟨_, rfl⟩
            rw [← xe28] at Re28
            have Qe28 := Re28
            obtain ⟨rfl, ge28_0, ge28_1, ge28_2⟩ := shape_Rule Re28
            have je28_0 := ge28_0; unfold I64 at je28_0
            have je28_1 := ge28_1; unfold I64 at je28_1
            have je28_2 := ge28_2; unfold I64 at je28_2
            refine dr_take (i := 5) (ls' := #[true, true, true, true, true, true, false, false, false, false, false, false, false, false, false, false, false]) HE108 HS98 rfl (by kernel_rfl) (by kernel_rfl) (by kernel_rfl) (fun _ _ _ h => h) rfl (wt0 rfl) (x_indexAddr ts_76 rfl rfl Ae28 rfl ke28) rfl rfl fun a_109 HE110 => ?_
            refine dr_take (i := 6) (ls' := #[true, true, true, true, true, true, true, false, false, false, false, false, false, false, false, false, false]) HE110 HS98 rfl (by kernel_rfl) (by kernel_rfl) (by kernel_rfl) (fun _ _ _ h => h) rfl (wt0 rfl) (x_loadN (cs := [.int .i64 (e28.1), .int .i64 (e28.2.1), .int .i64 (e28.2.2)]) tv_179 rfl rfl (c_oldN De28)) rfl rfl fun a_111 HE112 => ?_
            refine dr_take (i := 7) (ls' := #[true, true, true, true, true, true, true, true, false, false, false, false, false, false, false, false, false]) HE112 HS98 rfl (by kernel_rfl) (by kernel_rfl) (by kernel_rfl) (fun _ _ _ h => h) rfl (wt0 rfl) (x_move rfl) rfl rfl fun a_113 HE114 => ?_
            refine dr_take (i := 8) (ls' := #[true, true, true, true, true, true, true, true, true, false, false, false, false, false, false, false, false]) HE114 HS98 rfl (by kernel_rfl) (by kernel_rfl) (by kernel_rfl) (fun _ _ _ h => h) rfl (wt0 rfl) (x_nilCheck rfl) rfl rfl fun a_115 HE116 => ?_
            refine dr_take (i := 9) (ls' := #[true, true, true, true, true, true, true, true, true, true, false, false, false, false, false, false, false]) HE116 HS98 rfl (by kernel_rfl) (by kernel_rfl) (by kernel_rfl) (fun _ _ _ h => h) rfl (wt0 rfl) (x_fieldAddr fa_78_0 rfl) rfl rfl fun a_117 HE118 => ?_
            refine dr_take (i := 10) (ls' := #[true, true, true, true, true, true, true, true, true, true, true, false, false, false, false, false, false]) HE118 HS98 rfl (by kernel_rfl) (by kernel_rfl) (by kernel_rfl) (fun _ _ _ h => h) rfl (wt0 rfl) (x_load1 tv_2 rfl (c_old (hq0 0 _ rfl))) rfl rfl fun a_119 HE120 => ?_
            refine dr_take (i := 11) (ls' := #[true, true, true, true, true, true, true, true, true, true, true, true, false, false, false, false, false]) HE120 HS98 rfl (by kernel_rfl) (by kernel_rfl) (by kernel_rfl) (fun _ _ _ h => h) rfl (wt0 rfl) (x_move rfl) rfl rfl fun a_121 HE122 => ?_
            refine dr_take (i := 12) (ls' := #[true, true, true, true, true, true, true, true, true, true, true, true, true, false, false, false, false]) HE122 HS98 rfl (by kernel_rfl) (by kernel_rfl) (by kernel_rfl) (fun _ _ _ h => h) rfl (wt0 rfl) (x_nilCheck rfl) rfl rfl fun a_123 HE124 => ?_
            refine dr_take (i := 13) (ls' := #[true, true, true, true, true, true, true, true, true, true, true, true, true, true, false, false, false]) HE124 HS98 rfl (by kernel_rfl) (by kernel_rfl) (by kernel_rfl) (fun _ _ _ h => h) rfl (wt0 rfl) (x_fieldAddr fa_78_1 rfl) rfl rfl fun a_125 HE126 => ?_
            refine dr_take (i := 14) (ls' := #[true, true, true, true, true, true, true, true, true, true, true, true, true, true, true, false, false]) HE126 HS98 rfl (by kernel_rfl) (by kernel_rfl) (by kernel_rfl) (fun _ _ _ h => h) rfl (wt0 rfl) (x_load1 tv_2 rfl (c_old (hq0 1 _ rfl))) rfl rfl fun a_127 HE128 => ?_
            refine dr_one (i := 15) (ls' := #[true, true, true, true, true, true, true, true, true, true, true, true, true, true, true, true, false]) rfl (by kernel_rfl) rfl fun K_129 hK130 => ?_
            refine st_call HE128 (wt0 rfl) rfl rfl rfl en_127 rfl rfl (spec_l05Rule [.int .i64 (e28.1), .int .i64 (e28.2.1), .int .i64 (e28.2.2)] e28 a0.1 a0.2.1 _ (HH97.oldR Qe28) (by omega) (by omega)) fun e w' hr => ?_
            obtain ⟨rfl, hbr29⟩ := hr
            have HH131 := HH97.on hbr29
            refine ⟨_, rfl, fun a_132 HE133 => hK130 _ _ (by exact HH131.sel [] (by decide) rfl) ?_⟩
            have HS134 := HH131.sel [] (by decide) rfl
            refine dr_take (i := 16) (ls' := #[true, true, true, true, true, true, true, true, true, true, true, true, true, true, true, true, true]) HE133 HS134 rfl (by kernel_rfl) (by kernel_rfl) (by kernel_rfl) (fun _ _ _ h => h) rfl (wt0 rfl) (x_not rfl) rfl rfl fun a_135 HE136 => ?_
            refine dr_done (by kernel_rfl) ?_
            clear HH82 HS37 a_95 HE96 a_99 HE100 a_101 HE102 a_103 HE104 a_105 HE106 a_107 HE108 a_109 HE110 a_111 HE112 a_113 HE114 a_115 HE116 a_117 HE118 a_119 HE120 a_121 HE122 a_123 HE124 a_125 HE126 HH97 a_127 HE128 HS98 a_132 HE133 hK130 K_129
            refine nrm ?_
            refine cnd_nb HE136 rfl (fun hc30 => ?_) (fun hc30 => ?_)
            · refine wp_seq ?_
              refine rg ?_
              refine pl_x HE136 HH131 (wt0 rfl) (x_assign rfl) rfl rfl fun a_137 HE138 => ?_
              refine wpList_nil ?_
              clear a_135 HE136
              refine nrm ?_
              refine wp_ret ?_
              refine (blk_ret (thn_ret (thn_ret (blk_ret (thn_ret ?_)))))
              refine ret1 HE138 rfl (rv_tmp rfl) ?_
              have hF : (validMach a0) = false := by
                first | (simp [validMach, hc22, hc24, hc25, p26_0, p26_1, hc27, xe28, hc30]; done) | (unfold validMach; rw [any_hit (by omega : k < a0.2.2.length) (by rw [← xe28]; simp [hc30])]; simp; done) | (have hq := p26_1; rw [List.take_of_length_le (by omega)] at hq; unfold validMach; rw [hq]; grind) | (unfold validMach; grind)
              exact ⟨by first | (rw [hF] <;> rfl) | rfl | (rw [hF]; simp only [Ending.returned.injEq, Value.slice.injEq, true_and, and_true]; first | omega | (simp; done)) | (rw [hF]; simp; omega), HH131.below⟩
            · refine wp_skip ?_
              refine blk_n ?_
              refine nrm ?_
              refine rg ?_
              refine pl_x HE136 HH131 (wt0 rfl) (x_move rfl) rfl rfl fun a_139 HE140 => ?_
              refine pl_x HE140 HH131 (wt0 rfl) (x_add rfl rfl (by exact ⟨by omega, by omega⟩)) rfl rfl fun a_141 HE142 => ?_
              refine pl_x HE142 HH131 (wt0 rfl) (x_assign rfl) rfl rfl fun a_143 HE144 => ?_
              refine wpList_nil ?_
              clear a_135 HE136 a_139 HE140 a_141 HE142
              exact nrm ⟨a0.2.2.length - (k + 1), (by omega), k + 1, rfl, HE144.sub ⟨(lkI rfl (by first | rfl | omega | (simp [hc22, hc24, hc25, p26_0, p26_1, hc27, xe28, hc30]; done))), rfl, trivial⟩, (HH131.sel [] (by decide) rfl), (by first | omega | assumption | (simp; done) | simp_all), (by exact any_step (by omega) p26_1 (by rw [← xe28]; simp [hc30]))⟩
          · refine wp_exit ?_
            refine (thn_exit (thn_exit (blk_hit ?_)))
            refine nrm ?_
            refine wp_seq ?_
            refine rg ?_
            refine pl_x HE96 HH82 (wt0 rfl) (x_assign rfl) rfl rfl fun a_145 HE146 => ?_
            refine wpList_nil ?_
            clear a_95 HE96
            refine nrm ?_
            refine wp_ret ?_
            refine ret1 HE146 rfl (rv_tmp rfl) ?_
            have hF : (validMach a0) = true := by
              first | (simp [validMach, hc22, hc24, hc25, p26_0, p26_1, hc27]; done) | (unfold validMach; rw [any_hit (by omega : k < a0.2.2.length) (by rw [← xe0]; simp [hc27])]; simp; done) | (have hq := p26_1; rw [List.take_of_length_le (by omega)] at hq; unfold validMach; rw [hq]; grind) | (unfold validMach; grind)
            exact ⟨by first | (rw [hF] <;> rfl) | rfl | (rw [hF]; simp only [Ending.returned.injEq, Value.slice.injEq, true_and, and_true]; first | omega | (simp; done)) | (rw [hF]; simp; omega), HH82.below⟩
    · refine dr_takeNo (i := 15) (ls' := #[true, true, true, true, true, true, true, true, true, true, true, true, true, true, true, true, false, false, false, false, false, false, false, false, false, false, false, false, false, false, false]) HE43 HS37 rfl (by kernel_rfl) (by kernel_rfl) (by kernel_rfl) (fun _ _ _ h => h) rfl (wtF HE43 rfl rfl rfl (not_t hc24)) rfl rfl fun a_147 HE148 => ?_
      refine dr_takeNo (i := 16) (ls' := #[true, true, true, true, true, true, true, true, true, true, true, true, true, true, true, true, true, false, false, false, false, false, false, false, false, false, false, false, false, false, false]) HE148 HS37 rfl (by kernel_rfl) (by kernel_rfl) (by kernel_rfl) (fun _ _ _ h => h) rfl (wtF HE148 rfl rfl rfl (not_t hc24)) rfl rfl fun a_149 HE150 => ?_
      refine dr_takeNo (i := 17) (ls' := #[true, true, true, true, true, true, true, true, true, true, true, true, true, true, true, true, true, true, false, false, false, false, false, false, false, false, false, false, false, false, false]) HE150 HS37 rfl (by kernel_rfl) (by kernel_rfl) (by kernel_rfl) (fun _ _ _ h => h) rfl (wtF HE150 rfl rfl rfl (not_t hc24)) rfl rfl fun a_151 HE152 => ?_
      refine dr_takeNo (i := 18) (ls' := #[true, true, true, true, true, true, true, true, true, true, true, true, true, true, true, true, true, true, true, false, false, false, false, false, false, false, false, false, false, false, false]) HE152 HS37 rfl (by kernel_rfl) (by kernel_rfl) (by kernel_rfl) (fun _ _ _ h => h) rfl (wtF HE152 rfl rfl rfl (not_t hc24)) rfl rfl fun a_153 HE154 => ?_
      refine dr_takeNo (i := 19) (ls' := #[true, true, true, true, true, true, true, true, true, true, true, true, true, true, true, true, true, true, true, true, false, false, false, false, false, false, false, false, false, false, false]) HE154 HS37 rfl (by kernel_rfl) (by kernel_rfl) (by kernel_rfl) (fun _ _ _ h => h) rfl (wtF HE154 rfl rfl rfl (not_t hc24)) rfl rfl fun a_155 HE156 => ?_
      refine dr_takeNo (i := 20) (ls' := #[true, true, true, true, true, true, true, true, true, true, true, true, true, true, true, true, true, true, true, true, true, false, false, false, false, false, false, false, false, false, false]) HE156 HS37 rfl (by kernel_rfl) (by kernel_rfl) (by kernel_rfl) (fun _ _ _ h => h) rfl (wtF HE156 rfl rfl rfl (not_t hc24)) rfl rfl fun a_157 HE158 => ?_
      refine dr_takeNo (i := 21) (ls' := #[true, true, true, true, true, true, true, true, true, true, true, true, true, true, true, true, true, true, true, true, true, true, false, false, false, false, false, false, false, false, false]) HE158 HS37 rfl (by kernel_rfl) (by kernel_rfl) (by kernel_rfl) (fun _ _ _ h => h) rfl (wtF HE158 rfl rfl rfl (not_t hc24)) rfl rfl fun a_159 HE160 => ?_
      refine dr_takeNo (i := 22) (ls' := #[true, true, true, true, true, true, true, true, true, true, true, true, true, true, true, true, true, true, true, true, true, true, true, false, false, false, false, false, false, false, false]) HE160 HS37 rfl (by kernel_rfl) (by kernel_rfl) (by kernel_rfl) (fun _ _ _ h => h) rfl (wtF HE160 rfl rfl rfl (not_t hc24)) rfl rfl fun a_161 HE162 => ?_
      refine dr_takeNo (i := 23) (ls' := #[true, true, true, true, true, true, true, true, true, true, true, true, true, true, true, true, true, true, true, true, true, true, true, true, false, false, false, false, false, false, false]) HE162 HS37 rfl (by kernel_rfl) (by kernel_rfl) (by kernel_rfl) (fun _ _ _ h => h) rfl (wtF HE162 rfl rfl rfl (not_t hc24)) rfl rfl fun a_163 HE164 => ?_
      refine dr_takeNo (i := 24) (ls' := #[true, true, true, true, true, true, true, true, true, true, true, true, true, true, true, true, true, true, true, true, true, true, true, true, true, false, false, false, false, false, false]) HE164 HS37 rfl (by kernel_rfl) (by kernel_rfl) (by kernel_rfl) (fun _ _ _ h => h) rfl (wtF HE164 rfl rfl rfl (not_t hc24)) rfl rfl fun a_165 HE166 => ?_
      refine dr_takeNo (i := 25) (ls' := #[true, true, true, true, true, true, true, true, true, true, true, true, true, true, true, true, true, true, true, true, true, true, true, true, true, true, false, false, false, false, false]) HE166 HS37 rfl (by kernel_rfl) (by kernel_rfl) (by kernel_rfl) (fun _ _ _ h => h) rfl (wtF HE166 rfl rfl rfl (not_t hc24)) rfl rfl fun a_167 HE168 => ?_
      refine dr_takeNo (i := 26) (ls' := #[true, true, true, true, true, true, true, true, true, true, true, true, true, true, true, true, true, true, true, true, true, true, true, true, true, true, true, false, false, false, false]) HE168 HS37 rfl (by kernel_rfl) (by kernel_rfl) (by kernel_rfl) (fun _ _ _ h => h) rfl (wtF HE168 rfl rfl rfl (not_t hc24)) rfl rfl fun a_169 HE170 => ?_
      refine dr_takeNo (i := 27) (ls' := #[true, true, true, true, true, true, true, true, true, true, true, true, true, true, true, true, true, true, true, true, true, true, true, true, true, true, true, true, false, false, false]) HE170 HS37 rfl (by kernel_rfl) (by kernel_rfl) (by kernel_rfl) (fun _ _ _ h => h) rfl (wtF HE170 rfl rfl rfl (not_t hc24)) rfl rfl fun a_171 HE172 => ?_
      refine dr_takeNo (i := 28) (ls' := #[true, true, true, true, true, true, true, true, true, true, true, true, true, true, true, true, true, true, true, true, true, true, true, true, true, true, true, true, true, false, false]) HE172 HS37 rfl (by kernel_rfl) (by kernel_rfl) (by kernel_rfl) (fun _ _ _ h => h) rfl (wtF HE172 rfl rfl rfl (not_t hc24)) rfl rfl fun a_173 HE174 => ?_
      refine dr_takeNo (i := 29) (ls' := #[true, true, true, true, true, true, true, true, true, true, true, true, true, true, true, true, true, true, true, true, true, true, true, true, true, true, true, true, true, true, false]) HE174 HS37 rfl (by kernel_rfl) (by kernel_rfl) (by kernel_rfl) (fun _ _ _ h => h) rfl (wtF HE174 rfl rfl rfl (not_t hc24)) rfl rfl fun a_175 HE176 => ?_
      refine dr_take (i := 30) (ls' := #[true, true, true, true, true, true, true, true, true, true, true, true, true, true, true, true, true, true, true, true, true, true, true, true, true, true, true, true, true, true, true]) HE176 HS37 rfl (by kernel_rfl) (by kernel_rfl) (by kernel_rfl) (fun _ _ _ h => h) rfl (wt0 rfl) (x_pickT rfl (not_t hc24) rfl) rfl rfl fun a_177 HE178 => ?_
      refine dr_done (by kernel_rfl) ?_
      clear HH1 a_4 HE5 a_8 HE9 a_10 HE11 a_12 HE13 a_14 HE15 HS7 a_18 HE19 a_21 HE22 a_23 HE24 a_25 HE26 a_27 HE28 a_29 HE30 K_16 hK17 a_31 HE32 HS20 a_35 HE36 a_38 HE39 a_40 HE41 a_42 HE43 a_147 HE148 a_149 HE150 a_151 HE152 a_153 HE154 a_155 HE156 a_157 HE158 a_159 HE160 a_161 HE162 a_163 HE164 a_165 HE166 a_167 HE168 a_169 HE170 a_171 HE172 a_173 HE174 a_175 HE176 hK34 K_33
      refine nrm ?_
      refine cndT HE178 rfl rfl ?_
      refine wp_seq ?_
      refine rg ?_
      refine pl_x HE178 HH6 (wt0 rfl) (x_assign rfl) rfl rfl fun a_179 HE180 => ?_
      refine wpList_nil ?_
      clear a_177 HE178
      refine nrm ?_
      refine wp_ret ?_
      refine (thn_ret ?_)
      refine ret1 HE180 rfl (rv_tmp rfl) ?_
      have hF : (validMach a0) = false := by
        first | (simp [validMach, hc22, hc24]; done) | (unfold validMach; rw [any_hit (by omega : k < a0.2.2.length) (by rw [← xe0]; simp [hc24])]; simp; done) | (have hq := p0_1; rw [List.take_of_length_le (by omega)] at hq; unfold validMach; rw [hq]; grind) | (unfold validMach; grind)
      exact ⟨by first | (rw [hF] <;> rfl) | rfl | (rw [hF]; simp only [Ending.returned.injEq, Value.slice.injEq, true_and, and_true]; first | omega | (simp; done)) | (rw [hF]; simp; omega), HH6.below⟩
  · refine dr_takeNo (i := 7) (ls' := #[true, true, true, true, true, true, true, true, false, false, false, false, false, false, false, false, false, false, false, false, false, false, false, false, false, false, false, false, false, false, false]) HE24 HS20 rfl (by kernel_rfl) (by kernel_rfl) (by kernel_rfl) (fun _ _ _ h => h) rfl (wtF HE24 rfl rfl rfl (not_t hc22)) rfl rfl fun a_181 HE182 => ?_
    refine dr_takeNo (i := 8) (ls' := #[true, true, true, true, true, true, true, true, true, false, false, false, false, false, false, false, false, false, false, false, false, false, false, false, false, false, false, false, false, false, false]) HE182 HS20 rfl (by kernel_rfl) (by kernel_rfl) (by kernel_rfl) (fun _ _ _ h => h) rfl (wtF HE182 rfl rfl rfl (not_t hc22)) rfl rfl fun a_183 HE184 => ?_
    refine dr_takeNo (i := 9) (ls' := #[true, true, true, true, true, true, true, true, true, true, false, false, false, false, false, false, false, false, false, false, false, false, false, false, false, false, false, false, false, false, false]) HE184 HS20 rfl (by kernel_rfl) (by kernel_rfl) (by kernel_rfl) (fun _ _ _ h => h) rfl (wtF HE184 rfl rfl rfl (not_t hc22)) rfl rfl fun a_185 HE186 => ?_
    refine dr_takeNo (i := 10) (ls' := #[true, true, true, true, true, true, true, true, true, true, true, false, false, false, false, false, false, false, false, false, false, false, false, false, false, false, false, false, false, false, false]) HE186 HS20 rfl (by kernel_rfl) (by kernel_rfl) (by kernel_rfl) (fun _ _ _ h => h) rfl (wtF HE186 rfl rfl rfl (not_t hc22)) rfl rfl fun a_187 HE188 => ?_
    refine dr_takeNo (i := 11) (ls' := #[true, true, true, true, true, true, true, true, true, true, true, true, false, false, false, false, false, false, false, false, false, false, false, false, false, false, false, false, false, false, false]) HE188 HS20 rfl (by kernel_rfl) (by kernel_rfl) (by kernel_rfl) (fun _ _ _ h => h) rfl (wtF HE188 rfl rfl rfl (not_t hc22)) rfl rfl fun a_189 HE190 => ?_
    refine dr_takeNo (i := 12) (ls' := #[true, true, true, true, true, true, true, true, true, true, true, true, true, false, false, false, false, false, false, false, false, false, false, false, false, false, false, false, false, false, false]) HE190 HS20 rfl (by kernel_rfl) (by kernel_rfl) (by kernel_rfl) (fun _ _ _ h => h) rfl (wtF HE190 rfl rfl rfl (not_t hc22)) rfl rfl fun a_191 HE192 => ?_
    refine dr_take (i := 13) (ls' := #[true, true, true, true, true, true, true, true, true, true, true, true, true, true, false, false, false, false, false, false, false, false, false, false, false, false, false, false, false, false, false]) HE192 HS20 rfl (by kernel_rfl) (by kernel_rfl) (by kernel_rfl) (fun _ _ _ h => h) rfl (wt0 rfl) (x_pickT rfl (not_t hc22) rfl) rfl rfl fun a_193 HE194 => ?_
    refine dr_take (i := 14) (ls' := #[true, true, true, true, true, true, true, true, true, true, true, true, true, true, true, false, false, false, false, false, false, false, false, false, false, false, false, false, false, false, false]) HE194 HS20 rfl (by kernel_rfl) (by kernel_rfl) (by kernel_rfl) (fun _ _ _ h => h) rfl (wt0 rfl) (x_move rfl) rfl rfl fun a_195 HE196 => ?_
    refine dr_takeNo (i := 15) (ls' := #[true, true, true, true, true, true, true, true, true, true, true, true, true, true, true, true, false, false, false, false, false, false, false, false, false, false, false, false, false, false, false]) HE196 HS20 rfl (by kernel_rfl) (by kernel_rfl) (by kernel_rfl) (fun _ _ _ h => h) rfl (wtF HE196 rfl rfl rfl rfl) rfl rfl fun a_197 HE198 => ?_
    refine dr_takeNo (i := 16) (ls' := #[true, true, true, true, true, true, true, true, true, true, true, true, true, true, true, true, true, false, false, false, false, false, false, false, false, false, false, false, false, false, false]) HE198 HS20 rfl (by kernel_rfl) (by kernel_rfl) (by kernel_rfl) (fun _ _ _ h => h) rfl (wtF HE198 rfl rfl rfl rfl) rfl rfl fun a_199 HE200 => ?_
    refine dr_takeNo (i := 17) (ls' := #[true, true, true, true, true, true, true, true, true, true, true, true, true, true, true, true, true, true, false, false, false, false, false, false, false, false, false, false, false, false, false]) HE200 HS20 rfl (by kernel_rfl) (by kernel_rfl) (by kernel_rfl) (fun _ _ _ h => h) rfl (wtF HE200 rfl rfl rfl rfl) rfl rfl fun a_201 HE202 => ?_
    refine dr_takeNo (i := 18) (ls' := #[true, true, true, true, true, true, true, true, true, true, true, true, true, true, true, true, true, true, true, false, false, false, false, false, false, false, false, false, false, false, false]) HE202 HS20 rfl (by kernel_rfl) (by kernel_rfl) (by kernel_rfl) (fun _ _ _ h => h) rfl (wtF HE202 rfl rfl rfl rfl) rfl rfl fun a_203 HE204 => ?_
    refine dr_takeNo (i := 19) (ls' := #[true, true, true, true, true, true, true, true, true, true, true, true, true, true, true, true, true, true, true, true, false, false, false, false, false, false, false, false, false, false, false]) HE204 HS20 rfl (by kernel_rfl) (by kernel_rfl) (by kernel_rfl) (fun _ _ _ h => h) rfl (wtF HE204 rfl rfl rfl rfl) rfl rfl fun a_205 HE206 => ?_
    refine dr_takeNo (i := 20) (ls' := #[true, true, true, true, true, true, true, true, true, true, true, true, true, true, true, true, true, true, true, true, true, false, false, false, false, false, false, false, false, false, false]) HE206 HS20 rfl (by kernel_rfl) (by kernel_rfl) (by kernel_rfl) (fun _ _ _ h => h) rfl (wtF HE206 rfl rfl rfl rfl) rfl rfl fun a_207 HE208 => ?_
    refine dr_takeNo (i := 21) (ls' := #[true, true, true, true, true, true, true, true, true, true, true, true, true, true, true, true, true, true, true, true, true, true, false, false, false, false, false, false, false, false, false]) HE208 HS20 rfl (by kernel_rfl) (by kernel_rfl) (by kernel_rfl) (fun _ _ _ h => h) rfl (wtF HE208 rfl rfl rfl rfl) rfl rfl fun a_209 HE210 => ?_
    refine dr_takeNo (i := 22) (ls' := #[true, true, true, true, true, true, true, true, true, true, true, true, true, true, true, true, true, true, true, true, true, true, true, false, false, false, false, false, false, false, false]) HE210 HS20 rfl (by kernel_rfl) (by kernel_rfl) (by kernel_rfl) (fun _ _ _ h => h) rfl (wtF HE210 rfl rfl rfl rfl) rfl rfl fun a_211 HE212 => ?_
    refine dr_takeNo (i := 23) (ls' := #[true, true, true, true, true, true, true, true, true, true, true, true, true, true, true, true, true, true, true, true, true, true, true, true, false, false, false, false, false, false, false]) HE212 HS20 rfl (by kernel_rfl) (by kernel_rfl) (by kernel_rfl) (fun _ _ _ h => h) rfl (wtF HE212 rfl rfl rfl rfl) rfl rfl fun a_213 HE214 => ?_
    refine dr_takeNo (i := 24) (ls' := #[true, true, true, true, true, true, true, true, true, true, true, true, true, true, true, true, true, true, true, true, true, true, true, true, true, false, false, false, false, false, false]) HE214 HS20 rfl (by kernel_rfl) (by kernel_rfl) (by kernel_rfl) (fun _ _ _ h => h) rfl (wtF HE214 rfl rfl rfl rfl) rfl rfl fun a_215 HE216 => ?_
    refine dr_takeNo (i := 25) (ls' := #[true, true, true, true, true, true, true, true, true, true, true, true, true, true, true, true, true, true, true, true, true, true, true, true, true, true, false, false, false, false, false]) HE216 HS20 rfl (by kernel_rfl) (by kernel_rfl) (by kernel_rfl) (fun _ _ _ h => h) rfl (wtF HE216 rfl rfl rfl rfl) rfl rfl fun a_217 HE218 => ?_
    refine dr_takeNo (i := 26) (ls' := #[true, true, true, true, true, true, true, true, true, true, true, true, true, true, true, true, true, true, true, true, true, true, true, true, true, true, true, false, false, false, false]) HE218 HS20 rfl (by kernel_rfl) (by kernel_rfl) (by kernel_rfl) (fun _ _ _ h => h) rfl (wtF HE218 rfl rfl rfl rfl) rfl rfl fun a_219 HE220 => ?_
    refine dr_takeNo (i := 27) (ls' := #[true, true, true, true, true, true, true, true, true, true, true, true, true, true, true, true, true, true, true, true, true, true, true, true, true, true, true, true, false, false, false]) HE220 HS20 rfl (by kernel_rfl) (by kernel_rfl) (by kernel_rfl) (fun _ _ _ h => h) rfl (wtF HE220 rfl rfl rfl rfl) rfl rfl fun a_221 HE222 => ?_
    refine dr_takeNo (i := 28) (ls' := #[true, true, true, true, true, true, true, true, true, true, true, true, true, true, true, true, true, true, true, true, true, true, true, true, true, true, true, true, true, false, false]) HE222 HS20 rfl (by kernel_rfl) (by kernel_rfl) (by kernel_rfl) (fun _ _ _ h => h) rfl (wtF HE222 rfl rfl rfl rfl) rfl rfl fun a_223 HE224 => ?_
    refine dr_takeNo (i := 29) (ls' := #[true, true, true, true, true, true, true, true, true, true, true, true, true, true, true, true, true, true, true, true, true, true, true, true, true, true, true, true, true, true, false]) HE224 HS20 rfl (by kernel_rfl) (by kernel_rfl) (by kernel_rfl) (fun _ _ _ h => h) rfl (wtF HE224 rfl rfl rfl rfl) rfl rfl fun a_225 HE226 => ?_
    refine dr_take (i := 30) (ls' := #[true, true, true, true, true, true, true, true, true, true, true, true, true, true, true, true, true, true, true, true, true, true, true, true, true, true, true, true, true, true, true]) HE226 HS20 rfl (by kernel_rfl) (by kernel_rfl) (by kernel_rfl) (fun _ _ _ h => h) rfl (wt0 rfl) (x_pickT rfl rfl rfl) rfl rfl fun a_227 HE228 => ?_
    refine dr_done (by kernel_rfl) ?_
    clear HH1 a_4 HE5 a_8 HE9 a_10 HE11 a_12 HE13 a_14 HE15 HS7 a_18 HE19 a_21 HE22 a_23 HE24 a_181 HE182 a_183 HE184 a_185 HE186 a_187 HE188 a_189 HE190 a_191 HE192 a_193 HE194 a_195 HE196 a_197 HE198 a_199 HE200 a_201 HE202 a_203 HE204 a_205 HE206 a_207 HE208 a_209 HE210 a_211 HE212 a_213 HE214 a_215 HE216 a_217 HE218 a_219 HE220 a_221 HE222 a_223 HE224 a_225 HE226 hK17 K_16
    refine nrm ?_
    refine cndT HE228 rfl rfl ?_
    refine wp_seq ?_
    refine rg ?_
    refine pl_x HE228 HH6 (wt0 rfl) (x_assign rfl) rfl rfl fun a_229 HE230 => ?_
    refine wpList_nil ?_
    clear a_227 HE228
    refine nrm ?_
    refine wp_ret ?_
    refine (thn_ret ?_)
    refine ret1 HE230 rfl (rv_tmp rfl) ?_
    have hF : (validMach a0) = false := by
      first | (simp [validMach, hc22]; done) | (unfold validMach; rw [any_hit (by omega : k < a0.2.2.length) (by rw [← xe0]; simp [hc22])]; simp; done) | (have hq := p0_1; rw [List.take_of_length_le (by omega)] at hq; unfold validMach; rw [hq]; grind) | (unfold validMach; grind)
    exact ⟨by first | (rw [hF] <;> rfl) | rfl | (rw [hF]; simp only [Ending.returned.injEq, Value.slice.injEq, true_and, and_true]; first | omega | (simp; done)) | (rw [hF]; simp; omega), HH6.below⟩

set_option maxRecDepth 100000 in
set_option maxHeartbeats 4000000 in
theorem spec_l05Cells (p0 o0 : Nat) (es0 : List Value) (a0 : tMachine) (A1 : Option Addr) (c1 : Nat) (a1 : (List Int)) (w : World) (h0 : eMachine.R w (Old w) es0 a0) (hq0 : ∀ j v, es0[j]? = some v → w.cell? ⟨p0, o0 + j, none⟩ = some v) (h1 : Sl eInt w (Old w) A1 c1 a1) (s0 : 2 ≤ a0.1 ∧ a0.1 ≤ 6) :
    Calls Tryd.prog 128 #[.pointer (some ⟨p0, o0, none⟩), .slice A1 a1.length c1] w fun e w' => e = .returned (.bool ((fun m l => sideB l m.1 200) a0 a1)) ∧ Below w.heap.size w w' := by
  have H0 := h0
  obtain ⟨Az0_2, cz0_2, rfl, gz0_0, gz0_1, gz0_2⟩ := shape_Machine h0
  have jz0_0 := gz0_0; unfold I64 at jz0_0
  have jz0_1 := gz0_1; unfold I64 at jz0_1
  have lz0_2 := gz0_2.len
  have l1 := h1.len
  have HH1 := Held.start Nob w
  refine enter (n := 40) Tryd.func128 rfl rfl rfl fun a_2 HE3 => ?_
  refine wp_seq ?_
  refine rg ?_
  refine pl_x HE3 HH1 (wt0 rfl) (x_assign rfl) rfl rfl fun a_4 HE5 => ?_
  refine wpList_nil ?_
  clear a_2 HE3
  refine nrm ?_
  refine wp_seq ?_
  refine wp_seq ?_
  refine rg ?_
  refine pl_x HE5 HH1 (wt0 rfl) (x_assign rfl) rfl rfl fun a_6 HE7 => ?_
  refine wpList_nil ?_
  clear a_4 HE5
  refine nrm ?_
  refine wp_block ?_
  refine lp (fun m a w' => ∃ (k : Nat), m = a1.length - k ∧ Env 40 [(5, .int .i64 (k : Int)), (0, .pointer (some ⟨p0, o0, none⟩)), (1, .slice A1 (a1.length) c1)] a ∧ Held Nob w [] w' ∧ (k ≤ a1.length) ∧ ((a1.take k).any (outB 0 (a0.1 - 1)) = false)) (a1.length - (0)) ?_ ?_
  · exact ⟨0, rfl, HE7.sub ⟨(lkI rfl (by first | rfl | omega | (simp []; done))), rfl, rfl, trivial⟩, (HH1.sel [] (by decide) rfl), (by first | omega | assumption | (simp; done) | simp_all), (by rfl)⟩
  · rintro m a_8 w' ⟨k, rfl, HE9, HH10, p21_0, p21_1⟩
    refine wp_seq ?_
    refine wp_seq ?_
    refine rg ?_
    refine pl_x HE9 HH10 (wt0 rfl) (x_move rfl) rfl rfl fun a_11 HE12 => ?_
    refine pl_x HE12 HH10 (wt0 rfl) (x_move rfl) rfl rfl fun a_13 HE14 => ?_
    refine pl_x HE14 HH10 (wt0 rfl) (x_len Tryd.underlying51 rfl) rfl rfl fun a_15 HE16 => ?_
    refine pl_x HE16 HH10 (wt0 rfl) (x_lss rfl rfl) rfl rfl fun a_17 HE18 => ?_
    refine wpList_nil ?_
    clear a_6 HE7 HH1 a_8 HE9 a_11 HE12 a_13 HE14 a_15 HE16
    refine nrm ?_
    refine cnd_d HE18 rfl (fun hc22 => ?_) (fun hc22 => ?_)
    · refine wp_skip ?_
      refine nrm ?_
      refine wp_seq ?_
      refine wp_block ?_
      refine wp_seq ?_
      refine dr_start (Held Nob w []) 11 #[false, false, false, false, false, false, false, false, false, false, false] hmix rfl rfl HH10 (fun _ h => h.sel [] (by decide) rfl) fun w' HH19 => ?_
      have HS20 := HH19
      refine dr_take (i := 0) (ls' := #[true, false, false, false, false, false, false, false, false, false, false]) HE18 HS20 rfl (by kernel_rfl) (by kernel_rfl) (by kernel_rfl) (fun _ _ _ h => h) rfl (wt0 rfl) (x_move rfl) rfl rfl fun a_21 HE22 => ?_
      refine dr_take (i := 1) (ls' := #[true, true, false, false, false, false, false, false, false, false, false]) HE22 HS20 rfl (by kernel_rfl) (by kernel_rfl) (by kernel_rfl) (fun _ _ _ h => h) rfl (wt0 rfl) (x_move rfl) rfl rfl fun a_23 HE24 => ?_
      have ke23 : k < a1.length := by omega
      obtain ⟨be23, fe23, ese23, Ae23, Re23, De23⟩ := el_old h1 ke23
      obtain ⟨e23, xe23⟩ : ∃ x_, x_ = a1[k] := ⟨_, rfl⟩
      rw [← xe23] at Re23
      have Qe23 := Re23
      obtain ⟨rfl, ie23⟩ := Re23
      have je23 := ie23; unfold I64 at je23
      refine dr_take (i := 2) (ls' := #[true, true, true, false, false, false, false, false, false, false, false]) HE24 HS20 rfl (by kernel_rfl) (by kernel_rfl) (by kernel_rfl) (fun _ _ _ h => h) rfl (wt0 rfl) (x_indexAddr ts_51 rfl rfl Ae23 rfl ke23) rfl rfl fun a_25 HE26 => ?_
      refine dr_take (i := 3) (ls' := #[true, true, true, true, false, false, false, false, false, false, false]) HE26 HS20 rfl (by kernel_rfl) (by kernel_rfl) (by kernel_rfl) (fun _ _ _ h => h) rfl (wt0 rfl) (x_load1 tv_2 rfl (c_old (De23 0 _ rfl))) rfl rfl fun a_27 HE28 => ?_
      refine dr_take (i := 4) (ls' := #[true, true, true, true, true, false, false, false, false, false, false]) HE28 HS20 rfl (by kernel_rfl) (by kernel_rfl) (by kernel_rfl) (fun _ _ _ h => h) rfl (wt0 rfl) (x_move rfl) rfl rfl fun a_29 HE30 => ?_
      refine dr_take (i := 5) (ls' := #[true, true, true, true, true, true, false, false, false, false, false]) HE30 HS20 rfl (by kernel_rfl) (by kernel_rfl) (by kernel_rfl) (fun _ _ _ h => h) rfl (wt0 rfl) (x_nilCheck rfl) rfl rfl fun a_31 HE32 => ?_
      refine dr_take (i := 6) (ls' := #[true, true, true, true, true, true, true, false, false, false, false]) HE32 HS20 rfl (by kernel_rfl) (by kernel_rfl) (by kernel_rfl) (fun _ _ _ h => h) rfl (wt0 rfl) (x_fieldAddr fa_78_0 rfl) rfl rfl fun a_33 HE34 => ?_
      refine dr_take (i := 7) (ls' := #[true, true, true, true, true, true, true, true, false, false, false]) HE34 HS20 rfl (by kernel_rfl) (by kernel_rfl) (by kernel_rfl) (fun _ _ _ h => h) rfl (wt0 rfl) (x_load1 tv_2 rfl (c_old (hq0 0 _ rfl))) rfl rfl fun a_35 HE36 => ?_
      refine dr_take (i := 8) (ls' := #[true, true, true, true, true, true, true, true, true, false, false]) HE36 HS20 rfl (by kernel_rfl) (by kernel_rfl) (by kernel_rfl) (fun _ _ _ h => h) rfl (wt0 rfl) (x_sub rfl rfl (by exact ⟨by omega, by omega⟩)) rfl rfl fun a_37 HE38 => ?_
      refine dr_one (i := 9) (ls' := #[true, true, true, true, true, true, true, true, true, true, false]) rfl (by kernel_rfl) rfl fun K_39 hK40 => ?_
      refine st_call HE38 (wt0 rfl) rfl rfl rfl en_52 rfl rfl (spec_l00In e23 0 (a0.1 - 1) _ ) fun e w' hr => ?_
      obtain ⟨rfl, rfl⟩ := hr
      refine ⟨_, rfl, fun a_41 HE42 => hK40 _ _ (by exact HH19.sel [] (by decide) rfl) ?_⟩
      have HS43 := HH19.sel [] (by decide) rfl
      refine dr_take (i := 10) (ls' := #[true, true, true, true, true, true, true, true, true, true, true]) HE42 HS43 rfl (by kernel_rfl) (by kernel_rfl) (by kernel_rfl) (fun _ _ _ h => h) rfl (wt0 rfl) (x_not rfl) rfl rfl fun a_44 HE45 => ?_
      refine dr_done (by kernel_rfl) ?_
      clear HH10 a_17 HE18 a_21 HE22 a_23 HE24 a_25 HE26 a_27 HE28 a_29 HE30 a_31 HE32 a_33 HE34 a_35 HE36 a_37 HE38 HS20 a_41 HE42 hK40 K_39
      refine nrm ?_
      refine cnd_nb HE45 rfl (fun hc25 => ?_) (fun hc25 => ?_)
      · refine wp_seq ?_
        refine rg ?_
        refine pl_x HE45 HH19 (wt0 rfl) (x_assign rfl) rfl rfl fun a_46 HE47 => ?_
        refine wpList_nil ?_
        clear a_44 HE45
        refine nrm ?_
        refine wp_ret ?_
        refine (blk_ret (thn_ret (thn_ret (blk_ret (thn_ret ?_)))))
        refine ret1 HE47 rfl (rv_tmp rfl) ?_
        have hF : ((fun m l => sideB l m.1 200) a0 a1) = false := by
          show sideB a1 a0.1 200 = _; first | (unfold sideB allW; rw [any_hit (by omega : k < a1.length) (by rw [← xe23, outB_eq, hc25]; rfl)]; simp; done) | (unfold sideB; rw [decide_eq_false (by omega)]; rfl) | (have hq := p21_1; rw [List.take_of_length_le (by omega)] at hq; unfold sideB allW; rw [hq]; grind)
        exact ⟨by first | (rw [hF] <;> rfl) | rfl | (rw [hF]; simp only [Ending.returned.injEq, Value.slice.injEq, true_and, and_true]; first | omega | (simp; done)) | (rw [hF]; simp; omega), HH19.below⟩
      · refine wp_skip ?_
        refine blk_n ?_
        refine nrm ?_
        refine rg ?_
        refine pl_x HE45 HH19 (wt0 rfl) (x_move rfl) rfl rfl fun a_48 HE49 => ?_
        refine pl_x HE49 HH19 (wt0 rfl) (x_add rfl rfl (by exact ⟨by omega, by omega⟩)) rfl rfl fun a_50 HE51 => ?_
        refine pl_x HE51 HH19 (wt0 rfl) (x_assign rfl) rfl rfl fun a_52 HE53 => ?_
        refine wpList_nil ?_
        clear a_44 HE45 a_48 HE49 a_50 HE51
        exact nrm ⟨a1.length - (k + 1), (by omega), k + 1, rfl, HE53.sub ⟨(lkI rfl (by first | rfl | omega | (simp [p21_0, p21_1, hc22, xe23, hc25]; done))), rfl, rfl, trivial⟩, (HH19.sel [] (by decide) rfl), (by first | omega | assumption | (simp; done) | simp_all), (by exact any_step (by omega) p21_1 (by rw [← xe23, outB_eq, hc25]; rfl))⟩
    · refine wp_exit ?_
      refine (thn_exit (thn_exit (blk_hit ?_)))
      refine nrm ?_
      refine wp_seq ?_
      refine rg ?_
      refine pl_x HE18 HH10 (wt0 rfl) (x_move rfl) rfl rfl fun a_54 HE55 => ?_
      refine pl_x HE55 HH10 (wt0 rfl) (x_len Tryd.underlying51 rfl) rfl rfl fun a_56 HE57 => ?_
      refine pl_x HE57 HH10 (wt0 rfl) (x_leq rfl rfl) rfl rfl fun a_58 HE59 => ?_
      refine pl_x HE59 HH10 (wt0 rfl) (x_move rfl) rfl rfl fun a_60 HE61 => ?_
      by_cases hc26 : (a1.length : Int) ≤ 200
      · refine pl_x HE61 HH10 (wtT HE61 rfl rfl rfl (decide_eq_true hc26)) (x_move rfl) rfl rfl fun a_62 HE63 => ?_
        refine pl_x HE63 HH10 (wtT HE63 rfl rfl rfl (decide_eq_true hc26)) (x_len Tryd.underlying51 rfl) rfl rfl fun a_64 HE65 => ?_
        refine pl_x HE65 HH10 (wtT HE65 rfl rfl rfl (decide_eq_true hc26)) (x_eql rfl rfl) rfl rfl fun a_66 HE67 => ?_
        refine pl_x HE67 HH10 (wtT HE67 rfl rfl rfl (decide_eq_true hc26)) (x_move rfl) rfl rfl fun a_68 HE69 => ?_
        by_cases hc27 : (a1.length : Int) = 0
        · refine pl_no HE69 (wtF HE69 rfl rfl rfl (beq_t hc27)) rfl rfl fun a_70 HE71 => ?_
          refine pl_no HE71 (wtF HE71 rfl rfl rfl (beq_t hc27)) rfl rfl fun a_72 HE73 => ?_
          refine pl_no HE73 (wtF HE73 rfl rfl rfl (beq_t hc27)) rfl rfl fun a_74 HE75 => ?_
          refine pl_no HE75 (wtF HE75 rfl rfl rfl (beq_t hc27)) rfl rfl fun a_76 HE77 => ?_
          refine pl_no HE77 (wtF HE77 rfl rfl rfl (beq_t hc27)) rfl rfl fun a_78 HE79 => ?_
          refine pl_no HE79 (wtF HE79 rfl rfl rfl (beq_t hc27)) rfl rfl fun a_80 HE81 => ?_
          refine pl_no HE81 (wtF HE81 rfl rfl rfl (beq_t hc27)) rfl rfl fun a_82 HE83 => ?_
          refine pl_x HE83 HH10 (wtT HE83 rfl rfl rfl (decide_eq_true hc26)) (x_pickT rfl (beq_t hc27) rfl) rfl rfl fun a_84 HE85 => ?_
          refine pl_x HE85 HH10 (wt0 rfl) (x_pickT rfl (decide_eq_true hc26) rfl) rfl rfl fun a_86 HE87 => ?_
          refine pl_x HE87 HH10 (wt0 rfl) (x_assign rfl) rfl rfl fun a_88 HE89 => ?_
          refine wpList_nil ?_
          clear a_17 HE18 a_54 HE55 a_56 HE57 a_58 HE59 a_60 HE61 a_62 HE63 a_64 HE65 a_66 HE67 a_68 HE69 a_70 HE71 a_72 HE73 a_74 HE75 a_76 HE77 a_78 HE79 a_80 HE81 a_82 HE83 a_84 HE85 a_86 HE87
          refine nrm ?_
          refine wp_ret ?_
          refine ret1 HE89 rfl (rv_tmp rfl) ?_
          have hF : ((fun m l => sideB l m.1 200) a0 a1) = true := by
            show sideB a1 a0.1 200 = _; first | (unfold sideB allW; rw [any_hit (by omega : k < a1.length) (by rw [← xe0, outB_eq, hc27]; rfl)]; simp; done) | (unfold sideB; rw [decide_eq_false (by omega)]; rfl) | (have hq := p21_1; rw [List.take_of_length_le (by omega)] at hq; unfold sideB allW; rw [hq]; grind)
          exact ⟨by first | (rw [hF] <;> rfl) | rfl | (rw [hF]; simp only [Ending.returned.injEq, Value.slice.injEq, true_and, and_true]; first | omega | (simp; done)) | (rw [hF]; simp; omega), HH10.below⟩
        · refine pl_x HE69 HH10 (wtT HE69 rfl rfl rfl (beq_f hc27)) (x_move rfl) rfl rfl fun a_90 HE91 => ?_
          refine pl_x HE91 HH10 (wtT HE91 rfl rfl rfl (beq_f hc27)) (x_move rfl) rfl rfl fun a_92 HE93 => ?_
          refine pl_x HE93 HH10 (wtT HE93 rfl rfl rfl (beq_f hc27)) (x_len Tryd.underlying51 rfl) rfl rfl fun a_94 HE95 => ?_
          refine pl_x HE95 HH10 (wtT HE95 rfl rfl rfl (beq_f hc27)) (x_sub rfl rfl (by exact ⟨by omega, by omega⟩)) rfl rfl fun a_96 HE97 => ?_
          have ke28 : (a1.length - 1) < a1.length := by omega
          obtain ⟨be28, fe28, ese28, Ae28, Re28, De28⟩ := el_old h1 ke28
          obtain ⟨e28, xe28⟩ : ∃ x_, x_ = a1[(a1.length - 1)] := ⟨_, rfl⟩
          rw [← xe28] at Re28
          have Qe28 := Re28
          obtain ⟨rfl, ie28⟩ := Re28
          have je28 := ie28; unfold I64 at je28
          refine pl_x HE97 HH10 (wtT HE97 rfl rfl rfl (beq_f hc27)) (x_indexAddr ts_51 rfl rfl Ae28 (by omega) ke28) rfl rfl fun a_98 HE99 => ?_
          refine pl_x HE99 HH10 (wtT HE99 rfl rfl rfl (beq_f hc27)) (x_load1 tv_2 rfl (c_old (De28 0 _ rfl))) rfl rfl fun a_100 HE101 => ?_
          refine pl_x HE101 HH10 (wtT HE101 rfl rfl rfl (beq_f hc27)) (x_neq rfl rfl) rfl rfl fun a_102 HE103 => ?_
          refine pl_x HE103 HH10 (wtT HE103 rfl rfl rfl (decide_eq_true hc26)) (x_pickF rfl (beq_f hc27) rfl) rfl rfl fun a_104 HE105 => ?_
          refine pl_x HE105 HH10 (wt0 rfl) (x_pickT rfl (decide_eq_true hc26) rfl) rfl rfl fun a_106 HE107 => ?_
          refine pl_x HE107 HH10 (wt0 rfl) (x_assign rfl) rfl rfl fun a_108 HE109 => ?_
          refine wpList_nil ?_
          clear a_17 HE18 a_54 HE55 a_56 HE57 a_58 HE59 a_60 HE61 a_62 HE63 a_64 HE65 a_66 HE67 a_68 HE69 a_90 HE91 a_92 HE93 a_94 HE95 a_96 HE97 a_98 HE99 a_100 HE101 a_102 HE103 a_104 HE105 a_106 HE107
          refine nrm ?_
          refine wp_ret ?_
          refine ret1 HE109 rfl (rv_tmp rfl) ?_
          have hF : ((fun m l => sideB l m.1 200) a0 a1) = (e28 != 0) := by
            show sideB a1 a0.1 200 = _; first | (unfold sideB allW; rw [any_hit (by omega : k < a1.length) (by rw [← xe28, outB_eq, hc27]; rfl)]; simp; done) | (unfold sideB; rw [decide_eq_false (by omega)]; rfl) | (have hq := p21_1; rw [List.take_of_length_le (by omega)] at hq; unfold sideB allW; rw [hq]; grind)
          exact ⟨by first | (rw [hF] <;> rfl) | rfl | (rw [hF]; simp only [Ending.returned.injEq, Value.slice.injEq, true_and, and_true]; first | omega | (simp; done)) | (rw [hF]; simp; omega), HH10.below⟩
      · refine pl_no HE61 (wtF HE61 rfl rfl rfl (decide_eq_false hc26)) rfl rfl fun a_110 HE111 => ?_
        refine pl_no HE111 (wtF HE111 rfl rfl rfl (decide_eq_false hc26)) rfl rfl fun a_112 HE113 => ?_
        refine pl_no HE113 (wtF HE113 rfl rfl rfl (decide_eq_false hc26)) rfl rfl fun a_114 HE115 => ?_
        refine pl_no HE115 (wtF HE115 rfl rfl rfl (decide_eq_false hc26)) rfl rfl fun a_116 HE117 => ?_
        refine pl_no HE117 (wtU HE117 rfl rfl rfl) rfl rfl fun a_118 HE119 => ?_
        refine pl_no HE119 (wtU HE119 rfl rfl rfl) rfl rfl fun a_120 HE121 => ?_
        refine pl_no HE121 (wtU HE121 rfl rfl rfl) rfl rfl fun a_122 HE123 => ?_
        refine pl_no HE123 (wtU HE123 rfl rfl rfl) rfl rfl fun a_124 HE125 => ?_
        refine pl_no HE125 (wtU HE125 rfl rfl rfl) rfl rfl fun a_126 HE127 => ?_
        refine pl_no HE127 (wtU HE127 rfl rfl rfl) rfl rfl fun a_128 HE129 => ?_
        refine pl_no HE129 (wtU HE129 rfl rfl rfl) rfl rfl fun a_130 HE131 => ?_
        refine pl_no HE131 (wtF HE131 rfl rfl rfl (decide_eq_false hc26)) rfl rfl fun a_132 HE133 => ?_
        refine pl_x HE133 HH10 (wt0 rfl) (x_pickF rfl (decide_eq_false hc26) rfl) rfl rfl fun a_134 HE135 => ?_
        refine pl_x HE135 HH10 (wt0 rfl) (x_assign rfl) rfl rfl fun a_136 HE137 => ?_
        refine wpList_nil ?_
        clear a_17 HE18 a_54 HE55 a_56 HE57 a_58 HE59 a_60 HE61 a_110 HE111 a_112 HE113 a_114 HE115 a_116 HE117 a_118 HE119 a_120 HE121 a_122 HE123 a_124 HE125 a_126 HE127 a_128 HE129 a_130 HE131 a_132 HE133 a_134 HE135
        refine nrm ?_
        refine wp_ret ?_
        refine ret1 HE137 rfl (rv_tmp rfl) ?_
        have hF : ((fun m l => sideB l m.1 200) a0 a1) = false := by
          show sideB a1 a0.1 200 = _; first | (unfold sideB allW; rw [any_hit (by omega : k < a1.length) (by rw [← xe0, outB_eq, hc26]; rfl)]; simp; done) | (unfold sideB; rw [decide_eq_false (by omega)]; rfl) | (have hq := p21_1; rw [List.take_of_length_le (by omega)] at hq; unfold sideB allW; rw [hq]; grind)
        exact ⟨by first | (rw [hF] <;> rfl) | rfl | (rw [hF]; simp only [Ending.returned.injEq, Value.slice.injEq, true_and, and_true]; first | omega | (simp; done)) | (rw [hF]; simp; omega), HH10.below⟩

set_option maxRecDepth 100000 in
set_option maxHeartbeats 4000000 in
theorem spec_l05Good (p0 o0 : Nat) (es0 : List Value) (a0 : tMachine) (p1 o1 : Nat) (es1 : List Value) (a1 : tConfig) (w : World) (h0 : eMachine.R w (Old w) es0 a0) (hq0 : ∀ j v, es0[j]? = some v → w.cell? ⟨p0, o0 + j, none⟩ = some v) (h1 : eConfig.R w (Old w) es1 a1) (hq1 : ∀ j v, es1[j]? = some v → w.cell? ⟨p1, o1 + j, none⟩ = some v) (s0 : 2 ≤ a0.1 ∧ a0.1 ≤ 6) (s1 : 1 ≤ a0.2.1 ∧ a0.2.1 ≤ 1000) :
    Calls Tryd.prog 89 #[.pointer (some ⟨p0, o0, none⟩), .pointer (some ⟨p1, o1, none⟩)] w fun e w' => e = .returned (.bool (goodCfg a0 a1)) ∧ Below w.heap.size w w' := by
  have H0 := h0
  obtain ⟨Az0_2, cz0_2, rfl, gz0_0, gz0_1, gz0_2⟩ := shape_Machine h0
  have jz0_0 := gz0_0; unfold I64 at jz0_0
  have jz0_1 := gz0_1; unfold I64 at jz0_1
  have lz0_2 := gz0_2.len
  have H1 := h1
  obtain ⟨Az1_1, cz1_1, Az1_2, cz1_2, rfl, gz1_0, gz1_1, gz1_2⟩ := shape_Config h1
  have jz1_0 := gz1_0; unfold I64 at jz1_0
  have lz1_1 := gz1_1.len
  have lz1_2 := gz1_2.len
  have HH1 := Held.start Nob w
  refine enter (n := 31) Tryd.func89 rfl rfl rfl fun a_2 HE3 => ?_
  refine wp_seq ?_
  refine rg ?_
  refine pl_x HE3 HH1 (wt0 rfl) (x_assign rfl) rfl rfl fun a_4 HE5 => ?_
  refine wpList_nil ?_
  clear a_2 HE3
  refine nrm ?_
  refine wp_seq ?_
  refine dr_start (Held Nob w []) 27 #[false, false, false, false, false, false, false, false, false, false, false, false, false, false, false, false, false, false, false, false, false, false, false, false, false, false, false] hmix rfl rfl HH1 (fun _ h => h.sel [] (by decide) rfl) fun w' HH6 => ?_
  have HS7 := HH6
  refine dr_take (i := 0) (ls' := #[true, false, false, false, false, false, false, false, false, false, false, false, false, false, false, false, false, false, false, false, false, false, false, false, false, false, false]) HE5 HS7 rfl (by kernel_rfl) (by kernel_rfl) (by kernel_rfl) (fun _ _ _ h => h) rfl (wt0 rfl) (x_move rfl) rfl rfl fun a_8 HE9 => ?_
  refine dr_take (i := 1) (ls' := #[true, true, false, false, false, false, false, false, false, false, false, false, false, false, false, false, false, false, false, false, false, false, false, false, false, false, false]) HE9 HS7 rfl (by kernel_rfl) (by kernel_rfl) (by kernel_rfl) (fun _ _ _ h => h) rfl (wt0 rfl) (x_nilCheck rfl) rfl rfl fun a_10 HE11 => ?_
  refine dr_take (i := 2) (ls' := #[true, true, true, false, false, false, false, false, false, false, false, false, false, false, false, false, false, false, false, false, false, false, false, false, false, false, false]) HE11 HS7 rfl (by kernel_rfl) (by kernel_rfl) (by kernel_rfl) (fun _ _ _ h => h) rfl (wt0 rfl) (x_fieldAddr fa_80_0 rfl) rfl rfl fun a_12 HE13 => ?_
  refine dr_take (i := 3) (ls' := #[true, true, true, true, false, false, false, false, false, false, false, false, false, false, false, false, false, false, false, false, false, false, false, false, false, false, false]) HE13 HS7 rfl (by kernel_rfl) (by kernel_rfl) (by kernel_rfl) (fun _ _ _ h => h) rfl (wt0 rfl) (x_load1 tv_2 rfl (c_old (hq1 0 _ rfl))) rfl rfl fun a_14 HE15 => ?_
  refine dr_take (i := 4) (ls' := #[true, true, true, true, true, false, false, false, false, false, false, false, false, false, false, false, false, false, false, false, false, false, false, false, false, false, false]) HE15 HS7 rfl (by kernel_rfl) (by kernel_rfl) (by kernel_rfl) (fun _ _ _ h => h) rfl (wt0 rfl) (x_move rfl) rfl rfl fun a_16 HE17 => ?_
  refine dr_take (i := 5) (ls' := #[true, true, true, true, true, true, false, false, false, false, false, false, false, false, false, false, false, false, false, false, false, false, false, false, false, false, false]) HE17 HS7 rfl (by kernel_rfl) (by kernel_rfl) (by kernel_rfl) (fun _ _ _ h => h) rfl (wt0 rfl) (x_nilCheck rfl) rfl rfl fun a_18 HE19 => ?_
  refine dr_take (i := 6) (ls' := #[true, true, true, true, true, true, true, false, false, false, false, false, false, false, false, false, false, false, false, false, false, false, false, false, false, false, false]) HE19 HS7 rfl (by kernel_rfl) (by kernel_rfl) (by kernel_rfl) (fun _ _ _ h => h) rfl (wt0 rfl) (x_fieldAddr fa_78_1 rfl) rfl rfl fun a_20 HE21 => ?_
  refine dr_take (i := 7) (ls' := #[true, true, true, true, true, true, true, true, false, false, false, false, false, false, false, false, false, false, false, false, false, false, false, false, false, false, false]) HE21 HS7 rfl (by kernel_rfl) (by kernel_rfl) (by kernel_rfl) (fun _ _ _ h => h) rfl (wt0 rfl) (x_load1 tv_2 rfl (c_old (hq0 1 _ rfl))) rfl rfl fun a_22 HE23 => ?_
  refine dr_take (i := 8) (ls' := #[true, true, true, true, true, true, true, true, true, false, false, false, false, false, false, false, false, false, false, false, false, false, false, false, false, false, false]) HE23 HS7 rfl (by kernel_rfl) (by kernel_rfl) (by kernel_rfl) (fun _ _ _ h => h) rfl (wt0 rfl) (x_sub rfl rfl (by exact ⟨by omega, by omega⟩)) rfl rfl fun a_24 HE25 => ?_
  refine dr_one (i := 9) (ls' := #[true, true, true, true, true, true, true, true, true, true, false, false, false, false, false, false, false, false, false, false, false, false, false, false, false, false, false]) rfl (by kernel_rfl) rfl fun K_26 hK27 => ?_
  refine st_call HE25 (wt0 rfl) rfl rfl rfl en_52 rfl rfl (spec_l00In a1.1 0 (a0.2.1 - 1) _ ) fun e w' hr => ?_
  obtain ⟨rfl, rfl⟩ := hr
  refine ⟨_, rfl, fun a_28 HE29 => hK27 _ _ (by exact HH6.sel [] (by decide) rfl) ?_⟩
  have HS30 := HH6.sel [] (by decide) rfl
  refine dr_take (i := 10) (ls' := #[true, true, true, true, true, true, true, true, true, true, true, false, false, false, false, false, false, false, false, false, false, false, false, false, false, false, false]) HE29 HS30 rfl (by kernel_rfl) (by kernel_rfl) (by kernel_rfl) (fun _ _ _ h => h) rfl (wt0 rfl) (x_move rfl) rfl rfl fun a_31 HE32 => ?_
  rcases Bool.eq_false_or_eq_true ((withinB a1.1 0 (a0.2.1 - 1))) with hc22 | hc22
  · refine dr_take (i := 11) (ls' := #[true, true, true, true, true, true, true, true, true, true, true, true, false, false, false, false, false, false, false, false, false, false, false, false, false, false, false]) HE32 HS30 rfl (by kernel_rfl) (by kernel_rfl) (by kernel_rfl) (fun _ _ _ h => h) rfl (wtT HE32 rfl rfl rfl hc22) (x_move rfl) rfl rfl fun a_33 HE34 => ?_
    refine dr_take (i := 12) (ls' := #[true, true, true, true, true, true, true, true, true, true, true, true, true, false, false, false, false, false, false, false, false, false, false, false, false, false, false]) HE34 HS30 rfl (by kernel_rfl) (by kernel_rfl) (by kernel_rfl) (fun _ _ _ h => h) rfl (wtT HE34 rfl rfl rfl hc22) (x_move rfl) rfl rfl fun a_35 HE36 => ?_
    refine dr_take (i := 13) (ls' := #[true, true, true, true, true, true, true, true, true, true, true, true, true, true, false, false, false, false, false, false, false, false, false, false, false, false, false]) HE36 HS30 rfl (by kernel_rfl) (by kernel_rfl) (by kernel_rfl) (fun _ _ _ h => h) rfl (wtT HE36 rfl rfl rfl hc22) (x_nilCheck rfl) rfl rfl fun a_37 HE38 => ?_
    refine dr_take (i := 14) (ls' := #[true, true, true, true, true, true, true, true, true, true, true, true, true, true, true, false, false, false, false, false, false, false, false, false, false, false, false]) HE38 HS30 rfl (by kernel_rfl) (by kernel_rfl) (by kernel_rfl) (fun _ _ _ h => h) rfl (wtT HE38 rfl rfl rfl hc22) (x_fieldAddr fa_80_1 rfl) rfl rfl fun a_39 HE40 => ?_
    refine dr_take (i := 15) (ls' := #[true, true, true, true, true, true, true, true, true, true, true, true, true, true, true, true, false, false, false, false, false, false, false, false, false, false, false]) HE40 HS30 rfl (by kernel_rfl) (by kernel_rfl) (by kernel_rfl) (fun _ _ _ h => h) rfl (wtT HE40 rfl rfl rfl hc22) (x_load1 tv_51 rfl (c_old (hq1 1 _ rfl))) rfl rfl fun a_41 HE42 => ?_
    refine dr_one (i := 16) (ls' := #[true, true, true, true, true, true, true, true, true, true, true, true, true, true, true, true, true, false, false, false, false, false, false, false, false, false, false]) rfl (by kernel_rfl) rfl fun K_43 hK44 => ?_
    refine st_call HE42 (wtT HE42 rfl rfl rfl hc22) rfl rfl rfl en_128 rfl rfl (spec_l05Cells _ _ _ a0 _ _ a1.2.1 _ (HH6.oldR H0) (c_oldN hq0 _ HH6) (HH6.old gz1_1) (by omega)) fun e w' hr => ?_
    obtain ⟨rfl, hbr23⟩ := hr
    have HH45 := HH6.on hbr23
    refine ⟨_, rfl, fun a_46 HE47 => hK44 _ _ (by exact HH45.sel [] (by decide) rfl) ?_⟩
    have HS48 := HH45.sel [] (by decide) rfl
    refine dr_take (i := 17) (ls' := #[true, true, true, true, true, true, true, true, true, true, true, true, true, true, true, true, true, true, false, false, false, false, false, false, false, false, false]) HE47 HS48 rfl (by kernel_rfl) (by kernel_rfl) (by kernel_rfl) (fun _ _ _ h => h) rfl (wt0 rfl) (x_pickT rfl hc22 rfl) rfl rfl fun a_49 HE50 => ?_
    refine dr_take (i := 18) (ls' := #[true, true, true, true, true, true, true, true, true, true, true, true, true, true, true, true, true, true, true, false, false, false, false, false, false, false, false]) HE50 HS48 rfl (by kernel_rfl) (by kernel_rfl) (by kernel_rfl) (fun _ _ _ h => h) rfl (wt0 rfl) (x_move rfl) rfl rfl fun a_51 HE52 => ?_
    rcases Bool.eq_false_or_eq_true ((sideB a1.2.1 a0.1 200)) with hc24 | hc24
    · refine dr_take (i := 19) (ls' := #[true, true, true, true, true, true, true, true, true, true, true, true, true, true, true, true, true, true, true, true, false, false, false, false, false, false, false]) HE52 HS48 rfl (by kernel_rfl) (by kernel_rfl) (by kernel_rfl) (fun _ _ _ h => h) rfl (wtT HE52 rfl rfl rfl hc24) (x_move rfl) rfl rfl fun a_53 HE54 => ?_
      refine dr_take (i := 20) (ls' := #[true, true, true, true, true, true, true, true, true, true, true, true, true, true, true, true, true, true, true, true, true, false, false, false, false, false, false]) HE54 HS48 rfl (by kernel_rfl) (by kernel_rfl) (by kernel_rfl) (fun _ _ _ h => h) rfl (wtT HE54 rfl rfl rfl hc24) (x_move rfl) rfl rfl fun a_55 HE56 => ?_
      refine dr_take (i := 21) (ls' := #[true, true, true, true, true, true, true, true, true, true, true, true, true, true, true, true, true, true, true, true, true, true, false, false, false, false, false]) HE56 HS48 rfl (by kernel_rfl) (by kernel_rfl) (by kernel_rfl) (fun _ _ _ h => h) rfl (wtT HE56 rfl rfl rfl hc24) (x_nilCheck rfl) rfl rfl fun a_57 HE58 => ?_
      refine dr_take (i := 22) (ls' := #[true, true, true, true, true, true, true, true, true, true, true, true, true, true, true, true, true, true, true, true, true, true, true, false, false, false, false]) HE58 HS48 rfl (by kernel_rfl) (by kernel_rfl) (by kernel_rfl) (fun _ _ _ h => h) rfl (wtT HE58 rfl rfl rfl hc24) (x_fieldAddr fa_80_2 rfl) rfl rfl fun a_59 HE60 => ?_
      refine dr_take (i := 23) (ls' := #[true, true, true, true, true, true, true, true, true, true, true, true, true, true, true, true, true, true, true, true, true, true, true, true, false, false, false]) HE60 HS48 rfl (by kernel_rfl) (by kernel_rfl) (by kernel_rfl) (fun _ _ _ h => h) rfl (wtT HE60 rfl rfl rfl hc24) (x_load1 tv_51 rfl (c_old (hq1 2 _ rfl))) rfl rfl fun a_61 HE62 => ?_
      refine dr_one (i := 24) (ls' := #[true, true, true, true, true, true, true, true, true, true, true, true, true, true, true, true, true, true, true, true, true, true, true, true, true, false, false]) rfl (by kernel_rfl) rfl fun K_63 hK64 => ?_
      refine st_call HE62 (wtT HE62 rfl rfl rfl hc24) rfl rfl rfl en_128 rfl rfl (spec_l05Cells _ _ _ a0 _ _ a1.2.2 _ (HH45.oldR H0) (c_oldN hq0 _ HH45) (HH45.old gz1_2) (by omega)) fun e w' hr => ?_
      obtain ⟨rfl, hbr25⟩ := hr
      have HH65 := HH45.on hbr25
      refine ⟨_, rfl, fun a_66 HE67 => hK64 _ _ (by exact HH65.sel [] (by decide) rfl) ?_⟩
      have HS68 := HH65.sel [] (by decide) rfl
      refine dr_take (i := 25) (ls' := #[true, true, true, true, true, true, true, true, true, true, true, true, true, true, true, true, true, true, true, true, true, true, true, true, true, true, false]) HE67 HS68 rfl (by kernel_rfl) (by kernel_rfl) (by kernel_rfl) (fun _ _ _ h => h) rfl (wt0 rfl) (x_pickT rfl hc24 rfl) rfl rfl fun a_69 HE70 => ?_
      refine dr_take (i := 26) (ls' := #[true, true, true, true, true, true, true, true, true, true, true, true, true, true, true, true, true, true, true, true, true, true, true, true, true, true, true]) HE70 HS68 rfl (by kernel_rfl) (by kernel_rfl) (by kernel_rfl) (fun _ _ _ h => h) rfl (wt0 rfl) (x_assign rfl) rfl rfl fun a_71 HE72 => ?_
      refine dr_done (by kernel_rfl) ?_
      clear HH1 a_4 HE5 a_8 HE9 a_10 HE11 a_12 HE13 a_14 HE15 a_16 HE17 a_18 HE19 a_20 HE21 a_22 HE23 a_24 HE25 HS7 a_28 HE29 a_31 HE32 a_33 HE34 a_35 HE36 a_37 HE38 a_39 HE40 K_26 hK27 HH6 a_41 HE42 HS30 a_46 HE47 a_49 HE50 a_51 HE52 a_53 HE54 a_55 HE56 a_57 HE58 a_59 HE60 K_43 hK44 HH45 a_61 HE62 HS48 a_66 HE67 a_69 HE70 hK64 K_63
      refine nrm ?_
      refine wp_ret ?_
      refine ret1 HE72 rfl (rv_tmp rfl) ?_
      have hF : (goodCfg a0 a1) = (sideB a1.2.2 a0.1 200) := by
        simp [goodCfg, hc22, hc24]
      exact ⟨by first | (rw [hF] <;> rfl) | rfl | (rw [hF]; simp only [Ending.returned.injEq, Value.slice.injEq, true_and, and_true]; first | omega | (simp; done)) | (rw [hF]; simp; omega), HH65.below⟩
    · refine dr_takeNo (i := 19) (ls' := #[true, true, true, true, true, true, true, true, true, true, true, true, true, true, true, true, true, true, true, true, false, false, false, false, false, false, false]) HE52 HS48 rfl (by kernel_rfl) (by kernel_rfl) (by kernel_rfl) (fun _ _ _ h => h) rfl (wtF HE52 rfl rfl rfl hc24) rfl rfl fun a_73 HE74 => ?_
      refine dr_takeNo (i := 20) (ls' := #[true, true, true, true, true, true, true, true, true, true, true, true, true, true, true, true, true, true, true, true, true, false, false, false, false, false, false]) HE74 HS48 rfl (by kernel_rfl) (by kernel_rfl) (by kernel_rfl) (fun _ _ _ h => h) rfl (wtF HE74 rfl rfl rfl hc24) rfl rfl fun a_75 HE76 => ?_
      refine dr_takeNo (i := 21) (ls' := #[true, true, true, true, true, true, true, true, true, true, true, true, true, true, true, true, true, true, true, true, true, true, false, false, false, false, false]) HE76 HS48 rfl (by kernel_rfl) (by kernel_rfl) (by kernel_rfl) (fun _ _ _ h => h) rfl (wtF HE76 rfl rfl rfl hc24) rfl rfl fun a_77 HE78 => ?_
      refine dr_takeNo (i := 22) (ls' := #[true, true, true, true, true, true, true, true, true, true, true, true, true, true, true, true, true, true, true, true, true, true, true, false, false, false, false]) HE78 HS48 rfl (by kernel_rfl) (by kernel_rfl) (by kernel_rfl) (fun _ _ _ h => h) rfl (wtF HE78 rfl rfl rfl hc24) rfl rfl fun a_79 HE80 => ?_
      refine dr_takeNo (i := 23) (ls' := #[true, true, true, true, true, true, true, true, true, true, true, true, true, true, true, true, true, true, true, true, true, true, true, true, false, false, false]) HE80 HS48 rfl (by kernel_rfl) (by kernel_rfl) (by kernel_rfl) (fun _ _ _ h => h) rfl (wtF HE80 rfl rfl rfl hc24) rfl rfl fun a_81 HE82 => ?_
      refine dr_takeNo (i := 24) (ls' := #[true, true, true, true, true, true, true, true, true, true, true, true, true, true, true, true, true, true, true, true, true, true, true, true, true, false, false]) HE82 HS48 rfl (by kernel_rfl) (by kernel_rfl) (by kernel_rfl) (fun _ _ _ h => h) rfl (wtF HE82 rfl rfl rfl hc24) rfl rfl fun a_83 HE84 => ?_
      refine dr_take (i := 25) (ls' := #[true, true, true, true, true, true, true, true, true, true, true, true, true, true, true, true, true, true, true, true, true, true, true, true, true, true, false]) HE84 HS48 rfl (by kernel_rfl) (by kernel_rfl) (by kernel_rfl) (fun _ _ _ h => h) rfl (wt0 rfl) (x_pickF rfl hc24 rfl) rfl rfl fun a_85 HE86 => ?_
      refine dr_take (i := 26) (ls' := #[true, true, true, true, true, true, true, true, true, true, true, true, true, true, true, true, true, true, true, true, true, true, true, true, true, true, true]) HE86 HS48 rfl (by kernel_rfl) (by kernel_rfl) (by kernel_rfl) (fun _ _ _ h => h) rfl (wt0 rfl) (x_assign rfl) rfl rfl fun a_87 HE88 => ?_
      refine dr_done (by kernel_rfl) ?_
      clear HH1 a_4 HE5 a_8 HE9 a_10 HE11 a_12 HE13 a_14 HE15 a_16 HE17 a_18 HE19 a_20 HE21 a_22 HE23 a_24 HE25 HS7 a_28 HE29 a_31 HE32 a_33 HE34 a_35 HE36 a_37 HE38 a_39 HE40 K_26 hK27 HH6 a_41 HE42 HS30 a_46 HE47 a_49 HE50 a_51 HE52 a_73 HE74 a_75 HE76 a_77 HE78 a_79 HE80 a_81 HE82 a_83 HE84 a_85 HE86 hK44 K_43
      refine nrm ?_
      refine wp_ret ?_
      refine ret1 HE88 rfl (rv_tmp rfl) ?_
      have hF : (goodCfg a0 a1) = false := by
        simp [goodCfg, hc22, hc24]
      exact ⟨by first | (rw [hF] <;> rfl) | rfl | (rw [hF]; simp only [Ending.returned.injEq, Value.slice.injEq, true_and, and_true]; first | omega | (simp; done)) | (rw [hF]; simp; omega), HH45.below⟩
  · refine dr_takeNo (i := 11) (ls' := #[true, true, true, true, true, true, true, true, true, true, true, true, false, false, false, false, false, false, false, false, false, false, false, false, false, false, false]) HE32 HS30 rfl (by kernel_rfl) (by kernel_rfl) (by kernel_rfl) (fun _ _ _ h => h) rfl (wtF HE32 rfl rfl rfl hc22) rfl rfl fun a_89 HE90 => ?_
    refine dr_takeNo (i := 12) (ls' := #[true, true, true, true, true, true, true, true, true, true, true, true, true, false, false, false, false, false, false, false, false, false, false, false, false, false, false]) HE90 HS30 rfl (by kernel_rfl) (by kernel_rfl) (by kernel_rfl) (fun _ _ _ h => h) rfl (wtF HE90 rfl rfl rfl hc22) rfl rfl fun a_91 HE92 => ?_
    refine dr_takeNo (i := 13) (ls' := #[true, true, true, true, true, true, true, true, true, true, true, true, true, true, false, false, false, false, false, false, false, false, false, false, false, false, false]) HE92 HS30 rfl (by kernel_rfl) (by kernel_rfl) (by kernel_rfl) (fun _ _ _ h => h) rfl (wtF HE92 rfl rfl rfl hc22) rfl rfl fun a_93 HE94 => ?_
    refine dr_takeNo (i := 14) (ls' := #[true, true, true, true, true, true, true, true, true, true, true, true, true, true, true, false, false, false, false, false, false, false, false, false, false, false, false]) HE94 HS30 rfl (by kernel_rfl) (by kernel_rfl) (by kernel_rfl) (fun _ _ _ h => h) rfl (wtF HE94 rfl rfl rfl hc22) rfl rfl fun a_95 HE96 => ?_
    refine dr_takeNo (i := 15) (ls' := #[true, true, true, true, true, true, true, true, true, true, true, true, true, true, true, true, false, false, false, false, false, false, false, false, false, false, false]) HE96 HS30 rfl (by kernel_rfl) (by kernel_rfl) (by kernel_rfl) (fun _ _ _ h => h) rfl (wtF HE96 rfl rfl rfl hc22) rfl rfl fun a_97 HE98 => ?_
    refine dr_takeNo (i := 16) (ls' := #[true, true, true, true, true, true, true, true, true, true, true, true, true, true, true, true, true, false, false, false, false, false, false, false, false, false, false]) HE98 HS30 rfl (by kernel_rfl) (by kernel_rfl) (by kernel_rfl) (fun _ _ _ h => h) rfl (wtF HE98 rfl rfl rfl hc22) rfl rfl fun a_99 HE100 => ?_
    refine dr_take (i := 17) (ls' := #[true, true, true, true, true, true, true, true, true, true, true, true, true, true, true, true, true, true, false, false, false, false, false, false, false, false, false]) HE100 HS30 rfl (by kernel_rfl) (by kernel_rfl) (by kernel_rfl) (fun _ _ _ h => h) rfl (wt0 rfl) (x_pickF rfl hc22 rfl) rfl rfl fun a_101 HE102 => ?_
    refine dr_take (i := 18) (ls' := #[true, true, true, true, true, true, true, true, true, true, true, true, true, true, true, true, true, true, true, false, false, false, false, false, false, false, false]) HE102 HS30 rfl (by kernel_rfl) (by kernel_rfl) (by kernel_rfl) (fun _ _ _ h => h) rfl (wt0 rfl) (x_move rfl) rfl rfl fun a_103 HE104 => ?_
    refine dr_takeNo (i := 19) (ls' := #[true, true, true, true, true, true, true, true, true, true, true, true, true, true, true, true, true, true, true, true, false, false, false, false, false, false, false]) HE104 HS30 rfl (by kernel_rfl) (by kernel_rfl) (by kernel_rfl) (fun _ _ _ h => h) rfl (wtF HE104 rfl rfl rfl rfl) rfl rfl fun a_105 HE106 => ?_
    refine dr_takeNo (i := 20) (ls' := #[true, true, true, true, true, true, true, true, true, true, true, true, true, true, true, true, true, true, true, true, true, false, false, false, false, false, false]) HE106 HS30 rfl (by kernel_rfl) (by kernel_rfl) (by kernel_rfl) (fun _ _ _ h => h) rfl (wtF HE106 rfl rfl rfl rfl) rfl rfl fun a_107 HE108 => ?_
    refine dr_takeNo (i := 21) (ls' := #[true, true, true, true, true, true, true, true, true, true, true, true, true, true, true, true, true, true, true, true, true, true, false, false, false, false, false]) HE108 HS30 rfl (by kernel_rfl) (by kernel_rfl) (by kernel_rfl) (fun _ _ _ h => h) rfl (wtF HE108 rfl rfl rfl rfl) rfl rfl fun a_109 HE110 => ?_
    refine dr_takeNo (i := 22) (ls' := #[true, true, true, true, true, true, true, true, true, true, true, true, true, true, true, true, true, true, true, true, true, true, true, false, false, false, false]) HE110 HS30 rfl (by kernel_rfl) (by kernel_rfl) (by kernel_rfl) (fun _ _ _ h => h) rfl (wtF HE110 rfl rfl rfl rfl) rfl rfl fun a_111 HE112 => ?_
    refine dr_takeNo (i := 23) (ls' := #[true, true, true, true, true, true, true, true, true, true, true, true, true, true, true, true, true, true, true, true, true, true, true, true, false, false, false]) HE112 HS30 rfl (by kernel_rfl) (by kernel_rfl) (by kernel_rfl) (fun _ _ _ h => h) rfl (wtF HE112 rfl rfl rfl rfl) rfl rfl fun a_113 HE114 => ?_
    refine dr_takeNo (i := 24) (ls' := #[true, true, true, true, true, true, true, true, true, true, true, true, true, true, true, true, true, true, true, true, true, true, true, true, true, false, false]) HE114 HS30 rfl (by kernel_rfl) (by kernel_rfl) (by kernel_rfl) (fun _ _ _ h => h) rfl (wtF HE114 rfl rfl rfl rfl) rfl rfl fun a_115 HE116 => ?_
    refine dr_take (i := 25) (ls' := #[true, true, true, true, true, true, true, true, true, true, true, true, true, true, true, true, true, true, true, true, true, true, true, true, true, true, false]) HE116 HS30 rfl (by kernel_rfl) (by kernel_rfl) (by kernel_rfl) (fun _ _ _ h => h) rfl (wt0 rfl) (x_pickF rfl rfl rfl) rfl rfl fun a_117 HE118 => ?_
    refine dr_take (i := 26) (ls' := #[true, true, true, true, true, true, true, true, true, true, true, true, true, true, true, true, true, true, true, true, true, true, true, true, true, true, true]) HE118 HS30 rfl (by kernel_rfl) (by kernel_rfl) (by kernel_rfl) (fun _ _ _ h => h) rfl (wt0 rfl) (x_assign rfl) rfl rfl fun a_119 HE120 => ?_
    refine dr_done (by kernel_rfl) ?_
    clear HH1 a_4 HE5 a_8 HE9 a_10 HE11 a_12 HE13 a_14 HE15 a_16 HE17 a_18 HE19 a_20 HE21 a_22 HE23 a_24 HE25 HS7 a_28 HE29 a_31 HE32 a_89 HE90 a_91 HE92 a_93 HE94 a_95 HE96 a_97 HE98 a_99 HE100 a_101 HE102 a_103 HE104 a_105 HE106 a_107 HE108 a_109 HE110 a_111 HE112 a_113 HE114 a_115 HE116 a_117 HE118 hK27 K_26
    refine nrm ?_
    refine wp_ret ?_
    refine ret1 HE120 rfl (rv_tmp rfl) ?_
    have hF : (goodCfg a0 a1) = false := by
      simp [goodCfg, hc22]
    exact ⟨by first | (rw [hF] <;> rfl) | rfl | (rw [hF]; simp only [Ending.returned.injEq, Value.slice.injEq, true_and, and_true]; first | omega | (simp; done)) | (rw [hF]; simp; omega), HH6.below⟩

set_option maxRecDepth 100000 in
set_option maxHeartbeats 4000000 in
theorem spec_l03ReverseE (A0 : Option Addr) (c0 : Nat) (a0 : (List Int)) (w : World) (h0 : Sl eInt w (Old w) A0 c0 a0) (s0 : a0.length ≤ 1000000) :
    Calls Tryd.prog 130 #[.slice A0 a0.length c0] w fun e w' => ∃ (A0' : Option Addr) (c0' : Nat), e = .returned (.slice A0' (List.reverse a0).length c0') ∧ So eInt w' (Fr w w') A0' c0' (List.reverse a0) ∧ Below w.heap.size w w' := by
  have l0 := h0.len
  have HH1 := Held.start Nob w
  refine enter (n := 21) Tryd.func130 rfl rfl rfl fun a_2 HE3 => ?_
  refine wp_seq ?_
  refine rg ?_
  refine pl_x HE3 HH1 (wt0 rfl) (x_assign rfl) rfl rfl fun a_4 HE5 => ?_
  refine wpList_nil ?_
  clear a_2 HE3
  refine nrm ?_
  refine wp_seq ?_
  refine rg ?_
  refine pl fun K_6 hK7 => ?_
  refine st_lit (m := 0) (cs := []) (e := 2) HE5 HH1 (run_lit ts_51 HE5 (vs := []) rfl rfl (by simp [Value.cells]) rfl (by decide)) (wt0 rfl) rfl rfl fun q21 a_8 w' HE9 HH10 => hK7 _ _ ?_
  refine pl_x HE9 HH10 (wt0 rfl) (x_assign rfl) rfl rfl fun a_11 HE12 => ?_
  refine wpList_nil ?_
  clear a_4 HE5 HH1 a_8 HE9 hK7 K_6
  refine nrm ?_
  refine wp_seq ?_
  refine wp_seq ?_
  refine rg ?_
  refine pl_x HE12 HH10 (wt0 rfl) (x_move rfl) rfl rfl fun a_13 HE14 => ?_
  refine pl_x HE14 HH10 (wt0 rfl) (x_len Tryd.underlying51 rfl) rfl rfl fun a_15 HE16 => ?_
  refine pl_x HE16 HH10 (wt0 rfl) (x_sub rfl rfl (by exact ⟨by omega, by omega⟩)) rfl rfl fun a_17 HE18 => ?_
  refine pl_x HE18 HH10 (wt0 rfl) (x_assign rfl) rfl rfl fun a_19 HE20 => ?_
  refine wpList_nil ?_
  clear a_11 HE12 a_13 HE14 a_15 HE16 a_17 HE18
  refine nrm ?_
  refine wp_block ?_
  have HH21 := Held.vecFlat (E := eInt) (xs := []) (css := []) HH10 rfl (Nat.zero_le _) (fun i x hx => by simp at hx)
  refine lp (fun m a w' => ∃ (k : Nat) (A_3 : Option Addr) (c_3 : Nat) (S_3 : Nat → Prop), m = 0 + k ∧ Env 21 [(3, .slice A_3 (List.length ((a0.drop k).reverse)) c_3), (4, .int .i64 ((k : Int) - 1)), (0, .slice A0 (a0.length) c0)] a ∧ Held Nob w [rVec eInt 2 S_3 A_3 c_3 ((a0.drop k).reverse)] w' ∧ (k ≤ a0.length)) (0 + (a0.length)) ?_ ?_
  · have E22 : (a0.drop (a0.length)).reverse = ([] : List Int) := by
      simp
    exact ⟨a0.length, (some ⟨q21, 0, none⟩), (List.length (α := Int) []), (fun b => b = q21), rfl, HE20.sub ⟨(by rw [E22]; rfl), rfl, rfl, trivial⟩, ((HH21.sel [0] (by decide) rfl).to (by first | rfl | (rw [E22]; done) | (rw [E22]; rfl) | (simp only [E22]; done) | (simp only [E22]; rfl))), (by first | omega | assumption | (simp; done) | simp_all)⟩
  · rintro m a_22 w' ⟨k, A_3, c_3, S_3, rfl, HE23, HH24, p23_0⟩
    have ol : (a0.drop k).reverse.length ≤ a0.length := by simp
    refine wp_seq ?_
    refine wp_seq ?_
    refine rg ?_
    refine pl_x HE23 HH24 (wt0 rfl) (x_move rfl) rfl rfl fun a_25 HE26 => ?_
    refine pl_x HE26 HH24 (wt0 rfl) (x_geq rfl rfl) rfl rfl fun a_27 HE28 => ?_
    refine wpList_nil ?_
    clear HH10 a_19 HE20 HH21 a_22 HE23 a_25 HE26
    refine nrm ?_
    refine cnd_d HE28 rfl (fun hc24 => ?_) (fun hc24 => ?_)
    · refine wp_skip ?_
      refine nrm ?_
      refine wp_seq ?_
      refine wp_block ?_
      refine rg ?_
      refine pl_x HE28 HH24 (wt0 rfl) (x_move rfl) rfl rfl fun a_29 HE30 => ?_
      refine pl_x HE30 HH24 (wt0 rfl) (x_move rfl) rfl rfl fun a_31 HE32 => ?_
      refine pl_x HE32 HH24 (wt0 rfl) (x_move rfl) rfl rfl fun a_33 HE34 => ?_
      have ke25 : (k - 1) < a0.length := by omega
      obtain ⟨be25, fe25, ese25, Ae25, Re25, De25⟩ := el_old h0 ke25
      obtain ⟨e25, xe25⟩ : ∃ x_, x_ = a0[(k - 1)] := ⟨_, rfl⟩
      rw [← xe25] at Re25
      have Qe25 := Re25
      obtain ⟨rfl, ie25⟩ := Re25
      have je25 := ie25; unfold I64 at je25
      refine pl_x HE34 HH24 (wt0 rfl) (x_indexAddr ts_51 rfl rfl Ae25 (by omega) ke25) rfl rfl fun a_35 HE36 => ?_
      refine pl_x HE36 HH24 (wt0 rfl) (x_load1 tv_2 rfl (c_old (De25 0 _ rfl))) rfl rfl fun a_37 HE38 => ?_
      refine pl fun K_39 hK40 => ?_
      refine st_lit (m := 1) (cs := [.int .i64 (e25)]) (e := 2) HE38 HH24 (run_lit ts_51 HE38 (vs := [.int .i64 (e25)]) rfl rfl (by simp [Value.cells]) rfl (by decide)) (wt0 rfl) rfl rfl fun q26 a_41 w' HE42 HH43 => hK40 _ _ ?_
      refine pl fun K_44 hK45 => ?_
      refine st_app1F e25 HE42 HH43 ts_51 [1, 0] (by decide) rfl (fun _ => (oI (by exact ⟨by omega, by omega⟩))) rfl rfl (by simp [Value.oneCell']) (by unfold maxLen; first | omega | (simp; done) | (simp; omega)) (by first | omega | (simp; done) | (simp; omega)) (wt0 rfl) rfl fun A27 c28 S29 a_46 w' HE47 HH48 => hK45 _ _ ?_
      refine pl_x HE47 HH48 (wt0 rfl) (x_assign rfl) rfl rfl fun a_49 HE50 => ?_
      refine wpList_nil ?_
      clear a_27 HE28 a_29 HE30 a_31 HE32 a_33 HE34 a_35 HE36 a_37 HE38 HH24 K_39 hK40 a_41 HE42 HH43 a_46 HE47 hK45 K_44
      refine blk_n ?_
      refine nrm ?_
      refine rg ?_
      refine pl_x HE50 HH48 (wt0 rfl) (x_move rfl) rfl rfl fun a_51 HE52 => ?_
      refine pl_x HE52 HH48 (wt0 rfl) (x_sub rfl rfl (by exact ⟨by omega, by omega⟩)) rfl rfl fun a_53 HE54 => ?_
      refine pl_x HE54 HH48 (wt0 rfl) (x_assign rfl) rfl rfl fun a_55 HE56 => ?_
      refine wpList_nil ?_
      clear a_49 HE50 a_51 HE52 a_53 HE54
      have E30 : (a0.drop ((k - 1))).reverse = ((a0.drop k).reverse ++ [e25]) := by
        rw [drop_revI (by omega) (by omega), ← xe25]
      exact nrm ⟨0 + ((k - 1)), (by omega), (k - 1), A27, c28, S29, rfl, HE56.sub ⟨(by rw [E30]; rfl), (lkI rfl (by omega)), rfl, trivial⟩, ((HH48.sel [0] (by decide) rfl).to (by first | rfl | (rw [E30]; done) | (rw [E30]; rfl) | (simp only [E30]; done) | (simp only [E30]; rfl))), (by first | omega | assumption | (simp; done) | simp_all)⟩
    · refine wp_exit ?_
      refine (thn_exit (thn_exit (blk_hit ?_)))
      refine nrm ?_
      refine wp_seq ?_
      refine rg ?_
      refine pl_x HE28 HH24 (wt0 rfl) (x_move rfl) rfl rfl fun a_57 HE58 => ?_
      refine pl_x HE58 HH24 (wt0 rfl) (x_assign rfl) rfl rfl fun a_59 HE60 => ?_
      refine wpList_nil ?_
      clear a_27 HE28 a_57 HE58
      refine nrm ?_
      refine wp_ret ?_
      refine ret1 HE60 rfl (rv_tmp rfl) ?_
      have HH61 := HH24.vecSo
      have hF : (List.reverse a0) = (a0.drop k).reverse := by
        rw [show k = 0 from by omega, List.drop_zero]
      exact ⟨A_3, c_3, by first | (rw [hF] <;> rfl) | rfl | (rw [hF]; simp only [Ending.returned.injEq, Value.slice.injEq, true_and, and_true]; first | omega | (simp; done)) | (rw [hF]; simp; omega), by rw [hF]; exact (HH61.so (i := 0) rfl), HH61.below⟩

set_option maxRecDepth 100000 in
set_option maxHeartbeats 4000000 in
theorem spec_l05Digits (A0 : Option Addr) (c0 : Nat) (a0 : (List Int)) (w : World) (h0 : Sl eInt w (Old w) A0 c0 a0) (s0 : ∀ x ∈ a0, 0 ≤ x ∧ x ≤ 9) (s1 : a0.length ≤ 1000000) :
    Calls Tryd.prog 129 #[.slice A0 a0.length c0] w fun e w' => e = .returned (.string (bs (digT a0))) ∧ Below w.heap.size w w' := by
  have l0 := h0.len
  have HH1 := Held.start Nob w
  refine enter (n := 8) Tryd.func129 rfl rfl rfl fun a_2 HE3 => ?_
  refine wp_seq ?_
  refine rg ?_
  refine pl_x HE3 HH1 (wt0 rfl) (x_assign rfl) rfl rfl fun a_4 HE5 => ?_
  refine wpList_nil ?_
  clear a_2 HE3
  refine nrm ?_
  refine wp_seq ?_
  refine wp_seq ?_
  refine rg ?_
  refine pl_x HE5 HH1 (wt0 rfl) (x_move rfl) rfl rfl fun a_6 HE7 => ?_
  refine pl_x HE7 HH1 (wt0 rfl) (x_len Tryd.underlying51 rfl) rfl rfl fun a_8 HE9 => ?_
  refine pl_x HE9 HH1 (wt0 rfl) (x_eql rfl rfl) rfl rfl fun a_10 HE11 => ?_
  refine wpList_nil ?_
  clear a_4 HE5 a_6 HE7 a_8 HE9
  refine nrm ?_
  refine cnd_e HE11 rfl (fun hc21 => ?_) (fun hc21 => ?_)
  · refine wp_seq ?_
    refine rg ?_
    refine pl_x HE11 HH1 (wt0 rfl) (x_assign rfl) rfl rfl fun a_12 HE13 => ?_
    refine wpList_nil ?_
    clear a_10 HE11
    refine nrm ?_
    refine wp_ret ?_
    refine (thn_ret ?_)
    refine ret1 HE13 rfl (rv_tmp rfl) ?_
    have hF : (digT a0) = [] := by
      first | (rw [eq_nil (l := a0) (by omega)]; rfl) | (unfold wordT; rw [if_neg (ne_nil (by omega))])
    exact ⟨by first | (rw [hF] <;> rfl) | rfl | (rw [hF]; simp only [Ending.returned.injEq, Value.slice.injEq, true_and, and_true]; first | omega | (simp; done)) | (rw [hF]; simp; omega), HH1.below⟩
  · refine wp_skip ?_
    refine nrm ?_
    refine wp_seq ?_
    refine rg ?_
    refine pl_x HE11 HH1 (wt0 rfl) (x_move rfl) rfl rfl fun a_14 HE15 => ?_
    refine pl fun K_16 hK17 => ?_
    refine st_call HE15 (wt0 rfl) rfl rfl rfl en_158 rfl rfl (spec_l03Text _ _ a0 _ (HH1.old h0) (by assumption) (by omega)) fun e w' hr => ?_
    have hAr22_0 := wordT_len a0
    obtain ⟨rfl, hbr22⟩ := hr
    have HH18 := HH1.on hbr22
    refine ⟨_, rfl, fun a_19 HE20 => hK17 _ _ ?_⟩
    refine pl_x HE20 HH18 (wt0 rfl) (x_assign rfl) rfl rfl fun a_21 HE22 => ?_
    refine wpList_nil ?_
    clear a_10 HE11 HH1 a_14 HE15 a_19 HE20 hK17 K_16
    refine nrm ?_
    refine wp_ret ?_
    refine ret1 HE22 rfl (rv_tmp rfl) ?_
    have hF : (digT a0) = (wordT a0) := by
      first | (rw [eq_nil (l := a0) (by omega)]; rfl) | (unfold wordT; rw [if_neg (ne_nil (by omega))])
    exact ⟨by first | (rw [hF] <;> rfl) | rfl | (rw [hF]; simp only [Ending.returned.injEq, Value.slice.injEq, true_and, and_true]; first | omega | (simp; done)) | (rw [hF]; simp; omega), HH18.below⟩

set_option maxRecDepth 100000 in
set_option maxHeartbeats 4000000 in
theorem spec_l05Show (p0 o0 : Nat) (es0 : List Value) (a0 : tConfig) (w : World) (h0 : eConfig.R w (Old w) es0 a0) (hq0 : ∀ j v, es0[j]? = some v → w.cell? ⟨p0, o0 + j, none⟩ = some v) (v0 : 0 ≤ a0.1 ∧ a0.1 ≤ 999) (v1 : a0.2.1.length ≤ 200) (v2 : ∀ x ∈ a0.2.1, 0 ≤ x ∧ x ≤ 9) (v3 : a0.2.2.length ≤ 200) (v4 : ∀ x ∈ a0.2.2, 0 ≤ x ∧ x ≤ 9) :
    Calls Tryd.prog 90 #[.pointer (some ⟨p0, o0, none⟩)] w fun e w' => e = .returned (.string (bs (confT a0))) ∧ Below w.heap.size w w' := by
  have H0 := h0
  obtain ⟨Az0_1, cz0_1, Az0_2, cz0_2, rfl, gz0_0, gz0_1, gz0_2⟩ := shape_Config h0
  have jz0_0 := gz0_0; unfold I64 at jz0_0
  have lz0_1 := gz0_1.len
  have lz0_2 := gz0_2.len
  obtain ⟨v6, v7⟩ := rev_facts ⟨v1, v2⟩
  have v8 := digT_len a0.2.1.reverse
  have v9 := digT_len a0.2.2
  have v10 : (List.reverse a0.2.1).length = a0.2.1.length := List.length_reverse
  have HH1 := Held.start Nob w
  refine enter (n := 23) Tryd.func90 rfl rfl rfl fun a_2 HE3 => ?_
  refine wp_seq ?_
  refine rg ?_
  refine pl_x HE3 HH1 (wt0 rfl) (x_assign rfl) rfl rfl fun a_4 HE5 => ?_
  refine wpList_nil ?_
  clear a_2 HE3
  refine nrm ?_
  refine wp_seq ?_
  refine dr_start (Held Nob w []) 21 #[false, false, false, false, false, false, false, false, false, false, false, false, false, false, false, false, false, false, false, false, false] hmix rfl rfl HH1 (fun _ h => h.sel [] (by decide) rfl) fun w' HH6 => ?_
  have HS7 := HH6
  refine dr_take (i := 0) (ls' := #[true, false, false, false, false, false, false, false, false, false, false, false, false, false, false, false, false, false, false, false, false]) HE5 HS7 rfl (by kernel_rfl) (by kernel_rfl) (by kernel_rfl) (fun _ _ _ h => h) rfl (wt0 rfl) (x_move rfl) rfl rfl fun a_8 HE9 => ?_
  refine dr_take (i := 1) (ls' := #[true, true, false, false, false, false, false, false, false, false, false, false, false, false, false, false, false, false, false, false, false]) HE9 HS7 rfl (by kernel_rfl) (by kernel_rfl) (by kernel_rfl) (fun _ _ _ h => h) rfl (wt0 rfl) (x_nilCheck rfl) rfl rfl fun a_10 HE11 => ?_
  refine dr_take (i := 2) (ls' := #[true, true, true, false, false, false, false, false, false, false, false, false, false, false, false, false, false, false, false, false, false]) HE11 HS7 rfl (by kernel_rfl) (by kernel_rfl) (by kernel_rfl) (fun _ _ _ h => h) rfl (wt0 rfl) (x_fieldAddr fa_80_1 rfl) rfl rfl fun a_12 HE13 => ?_
  refine dr_take (i := 3) (ls' := #[true, true, true, true, false, false, false, false, false, false, false, false, false, false, false, false, false, false, false, false, false]) HE13 HS7 rfl (by kernel_rfl) (by kernel_rfl) (by kernel_rfl) (fun _ _ _ h => h) rfl (wt0 rfl) (x_load1 tv_51 rfl (c_old (hq0 1 _ rfl))) rfl rfl fun a_14 HE15 => ?_
  refine dr_take (i := 7) (ls' := #[true, true, true, true, false, false, false, true, false, false, false, false, false, false, false, false, false, false, false, false, false]) HE15 HS7 rfl (by kernel_rfl) (by kernel_rfl) (by kernel_rfl) (fun _ _ _ h => h) rfl (wt0 rfl) (x_move rfl) rfl rfl fun a_16 HE17 => ?_
  refine dr_take (i := 8) (ls' := #[true, true, true, true, false, false, false, true, true, false, false, false, false, false, false, false, false, false, false, false, false]) HE17 HS7 rfl (by kernel_rfl) (by kernel_rfl) (by kernel_rfl) (fun _ _ _ h => h) rfl (wt0 rfl) (x_nilCheck rfl) rfl rfl fun a_18 HE19 => ?_
  refine dr_take (i := 9) (ls' := #[true, true, true, true, false, false, false, true, true, true, false, false, false, false, false, false, false, false, false, false, false]) HE19 HS7 rfl (by kernel_rfl) (by kernel_rfl) (by kernel_rfl) (fun _ _ _ h => h) rfl (wt0 rfl) (x_fieldAddr fa_80_0 rfl) rfl rfl fun a_20 HE21 => ?_
  refine dr_take (i := 10) (ls' := #[true, true, true, true, false, false, false, true, true, true, true, false, false, false, false, false, false, false, false, false, false]) HE21 HS7 rfl (by kernel_rfl) (by kernel_rfl) (by kernel_rfl) (fun _ _ _ h => h) rfl (wt0 rfl) (x_load1 tv_2 rfl (c_old (hq0 0 _ rfl))) rfl rfl fun a_22 HE23 => ?_
  refine dr_take (i := 14) (ls' := #[true, true, true, true, false, false, false, true, true, true, true, false, false, false, true, false, false, false, false, false, false]) HE23 HS7 rfl (by kernel_rfl) (by kernel_rfl) (by kernel_rfl) (fun _ _ _ h => h) rfl (wt0 rfl) (x_move rfl) rfl rfl fun a_24 HE25 => ?_
  refine dr_take (i := 15) (ls' := #[true, true, true, true, false, false, false, true, true, true, true, false, false, false, true, true, false, false, false, false, false]) HE25 HS7 rfl (by kernel_rfl) (by kernel_rfl) (by kernel_rfl) (fun _ _ _ h => h) rfl (wt0 rfl) (x_nilCheck rfl) rfl rfl fun a_26 HE27 => ?_
  refine dr_take (i := 16) (ls' := #[true, true, true, true, false, false, false, true, true, true, true, false, false, false, true, true, true, false, false, false, false]) HE27 HS7 rfl (by kernel_rfl) (by kernel_rfl) (by kernel_rfl) (fun _ _ _ h => h) rfl (wt0 rfl) (x_fieldAddr fa_80_2 rfl) rfl rfl fun a_28 HE29 => ?_
  refine dr_take (i := 17) (ls' := #[true, true, true, true, false, false, false, true, true, true, true, false, false, false, true, true, true, true, false, false, false]) HE29 HS7 rfl (by kernel_rfl) (by kernel_rfl) (by kernel_rfl) (fun _ _ _ h => h) rfl (wt0 rfl) (x_load1 tv_51 rfl (c_old (hq0 2 _ rfl))) rfl rfl fun a_30 HE31 => ?_
  refine dr_one (i := 4) (ls' := #[true, true, true, true, true, false, false, true, true, true, true, false, false, false, true, true, true, true, false, false, false]) rfl (by kernel_rfl) rfl fun K_32 hK33 => ?_
  refine st_call HE31 (wt0 rfl) rfl rfl rfl en_130 rfl rfl (spec_l03ReverseE _ _ a0.2.1 _ (HH6.old gz0_1) (by omega)) fun e w' hr => ?_
  obtain ⟨Ar21_0, cr21_0, rfl, hor21_0, hbr21⟩ := hr
  obtain ⟨Sr21, HH34⟩ := HH6.newS hbr21 hor21_0
  refine ⟨_, rfl, fun a_35 HE36 => hK33 _ _ (by exact HH34.sel [] (by decide) rfl) ?_⟩
  have HS37 := HH34.sel [] (by decide) rfl
  refine dr_one (i := 5) (ls' := #[true, true, true, true, true, true, false, true, true, true, true, false, false, false, true, true, true, true, false, false, false]) rfl (by kernel_rfl) rfl fun K_38 hK39 => ?_
  refine st_call HE36 (wt0 rfl) rfl rfl rfl en_129 rfl rfl (spec_l05Digits _ _ (List.reverse a0.2.1) _ (HH34.sl (i := 0) rfl) (by assumption) (by omega)) fun e w' hr => ?_
  obtain ⟨rfl, hbr22⟩ := hr
  have HH40 := HH34.on hbr22
  refine ⟨_, rfl, fun a_41 HE42 => hK39 _ _ (by exact HH40.sel [] (by decide) rfl) ?_⟩
  have HS43 := HH40.sel [] (by decide) rfl
  refine dr_take (i := 6) (ls' := #[true, true, true, true, true, true, true, true, true, true, true, false, false, false, true, true, true, true, false, false, false]) HE42 HS43 rfl (by kernel_rfl) (by kernel_rfl) (by kernel_rfl) (fun _ _ _ h => h) rfl (wt0 rfl) (x_sadd rfl rfl (by first | omega | (simp only [List.length_append, List.length_cons, List.length_nil]; omega) | (simp; omega))) rfl rfl fun a_44 HE45 => ?_
  refine dr_one (i := 11) (ls' := #[true, true, true, true, true, true, true, true, true, true, true, true, false, false, true, true, true, true, false, false, false]) rfl (by kernel_rfl) rfl fun K_46 hK47 => ?_
  refine st_call HE45 (wt0 rfl) rfl rfl rfl en_103 rfl rfl (spec_l01Dec a0.1 _ (by omega)) fun e w' hr => ?_
  have hAr23_0 := itoa_len (n := a0.1) (by omega)
  obtain ⟨rfl, hbr23⟩ := hr
  have HH48 := HH40.on hbr23
  refine ⟨_, rfl, fun a_49 HE50 => hK47 _ _ (by exact HH48.sel [] (by decide) rfl) ?_⟩
  have HS51 := HH48.sel [] (by decide) rfl
  refine dr_take (i := 12) (ls' := #[true, true, true, true, true, true, true, true, true, true, true, true, true, false, true, true, true, true, false, false, false]) HE50 HS51 rfl (by kernel_rfl) (by kernel_rfl) (by kernel_rfl) (fun _ _ _ h => h) rfl (wt0 rfl) (x_sadd rfl rfl (by first | omega | (simp only [List.length_append, List.length_cons, List.length_nil]; omega) | (simp; omega))) rfl rfl fun a_52 HE53 => ?_
  refine dr_take (i := 13) (ls' := #[true, true, true, true, true, true, true, true, true, true, true, true, true, true, true, true, true, true, false, false, false]) HE53 HS51 rfl (by kernel_rfl) (by kernel_rfl) (by kernel_rfl) (fun _ _ _ h => h) rfl (wt0 rfl) (x_sadd rfl rfl (by first | omega | (simp only [List.length_append, List.length_cons, List.length_nil]; omega) | (simp; omega))) rfl rfl fun a_54 HE55 => ?_
  refine dr_one (i := 18) (ls' := #[true, true, true, true, true, true, true, true, true, true, true, true, true, true, true, true, true, true, true, false, false]) rfl (by kernel_rfl) rfl fun K_56 hK57 => ?_
  refine st_call HE55 (wt0 rfl) rfl rfl rfl en_129 rfl rfl (spec_l05Digits _ _ a0.2.2 _ (HH48.old gz0_2) (by assumption) (by omega)) fun e w' hr => ?_
  obtain ⟨rfl, hbr24⟩ := hr
  have HH58 := HH48.on hbr24
  refine ⟨_, rfl, fun a_59 HE60 => hK57 _ _ (by exact HH58.sel [] (by decide) rfl) ?_⟩
  have HS61 := HH58.sel [] (by decide) rfl
  refine dr_take (i := 19) (ls' := #[true, true, true, true, true, true, true, true, true, true, true, true, true, true, true, true, true, true, true, true, false]) HE60 HS61 rfl (by kernel_rfl) (by kernel_rfl) (by kernel_rfl) (fun _ _ _ h => h) rfl (wt0 rfl) (x_sadd rfl rfl (by first | omega | (simp only [List.length_append, List.length_cons, List.length_nil]; omega) | (simp; omega))) rfl rfl fun a_62 HE63 => ?_
  refine dr_take (i := 20) (ls' := #[true, true, true, true, true, true, true, true, true, true, true, true, true, true, true, true, true, true, true, true, true]) HE63 HS61 rfl (by kernel_rfl) (by kernel_rfl) (by kernel_rfl) (fun _ _ _ h => h) rfl (wt0 rfl) (x_assign rfl) rfl rfl fun a_64 HE65 => ?_
  refine dr_done (by kernel_rfl) ?_
  clear HH1 a_4 HE5 a_8 HE9 a_10 HE11 a_12 HE13 a_14 HE15 a_16 HE17 a_18 HE19 a_20 HE21 a_22 HE23 a_24 HE25 a_26 HE27 a_28 HE29 HH6 a_30 HE31 HS7 K_32 hK33 HH34 a_35 HE36 HS37 a_41 HE42 K_38 hK39 HH40 a_44 HE45 HS43 a_49 HE50 a_52 HE53 K_46 hK47 HH48 a_54 HE55 HS51 a_59 HE60 a_62 HE63 hK57 K_56
  refine nrm ?_
  refine wp_ret ?_
  refine ret1 HE65 rfl (rv_tmp rfl) ?_
  have hF : (confT a0) = (((((digT (List.reverse a0.2.1)) ++ [40]) ++ (Go.Lib.itoa a0.1)) ++ [41]) ++ (digT a0.2.2)) := by
    rfl
  exact ⟨by first | (rw [hF] <;> rfl) | rfl | (rw [hF]; simp only [Ending.returned.injEq, Value.slice.injEq, true_and, and_true]; first | omega | (simp; done)) | (rw [hF]; simp; omega), HH58.below⟩

set_option maxRecDepth 100000 in
set_option maxHeartbeats 4000000 in
theorem spec_ConfigText (es0 : List Value) (a0 : tMachine) (es1 : List Value) (a1 : tConfig) (w : World) (h0 : eMachine.R w (Old w) es0 a0) (h1 : eConfig.R w (Old w) es1 a1) :
    Calls Tryd.prog 41 #[.agg es0.toArray, .agg es1.toArray] w fun e w' => e = .returned (.string (bs (confText a0 a1))) ∧ Below w.heap.size w w' := by
  have H0 := h0
  obtain ⟨Az0_2, cz0_2, rfl, gz0_0, gz0_1, gz0_2⟩ := shape_Machine h0
  have jz0_0 := gz0_0; unfold I64 at jz0_0
  have jz0_1 := gz0_1; unfold I64 at jz0_1
  have lz0_2 := gz0_2.len
  have H1 := h1
  obtain ⟨Az1_1, cz1_1, Az1_2, cz1_2, rfl, gz1_0, gz1_1, gz1_2⟩ := shape_Config h1
  have jz1_0 := gz1_0; unfold I64 at jz1_0
  have lz1_1 := gz1_1.len
  have lz1_2 := gz1_2.len
  have HH1 := Held.start Nob w
  refine enter (n := 12) Tryd.func41 rfl rfl rfl fun a_2 HE3 => ?_
  refine wp_seq ?_
  refine rg ?_
  refine pl fun K_4 hK5 => ?_
  refine st_box (cs := [.int .i64 (a0.1), .int .i64 (a0.2.1), .slice Az0_2 (a0.2.2.length) cz0_2]) HE3 HH1 rfl rfl (wt0 rfl) rfl fun q21 a_6 w' HE7 HH8 => hK5 _ _ ?_
  refine pl fun K_9 hK10 => ?_
  refine st_box (cs := [.int .i64 (a1.1), .slice Az1_1 (a1.2.1.length) cz1_1, .slice Az1_2 (a1.2.2.length) cz1_2]) HE7 HH8 rfl rfl (wt0 rfl) rfl fun q22 a_11 w' HE12 HH13 => hK10 _ _ ?_
  refine pl_x HE12 HH13 (wt0 rfl) (x_assign rfl) rfl rfl fun a_14 HE15 => ?_
  refine wpList_nil ?_
  clear a_2 HE3 HH1 K_4 hK5 a_6 HE7 HH8 a_11 HE12 hK10 K_9
  refine nrm ?_
  refine wp_seq ?_
  refine wp_seq ?_
  refine rg ?_
  refine pl fun K_16 hK17 => ?_
  refine st_call HE15 (wt0 rfl) rfl rfl rfl en_88 rfl rfl (spec_l05Is _ _ _ a0 _ (HH13.oldR H0) (c_blkN 1 rfl _ HH13)) fun e w' hr => ?_
  obtain ⟨rfl, hbr23⟩ := hr
  have HH18 := HH13.on hbr23
  refine ⟨_, rfl, fun a_19 HE20 => hK17 _ _ ?_⟩
  refine pl_x HE20 HH18 (wt0 rfl) (x_not rfl) rfl rfl fun a_21 HE22 => ?_
  refine pl_x HE22 HH18 (wt0 rfl) (x_move rfl) rfl rfl fun a_23 HE24 => ?_
  rcases Bool.eq_false_or_eq_true ((validMach a0)) with hc24 | hc24
  · obtain ⟨v0, v1, v2, v3⟩ := validMach_facts hc24
    refine pl fun K_25 hK26 => ?_
    refine st_call HE24 (wtT HE24 rfl rfl rfl (not_f hc24)) rfl rfl rfl en_89 rfl rfl (spec_l05Good _ _ _ a0 _ _ _ a1 _ (HH18.oldR H0) (c_blkN 1 rfl _ HH18) (HH18.oldR H1) (c_blkN 0 rfl _ HH18) (by omega) (by omega)) fun e w' hr => ?_
    obtain ⟨rfl, hbr25⟩ := hr
    have HH27 := HH18.on hbr25
    refine ⟨_, rfl, fun a_28 HE29 => hK26 _ _ ?_⟩
    refine pl_x HE29 HH27 (wtT HE29 rfl rfl rfl (not_f hc24)) (x_not rfl) rfl rfl fun a_30 HE31 => ?_
    refine pl_x HE31 HH27 (wt0 rfl) (x_pickF rfl (not_f hc24) rfl) rfl rfl fun a_32 HE33 => ?_
    refine wpList_nil ?_
    clear HH13 a_14 HE15 a_19 HE20 a_21 HE22 K_16 hK17 HH18 a_23 HE24 a_28 HE29 a_30 HE31 hK26 K_25
    refine nrm ?_
    refine cnd_nb HE33 rfl (fun hc26 => ?_) (fun hc26 => ?_)
    · refine wp_seq ?_
      refine rg ?_
      refine pl_x HE33 HH27 (wt0 rfl) (x_assign rfl) rfl rfl fun a_34 HE35 => ?_
      refine wpList_nil ?_
      clear a_32 HE33
      refine nrm ?_
      refine wp_ret ?_
      refine (thn_ret ?_)
      refine ret1 HE35 rfl (rv_tmp rfl) ?_
      have hF : (confText a0 a1) = [] := by
        simp [confText, validCfg, hc24, hc26]
      exact ⟨by first | (rw [hF] <;> rfl) | rfl | (rw [hF]; simp only [Ending.returned.injEq, Value.slice.injEq, true_and, and_true]; first | omega | (simp; done)) | (rw [hF]; simp; omega), HH27.below⟩
    · obtain ⟨w0, w1, w2, w3⟩ := validCfg_facts (m := a0) (c := a1) (by simp [validCfg, *])
      refine wp_skip ?_
      refine nrm ?_
      refine wp_seq ?_
      refine rg ?_
      refine pl fun K_36 hK37 => ?_
      refine st_call HE33 (wt0 rfl) rfl rfl rfl en_90 rfl rfl (spec_l05Show _ _ _ a1 _ (HH27.oldR H1) (c_blkN 0 rfl _ HH27) (by exact w0) (by exact w1.1) (by exact w1.2) (by exact w2) (by exact w3)) fun e w' hr => ?_
      obtain ⟨rfl, hbr27⟩ := hr
      have HH38 := HH27.on hbr27
      refine ⟨_, rfl, fun a_39 HE40 => hK37 _ _ ?_⟩
      refine pl_x HE40 HH38 (wt0 rfl) (x_assign rfl) rfl rfl fun a_41 HE42 => ?_
      refine wpList_nil ?_
      clear HH27 a_32 HE33 a_39 HE40 hK37 K_36
      refine nrm ?_
      refine wp_ret ?_
      refine ret1 HE42 rfl (rv_tmp rfl) ?_
      have hF : (confText a0 a1) = (confT a1) := by
        simp [confText, validCfg, hc24, hc26]
      exact ⟨by first | (rw [hF] <;> rfl) | rfl | (rw [hF]; simp only [Ending.returned.injEq, Value.slice.injEq, true_and, and_true]; first | omega | (simp; done)) | (rw [hF]; simp; omega), HH38.below⟩
  · refine pl_no HE24 (wtF HE24 rfl rfl rfl (not_t hc24)) rfl rfl fun a_43 HE44 => ?_
    refine pl_no HE44 (wtF HE44 rfl rfl rfl (not_t hc24)) rfl rfl fun a_45 HE46 => ?_
    refine pl_x HE46 HH18 (wt0 rfl) (x_pickT rfl (not_t hc24) rfl) rfl rfl fun a_47 HE48 => ?_
    refine wpList_nil ?_
    clear HH13 a_14 HE15 a_19 HE20 a_21 HE22 a_23 HE24 a_43 HE44 a_45 HE46 hK17 K_16
    refine nrm ?_
    refine cndT HE48 rfl rfl ?_
    refine wp_seq ?_
    refine rg ?_
    refine pl_x HE48 HH18 (wt0 rfl) (x_assign rfl) rfl rfl fun a_49 HE50 => ?_
    refine wpList_nil ?_
    clear a_47 HE48
    refine nrm ?_
    refine wp_ret ?_
    refine (thn_ret ?_)
    refine ret1 HE50 rfl (rv_tmp rfl) ?_
    have hF : (confText a0 a1) = [] := by
      simp [confText, validCfg, hc24]
    exact ⟨by first | (rw [hF] <;> rfl) | rfl | (rw [hF]; simp only [Ending.returned.injEq, Value.slice.injEq, true_and, and_true]; first | omega | (simp; done)) | (rw [hF]; simp; omega), HH18.below⟩

set_option maxRecDepth 100000 in
set_option maxHeartbeats 4000000 in
theorem law_ConfigText (es0 : List Value) (a0 : tMachine) (es1 : List Value) (a1 : tConfig) (w : World) (h0 : eMachine.R w (Old w) es0 a0) (h1 : eConfig.R w (Old w) es1 a1) (hG : Glob w) :
    Calls Tryd.prog 9 #[.agg es0.toArray, .agg es1.toArray] w fun e w' => e = .returned (.bool true) ∧ Below w.heap.size w w' := by
  have H0 := h0
  obtain ⟨Az0_2, cz0_2, rfl, gz0_0, gz0_1, gz0_2⟩ := shape_Machine h0
  have jz0_0 := gz0_0; unfold I64 at jz0_0
  have jz0_1 := gz0_1; unfold I64 at jz0_1
  have lz0_2 := gz0_2.len
  have H1 := h1
  obtain ⟨Az1_1, cz1_1, Az1_2, cz1_2, rfl, gz1_0, gz1_1, gz1_2⟩ := shape_Config h1
  have jz1_0 := gz1_0; unfold I64 at jz1_0
  have lz1_1 := gz1_1.len
  have lz1_2 := gz1_2.len
  have HH1 := Held.start Nob w
  refine enter (n := 45) Tryd.func9 rfl rfl rfl fun a_2 HE3 => ?_
  refine wp_seq ?_
  refine rg ?_
  refine pl fun K_4 hK5 => ?_
  refine st_box (cs := [.int .i64 (a0.1), .int .i64 (a0.2.1), .slice Az0_2 (a0.2.2.length) cz0_2]) HE3 HH1 rfl rfl (wt0 rfl) rfl fun q21 a_6 w' HE7 HH8 => hK5 _ _ ?_
  refine pl fun K_9 hK10 => ?_
  refine st_box (cs := [.int .i64 (a1.1), .slice Az1_1 (a1.2.1.length) cz1_1, .slice Az1_2 (a1.2.2.length) cz1_2]) HE7 HH8 rfl rfl (wt0 rfl) rfl fun q22 a_11 w' HE12 HH13 => hK10 _ _ ?_
  refine pl_x HE12 HH13 (wt0 rfl) (x_assign rfl) rfl rfl fun a_14 HE15 => ?_
  refine wpList_nil ?_
  clear a_2 HE3 HH1 K_4 hK5 a_6 HE7 HH8 a_11 HE12 hK10 K_9
  refine nrm ?_
  refine wp_seq ?_
  refine rg ?_
  refine pl_x HE15 HH13 (wt0 rfl) (x_assign rfl) rfl rfl fun a_16 HE17 => ?_
  refine wpList_nil ?_
  clear a_14 HE15
  refine nrm ?_
  refine wp_seq ?_
  refine rg ?_
  refine pl_x HE17 HH13 (wt0 rfl) (x_loadN (cs := [.int .i64 (a0.1), .int .i64 (a0.2.1), .slice Az0_2 (a0.2.2.length) cz0_2]) tv_70 rfl rfl (c_blkN 1 rfl)) rfl rfl fun a_18 HE19 => ?_
  refine pl_x HE19 HH13 (wt0 rfl) (x_move rfl) rfl rfl fun a_20 HE21 => ?_
  refine pl fun K_22 hK23 => ?_
  refine st_call HE21 (wt0 rfl) rfl rfl rfl en_39 rfl rfl (sz_Machine [.int .i64 (a0.1), .int .i64 (a0.2.1), .slice Az0_2 (a0.2.2.length) cz0_2] a0 1048576 _ (HH13.oldR H0) (by omega) (by omega)) fun e w' hr => ?_
  obtain ⟨rfl, hbr23⟩ := hr
  have HH24 := HH13.on hbr23
  clear hbr23
  refine ⟨_, rfl, fun a_25 HE26 => hK23 _ _ ?_⟩
  refine pl_x HE26 HH24 (wt0 rfl) (x_assign rfl) rfl rfl fun a_27 HE28 => ?_
  refine wpList_nil ?_
  clear a_16 HE17 a_18 HE19 HH13 a_20 HE21 a_25 HE26 hK23 K_22
  refine nrm ?_
  refine wp_seq ?_
  refine wp_seq ?_
  refine rg ?_
  refine pl_x HE28 HH24 (wt0 rfl) (x_move rfl) rfl rfl fun a_29 HE30 => ?_
  refine pl_x HE30 HH24 (wt0 rfl) (x_lss rfl rfl) rfl rfl fun a_31 HE32 => ?_
  refine wpList_nil ?_
  clear a_27 HE28 a_29 HE30
  refine nrm ?_
  refine cnd_d HE32 rfl (fun hc24 => ?_) (fun hc24 => ?_)
  · refine wp_seq ?_
    refine rg ?_
    refine pl_x HE32 HH24 (wt0 rfl) (x_assign rfl) rfl rfl fun a_33 HE34 => ?_
    refine wpList_nil ?_
    clear a_31 HE32
    refine nrm ?_
    refine wp_ret ?_
    refine (thn_ret ?_)
    refine ret1 HE34 rfl (rv_tmp rfl) ?_
    have hF : true = true := by
      first | rfl | (exfalso; omega)
    exact ⟨by first | (rw [hF] <;> rfl) | rfl | (rw [hF]; simp only [Ending.returned.injEq, Value.slice.injEq, true_and, and_true]; first | omega | (simp; done)) | (rw [hF]; simp; omega), HH24.below⟩
  · have zr23 := left_ok hc24
    refine wp_skip ?_
    refine nrm ?_
    refine wp_seq ?_
    refine rg ?_
    refine pl_x HE32 HH24 (wt0 rfl) (x_loadN (cs := [.int .i64 (a1.1), .slice Az1_1 (a1.2.1.length) cz1_1, .slice Az1_2 (a1.2.2.length) cz1_2]) tv_72 rfl rfl (c_blkN 0 rfl)) rfl rfl fun a_35 HE36 => ?_
    refine pl_x HE36 HH24 (wt0 rfl) (x_move rfl) rfl rfl fun a_37 HE38 => ?_
    refine pl fun K_39 hK40 => ?_
    refine st_call HE38 (wt0 rfl) rfl rfl rfl en_40 rfl rfl (sz_Config [.int .i64 (a1.1), .slice Az1_1 (a1.2.1.length) cz1_1, .slice Az1_2 (a1.2.2.length) cz1_2] a1 (left 1048576 (cost_Machine a0)) _ (HH24.oldR H1) (by omega) (by omega)) fun e w' hr => ?_
    obtain ⟨rfl, hbr25⟩ := hr
    have HH41 := HH24.on hbr25
    clear hbr25
    refine ⟨_, rfl, fun a_42 HE43 => hK40 _ _ ?_⟩
    refine pl_x HE43 HH41 (wt0 rfl) (x_assign rfl) rfl rfl fun a_44 HE45 => ?_
    refine wpList_nil ?_
    clear a_31 HE32 a_35 HE36 HH24 a_37 HE38 a_42 HE43 hK40 K_39
    refine nrm ?_
    refine wp_seq ?_
    refine wp_seq ?_
    refine rg ?_
    refine pl_x HE45 HH41 (wt0 rfl) (x_move rfl) rfl rfl fun a_46 HE47 => ?_
    refine pl_x HE47 HH41 (wt0 rfl) (x_lss rfl rfl) rfl rfl fun a_48 HE49 => ?_
    refine wpList_nil ?_
    clear a_44 HE45 a_46 HE47
    refine nrm ?_
    refine cnd_d HE49 rfl (fun hc26 => ?_) (fun hc26 => ?_)
    · refine wp_seq ?_
      refine rg ?_
      refine pl_x HE49 HH41 (wt0 rfl) (x_assign rfl) rfl rfl fun a_50 HE51 => ?_
      refine wpList_nil ?_
      clear a_48 HE49
      refine nrm ?_
      refine wp_ret ?_
      refine (thn_ret ?_)
      refine ret1 HE51 rfl (rv_tmp rfl) ?_
      have hF : true = true := by
        first | rfl | (exfalso; omega)
      exact ⟨by first | (rw [hF] <;> rfl) | rfl | (rw [hF]; simp only [Ending.returned.injEq, Value.slice.injEq, true_and, and_true]; first | omega | (simp; done)) | (rw [hF]; simp; omega), HH41.below⟩
    · have zr25 := left_ok hc26
      refine wp_skip ?_
      refine nrm ?_
      refine wp_seq ?_
      refine dr_start (Held Nob w [rBlk q22 72 [.int .i64 (a1.1), .slice Az1_1 (a1.2.1.length) cz1_1, .slice Az1_2 (a1.2.2.length) cz1_2], rBlk q21 70 [.int .i64 (a0.1), .int .i64 (a0.2.1), .slice Az0_2 (a0.2.2.length) cz0_2]]) 6 #[false, false, false, false, false, false] hmix rfl rfl HH41 (fun _ h => h.sel [0, 1] (by decide) rfl) fun w' HH52 => ?_
      have HS53 := HH52
      refine dr_take (i := 0) (ls' := #[true, false, false, false, false, false]) HE49 HS53 rfl (by kernel_rfl) (by kernel_rfl) (by kernel_rfl) (fun _ _ _ h => h) rfl (wt0 rfl) (x_loadN (cs := [.int .i64 (a0.1), .int .i64 (a0.2.1), .slice Az0_2 (a0.2.2.length) cz0_2]) tv_70 rfl rfl (c_blkN 1 rfl)) rfl rfl fun a_54 HE55 => ?_
      refine dr_take (i := 2) (ls' := #[true, false, true, false, false, false]) HE55 HS53 rfl (by kernel_rfl) (by kernel_rfl) (by kernel_rfl) (fun _ _ _ h => h) rfl (wt0 rfl) (x_loadN (cs := [.int .i64 (a1.1), .slice Az1_1 (a1.2.1.length) cz1_1, .slice Az1_2 (a1.2.2.length) cz1_2]) tv_72 rfl rfl (c_blkN 0 rfl)) rfl rfl fun a_56 HE57 => ?_
      refine dr_one (i := 1) (ls' := #[true, true, true, false, false, false]) rfl (by kernel_rfl) rfl fun K_58 hK59 => ?_
      refine st_call HE57 (wt0 rfl) rfl rfl rfl en_42 rfl rfl (to_Machine [.int .i64 (a0.1), .int .i64 (a0.2.1), .slice Az0_2 (a0.2.2.length) cz0_2] a0 _ (HH52.oldR H0) (by omega)) fun e w' hr => ?_
      obtain ⟨esr27, rfl, hor27, hbr27⟩ := hr
      have hr := eMachine.read hor27
      obtain ⟨Sr27, HH60⟩ := HH52.newO hbr27 hor27
      obtain ⟨Ar27_2, cr27_2, rfl, gr27_0, gr27_1, gr27_2⟩ := shape_Machine hr
      clear hbr27 hor27 gr27_0 gr27_1 gr27_2
      refine ⟨_, rfl, fun a_61 HE62 => hK59 _ _ (by exact HH60.sel [1, 2] (by decide) rfl) ?_⟩
      have HS63 := HH60.sel [1, 2] (by decide) rfl
      refine dr_one (i := 3) (ls' := #[true, true, true, true, false, false]) rfl (by kernel_rfl) rfl fun K_64 hK65 => ?_
      refine st_call HE62 (wt0 rfl) rfl rfl rfl en_43 rfl rfl (to_Config [.int .i64 (a1.1), .slice Az1_1 (a1.2.1.length) cz1_1, .slice Az1_2 (a1.2.2.length) cz1_2] a1 _ (HH60.oldR H1) (by omega)) fun e w' hr => ?_
      obtain ⟨esr28, rfl, hor28, hbr28⟩ := hr
      have hr := eConfig.read hor28
      obtain ⟨Sr28, HH66⟩ := HH60.newO hbr28 hor28
      obtain ⟨Ar28_1, cr28_1, Ar28_2, cr28_2, rfl, gr28_0, gr28_1, gr28_2⟩ := shape_Config hr
      clear hbr28 hor28 gr28_0 gr28_1 gr28_2
      refine ⟨_, rfl, fun a_67 HE68 => hK65 _ _ (by exact HH66.sel [2, 3] (by decide) rfl) ?_⟩
      have HS69 := HH66.sel [2, 3] (by decide) rfl
      refine dr_one (i := 4) (ls' := #[true, true, true, true, true, false]) rfl (by kernel_rfl) rfl fun K_70 hK71 => ?_
      refine st_call HE68 (wt0 rfl) rfl rfl rfl en_41 rfl rfl (spec_ConfigText [.int .i64 (a0.1), .int .i64 (a0.2.1), .slice Ar27_2 (a0.2.2.length) cr27_2] a0 [.int .i64 (a1.1), .slice Ar28_1 (a1.2.1.length) cr28_1, .slice Ar28_2 (a1.2.2.length) cr28_2] a1 _ (HH66.rd (i := 1) rfl) (HH66.rd (i := 0) rfl)) fun e w' hr => ?_
      obtain ⟨rfl, hbr29⟩ := hr
      have HH72 := HH66.on hbr29
      refine ⟨_, rfl, fun a_73 HE74 => hK71 _ _ (by exact HH72.sel [2, 3] (by decide) rfl) ?_⟩
      have HS75 := HH72.sel [2, 3] (by decide) rfl
      refine dr_take (i := 5) (ls' := #[true, true, true, true, true, true]) HE74 HS75 rfl (by kernel_rfl) (by kernel_rfl) (by kernel_rfl) (fun _ _ _ h => h) rfl (wt0 rfl) (x_assign rfl) rfl rfl fun a_76 HE77 => ?_
      refine dr_done (by kernel_rfl) ?_
      clear HH41 a_48 HE49 a_54 HE55 HH52 a_56 HE57 HS53 K_58 hK59 HH60 a_61 HE62 HS63 K_64 hK65 HH66 a_67 HE68 HS69 a_73 HE74 hK71 K_70
      refine nrm ?_
      refine wp_seq ?_
      refine rg ?_
      refine pl_x HE77 HH72 (wt0 rfl) (x_loadN (cs := [.int .i64 (a0.1), .int .i64 (a0.2.1), .slice Az0_2 (a0.2.2.length) cz0_2]) tv_70 rfl rfl (c_blkN 3 rfl)) rfl rfl fun a_78 HE79 => ?_
      refine pl fun K_80 hK81 => ?_
      refine st_call HE79 (wt0 rfl) rfl rfl rfl en_42 rfl rfl (to_Machine [.int .i64 (a0.1), .int .i64 (a0.2.1), .slice Az0_2 (a0.2.2.length) cz0_2] a0 _ (HH72.oldR H0) (by omega)) fun e w' hr => ?_
      obtain ⟨esr30, rfl, hor30, hbr30⟩ := hr
      have hr := eMachine.read hor30
      obtain ⟨Sr30, HH82⟩ := HH72.newO hbr30 hor30
      obtain ⟨Ar30_2, cr30_2, rfl, gr30_0, gr30_1, gr30_2⟩ := shape_Machine hr
      clear hbr30 hor30 gr30_0 gr30_1 gr30_2
      refine ⟨_, rfl, fun a_83 HE84 => hK81 _ _ ?_⟩
      refine pl fun K_85 hK86 => ?_
      refine st_alloc HE84 HH82 tv_78 (wt0 rfl) rfl fun q31 a_87 w' HE88 HH89 => hK86 _ _ ?_
      refine pl fun K_90 hK91 => ?_
      refine st_store (vs := [.int .i64 (a0.1), .int .i64 (a0.2.1), .slice Ar30_2 (a0.2.2.length) cr30_2]) 0 HE88 HH89 tv_78 rfl rfl rfl rfl rfl rfl (by simp [Value.oneCell']) (wt0 rfl) fun w' HH92 => hK91 _ _ ?_
      refine wpList_nil ?_
      clear a_76 HE77 HH72 a_78 HE79 K_80 hK81 a_83 HE84 HH82 K_85 hK86 HH89 hK91 K_90
      refine nrm ?_
      refine wp_seq ?_
      refine rg ?_
      refine pl_x HE88 HH92 (wt0 rfl) (x_loadN (cs := [.int .i64 (a1.1), .slice Az1_1 (a1.2.1.length) cz1_1, .slice Az1_2 (a1.2.2.length) cz1_2]) tv_72 rfl rfl (c_blkN 4 rfl)) rfl rfl fun a_93 HE94 => ?_
      refine pl fun K_95 hK96 => ?_
      refine st_call HE94 (wt0 rfl) rfl rfl rfl en_43 rfl rfl (to_Config [.int .i64 (a1.1), .slice Az1_1 (a1.2.1.length) cz1_1, .slice Az1_2 (a1.2.2.length) cz1_2] a1 _ (HH92.oldR H1) (by omega)) fun e w' hr => ?_
      obtain ⟨esr32, rfl, hor32, hbr32⟩ := hr
      have hr := eConfig.read hor32
      obtain ⟨Sr32, HH97⟩ := HH92.newO hbr32 hor32
      obtain ⟨Ar32_1, cr32_1, Ar32_2, cr32_2, rfl, gr32_0, gr32_1, gr32_2⟩ := shape_Config hr
      clear hbr32 hor32 gr32_0 gr32_1 gr32_2
      refine ⟨_, rfl, fun a_98 HE99 => hK96 _ _ ?_⟩
      refine pl fun K_100 hK101 => ?_
      refine st_alloc HE99 HH97 tv_80 (wt0 rfl) rfl fun q33 a_102 w' HE103 HH104 => hK101 _ _ ?_
      refine pl fun K_105 hK106 => ?_
      refine st_store (vs := [.int .i64 (a1.1), .slice Ar32_1 (a1.2.1.length) cr32_1, .slice Ar32_2 (a1.2.2.length) cr32_2]) 0 HE103 HH104 tv_80 rfl rfl rfl rfl rfl rfl (by simp [Value.oneCell']) (wt0 rfl) fun w' HH107 => hK106 _ _ ?_
      refine wpList_nil ?_
      clear a_87 HE88 HH92 a_93 HE94 K_95 hK96 a_98 HE99 HH97 K_100 hK101 HH104 hK106 K_105
      refine nrm ?_
      refine wp_seq ?_
      refine rg ?_
      refine pl_x HE103 HH107 (wt0 rfl) (x_loadN (cs := [.int .i64 (a0.1), .int .i64 (a0.2.1), .slice Ar30_2 (a0.2.2.length) cr30_2]) tv_78 rfl rfl (c_blkN 2 rfl)) rfl rfl fun a_108 HE109 => ?_
      refine pl_x HE109 HH107 (wt0 rfl) (x_loadN (cs := [.int .i64 (a1.1), .slice Ar32_1 (a1.2.1.length) cr32_1, .slice Ar32_2 (a1.2.2.length) cr32_2]) tv_80 rfl rfl (c_blkN 0 rfl)) rfl rfl fun a_110 HE111 => ?_
      refine pl fun K_112 hK113 => ?_
      refine st_call HE111 (wt0 rfl) rfl rfl rfl en_44 rfl rfl (impl_ConfigText [.int .i64 (a0.1), .int .i64 (a0.2.1), .slice Ar30_2 (a0.2.2.length) cr30_2] a0 [.int .i64 (a1.1), .slice Ar32_1 (a1.2.1.length) cr32_1, .slice Ar32_2 (a1.2.2.length) cr32_2] a1 _ (HH107.rd (i := 3) rfl) (HH107.rd (i := 1) rfl) (HH107.glob hG)) fun e w' hr => ?_
      obtain ⟨rfl, hbr34⟩ := hr
      have HH114 := HH107.on hbr34
      refine ⟨_, rfl, fun a_115 HE116 => hK113 _ _ ?_⟩
      refine pl_x HE116 HH114 (wt0 rfl) (x_assign rfl) rfl rfl fun a_117 HE118 => ?_
      refine wpList_nil ?_
      clear a_102 HE103 a_108 HE109 HH107 a_110 HE111 a_115 HE116 hK113 K_112
      refine nrm ?_
      refine wp_seq ?_
      refine wp_seq ?_
      refine rg ?_
      refine pl_x HE118 HH114 (wt0 rfl) (x_move rfl) rfl rfl fun a_119 HE120 => ?_
      refine pl_x HE120 HH114 (wt0 rfl) (x_move rfl) rfl rfl fun a_121 HE122 => ?_
      refine pl_x HE122 HH114 (wt0 rfl) (x_sneqB rfl rfl) rfl rfl fun a_123 HE124 => ?_
      refine wpList_nil ?_
      clear a_117 HE118 a_119 HE120 a_121 HE122
      refine nrm ?_
      refine cndF HE124 rfl (not_f (decide_eq_true rfl)) ?_
      refine wp_skip ?_
      refine nrm ?_
      refine wp_seq ?_
      refine wp_seq ?_
      refine dr_start (Held Nob w [rBlk q33 80 [.int .i64 (a1.1), .slice Ar32_1 (a1.2.1.length) cr32_1, .slice Ar32_2 (a1.2.2.length) cr32_2], rO eConfig Sr32 [.int .i64 (a1.1), .slice Ar32_1 (a1.2.1.length) cr32_1, .slice Ar32_2 (a1.2.2.length) cr32_2] a1, rBlk q31 78 [.int .i64 (a0.1), .int .i64 (a0.2.1), .slice Ar30_2 (a0.2.2.length) cr30_2], rO eMachine Sr30 [.int .i64 (a0.1), .int .i64 (a0.2.1), .slice Ar30_2 (a0.2.2.length) cr30_2] a0, rO eConfig Sr28 [.int .i64 (a1.1), .slice Ar28_1 (a1.2.1.length) cr28_1, .slice Ar28_2 (a1.2.2.length) cr28_2] a1, rO eMachine Sr27 [.int .i64 (a0.1), .int .i64 (a0.2.1), .slice Ar27_2 (a0.2.2.length) cr27_2] a0, rBlk q22 72 [.int .i64 (a1.1), .slice Az1_1 (a1.2.1.length) cz1_1, .slice Az1_2 (a1.2.2.length) cz1_2], rBlk q21 70 [.int .i64 (a0.1), .int .i64 (a0.2.1), .slice Az0_2 (a0.2.2.length) cz0_2]]) 5 #[false, false, false, false, false] hmix rfl rfl HH114 (fun _ h => h.sel [0, 1, 2, 3, 4, 5, 6, 7] (by decide) rfl) fun w' HH125 => ?_
      have HS126 := HH125
      refine dr_take (i := 0) (ls' := #[true, false, false, false, false]) HE124 HS126 rfl (by kernel_rfl) (by kernel_rfl) (by kernel_rfl) (fun _ _ _ h => h) rfl (wt0 rfl) (x_loadN (cs := [.int .i64 (a0.1), .int .i64 (a0.2.1), .slice Ar30_2 (a0.2.2.length) cr30_2]) tv_78 rfl rfl (c_blkN 2 rfl)) rfl rfl fun a_127 HE128 => ?_
      refine dr_take (i := 1) (ls' := #[true, true, false, false, false]) HE128 HS126 rfl (by kernel_rfl) (by kernel_rfl) (by kernel_rfl) (fun _ _ _ h => h) rfl (wt0 rfl) (x_loadN (cs := [.int .i64 (a0.1), .int .i64 (a0.2.1), .slice Az0_2 (a0.2.2.length) cz0_2]) tv_70 rfl rfl (c_blkN 7 rfl)) rfl rfl fun a_129 HE130 => ?_
      refine dr_one (i := 2) (ls' := #[true, true, true, false, false]) rfl (by kernel_rfl) rfl fun K_131 hK132 => ?_
      refine st_call HE130 (wt0 rfl) rfl rfl rfl en_42 rfl rfl (to_Machine [.int .i64 (a0.1), .int .i64 (a0.2.1), .slice Az0_2 (a0.2.2.length) cz0_2] a0 _ (HH125.oldR H0) (by omega)) fun e w' hr => ?_
      obtain ⟨esr35, rfl, hor35, hbr35⟩ := hr
      have hr := eMachine.read hor35
      obtain ⟨Sr35, HH133⟩ := HH125.newO hbr35 hor35
      obtain ⟨Ar35_2, cr35_2, rfl, gr35_0, gr35_1, gr35_2⟩ := shape_Machine hr
      clear hbr35 hor35 gr35_0 gr35_1 gr35_2
      refine ⟨_, rfl, fun a_134 HE135 => hK132 _ _ (by exact HH133.sel [1, 2, 3, 4, 5, 6, 7, 8] (by decide) rfl) ?_⟩
      have HS136 := HH133.sel [1, 2, 3, 4, 5, 6, 7, 8] (by decide) rfl
      refine dr_one (i := 3) (ls' := #[true, true, true, true, false]) rfl (by kernel_rfl) rfl fun K_137 hK138 => ?_
      refine st_call HE135 (wt0 rfl) rfl rfl rfl en_45 rfl rfl (eq_Machine_c [.int .i64 (a0.1), .int .i64 (a0.2.1), .slice Ar30_2 (a0.2.2.length) cr30_2] [.int .i64 (a0.1), .int .i64 (a0.2.1), .slice Ar35_2 (a0.2.2.length) cr35_2] a0 a0 _ (HH133.rd (i := 4) rfl) (HH133.rd (i := 0) rfl)) fun e w' hr => ?_
      obtain ⟨rfl, hbr36⟩ := hr
      have HH139 := HH133.on hbr36
      clear hbr36
      refine ⟨_, rfl, fun a_140 HE141 => hK138 _ _ (by exact HH139.sel [1, 2, 3, 4, 5, 6, 7, 8] (by decide) rfl) ?_⟩
      have HS142 := HH139.sel [1, 2, 3, 4, 5, 6, 7, 8] (by decide) rfl
      refine dr_take (i := 4) (ls' := #[true, true, true, true, true]) HE141 HS142 rfl (by kernel_rfl) (by kernel_rfl) (by kernel_rfl) (fun _ _ _ h => h) rfl (wt0 rfl) (x_not rfl) rfl rfl fun a_143 HE144 => ?_
      refine dr_done (by kernel_rfl) ?_
      clear HH114 HS75 a_123 HE124 a_127 HE128 HH125 a_129 HE130 HS126 K_131 hK132 HH133 a_134 HE135 HS136 a_140 HE141 hK138 K_137
      refine nrm ?_
      refine cndF HE144 rfl (not_f (eq_Machine_refl _)) ?_
      refine wp_skip ?_
      refine nrm ?_
      refine wp_seq ?_
      refine wp_seq ?_
      refine dr_start (Held Nob w [rO eMachine Sr35 [.int .i64 (a0.1), .int .i64 (a0.2.1), .slice Ar35_2 (a0.2.2.length) cr35_2] a0, rBlk q33 80 [.int .i64 (a1.1), .slice Ar32_1 (a1.2.1.length) cr32_1, .slice Ar32_2 (a1.2.2.length) cr32_2], rO eConfig Sr32 [.int .i64 (a1.1), .slice Ar32_1 (a1.2.1.length) cr32_1, .slice Ar32_2 (a1.2.2.length) cr32_2] a1, rBlk q31 78 [.int .i64 (a0.1), .int .i64 (a0.2.1), .slice Ar30_2 (a0.2.2.length) cr30_2], rO eMachine Sr30 [.int .i64 (a0.1), .int .i64 (a0.2.1), .slice Ar30_2 (a0.2.2.length) cr30_2] a0, rO eConfig Sr28 [.int .i64 (a1.1), .slice Ar28_1 (a1.2.1.length) cr28_1, .slice Ar28_2 (a1.2.2.length) cr28_2] a1, rO eMachine Sr27 [.int .i64 (a0.1), .int .i64 (a0.2.1), .slice Ar27_2 (a0.2.2.length) cr27_2] a0, rBlk q22 72 [.int .i64 (a1.1), .slice Az1_1 (a1.2.1.length) cz1_1, .slice Az1_2 (a1.2.2.length) cz1_2], rBlk q21 70 [.int .i64 (a0.1), .int .i64 (a0.2.1), .slice Az0_2 (a0.2.2.length) cz0_2]]) 5 #[false, false, false, false, false] hmix rfl rfl HH139 (fun _ h => h.sel [0, 1, 2, 3, 4, 5, 6, 7, 8] (by decide) rfl) fun w' HH145 => ?_
      have HS146 := HH145
      refine dr_take (i := 0) (ls' := #[true, false, false, false, false]) HE144 HS146 rfl (by kernel_rfl) (by kernel_rfl) (by kernel_rfl) (fun _ _ _ h => h) rfl (wt0 rfl) (x_loadN (cs := [.int .i64 (a1.1), .slice Ar32_1 (a1.2.1.length) cr32_1, .slice Ar32_2 (a1.2.2.length) cr32_2]) tv_80 rfl rfl (c_blkN 1 rfl)) rfl rfl fun a_147 HE148 => ?_
      refine dr_take (i := 1) (ls' := #[true, true, false, false, false]) HE148 HS146 rfl (by kernel_rfl) (by kernel_rfl) (by kernel_rfl) (fun _ _ _ h => h) rfl (wt0 rfl) (x_loadN (cs := [.int .i64 (a1.1), .slice Az1_1 (a1.2.1.length) cz1_1, .slice Az1_2 (a1.2.2.length) cz1_2]) tv_72 rfl rfl (c_blkN 7 rfl)) rfl rfl fun a_149 HE150 => ?_
      refine dr_one (i := 2) (ls' := #[true, true, true, false, false]) rfl (by kernel_rfl) rfl fun K_151 hK152 => ?_
      refine st_call HE150 (wt0 rfl) rfl rfl rfl en_43 rfl rfl (to_Config [.int .i64 (a1.1), .slice Az1_1 (a1.2.1.length) cz1_1, .slice Az1_2 (a1.2.2.length) cz1_2] a1 _ (HH145.oldR H1) (by omega)) fun e w' hr => ?_
      obtain ⟨esr37, rfl, hor37, hbr37⟩ := hr
      have hr := eConfig.read hor37
      obtain ⟨Sr37, HH153⟩ := HH145.newO hbr37 hor37
      obtain ⟨Ar37_1, cr37_1, Ar37_2, cr37_2, rfl, gr37_0, gr37_1, gr37_2⟩ := shape_Config hr
      clear hbr37 hor37 gr37_0 gr37_1 gr37_2
      refine ⟨_, rfl, fun a_154 HE155 => hK152 _ _ (by exact HH153.sel [1, 2, 3, 4, 5, 6, 7, 8, 9] (by decide) rfl) ?_⟩
      have HS156 := HH153.sel [1, 2, 3, 4, 5, 6, 7, 8, 9] (by decide) rfl
      refine dr_one (i := 3) (ls' := #[true, true, true, true, false]) rfl (by kernel_rfl) rfl fun K_157 hK158 => ?_
      refine st_call HE155 (wt0 rfl) rfl rfl rfl en_46 rfl rfl (eq_Config_c [.int .i64 (a1.1), .slice Ar32_1 (a1.2.1.length) cr32_1, .slice Ar32_2 (a1.2.2.length) cr32_2] [.int .i64 (a1.1), .slice Ar37_1 (a1.2.1.length) cr37_1, .slice Ar37_2 (a1.2.2.length) cr37_2] a1 a1 _ (HH153.rd (i := 3) rfl) (HH153.rd (i := 0) rfl)) fun e w' hr => ?_
      obtain ⟨rfl, hbr38⟩ := hr
      have HH159 := HH153.on hbr38
      clear hbr38
      refine ⟨_, rfl, fun a_160 HE161 => hK158 _ _ (by exact HH159.sel [1, 2, 3, 4, 5, 6, 7, 8, 9] (by decide) rfl) ?_⟩
      have HS162 := HH159.sel [1, 2, 3, 4, 5, 6, 7, 8, 9] (by decide) rfl
      refine dr_take (i := 4) (ls' := #[true, true, true, true, true]) HE161 HS162 rfl (by kernel_rfl) (by kernel_rfl) (by kernel_rfl) (fun _ _ _ h => h) rfl (wt0 rfl) (x_not rfl) rfl rfl fun a_163 HE164 => ?_
      refine dr_done (by kernel_rfl) ?_
      clear HH139 HS142 a_143 HE144 a_147 HE148 HH145 a_149 HE150 HS146 K_151 hK152 HH153 a_154 HE155 HS156 a_160 HE161 hK158 K_157
      refine nrm ?_
      refine cndF HE164 rfl (not_f (eq_Config_refl _)) ?_
      refine wp_skip ?_
      refine nrm ?_
      refine wp_seq ?_
      refine rg ?_
      refine pl_x HE164 HH159 (wt0 rfl) (x_assign rfl) rfl rfl fun a_165 HE166 => ?_
      refine wpList_nil ?_
      clear a_163 HE164
      refine nrm ?_
      refine wp_ret ?_
      refine ret1 HE166 rfl (rv_tmp rfl) ?_
      have hF : true = true := by
        first | rfl | (exfalso; omega)
      exact ⟨by first | (rw [hF] <;> rfl) | rfl | (rw [hF]; simp only [Ending.returned.injEq, Value.slice.injEq, true_and, and_true]; first | omega | (simp; done)) | (rw [hF]; simp; omega), HH159.below⟩

end Go.Proofs.YtjnnkmflpbildaaDoor
