/- What the proof of FnExactOverlapsOf needs: contracts of the functions that it reaches, each once. -/
import Derived.Test.YthfihlfjphiihaaProg
import Derived.Test.YthfihlfjphiihaaQMem
import Derived.Test.YthfihlfjphiihaaQOpen
import Derived.Test.YthfihlfjphiihaaLOverlapsOfa
import Derived.Test.YthfihlfjphiihaaLOverlapsOfb
import Derived.Test.YthfihlfjphiihaaLOverlapsOfc
import Derived.Test.YthfihlfjphiihaaLOverlapsOfd
import Derived.WalkKit
import Derived.WalkSpells
import Derived.Below
import Derived.LoopTactic
import Derived.Outline
import Derived.Deep.QuietTactic
import Derived.BigQuiet
import Derived.Deep.LoopGhost
import Derived.Handy
import Derived.Lib.Hide
import Derived.Shelf.Abstract
import Derived.StillTailTactics
import Derived.OwnWalk
import Derived.Maps.AppendAt
import Derived.RegionTactic
import Derived.Deep.RegionHeld3
import Derived.IntWalk
import Derived.Deep.Upon
import Derived.Laws.OwnMore
import Derived.Maps.AppendAt
import Derived.Laws.Small
import Derived.Lib.FrozenHead
import Derived.Lib.RuneBytes
import Derived.Lib.LaidTab
import Derived.Laws.StructEq
import Derived.Lib.SliceRun
import Derived.Lib.AppendZeros
import Derived.Lib.ItoaLen
import Derived.Lib.Join
import Derived.Shelf.Strconv.Itoa4
import Derived.Shelf.Strings.OnBuilder
import Derived.Shelf.Strings.BuilderK
import Derived.Shelf.Strings.BuilderRune
import Derived.Shelf.LaysM
import Derived.Ground.NamesProg
namespace Go.Proofs.Ythfihlfjphiihaa
open Go.RowKit

set_option maxRecDepth 100000 in
set_option maxHeartbeats 4000000 in
theorem spec_OverlapsOf (A0 : Option Addr) (c0 : Nat) (a0 : (List tRewrite)) (w : World) (h0 : Sl eRewrite w (Old w) A0 c0 a0) :
    Calls Try.prog 8 #[.slice A0 a0.length c0] w fun e w' => ∃ (A0' : Option Addr) (c0' : Nat) (S0' : Nat → Prop), e = .returned (.tuple #[.slice A0' (overlapsOf a0).1.length c0', .int .i64 (overlapsOf a0).2]) ∧ Held Nob w [rVec (eSl (eSl eInt)) 50 S0' A0' c0' (overlapsOf a0).1] w' := by
  have l0 := h0.len
  have HH1 := Held.start Nob w
  refine enter (n := 142) Try.func8 rfl rfl rfl fun a_2 HE3 => ?_
  refine wp_seq ?_
  refine rg ?_
  refine pl_x HE3 HH1 (wt0 rfl) (x_assign rfl) rfl rfl fun a_4 HE5 => ?_
  refine pl_x HE5 HH1 (wt0 rfl) (x_assign rfl) rfl rfl fun a_6 HE7 => ?_
  refine wpList_nil ?_
  clear a_2 HE3 a_4 HE5
  refine nrm ?_
  refine wp_seq ?_
  refine wp_seq ?_
  refine rg ?_
  refine pl_x HE7 HH1 (wt0 rfl) (x_move rfl) rfl rfl fun a_8 HE9 => ?_
  refine pl fun K_10 hK11 => ?_
  refine st_call HE9 (wt0 rfl) rfl rfl rfl en_39 rfl rfl (spec_l10Is _ _ a0 _ (HH1.old h0)) fun e w' hr => ?_
  obtain ⟨rfl, rfl⟩ := hr
  refine ⟨_, rfl, fun a_12 HE13 => hK11 _ _ ?_⟩
  refine pl_x HE13 HH1 (wt0 rfl) (x_not rfl) rfl rfl fun a_14 HE15 => ?_
  refine wpList_nil ?_
  clear a_6 HE7 a_8 HE9 a_12 HE13 hK11 K_10
  refine nrm ?_
  refine cnd_nb HE15 rfl (fun hc22 => ?_) (fun hc22 => ?_)
  · refine wp_seq ?_
    refine rg ?_
    refine pl_x HE15 HH1 (wt0 rfl) (x_assign rfl) rfl rfl fun a_16 HE17 => ?_
    refine pl_x HE17 HH1 (wt0 rfl) (x_assign rfl) rfl rfl fun a_18 HE19 => ?_
    refine wpList_nil ?_
    clear a_14 HE15 a_16 HE17
    refine nrm ?_
    refine wp_ret ?_
    refine (thn_ret ?_)
    refine ret2 HE19 rfl (rv_tmp rfl) (rv_tmp rfl) ?_
    have HH20 := HH1.vecNil (eSl (eSl eInt)) 50
    have hF : (overlapsOf a0) = ([], 1) := by
      first | (unfold overlapsOf; rw [if_pos hvr, show a0.length = i from by omega, if_pos p0_1]) | (have hcc := p0_2; rw [ovl_cons (by omega) (by unfold hitO; grind [sharesB])] at hcc; unfold overlapsOf; rw [if_pos hvr, goodO_bad2 (i := i) (j := j) (by omega) (by omega) hcc (by first | (right; omega) | (left; rw [hok, decide_eq_false_iff_not, ← hdn]; omega))]; rfl) | (simp [overlapsOf, hc22]; done)
    exact ⟨_, _, _, by first | (rw [hF] <;> rfl) | rfl | (rw [hF]; simp only [Ending.returned.injEq, Value.slice.injEq, true_and, and_true]; first | omega | (simp; done)) | (rw [hF]; simp; omega), by rw [hF]; exact HH20.sel [0] (by decide) rfl⟩
  · have hvr := hc22
    refine wp_skip ?_
    refine nrm ?_
    refine wp_seq ?_
    refine rg ?_
    refine pl fun K_21 hK22 => ?_
    refine st_lit (m := 0) (cs := []) (e := 50) HE15 HH1 (run_lit ts_24 HE15 (vs := []) rfl rfl (by simp [Value.cells]) rfl (by decide)) (wt0 rfl) rfl rfl fun q23 a_23 w' HE24 HH25 => hK22 _ _ ?_
    refine pl_x HE24 HH25 (wt0 rfl) (x_assign rfl) rfl rfl fun a_26 HE27 => ?_
    refine wpList_nil ?_
    clear a_14 HE15 HH1 a_23 HE24 hK22 K_21
    refine nrm ?_
    refine wp_seq ?_
    refine wp_seq ?_
    refine rg ?_
    refine pl_x HE27 HH25 (wt0 rfl) (x_assign rfl) rfl rfl fun a_28 HE29 => ?_
    refine wpList_nil ?_
    clear a_26 HE27
    refine nrm ?_
    refine wp_block ?_
    have HH30 := Held.vecFlat (E := (eSl (eSl eInt))) (xs := []) (css := []) HH25 rfl (Nat.zero_le _) (fun i x hx => by simp at hx)
    refine lp (fun m a w' => ∃ (i : Nat) (A_4 : Option Addr) (c_4 : Nat) (S_4 : Nat → Prop), m = a0.length - i ∧ Env 142 [(4, .slice A_4 (List.length (allO a0 i)) c_4), (5, .int .i64 (i : Int)), (0, .slice A0 (a0.length) c0)] a ∧ Held Nob w [rVec (eSl (eSl eInt)) 50 S_4 A_4 c_4 (allO a0 i)] w' ∧ (i ≤ a0.length) ∧ (goodO (allO a0 i) = true)) (a0.length - (0)) ?_ ?_
    · have E24 : allO a0 0 = ([] : List (List (List Int))) := by
        rfl
      exact ⟨0, (some ⟨q23, 0, none⟩), (List.length (α := (List (List Int))) []), (fun b => b = q23), rfl, HE29.sub ⟨(by rw [E24]; rfl), (lkI rfl (by first | rfl | omega | (simp [hc22]; done))), rfl, trivial⟩, ((HH30.sel [0] (by decide) rfl).to (by first | rfl | (rw [E24]; done) | (rw [E24]; rfl) | (simp only [E24]; done) | (simp only [E24]; rfl) | (rw [E24]; simp only [List.length_set]; done))), (by first | omega | assumption | (simp; done) | simp_all), (by rfl)⟩
    · rintro m a_31 w' ⟨i, A_4, c_4, S_4, rfl, HE32, HH33, p25_0, p25_1⟩
      refine wp_seq ?_
      refine wp_seq ?_
      refine rg ?_
      refine pl_x HE32 HH33 (wt0 rfl) (x_move rfl) rfl rfl fun a_34 HE35 => ?_
      refine pl_x HE35 HH33 (wt0 rfl) (x_move rfl) rfl rfl fun a_36 HE37 => ?_
      refine pl_x HE37 HH33 (wt0 rfl) (x_len Try.underlying27 rfl) rfl rfl fun a_38 HE39 => ?_
      refine pl_x HE39 HH33 (wt0 rfl) (x_lss rfl rfl) rfl rfl fun a_40 HE41 => ?_
      refine wpList_nil ?_
      clear HH25 a_28 HE29 HH30 a_31 HE32 a_34 HE35 a_36 HE37 a_38 HE39
      refine nrm ?_
      refine cnd_d HE41 rfl (fun hc26 => ?_) (fun hc26 => ?_)
      · refine wp_skip ?_
        refine nrm ?_
        refine wp_seq ?_
        refine wp_block ?_
        refine wp_seq ?_
        refine rg ?_
        refine pl_x HE41 HH33 (wt0 rfl) (x_assign rfl) rfl rfl fun a_42 HE43 => ?_
        refine wpList_nil ?_
        clear a_40 HE41
        refine nrm ?_
        refine wp_block ?_
        refine lp (fun m a w' => ∃ (j : Nat) (A_4 : Option Addr) (c_4 : Nat) (S_4 : Nat → Prop), m = a0.length - j ∧ Env 142 [(4, .slice A_4 (List.length (allO a0 i ++ rowsO a0 i j)) c_4), (6, .int .i64 (j : Int)), (0, .slice A0 (a0.length) c0), (5, .int .i64 ((i : Int)))] a ∧ Held Nob w [rVec (eSl (eSl eInt)) 50 S_4 A_4 c_4 (allO a0 i ++ rowsO a0 i j)] w' ∧ (j ≤ a0.length) ∧ (goodO (allO a0 i ++ rowsO a0 i j) = true)) (a0.length - (0)) ?_ ?_
        · have E27 : (allO a0 i ++ rowsO a0 i 0) = allO a0 i := by
            simp [rowsO]
          exact ⟨0, A_4, c_4, S_4, rfl, HE43.sub ⟨(by rw [E27]; rfl), (lkI rfl (by first | rfl | omega | (simp [hc22, p25_0, p25_1, hc26]; done))), rfl, rfl, trivial⟩, ((HH33.sel [0] (by decide) rfl).to (by first | rfl | (rw [E27]; done) | (rw [E27]; rfl) | (simp only [E27]; done) | (simp only [E27]; rfl) | (rw [E27]; simp only [List.length_set]; done))), (by first | omega | assumption | (simp; done) | simp_all), (by simpa [rowsO])⟩
        · rintro m a_44 w' ⟨j, A_4, c_4, S_4, rfl, HE45, HH46, p28_0, p28_1⟩
          refine wp_seq ?_
          refine wp_seq ?_
          refine rg ?_
          refine pl_x HE45 HH46 (wt0 rfl) (x_move rfl) rfl rfl fun a_47 HE48 => ?_
          refine pl_x HE48 HH46 (wt0 rfl) (x_move rfl) rfl rfl fun a_49 HE50 => ?_
          refine pl_x HE50 HH46 (wt0 rfl) (x_len Try.underlying27 rfl) rfl rfl fun a_51 HE52 => ?_
          refine pl_x HE52 HH46 (wt0 rfl) (x_lss rfl rfl) rfl rfl fun a_53 HE54 => ?_
          refine wpList_nil ?_
          clear a_42 HE43 HH33 a_44 HE45 a_47 HE48 a_49 HE50 a_51 HE52
          refine nrm ?_
          refine cnd_d HE54 rfl (fun hc29 => ?_) (fun hc29 => ?_)
          · refine wp_skip ?_
            refine nrm ?_
            refine wp_seq ?_
            refine wp_block ?_
            refine wp_seq ?_
            refine rg ?_
            refine pl_x HE54 HH46 (wt0 rfl) (x_move rfl) rfl rfl fun a_55 HE56 => ?_
            refine pl_x HE56 HH46 (wt0 rfl) (x_move rfl) rfl rfl fun a_57 HE58 => ?_
            have ke30 : i < a0.length := by omega
            obtain ⟨be30, fe30, ese30, Ae30, Re30, De30⟩ := el_old h0 ke30
            obtain ⟨e30, xe30⟩ : ∃ x_, x_ = a0[i] := ⟨_, rfl⟩
            rw [← xe30] at Re30
            have Qe30 := Re30
            obtain ⟨Ae30_0, ce30_0, Ae30_1, ce30_1, rfl, ge30_0, ge30_1⟩ := shape_Rewrite Re30
            have le30_0 := ge30_0.len
            have le30_1 := ge30_1.len
            have ge30 : a0[i]?.getD default = e30 := by rw [List.getElem?_eq_getElem ke30, xe30]; rfl
            have vre30 := validRew_len2 hvr e30 (by rw [xe30]; exact List.getElem_mem _)
            have vme30 : e30 ∈ a0 := by rw [xe30]; exact List.getElem_mem _
            refine pl_x HE58 HH46 (wt0 rfl) (x_indexAddr ts_27 rfl rfl Ae30 rfl ke30) rfl rfl fun a_59 HE60 => ?_
            refine pl_x HE60 HH46 (wt0 rfl) (x_assign rfl) rfl rfl fun a_61 HE62 => ?_
            refine wpList_nil ?_
            clear a_53 HE54 a_55 HE56 a_57 HE58 a_59 HE60
            refine nrm ?_
            refine wp_seq ?_
            refine rg ?_
            refine pl_x HE62 HH46 (wt0 rfl) (x_move rfl) rfl rfl fun a_63 HE64 => ?_
            refine pl_x HE64 HH46 (wt0 rfl) (x_move rfl) rfl rfl fun a_65 HE66 => ?_
            have ke31 : j < a0.length := by omega
            obtain ⟨be31, fe31, ese31, Ae31, Re31, De31⟩ := el_old h0 ke31
            obtain ⟨e31, xe31⟩ : ∃ x_, x_ = a0[j] := ⟨_, rfl⟩
            rw [← xe31] at Re31
            have Qe31 := Re31
            obtain ⟨Ae31_0, ce31_0, Ae31_1, ce31_1, rfl, ge31_0, ge31_1⟩ := shape_Rewrite Re31
            have le31_0 := ge31_0.len
            have le31_1 := ge31_1.len
            have ge31 : a0[j]?.getD default = e31 := by rw [List.getElem?_eq_getElem ke31, xe31]; rfl
            have vre31 := validRew_len2 hvr e31 (by rw [xe31]; exact List.getElem_mem _)
            have vme31 : e31 ∈ a0 := by rw [xe31]; exact List.getElem_mem _
            refine pl_x HE66 HH46 (wt0 rfl) (x_indexAddr ts_27 rfl rfl Ae31 rfl ke31) rfl rfl fun a_67 HE68 => ?_
            refine pl_x HE68 HH46 (wt0 rfl) (x_assign rfl) rfl rfl fun a_69 HE70 => ?_
            refine wpList_nil ?_
            clear a_61 HE62 a_63 HE64 a_65 HE66 a_67 HE68
            refine nrm ?_
            refine wp_seq ?_
            refine dr_start (Held Nob w [rVec (eSl (eSl eInt)) 50 S_4 A_4 c_4 (allO a0 i ++ rowsO a0 i j)]) 12 #[false, false, false, false, false, false, false, false, false, false, false, false] hmix rfl rfl HH46 (fun _ h => h.sel [0] (by decide) rfl) fun w' HH71 => ?_
            have HS72 := HH71
            refine dr_take (i := 0) (ls' := #[true, false, false, false, false, false, false, false, false, false, false, false]) HE70 HS72 rfl (by kernel_rfl) (by kernel_rfl) (by kernel_rfl) (fun _ _ _ h => h) rfl (wt0 rfl) (x_move rfl) rfl rfl fun a_73 HE74 => ?_
            refine dr_take (i := 1) (ls' := #[true, true, false, false, false, false, false, false, false, false, false, false]) HE74 HS72 rfl (by kernel_rfl) (by kernel_rfl) (by kernel_rfl) (fun _ _ _ h => h) rfl (wt0 rfl) (x_nilCheck rfl) rfl rfl fun a_75 HE76 => ?_
            refine dr_take (i := 2) (ls' := #[true, true, true, false, false, false, false, false, false, false, false, false]) HE76 HS72 rfl (by kernel_rfl) (by kernel_rfl) (by kernel_rfl) (fun _ _ _ h => h) rfl (wt0 rfl) (x_fieldAddr fa_70_0 rfl) rfl rfl fun a_77 HE78 => ?_
            refine dr_take (i := 3) (ls' := #[true, true, true, true, false, false, false, false, false, false, false, false]) HE78 HS72 rfl (by kernel_rfl) (by kernel_rfl) (by kernel_rfl) (fun _ _ _ h => h) rfl (wt0 rfl) (x_load1 tv_37 rfl (c_old (De30 0 _ rfl))) rfl rfl fun a_79 HE80 => ?_
            refine dr_take (i := 4) (ls' := #[true, true, true, true, true, false, false, false, false, false, false, false]) HE80 HS72 rfl (by kernel_rfl) (by kernel_rfl) (by kernel_rfl) (fun _ _ _ h => h) rfl (wt0 rfl) (x_len Try.underlying37 rfl) rfl rfl fun a_81 HE82 => ?_
            refine dr_take (i := 5) (ls' := #[true, true, true, true, true, true, false, false, false, false, false, false]) HE82 HS72 rfl (by kernel_rfl) (by kernel_rfl) (by kernel_rfl) (fun _ _ _ h => h) rfl (wt0 rfl) (x_move rfl) rfl rfl fun a_83 HE84 => ?_
            refine dr_take (i := 6) (ls' := #[true, true, true, true, true, true, true, false, false, false, false, false]) HE84 HS72 rfl (by kernel_rfl) (by kernel_rfl) (by kernel_rfl) (fun _ _ _ h => h) rfl (wt0 rfl) (x_nilCheck rfl) rfl rfl fun a_85 HE86 => ?_
            refine dr_take (i := 7) (ls' := #[true, true, true, true, true, true, true, true, false, false, false, false]) HE86 HS72 rfl (by kernel_rfl) (by kernel_rfl) (by kernel_rfl) (fun _ _ _ h => h) rfl (wt0 rfl) (x_fieldAddr fa_70_0 rfl) rfl rfl fun a_87 HE88 => ?_
            refine dr_take (i := 8) (ls' := #[true, true, true, true, true, true, true, true, true, false, false, false]) HE88 HS72 rfl (by kernel_rfl) (by kernel_rfl) (by kernel_rfl) (fun _ _ _ h => h) rfl (wt0 rfl) (x_load1 tv_37 rfl (c_old (De31 0 _ rfl))) rfl rfl fun a_89 HE90 => ?_
            refine dr_take (i := 9) (ls' := #[true, true, true, true, true, true, true, true, true, true, false, false]) HE90 HS72 rfl (by kernel_rfl) (by kernel_rfl) (by kernel_rfl) (fun _ _ _ h => h) rfl (wt0 rfl) (x_len Try.underlying37 rfl) rfl rfl fun a_91 HE92 => ?_
            refine dr_one (i := 10) (ls' := #[true, true, true, true, true, true, true, true, true, true, true, false]) rfl (by kernel_rfl) rfl fun K_93 hK94 => ?_
            refine st_call HE92 (wt0 rfl) rfl rfl rfl en_40 rfl rfl (spec_l00Min (e30.1.length : Int) (e31.1.length : Int) _ ) fun e w' hr => ?_
            obtain ⟨rfl, hbr32⟩ := hr
            have HH95 := HH71.on hbr32
            refine ⟨_, rfl, fun a_96 HE97 => hK94 _ _ (by exact HH95.sel [0] (by decide) rfl) ?_⟩
            have HS98 := HH95.sel [0] (by decide) rfl
            refine dr_take (i := 11) (ls' := #[true, true, true, true, true, true, true, true, true, true, true, true]) HE97 HS98 rfl (by kernel_rfl) (by kernel_rfl) (by kernel_rfl) (fun _ _ _ h => h) rfl (wt0 rfl) (x_assign rfl) rfl rfl fun a_99 HE100 => ?_
            refine dr_done (by kernel_rfl) ?_
            clear HH46 a_69 HE70 a_73 HE74 a_75 HE76 a_77 HE78 a_79 HE80 a_81 HE82 a_83 HE84 a_85 HE86 a_87 HE88 a_89 HE90 HH71 a_91 HE92 HS72 a_96 HE97 hK94 K_93
            refine nrm ?_
            refine wp_block ?_
            have hro : rowO a0 i j = ovlF e30 e31 ((i : Int) == (j : Int)) := by unfold rowO; rw [ge30, ge31]
            have hok := okW_tri hvr vme30 vme31
            refine lp (fun m a w' => ∃ (v : Nat) (o : List (List (List Int))) (A_4 : Option Addr) (c_4 : Nat) (S_4 : Nat → Prop), m = 0 + v ∧ Env 142 [(4, .slice A_4 (List.length o) c_4), (9, .int .i64 (v : Int)), (0, .slice A0 (a0.length) c0), (5, .int .i64 ((i : Int))), (6, .int .i64 ((j : Int))), (7, .pointer (some ⟨be30, fe30 + i * 2, none⟩)), (8, .pointer (some ⟨be31, fe31 + j * 2, none⟩))] a ∧ Held Nob w [rVec (eSl (eSl eInt)) 50 S_4 A_4 c_4 o] w' ∧ (v ≤ e30.1.length) ∧ (v ≤ e31.1.length) ∧ (allO a0 i ++ rowsO a0 i j ++ rowO a0 i j = o ++ ovl e30 e31 ((i : Int) == (j : Int)) v) ∧ (goodO o = true)) (0 + ((minN (List.length e30.1) (List.length e31.1)))) ?_ ?_
            · have E33 : ((allO a0 i ++ rowsO a0 i j)) = (allO a0 i ++ rowsO a0 i j) := by
                first | rfl | simp
              exact ⟨(minN (List.length e30.1) (List.length e31.1)), (allO a0 i ++ rowsO a0 i j), A_4, c_4, S_4, rfl, HE100.sub ⟨(by rw [E33]; rfl), (lkI rfl (by exact minI_N _ _)), rfl, rfl, rfl, rfl, rfl, trivial⟩, ((HH95.sel [0] (by decide) rfl).to (by first | rfl | (rw [E33]; done) | (rw [E33]; rfl) | (simp only [E33]; done) | (simp only [E33]; rfl) | (rw [E33]; simp only [List.length_set]; done))), (by exact minN_le1 _ _), (by exact minN_le2 _ _), (by rw [hro]; rfl), (by assumption)⟩
            · rintro m a_101 w' ⟨v, o, A_4, c_4, S_4, rfl, HE102, HH103, p34_0, p34_1, p34_2, p34_3⟩
              have hgl := goodO_len p34_3
              have hok := hok v
              have hdn : ((e30.1.length : Int) - (v : Int)).toNat = e30.1.length - v := by omega
              have htl : (List.take ((e30.1.length : Int) - (v : Int)).toNat e30.1).length = e30.1.length - v := by rw [List.length_take]; omega
              have hdl : (List.drop v e31.1).length = e31.1.length - v := List.length_drop
              refine wp_seq ?_
              refine wp_seq ?_
              refine rg ?_
              refine pl_x HE102 HH103 (wt0 rfl) (x_move rfl) rfl rfl fun a_104 HE105 => ?_
              refine pl_x HE105 HH103 (wt0 rfl) (x_gtr rfl rfl) rfl rfl fun a_106 HE107 => ?_
              refine wpList_nil ?_
              clear a_99 HE100 HH95 a_101 HE102 a_104 HE105
              refine nrm ?_
              refine cnd_d HE107 rfl (fun hc35 => ?_) (fun hc35 => ?_)
              · refine wp_skip ?_
                refine nrm ?_
                refine wp_seq ?_
                refine wp_block ?_
                refine wp_seq ?_
                refine wp_seq ?_
                refine dr_start (Held Nob w [rVec (eSl (eSl eInt)) 50 S_4 A_4 c_4 o]) 25 #[false, false, false, false, false, false, false, false, false, false, false, false, false, false, false, false, false, false, false, false, false, false, false, false, false] hmix rfl rfl HH103 (fun _ h => h.sel [0] (by decide) rfl) fun w' HH108 => ?_
                have HS109 := HH108
                refine dr_take (i := 0) (ls' := #[true, false, false, false, false, false, false, false, false, false, false, false, false, false, false, false, false, false, false, false, false, false, false, false, false]) HE107 HS109 rfl (by kernel_rfl) (by kernel_rfl) (by kernel_rfl) (fun _ _ _ h => h) rfl (wt0 rfl) (x_move rfl) rfl rfl fun a_110 HE111 => ?_
                refine dr_take (i := 1) (ls' := #[true, true, false, false, false, false, false, false, false, false, false, false, false, false, false, false, false, false, false, false, false, false, false, false, false]) HE111 HS109 rfl (by kernel_rfl) (by kernel_rfl) (by kernel_rfl) (fun _ _ _ h => h) rfl (wt0 rfl) (x_move rfl) rfl rfl fun a_112 HE113 => ?_
                refine dr_take (i := 2) (ls' := #[true, true, true, false, false, false, false, false, false, false, false, false, false, false, false, false, false, false, false, false, false, false, false, false, false]) HE113 HS109 rfl (by kernel_rfl) (by kernel_rfl) (by kernel_rfl) (fun _ _ _ h => h) rfl (wt0 rfl) (x_eql rfl rfl) rfl rfl fun a_114 HE115 => ?_
                refine dr_take (i := 3) (ls' := #[true, true, true, true, false, false, false, false, false, false, false, false, false, false, false, false, false, false, false, false, false, false, false, false, false]) HE115 HS109 rfl (by kernel_rfl) (by kernel_rfl) (by kernel_rfl) (fun _ _ _ h => h) rfl (wt0 rfl) (x_move rfl) rfl rfl fun a_116 HE117 => ?_
                by_cases hc36 : (i : Int) = (j : Int)
                · refine dr_take (i := 4) (ls' := #[true, true, true, true, true, false, false, false, false, false, false, false, false, false, false, false, false, false, false, false, false, false, false, false, false]) HE117 HS109 rfl (by kernel_rfl) (by kernel_rfl) (by kernel_rfl) (fun _ _ _ h => h) rfl (wtT HE117 rfl rfl rfl (beq_t hc36)) (x_move rfl) rfl rfl fun a_118 HE119 => ?_
                  refine dr_take (i := 5) (ls' := #[true, true, true, true, true, true, false, false, false, false, false, false, false, false, false, false, false, false, false, false, false, false, false, false, false]) HE119 HS109 rfl (by kernel_rfl) (by kernel_rfl) (by kernel_rfl) (fun _ _ _ h => h) rfl (wtT HE119 rfl rfl rfl (beq_t hc36)) (x_move rfl) rfl rfl fun a_120 HE121 => ?_
                  refine dr_take (i := 6) (ls' := #[true, true, true, true, true, true, true, false, false, false, false, false, false, false, false, false, false, false, false, false, false, false, false, false, false]) HE121 HS109 rfl (by kernel_rfl) (by kernel_rfl) (by kernel_rfl) (fun _ _ _ h => h) rfl (wtT HE121 rfl rfl rfl (beq_t hc36)) (x_nilCheck rfl) rfl rfl fun a_122 HE123 => ?_
                  refine dr_take (i := 7) (ls' := #[true, true, true, true, true, true, true, true, false, false, false, false, false, false, false, false, false, false, false, false, false, false, false, false, false]) HE123 HS109 rfl (by kernel_rfl) (by kernel_rfl) (by kernel_rfl) (fun _ _ _ h => h) rfl (wtT HE123 rfl rfl rfl (beq_t hc36)) (x_fieldAddr fa_70_0 rfl) rfl rfl fun a_124 HE125 => ?_
                  refine dr_take (i := 8) (ls' := #[true, true, true, true, true, true, true, true, true, false, false, false, false, false, false, false, false, false, false, false, false, false, false, false, false]) HE125 HS109 rfl (by kernel_rfl) (by kernel_rfl) (by kernel_rfl) (fun _ _ _ h => h) rfl (wtT HE125 rfl rfl rfl (beq_t hc36)) (x_load1 tv_37 rfl (c_old (De30 0 _ rfl))) rfl rfl fun a_126 HE127 => ?_
                  refine dr_take (i := 9) (ls' := #[true, true, true, true, true, true, true, true, true, true, false, false, false, false, false, false, false, false, false, false, false, false, false, false, false]) HE127 HS109 rfl (by kernel_rfl) (by kernel_rfl) (by kernel_rfl) (fun _ _ _ h => h) rfl (wtT HE127 rfl rfl rfl (beq_t hc36)) (x_len Try.underlying37 rfl) rfl rfl fun a_128 HE129 => ?_
                  refine dr_take (i := 10) (ls' := #[true, true, true, true, true, true, true, true, true, true, true, false, false, false, false, false, false, false, false, false, false, false, false, false, false]) HE129 HS109 rfl (by kernel_rfl) (by kernel_rfl) (by kernel_rfl) (fun _ _ _ h => h) rfl (wtT HE129 rfl rfl rfl (beq_t hc36)) (x_eql rfl rfl) rfl rfl fun a_130 HE131 => ?_
                  refine dr_take (i := 11) (ls' := #[true, true, true, true, true, true, true, true, true, true, true, true, false, false, false, false, false, false, false, false, false, false, false, false, false]) HE131 HS109 rfl (by kernel_rfl) (by kernel_rfl) (by kernel_rfl) (fun _ _ _ h => h) rfl (wt0 rfl) (x_pickT rfl (beq_t hc36) rfl) rfl rfl fun a_132 HE133 => ?_
                  refine dr_take (i := 12) (ls' := #[true, true, true, true, true, true, true, true, true, true, true, true, true, false, false, false, false, false, false, false, false, false, false, false, false]) HE133 HS109 rfl (by kernel_rfl) (by kernel_rfl) (by kernel_rfl) (fun _ _ _ h => h) rfl (wt0 rfl) (x_move rfl) rfl rfl fun a_134 HE135 => ?_
                  by_cases hc37 : (v : Int) = (e30.1.length : Int)
                  · refine dr_takeNo (i := 13) (ls' := #[true, true, true, true, true, true, true, true, true, true, true, true, true, true, false, false, false, false, false, false, false, false, false, false, false]) HE135 HS109 rfl (by kernel_rfl) (by kernel_rfl) (by kernel_rfl) (fun _ _ _ h => h) rfl (wtF HE135 rfl rfl rfl (beq_t hc37)) rfl rfl fun a_136 HE137 => ?_
                    refine dr_takeNo (i := 14) (ls' := #[true, true, true, true, true, true, true, true, true, true, true, true, true, true, true, false, false, false, false, false, false, false, false, false, false]) HE137 HS109 rfl (by kernel_rfl) (by kernel_rfl) (by kernel_rfl) (fun _ _ _ h => h) rfl (wtF HE137 rfl rfl rfl (beq_t hc37)) rfl rfl fun a_138 HE139 => ?_
                    refine dr_takeNo (i := 15) (ls' := #[true, true, true, true, true, true, true, true, true, true, true, true, true, true, true, true, false, false, false, false, false, false, false, false, false]) HE139 HS109 rfl (by kernel_rfl) (by kernel_rfl) (by kernel_rfl) (fun _ _ _ h => h) rfl (wtF HE139 rfl rfl rfl (beq_t hc37)) rfl rfl fun a_140 HE141 => ?_
                    refine dr_takeNo (i := 16) (ls' := #[true, true, true, true, true, true, true, true, true, true, true, true, true, true, true, true, true, false, false, false, false, false, false, false, false]) HE141 HS109 rfl (by kernel_rfl) (by kernel_rfl) (by kernel_rfl) (fun _ _ _ h => h) rfl (wtF HE141 rfl rfl rfl (beq_t hc37)) rfl rfl fun a_142 HE143 => ?_
                    refine dr_takeNo (i := 17) (ls' := #[true, true, true, true, true, true, true, true, true, true, true, true, true, true, true, true, true, true, false, false, false, false, false, false, false]) HE143 HS109 rfl (by kernel_rfl) (by kernel_rfl) (by kernel_rfl) (fun _ _ _ h => h) rfl (wtF HE143 rfl rfl rfl (beq_t hc37)) rfl rfl fun a_144 HE145 => ?_
                    refine dr_takeNo (i := 18) (ls' := #[true, true, true, true, true, true, true, true, true, true, true, true, true, true, true, true, true, true, true, false, false, false, false, false, false]) HE145 HS109 rfl (by kernel_rfl) (by kernel_rfl) (by kernel_rfl) (fun _ _ _ h => h) rfl (wtF HE145 rfl rfl rfl (beq_t hc37)) rfl rfl fun a_146 HE147 => ?_
                    refine dr_takeNo (i := 19) (ls' := #[true, true, true, true, true, true, true, true, true, true, true, true, true, true, true, true, true, true, true, true, false, false, false, false, false]) HE147 HS109 rfl (by kernel_rfl) (by kernel_rfl) (by kernel_rfl) (fun _ _ _ h => h) rfl (wtF HE147 rfl rfl rfl (beq_t hc37)) rfl rfl fun a_148 HE149 => ?_
                    refine dr_takeNo (i := 20) (ls' := #[true, true, true, true, true, true, true, true, true, true, true, true, true, true, true, true, true, true, true, true, true, false, false, false, false]) HE149 HS109 rfl (by kernel_rfl) (by kernel_rfl) (by kernel_rfl) (fun _ _ _ h => h) rfl (wtF HE149 rfl rfl rfl (beq_t hc37)) rfl rfl fun a_150 HE151 => ?_
                    refine dr_takeNo (i := 21) (ls' := #[true, true, true, true, true, true, true, true, true, true, true, true, true, true, true, true, true, true, true, true, true, true, false, false, false]) HE151 HS109 rfl (by kernel_rfl) (by kernel_rfl) (by kernel_rfl) (fun _ _ _ h => h) rfl (wtF HE151 rfl rfl rfl (beq_t hc37)) rfl rfl fun a_152 HE153 => ?_
                    refine dr_takeNo (i := 22) (ls' := #[true, true, true, true, true, true, true, true, true, true, true, true, true, true, true, true, true, true, true, true, true, true, true, false, false]) HE153 HS109 rfl (by kernel_rfl) (by kernel_rfl) (by kernel_rfl) (fun _ _ _ h => h) rfl (wtF HE153 rfl rfl rfl (beq_t hc37)) rfl rfl fun a_154 HE155 => ?_
                    refine dr_takeNo (i := 23) (ls' := #[true, true, true, true, true, true, true, true, true, true, true, true, true, true, true, true, true, true, true, true, true, true, true, true, false]) HE155 HS109 rfl (by kernel_rfl) (by kernel_rfl) (by kernel_rfl) (fun _ _ _ h => h) rfl (wtF HE155 rfl rfl rfl (beq_t hc37)) rfl rfl fun a_156 HE157 => ?_
                    refine dr_take (i := 24) (ls' := #[true, true, true, true, true, true, true, true, true, true, true, true, true, true, true, true, true, true, true, true, true, true, true, true, true]) HE157 HS109 rfl (by kernel_rfl) (by kernel_rfl) (by kernel_rfl) (fun _ _ _ h => h) rfl (wt0 rfl) (x_pickT rfl (beq_t hc37) rfl) rfl rfl fun a_158 HE159 => ?_
                    refine dr_done (by kernel_rfl) ?_
                    clear HH103 HS98 a_106 HE107 a_110 HE111 a_112 HE113 a_114 HE115 a_116 HE117 a_118 HE119 a_120 HE121 a_122 HE123 a_124 HE125 a_126 HE127 a_128 HE129 a_130 HE131 a_132 HE133 a_134 HE135 a_136 HE137 a_138 HE139 a_140 HE141 a_142 HE143 a_144 HE145 a_146 HE147 a_148 HE149 a_150 HE151 a_152 HE153 a_154 HE155 a_156 HE157
                    refine nrm ?_
                    refine cndT HE159 rfl rfl ?_
                    refine wp_exit ?_
                    refine (thn_exit (blk_hit ?_))
                    refine nrm ?_
                    refine rg ?_
                    refine pl_x HE159 HH108 (wt0 rfl) (x_move rfl) rfl rfl fun a_160 HE161 => ?_
                    refine pl_x HE161 HH108 (wt0 rfl) (x_sub rfl rfl (by exact ⟨by omega, by omega⟩)) rfl rfl fun a_162 HE163 => ?_
                    refine pl_x HE163 HH108 (wt0 rfl) (x_assign rfl) rfl rfl fun a_164 HE165 => ?_
                    refine wpList_nil ?_
                    clear a_158 HE159 a_160 HE161 a_162 HE163
                    exact nrm ⟨0 + ((v - 1)), (by omega), (v - 1), o, A_4, c_4, S_4, rfl, HE165.sub ⟨rfl, (lkI rfl (by first | rfl | omega | (simp [hc22, p25_0, p25_1, hc26, p28_0, p28_1, hc29, xe30, xe31, p34_0, p34_1, p34_2, p34_3, hc35, hc36, hc37]; done))), rfl, rfl, rfl, rfl, rfl, trivial⟩, (HH108.sel [0] (by decide) rfl), (by first | omega | assumption | (simp; done) | simp_all), (by first | omega | assumption | (simp; done) | simp_all), (by rw [p34_2]; first | (refine ovl_miss (by omega) ?_; unfold hitO; grind [sharesB]) | (refine ovl_hit (by omega) ?_ triO_of2; unfold hitO; grind [sharesB])), (by first | assumption | (rw [triO_of2]; exact goodO_snoc p34_3 (by rw [hok, decide_eq_true_eq, ← hdn]; omega) (by omega)))⟩
                  · refine dr_take (i := 13) (ls' := #[true, true, true, true, true, true, true, true, true, true, true, true, true, true, false, false, false, false, false, false, false, false, false, false, false]) HE135 HS109 rfl (by kernel_rfl) (by kernel_rfl) (by kernel_rfl) (fun _ _ _ h => h) rfl (wtT HE135 rfl rfl rfl (beq_f hc37)) (x_move rfl) rfl rfl fun a_166 HE167 => ?_
                    refine dr_take (i := 14) (ls' := #[true, true, true, true, true, true, true, true, true, true, true, true, true, true, true, false, false, false, false, false, false, false, false, false, false]) HE167 HS109 rfl (by kernel_rfl) (by kernel_rfl) (by kernel_rfl) (fun _ _ _ h => h) rfl (wtT HE167 rfl rfl rfl (beq_f hc37)) (x_nilCheck rfl) rfl rfl fun a_168 HE169 => ?_
                    refine dr_take (i := 15) (ls' := #[true, true, true, true, true, true, true, true, true, true, true, true, true, true, true, true, false, false, false, false, false, false, false, false, false]) HE169 HS109 rfl (by kernel_rfl) (by kernel_rfl) (by kernel_rfl) (fun _ _ _ h => h) rfl (wtT HE169 rfl rfl rfl (beq_f hc37)) (x_fieldAddr fa_70_0 rfl) rfl rfl fun a_170 HE171 => ?_
                    refine dr_take (i := 16) (ls' := #[true, true, true, true, true, true, true, true, true, true, true, true, true, true, true, true, true, false, false, false, false, false, false, false, false]) HE171 HS109 rfl (by kernel_rfl) (by kernel_rfl) (by kernel_rfl) (fun _ _ _ h => h) rfl (wtT HE171 rfl rfl rfl (beq_f hc37)) (x_load1 tv_37 rfl (c_old (De30 0 _ rfl))) rfl rfl fun a_172 HE173 => ?_
                    refine dr_take (i := 17) (ls' := #[true, true, true, true, true, true, true, true, true, true, true, true, true, true, true, true, true, true, false, false, false, false, false, false, false]) HE173 HS109 rfl (by kernel_rfl) (by kernel_rfl) (by kernel_rfl) (fun _ _ _ h => h) rfl (wtT HE173 rfl rfl rfl (beq_f hc37)) (x_move rfl) rfl rfl fun a_174 HE175 => ?_
                    refine dr_take (i := 18) (ls' := #[true, true, true, true, true, true, true, true, true, true, true, true, true, true, true, true, true, true, true, false, false, false, false, false, false]) HE175 HS109 rfl (by kernel_rfl) (by kernel_rfl) (by kernel_rfl) (fun _ _ _ h => h) rfl (wtT HE175 rfl rfl rfl (beq_f hc37)) (x_nilCheck rfl) rfl rfl fun a_176 HE177 => ?_
                    refine dr_take (i := 19) (ls' := #[true, true, true, true, true, true, true, true, true, true, true, true, true, true, true, true, true, true, true, true, false, false, false, false, false]) HE177 HS109 rfl (by kernel_rfl) (by kernel_rfl) (by kernel_rfl) (fun _ _ _ h => h) rfl (wtT HE177 rfl rfl rfl (beq_f hc37)) (x_fieldAddr fa_70_0 rfl) rfl rfl fun a_178 HE179 => ?_
                    refine dr_take (i := 20) (ls' := #[true, true, true, true, true, true, true, true, true, true, true, true, true, true, true, true, true, true, true, true, true, false, false, false, false]) HE179 HS109 rfl (by kernel_rfl) (by kernel_rfl) (by kernel_rfl) (fun _ _ _ h => h) rfl (wtT HE179 rfl rfl rfl (beq_f hc37)) (x_load1 tv_37 rfl (c_old (De31 0 _ rfl))) rfl rfl fun a_180 HE181 => ?_
                    refine dr_take (i := 21) (ls' := #[true, true, true, true, true, true, true, true, true, true, true, true, true, true, true, true, true, true, true, true, true, true, false, false, false]) HE181 HS109 rfl (by kernel_rfl) (by kernel_rfl) (by kernel_rfl) (fun _ _ _ h => h) rfl (wtT HE181 rfl rfl rfl (beq_f hc37)) (x_move rfl) rfl rfl fun a_182 HE183 => ?_
                    refine dr_one (i := 22) (ls' := #[true, true, true, true, true, true, true, true, true, true, true, true, true, true, true, true, true, true, true, true, true, true, true, false, false]) rfl (by kernel_rfl) rfl fun K_184 hK185 => ?_
                    refine st_call HE183 (wtT HE183 rfl rfl rfl (beq_f hc37)) rfl rfl rfl en_41 rfl rfl (spec_l10Shares _ _ e30.1 _ _ e31.1 v _ (HH108.old ge30_0) (HH108.old ge31_0) (by omega) (by omega)) fun e w' hr => ?_
                    obtain ⟨rfl, hbr38⟩ := hr
                    have HH186 := HH108.on hbr38
                    refine ⟨_, rfl, fun a_187 HE188 => hK185 _ _ (by exact HH186.sel [0] (by decide) rfl) ?_⟩
                    have HS189 := HH186.sel [0] (by decide) rfl
                    refine dr_take (i := 23) (ls' := #[true, true, true, true, true, true, true, true, true, true, true, true, true, true, true, true, true, true, true, true, true, true, true, true, false]) HE188 HS189 rfl (by kernel_rfl) (by kernel_rfl) (by kernel_rfl) (fun _ _ _ h => h) rfl (wtT HE188 rfl rfl rfl (beq_f hc37)) (x_not rfl) rfl rfl fun a_190 HE191 => ?_
                    refine dr_take (i := 24) (ls' := #[true, true, true, true, true, true, true, true, true, true, true, true, true, true, true, true, true, true, true, true, true, true, true, true, true]) HE191 HS189 rfl (by kernel_rfl) (by kernel_rfl) (by kernel_rfl) (fun _ _ _ h => h) rfl (wt0 rfl) (x_pickF rfl (beq_f hc37) rfl) rfl rfl fun a_192 HE193 => ?_
                    refine dr_done (by kernel_rfl) ?_
                    clear HH103 HS98 a_106 HE107 a_110 HE111 a_112 HE113 a_114 HE115 a_116 HE117 a_118 HE119 a_120 HE121 a_122 HE123 a_124 HE125 a_126 HE127 a_128 HE129 a_130 HE131 a_132 HE133 a_134 HE135 a_166 HE167 a_168 HE169 a_170 HE171 a_172 HE173 a_174 HE175 a_176 HE177 a_178 HE179 a_180 HE181 HH108 a_182 HE183 HS109 a_187 HE188 a_190 HE191 hK185 K_184
                    refine nrm ?_
                    refine cnd_nb HE193 rfl (fun hc39 => ?_) (fun hc39 => ?_)
                    · refine wp_exit ?_
                      refine (thn_exit (blk_hit ?_))
                      refine nrm ?_
                      refine rg ?_
                      refine pl_x HE193 HH186 (wt0 rfl) (x_move rfl) rfl rfl fun a_194 HE195 => ?_
                      refine pl_x HE195 HH186 (wt0 rfl) (x_sub rfl rfl (by exact ⟨by omega, by omega⟩)) rfl rfl fun a_196 HE197 => ?_
                      refine pl_x HE197 HH186 (wt0 rfl) (x_assign rfl) rfl rfl fun a_198 HE199 => ?_
                      refine wpList_nil ?_
                      clear a_192 HE193 a_194 HE195 a_196 HE197
                      exact nrm ⟨0 + ((v - 1)), (by omega), (v - 1), o, A_4, c_4, S_4, rfl, HE199.sub ⟨rfl, (lkI rfl (by first | rfl | omega | (simp [hc22, p25_0, p25_1, hc26, p28_0, p28_1, hc29, xe30, xe31, p34_0, p34_1, p34_2, p34_3, hc35, hc36, hc37, hc39]; done))), rfl, rfl, rfl, rfl, rfl, trivial⟩, (HH186.sel [0] (by decide) rfl), (by first | omega | assumption | (simp; done) | simp_all), (by first | omega | assumption | (simp; done) | simp_all), (by rw [p34_2]; first | (refine ovl_miss (by omega) ?_; unfold hitO; grind [sharesB]) | (refine ovl_hit (by omega) ?_ triO_of2; unfold hitO; grind [sharesB])), (by first | assumption | (rw [triO_of2]; exact goodO_snoc p34_3 (by rw [hok, decide_eq_true_eq, ← hdn]; omega) (by omega)))⟩
                    · refine wp_skip ?_
                      refine nrm ?_
                      refine wp_seq ?_
                      refine rg ?_
                      refine pl_x HE193 HH186 (wt0 rfl) (x_move rfl) rfl rfl fun a_200 HE201 => ?_
                      refine pl_x HE201 HH186 (wt0 rfl) (x_nilCheck rfl) rfl rfl fun a_202 HE203 => ?_
                      refine pl_x HE203 HH186 (wt0 rfl) (x_fieldAddr fa_70_0 rfl) rfl rfl fun a_204 HE205 => ?_
                      refine pl_x HE205 HH186 (wt0 rfl) (x_load1 tv_37 rfl (c_old (De31 0 _ rfl))) rfl rfl fun a_206 HE207 => ?_
                      refine pl_x HE207 HH186 (wt0 rfl) (x_move rfl) rfl rfl fun a_208 HE209 => ?_
                      refine pl_x HE209 HH186 (wt0 rfl) (x_sliceL (k := v) ts_37 rfl rfl rfl (by omega) List.length_drop.symm) rfl rfl fun a_210 HE211 => ?_
                      refine pl_x HE211 HH186 (wt0 rfl) (x_assign rfl) rfl rfl fun a_212 HE213 => ?_
                      refine wpList_nil ?_
                      clear a_192 HE193 a_200 HE201 a_202 HE203 a_204 HE205 a_206 HE207 a_208 HE209 a_210 HE211
                      refine nrm ?_
                      refine wp_seq ?_
                      refine dr_start (Held Nob w [rVec (eSl (eSl eInt)) 50 S_4 A_4 c_4 o]) 13 #[false, false, false, false, false, false, false, false, false, false, false, false, false] hmix rfl rfl HH186 (fun _ h => h.sel [0] (by decide) rfl) fun w' HH214 => ?_
                      have HS215 := HH214
                      refine dr_take (i := 0) (ls' := #[true, false, false, false, false, false, false, false, false, false, false, false, false]) HE213 HS215 rfl (by kernel_rfl) (by kernel_rfl) (by kernel_rfl) (fun _ _ _ h => h) rfl (wt0 rfl) (x_move rfl) rfl rfl fun a_216 HE217 => ?_
                      refine dr_take (i := 1) (ls' := #[true, true, false, false, false, false, false, false, false, false, false, false, false]) HE217 HS215 rfl (by kernel_rfl) (by kernel_rfl) (by kernel_rfl) (fun _ _ _ h => h) rfl (wt0 rfl) (x_nilCheck rfl) rfl rfl fun a_218 HE219 => ?_
                      refine dr_take (i := 2) (ls' := #[true, true, true, false, false, false, false, false, false, false, false, false, false]) HE219 HS215 rfl (by kernel_rfl) (by kernel_rfl) (by kernel_rfl) (fun _ _ _ h => h) rfl (wt0 rfl) (x_fieldAddr fa_70_0 rfl) rfl rfl fun a_220 HE221 => ?_
                      refine dr_take (i := 3) (ls' := #[true, true, true, true, false, false, false, false, false, false, false, false, false]) HE221 HS215 rfl (by kernel_rfl) (by kernel_rfl) (by kernel_rfl) (fun _ _ _ h => h) rfl (wt0 rfl) (x_load1 tv_37 rfl (c_old (De30 0 _ rfl))) rfl rfl fun a_222 HE223 => ?_
                      refine dr_take (i := 4) (ls' := #[true, true, true, true, true, false, false, false, false, false, false, false, false]) HE223 HS215 rfl (by kernel_rfl) (by kernel_rfl) (by kernel_rfl) (fun _ _ _ h => h) rfl (wt0 rfl) (x_move rfl) rfl rfl fun a_224 HE225 => ?_
                      refine dr_take (i := 5) (ls' := #[true, true, true, true, true, true, false, false, false, false, false, false, false]) HE225 HS215 rfl (by kernel_rfl) (by kernel_rfl) (by kernel_rfl) (fun _ _ _ h => h) rfl (wt0 rfl) (x_nilCheck rfl) rfl rfl fun a_226 HE227 => ?_
                      refine dr_take (i := 6) (ls' := #[true, true, true, true, true, true, true, false, false, false, false, false, false]) HE227 HS215 rfl (by kernel_rfl) (by kernel_rfl) (by kernel_rfl) (fun _ _ _ h => h) rfl (wt0 rfl) (x_fieldAddr fa_70_0 rfl) rfl rfl fun a_228 HE229 => ?_
                      refine dr_take (i := 7) (ls' := #[true, true, true, true, true, true, true, true, false, false, false, false, false]) HE229 HS215 rfl (by kernel_rfl) (by kernel_rfl) (by kernel_rfl) (fun _ _ _ h => h) rfl (wt0 rfl) (x_load1 tv_37 rfl (c_old (De30 0 _ rfl))) rfl rfl fun a_230 HE231 => ?_
                      refine dr_take (i := 8) (ls' := #[true, true, true, true, true, true, true, true, true, false, false, false, false]) HE231 HS215 rfl (by kernel_rfl) (by kernel_rfl) (by kernel_rfl) (fun _ _ _ h => h) rfl (wt0 rfl) (x_len Try.underlying37 rfl) rfl rfl fun a_232 HE233 => ?_
                      refine dr_take (i := 9) (ls' := #[true, true, true, true, true, true, true, true, true, true, false, false, false]) HE233 HS215 rfl (by kernel_rfl) (by kernel_rfl) (by kernel_rfl) (fun _ _ _ h => h) rfl (wt0 rfl) (x_move rfl) rfl rfl fun a_234 HE235 => ?_
                      refine dr_take (i := 10) (ls' := #[true, true, true, true, true, true, true, true, true, true, true, false, false]) HE235 HS215 rfl (by kernel_rfl) (by kernel_rfl) (by kernel_rfl) (fun _ _ _ h => h) rfl (wt0 rfl) (x_sub rfl rfl (by exact ⟨by omega, by omega⟩)) rfl rfl fun a_236 HE237 => ?_
                      have cap40 := (HH214.old ge30_0).1
                      refine dr_take (i := 11) (ls' := #[true, true, true, true, true, true, true, true, true, true, true, true, false]) HE237 HS215 rfl (by kernel_rfl) (by kernel_rfl) (by kernel_rfl) (fun _ _ _ h => h) rfl (wt0 rfl) (x_sliceH (k := ((((e30.1.length : Int) - (v : Int))).toNat)) (r := (e30.1.take ((((e30.1.length : Int) - (v : Int))).toNat)).length) ts_37 rfl rfl (by omega) (by omega) (by rw [List.length_take]; omega)) rfl rfl fun a_238 HE239 => ?_
                      refine dr_take (i := 12) (ls' := #[true, true, true, true, true, true, true, true, true, true, true, true, true]) HE239 HS215 rfl (by kernel_rfl) (by kernel_rfl) (by kernel_rfl) (fun _ _ _ h => h) rfl (wt0 rfl) (x_assign rfl) rfl rfl fun a_240 HE241 => ?_
                      refine dr_done (by kernel_rfl) ?_
                      clear HH186 HS189 a_212 HE213 a_216 HE217 a_218 HE219 a_220 HE221 a_222 HE223 a_224 HE225 a_226 HE227 a_228 HE229 a_230 HE231 a_232 HE233 a_234 HE235 a_236 HE237 a_238 HE239
                      refine nrm ?_
                      refine wp_seq ?_
                      refine rg ?_
                      refine pl_x HE241 HH214 (wt0 rfl) (x_move rfl) rfl rfl fun a_242 HE243 => ?_
                      refine pl_x HE243 HH214 (wt0 rfl) (x_nilCheck rfl) rfl rfl fun a_244 HE245 => ?_
                      refine pl_x HE245 HH214 (wt0 rfl) (x_fieldAddr fa_70_0 rfl) rfl rfl fun a_246 HE247 => ?_
                      refine pl_x HE247 HH214 (wt0 rfl) (x_load1 tv_37 rfl (c_old (De30 0 _ rfl))) rfl rfl fun a_248 HE249 => ?_
                      refine pl fun K_250 hK251 => ?_
                      refine st_call HE249 (wt0 rfl) rfl rfl rfl en_42 rfl rfl (spec_l00OwnV _ _ e30.1 _ (HH214.old ge30_0) (by omega)) fun e w' hr => ?_
                      obtain ⟨Ar41_0, cr41_0, Sr41_0, rfl, hbr41⟩ := hr
                      have HH252 := HH214.app hbr41
                      clear hbr41
                      have HH253 : Held Nob w ([rVec eInt 2 Sr41_0 Ar41_0 cr41_0 e30.1, rVec (eSl (eSl eInt)) 50 S_4 A_4 c_4 o]) _ := HH252
                      refine ⟨_, rfl, fun a_254 HE255 => hK251 _ _ ?_⟩
                      refine pl_x HE255 HH253 (wt0 rfl) (x_move rfl) rfl rfl fun a_256 HE257 => ?_
                      refine pl fun K_258 hK259 => ?_
                      refine st_appS flat_int HE257 HH253 ts_37 [0, 1] (by decide) rfl rfl rfl ((HH253.old ge31_0).cutD v) (by unfold maxLen; first | omega | (simp; done) | (simp; omega)) (by first | omega | (simp; done) | (simp; omega)) (wt0 rfl) rfl fun A42 c43 S44 a_260 w' HE261 HH262 => hK259 _ _ ?_
                      have lA42 : (e30.1 ++ (e31.1.drop v)).length = List.length e30.1 + List.length (e31.1.drop v) := List.length_append
                      refine pl_x HE261 HH262 (wt0 rfl) (x_assign rfl) rfl rfl fun a_263 HE264 => ?_
                      refine wpList_nil ?_
                      clear a_240 HE241 a_242 HE243 a_244 HE245 a_246 HE247 HH214 HH252 a_248 HE249 a_254 HE255 K_250 hK251 a_256 HE257 HH253 a_260 HE261 hK259 K_258
                      refine nrm ?_
                      refine wp_seq ?_
                      refine rg ?_
                      refine pl_x HE264 HH262 (wt0 rfl) (x_move rfl) rfl rfl fun a_265 HE266 => ?_
                      refine pl_x HE266 HH262 (wt0 rfl) (x_nilCheck rfl) rfl rfl fun a_267 HE268 => ?_
                      refine pl_x HE268 HH262 (wt0 rfl) (x_fieldAddr fa_70_1 rfl) rfl rfl fun a_269 HE270 => ?_
                      refine pl_x HE270 HH262 (wt0 rfl) (x_load1 tv_37 rfl (c_old (De30 1 _ rfl))) rfl rfl fun a_271 HE272 => ?_
                      refine pl fun K_273 hK274 => ?_
                      refine st_call HE272 (wt0 rfl) rfl rfl rfl en_42 rfl rfl (spec_l00OwnV _ _ e30.2 _ (HH262.old ge30_1) (by omega)) fun e w' hr => ?_
                      obtain ⟨Ar45_0, cr45_0, Sr45_0, rfl, hbr45⟩ := hr
                      have HH275 := HH262.app hbr45
                      clear hbr45
                      have HH276 : Held Nob w ([rVec eInt 2 Sr45_0 Ar45_0 cr45_0 e30.2, rVec eInt 2 S44 A42 c43 (e30.1 ++ (e31.1.drop v)), rVec (eSl (eSl eInt)) 50 S_4 A_4 c_4 o]) _ := HH275
                      refine ⟨_, rfl, fun a_277 HE278 => hK274 _ _ ?_⟩
                      refine pl_x HE278 HH276 (wt0 rfl) (x_move rfl) rfl rfl fun a_279 HE280 => ?_
                      refine pl fun K_281 hK282 => ?_
                      refine st_appS flat_int HE280 HH276 ts_37 [0, 1, 2] (by decide) rfl rfl rfl ((HH276.old ge31_0).cutD v) (by unfold maxLen; first | omega | (simp; done) | (simp; omega)) (by first | omega | (simp; done) | (simp; omega)) (wt0 rfl) rfl fun A46 c47 S48 a_283 w' HE284 HH285 => hK282 _ _ ?_
                      have lA46 : (e30.2 ++ (e31.1.drop v)).length = List.length e30.2 + List.length (e31.1.drop v) := List.length_append
                      refine pl_x HE284 HH285 (wt0 rfl) (x_assign rfl) rfl rfl fun a_286 HE287 => ?_
                      refine wpList_nil ?_
                      clear a_263 HE264 a_265 HE266 a_267 HE268 a_269 HE270 HH262 HH275 a_271 HE272 a_277 HE278 K_273 hK274 a_279 HE280 HH276 a_283 HE284 hK282 K_281
                      refine nrm ?_
                      refine wp_seq ?_
                      refine dr_start (Held Nob w [rVec eInt 2 S48 A46 c47 (e30.2 ++ (e31.1.drop v)), rVec eInt 2 S44 A42 c43 (e30.1 ++ (e31.1.drop v)), rVec (eSl (eSl eInt)) 50 S_4 A_4 c_4 o]) 8 #[false, false, false, false, false, false, false, false] hmix rfl rfl HH285 (fun _ h => h.sel [0, 1, 2] (by decide) rfl) fun w' HH288 => ?_
                      have HS289 := HH288
                      refine dr_take (i := 0) (ls' := #[true, false, false, false, false, false, false, false]) HE287 HS289 rfl (by kernel_rfl) (by kernel_rfl) (by kernel_rfl) (fun _ _ _ h => h) rfl (wt0 rfl) (x_move rfl) rfl rfl fun a_290 HE291 => ?_
                      refine dr_take (i := 2) (ls' := #[true, false, true, false, false, false, false, false]) HE291 HS289 rfl (by kernel_rfl) (by kernel_rfl) (by kernel_rfl) (fun _ _ _ h => h) rfl (wt0 rfl) (x_move rfl) rfl rfl fun a_292 HE293 => ?_
                      refine dr_take (i := 3) (ls' := #[true, false, true, true, false, false, false, false]) HE293 HS289 rfl (by kernel_rfl) (by kernel_rfl) (by kernel_rfl) (fun _ _ _ h => h) rfl (wt0 rfl) (x_nilCheck rfl) rfl rfl fun a_294 HE295 => ?_
                      refine dr_take (i := 4) (ls' := #[true, false, true, true, true, false, false, false]) HE295 HS289 rfl (by kernel_rfl) (by kernel_rfl) (by kernel_rfl) (fun _ _ _ h => h) rfl (wt0 rfl) (x_fieldAddr fa_70_1 rfl) rfl rfl fun a_296 HE297 => ?_
                      refine dr_take (i := 5) (ls' := #[true, false, true, true, true, true, false, false]) HE297 HS289 rfl (by kernel_rfl) (by kernel_rfl) (by kernel_rfl) (fun _ _ _ h => h) rfl (wt0 rfl) (x_load1 tv_37 rfl (c_old (De31 1 _ rfl))) rfl rfl fun a_298 HE299 => ?_
                      refine dr_one (i := 1) (ls' := #[true, true, true, true, true, true, false, false]) rfl (by kernel_rfl) rfl fun K_300 hK301 => ?_
                      refine st_call HE299 (wt0 rfl) rfl rfl rfl en_42 rfl rfl (spec_l00OwnV _ _ (e30.1.take ((((e30.1.length : Int) - (v : Int))).toNat)) _ ((HH288.old ge30_0).take ((((e30.1.length : Int) - (v : Int))).toNat)) (by omega)) fun e w' hr => ?_
                      obtain ⟨Ar49_0, cr49_0, Sr49_0, rfl, hbr49⟩ := hr
                      have HH302 := HH288.app hbr49
                      clear hbr49
                      have HH303 : Held Nob w ([rVec eInt 2 Sr49_0 Ar49_0 cr49_0 (e30.1.take ((((e30.1.length : Int) - (v : Int))).toNat)), rVec eInt 2 S48 A46 c47 (e30.2 ++ (e31.1.drop v)), rVec eInt 2 S44 A42 c43 (e30.1 ++ (e31.1.drop v)), rVec (eSl (eSl eInt)) 50 S_4 A_4 c_4 o]) _ := HH302
                      refine ⟨_, rfl, fun a_304 HE305 => hK301 _ _ (by exact HH303.sel [1, 2, 3] (by decide) rfl) ?_⟩
                      have HS306 := HH303.sel [1, 2, 3] (by decide) rfl
                      refine dr_one (i := 6) (ls' := #[true, true, true, true, true, true, true, false]) rfl (by kernel_rfl) rfl fun K_307 hK308 => ?_
                      refine st_appS flat_int HE305 HH303 ts_37 [0, 1, 2, 3] (by decide) rfl rfl rfl (HH303.old ge31_1) (by unfold maxLen; first | omega | (simp; done) | (simp; omega)) (by first | omega | (simp; done) | (simp; omega)) (wt0 rfl) rfl fun A50 c51 S52 a_309 w' HE310 HH311 => hK308 _ _ (by exact HH311.sel [1, 2, 3] (by decide) rfl) ?_
                      have lA50 : ((e30.1.take ((((e30.1.length : Int) - (v : Int))).toNat)) ++ e31.2).length = List.length (e30.1.take ((((e30.1.length : Int) - (v : Int))).toNat)) + List.length e31.2 := List.length_append
                      have HS312 := HH311.sel [1, 2, 3] (by decide) rfl
                      refine dr_take (i := 7) (ls' := #[true, true, true, true, true, true, true, true]) HE310 HS312 rfl (by kernel_rfl) (by kernel_rfl) (by kernel_rfl) (fun _ _ _ h => h) rfl (wt0 rfl) (x_assign rfl) rfl rfl fun a_313 HE314 => ?_
                      refine dr_done (by kernel_rfl) ?_
                      clear HH285 HS215 a_286 HE287 a_290 HE291 a_292 HE293 a_294 HE295 a_296 HE297 HH288 HH302 a_298 HE299 HS289 K_300 hK301 a_304 HE305 HH303 HS306 a_309 HE310 hK308 K_307
                      refine nrm ?_
                      refine wp_seq ?_
                      refine wp_seq ?_
                      refine rg ?_
                      refine pl_x HE314 HH311 (wt0 rfl) (x_move rfl) rfl rfl fun a_315 HE316 => ?_
                      refine pl_x HE316 HH311 (wt0 rfl) (x_len Try.underlying37 rfl) rfl rfl fun a_317 HE318 => ?_
                      refine pl_x HE318 HH311 (wt0 rfl) (x_gtr rfl rfl) rfl rfl fun a_319 HE320 => ?_
                      refine pl_x HE320 HH311 (wt0 rfl) (x_move rfl) rfl rfl fun a_321 HE322 => ?_
                      by_cases hc53 : 400 < ((e30.1 ++ (e31.1.drop v)).length : Int)
                      · refine pl_no HE322 (wtF HE322 rfl rfl rfl (decide_eq_true hc53)) rfl rfl fun a_323 HE324 => ?_
                        refine pl_no HE324 (wtF HE324 rfl rfl rfl (decide_eq_true hc53)) rfl rfl fun a_325 HE326 => ?_
                        refine pl_no HE326 (wtF HE326 rfl rfl rfl (decide_eq_true hc53)) rfl rfl fun a_327 HE328 => ?_
                        refine pl_x HE328 HH311 (wt0 rfl) (x_pickT rfl (decide_eq_true hc53) rfl) rfl rfl fun a_329 HE330 => ?_
                        refine pl_x HE330 HH311 (wt0 rfl) (x_move rfl) rfl rfl fun a_331 HE332 => ?_
                        refine pl_no HE332 (wtF HE332 rfl rfl rfl rfl) rfl rfl fun a_333 HE334 => ?_
                        refine pl_no HE334 (wtF HE334 rfl rfl rfl rfl) rfl rfl fun a_335 HE336 => ?_
                        refine pl_no HE336 (wtF HE336 rfl rfl rfl rfl) rfl rfl fun a_337 HE338 => ?_
                        refine pl_x HE338 HH311 (wt0 rfl) (x_pickT rfl rfl rfl) rfl rfl fun a_339 HE340 => ?_
                        refine pl_x HE340 HH311 (wt0 rfl) (x_move rfl) rfl rfl fun a_341 HE342 => ?_
                        refine pl_no HE342 (wtF HE342 rfl rfl rfl rfl) rfl rfl fun a_343 HE344 => ?_
                        refine pl_no HE344 (wtF HE344 rfl rfl rfl rfl) rfl rfl fun a_345 HE346 => ?_
                        refine pl_no HE346 (wtF HE346 rfl rfl rfl rfl) rfl rfl fun a_347 HE348 => ?_
                        refine pl_x HE348 HH311 (wt0 rfl) (x_pickT rfl rfl rfl) rfl rfl fun a_349 HE350 => ?_
                        refine wpList_nil ?_
                        clear a_313 HE314 a_315 HE316 a_317 HE318 a_319 HE320 a_321 HE322 a_323 HE324 a_325 HE326 a_327 HE328 a_329 HE330 a_331 HE332 a_333 HE334 a_335 HE336 a_337 HE338 a_339 HE340 a_341 HE342 a_343 HE344 a_345 HE346 a_347 HE348
                        refine nrm ?_
                        refine cndT HE350 rfl rfl ?_
                        refine wp_seq ?_
                        refine rg ?_
                        refine pl_x HE350 HH311 (wt0 rfl) (x_assign rfl) rfl rfl fun a_351 HE352 => ?_
                        refine pl_x HE352 HH311 (wt0 rfl) (x_assign rfl) rfl rfl fun a_353 HE354 => ?_
                        refine wpList_nil ?_
                        clear a_349 HE350 a_351 HE352
                        refine nrm ?_
                        refine wp_ret ?_
                        refine (thn_ret (blk_ret (thn_ret (thn_ret (blk_ret (blk_ret (thn_ret (thn_ret (blk_ret (blk_ret (thn_ret (thn_ret (blk_ret (thn_ret ?_))))))))))))))
                        refine ret2 HE354 rfl (rv_tmp rfl) (rv_tmp rfl) ?_
                        have HH355 := HH311.vecNil (eSl (eSl eInt)) 50
                        have hF : (overlapsOf a0) = ([], 5) := by
                          first | (unfold overlapsOf; rw [if_pos hvr, show a0.length = i from by omega, if_pos p34_1]) | (have hcc := p34_2; rw [ovl_cons (by omega) (by unfold hitO; grind [sharesB])] at hcc; unfold overlapsOf; rw [if_pos hvr, goodO_bad2 (i := i) (j := j) (by omega) (by omega) hcc (by first | (right; omega) | (left; rw [hok, decide_eq_false_iff_not, ← hdn]; omega))]; rfl) | (simp [overlapsOf, hc22, p25_0, p25_1, hc26, p28_0, p28_1, hc29, xe30, xe31, p34_0, p34_1, p34_2, p34_3, hc35, hc36, hc37, hc39, hc53]; done)
                        exact ⟨_, _, _, by first | (rw [hF] <;> rfl) | rfl | (rw [hF]; simp only [Ending.returned.injEq, Value.slice.injEq, true_and, and_true]; first | omega | (simp; done)) | (rw [hF]; simp; omega), by rw [hF]; exact HH355.sel [0] (by decide) rfl⟩
                      · refine pl_x HE322 HH311 (wtT HE322 rfl rfl rfl (decide_eq_false hc53)) (x_move rfl) rfl rfl fun a_356 HE357 => ?_
                        refine pl_x HE357 HH311 (wtT HE357 rfl rfl rfl (decide_eq_false hc53)) (x_len Try.underlying37 rfl) rfl rfl fun a_358 HE359 => ?_
                        refine pl_x HE359 HH311 (wtT HE359 rfl rfl rfl (decide_eq_false hc53)) (x_gtr rfl rfl) rfl rfl fun a_360 HE361 => ?_
                        refine pl_x HE361 HH311 (wt0 rfl) (x_pickF rfl (decide_eq_false hc53) rfl) rfl rfl fun a_362 HE363 => ?_
                        refine pl_x HE363 HH311 (wt0 rfl) (x_move rfl) rfl rfl fun a_364 HE365 => ?_
                        by_cases hc54 : 400 < ((e30.2 ++ (e31.1.drop v)).length : Int)
                        · refine pl_no HE365 (wtF HE365 rfl rfl rfl (decide_eq_true hc54)) rfl rfl fun a_366 HE367 => ?_
                          refine pl_no HE367 (wtF HE367 rfl rfl rfl (decide_eq_true hc54)) rfl rfl fun a_368 HE369 => ?_
                          refine pl_no HE369 (wtF HE369 rfl rfl rfl (decide_eq_true hc54)) rfl rfl fun a_370 HE371 => ?_
                          refine pl_x HE371 HH311 (wt0 rfl) (x_pickT rfl (decide_eq_true hc54) rfl) rfl rfl fun a_372 HE373 => ?_
                          refine pl_x HE373 HH311 (wt0 rfl) (x_move rfl) rfl rfl fun a_374 HE375 => ?_
                          refine pl_no HE375 (wtF HE375 rfl rfl rfl rfl) rfl rfl fun a_376 HE377 => ?_
                          refine pl_no HE377 (wtF HE377 rfl rfl rfl rfl) rfl rfl fun a_378 HE379 => ?_
                          refine pl_no HE379 (wtF HE379 rfl rfl rfl rfl) rfl rfl fun a_380 HE381 => ?_
                          refine pl_x HE381 HH311 (wt0 rfl) (x_pickT rfl rfl rfl) rfl rfl fun a_382 HE383 => ?_
                          refine wpList_nil ?_
                          clear a_313 HE314 a_315 HE316 a_317 HE318 a_319 HE320 a_321 HE322 a_356 HE357 a_358 HE359 a_360 HE361 a_362 HE363 a_364 HE365 a_366 HE367 a_368 HE369 a_370 HE371 a_372 HE373 a_374 HE375 a_376 HE377 a_378 HE379 a_380 HE381
                          refine nrm ?_
                          refine cndT HE383 rfl rfl ?_
                          refine wp_seq ?_
                          refine rg ?_
                          refine pl_x HE383 HH311 (wt0 rfl) (x_assign rfl) rfl rfl fun a_384 HE385 => ?_
                          refine pl_x HE385 HH311 (wt0 rfl) (x_assign rfl) rfl rfl fun a_386 HE387 => ?_
                          refine wpList_nil ?_
                          clear a_382 HE383 a_384 HE385
                          refine nrm ?_
                          refine wp_ret ?_
                          refine (thn_ret (blk_ret (thn_ret (thn_ret (blk_ret (blk_ret (thn_ret (thn_ret (blk_ret (blk_ret (thn_ret (thn_ret (blk_ret (thn_ret ?_))))))))))))))
                          refine ret2 HE387 rfl (rv_tmp rfl) (rv_tmp rfl) ?_
                          have HH388 := HH311.vecNil (eSl (eSl eInt)) 50
                          have hF : (overlapsOf a0) = ([], 5) := by
                            first | (unfold overlapsOf; rw [if_pos hvr, show a0.length = i from by omega, if_pos p34_1]) | (have hcc := p34_2; rw [ovl_cons (by omega) (by unfold hitO; grind [sharesB])] at hcc; unfold overlapsOf; rw [if_pos hvr, goodO_bad2 (i := i) (j := j) (by omega) (by omega) hcc (by first | (right; omega) | (left; rw [hok, decide_eq_false_iff_not, ← hdn]; omega))]; rfl) | (simp [overlapsOf, hc22, p25_0, p25_1, hc26, p28_0, p28_1, hc29, xe30, xe31, p34_0, p34_1, p34_2, p34_3, hc35, hc36, hc37, hc39, hc53, hc54]; done)
                          exact ⟨_, _, _, by first | (rw [hF] <;> rfl) | rfl | (rw [hF]; simp only [Ending.returned.injEq, Value.slice.injEq, true_and, and_true]; first | omega | (simp; done)) | (rw [hF]; simp; omega), by rw [hF]; exact HH388.sel [0] (by decide) rfl⟩
                        · refine pl_x HE365 HH311 (wtT HE365 rfl rfl rfl (decide_eq_false hc54)) (x_move rfl) rfl rfl fun a_389 HE390 => ?_
                          refine pl_x HE390 HH311 (wtT HE390 rfl rfl rfl (decide_eq_false hc54)) (x_len Try.underlying37 rfl) rfl rfl fun a_391 HE392 => ?_
                          refine pl_x HE392 HH311 (wtT HE392 rfl rfl rfl (decide_eq_false hc54)) (x_gtr rfl rfl) rfl rfl fun a_393 HE394 => ?_
                          refine pl_x HE394 HH311 (wt0 rfl) (x_pickF rfl (decide_eq_false hc54) rfl) rfl rfl fun a_395 HE396 => ?_
                          refine pl_x HE396 HH311 (wt0 rfl) (x_move rfl) rfl rfl fun a_397 HE398 => ?_
                          by_cases hc55 : 400 < (((e30.1.take ((((e30.1.length : Int) - (v : Int))).toNat)) ++ e31.2).length : Int)
                          · refine pl_no HE398 (wtF HE398 rfl rfl rfl (decide_eq_true hc55)) rfl rfl fun a_399 HE400 => ?_
                            refine pl_no HE400 (wtF HE400 rfl rfl rfl (decide_eq_true hc55)) rfl rfl fun a_401 HE402 => ?_
                            refine pl_no HE402 (wtF HE402 rfl rfl rfl (decide_eq_true hc55)) rfl rfl fun a_403 HE404 => ?_
                            refine pl_x HE404 HH311 (wt0 rfl) (x_pickT rfl (decide_eq_true hc55) rfl) rfl rfl fun a_405 HE406 => ?_
                            refine wpList_nil ?_
                            clear a_313 HE314 a_315 HE316 a_317 HE318 a_319 HE320 a_321 HE322 a_356 HE357 a_358 HE359 a_360 HE361 a_362 HE363 a_364 HE365 a_389 HE390 a_391 HE392 a_393 HE394 a_395 HE396 a_397 HE398 a_399 HE400 a_401 HE402 a_403 HE404
                            refine nrm ?_
                            refine cndT HE406 rfl rfl ?_
                            refine wp_seq ?_
                            refine rg ?_
                            refine pl_x HE406 HH311 (wt0 rfl) (x_assign rfl) rfl rfl fun a_407 HE408 => ?_
                            refine pl_x HE408 HH311 (wt0 rfl) (x_assign rfl) rfl rfl fun a_409 HE410 => ?_
                            refine wpList_nil ?_
                            clear a_405 HE406 a_407 HE408
                            refine nrm ?_
                            refine wp_ret ?_
                            refine (thn_ret (blk_ret (thn_ret (thn_ret (blk_ret (blk_ret (thn_ret (thn_ret (blk_ret (blk_ret (thn_ret (thn_ret (blk_ret (thn_ret ?_))))))))))))))
                            refine ret2 HE410 rfl (rv_tmp rfl) (rv_tmp rfl) ?_
                            have HH411 := HH311.vecNil (eSl (eSl eInt)) 50
                            have hF : (overlapsOf a0) = ([], 5) := by
                              first | (unfold overlapsOf; rw [if_pos hvr, show a0.length = i from by omega, if_pos p34_1]) | (have hcc := p34_2; rw [ovl_cons (by omega) (by unfold hitO; grind [sharesB])] at hcc; unfold overlapsOf; rw [if_pos hvr, goodO_bad2 (i := i) (j := j) (by omega) (by omega) hcc (by first | (right; omega) | (left; rw [hok, decide_eq_false_iff_not, ← hdn]; omega))]; rfl) | (simp [overlapsOf, hc22, p25_0, p25_1, hc26, p28_0, p28_1, hc29, xe30, xe31, p34_0, p34_1, p34_2, p34_3, hc35, hc36, hc37, hc39, hc53, hc54, hc55]; done)
                            exact ⟨_, _, _, by first | (rw [hF] <;> rfl) | rfl | (rw [hF]; simp only [Ending.returned.injEq, Value.slice.injEq, true_and, and_true]; first | omega | (simp; done)) | (rw [hF]; simp; omega), by rw [hF]; exact HH411.sel [0] (by decide) rfl⟩
                          · refine pl_x HE398 HH311 (wtT HE398 rfl rfl rfl (decide_eq_false hc55)) (x_move rfl) rfl rfl fun a_412 HE413 => ?_
                            refine pl_x HE413 HH311 (wtT HE413 rfl rfl rfl (decide_eq_false hc55)) (x_len Try.underlying24 rfl) rfl rfl fun a_414 HE415 => ?_
                            refine pl_x HE415 HH311 (wtT HE415 rfl rfl rfl (decide_eq_false hc55)) (x_eql rfl rfl) rfl rfl fun a_416 HE417 => ?_
                            refine pl_x HE417 HH311 (wt0 rfl) (x_pickF rfl (decide_eq_false hc55) rfl) rfl rfl fun a_418 HE419 => ?_
                            refine wpList_nil ?_
                            clear a_313 HE314 a_315 HE316 a_317 HE318 a_319 HE320 a_321 HE322 a_356 HE357 a_358 HE359 a_360 HE361 a_362 HE363 a_364 HE365 a_389 HE390 a_391 HE392 a_393 HE394 a_395 HE396 a_397 HE398 a_412 HE413 a_414 HE415 a_416 HE417
                            refine nrm ?_
                            refine cnd_e HE419 rfl (fun hc56 => ?_) (fun hc56 => ?_)
                            · refine wp_seq ?_
                              refine rg ?_
                              refine pl_x HE419 HH311 (wt0 rfl) (x_assign rfl) rfl rfl fun a_420 HE421 => ?_
                              refine pl_x HE421 HH311 (wt0 rfl) (x_assign rfl) rfl rfl fun a_422 HE423 => ?_
                              refine wpList_nil ?_
                              clear a_418 HE419 a_420 HE421
                              refine nrm ?_
                              refine wp_ret ?_
                              refine (thn_ret (blk_ret (thn_ret (thn_ret (blk_ret (blk_ret (thn_ret (thn_ret (blk_ret (blk_ret (thn_ret (thn_ret (blk_ret (thn_ret ?_))))))))))))))
                              refine ret2 HE423 rfl (rv_tmp rfl) (rv_tmp rfl) ?_
                              have HH424 := HH311.vecNil (eSl (eSl eInt)) 50
                              have hF : (overlapsOf a0) = ([], 5) := by
                                first | (unfold overlapsOf; rw [if_pos hvr, show a0.length = i from by omega, if_pos p34_1]) | (have hcc := p34_2; rw [ovl_cons (by omega) (by unfold hitO; grind [sharesB])] at hcc; unfold overlapsOf; rw [if_pos hvr, goodO_bad2 (i := i) (j := j) (by omega) (by omega) hcc (by first | (right; omega) | (left; rw [hok, decide_eq_false_iff_not, ← hdn]; omega))]; rfl) | (simp [overlapsOf, hc22, p25_0, p25_1, hc26, p28_0, p28_1, hc29, xe30, xe31, p34_0, p34_1, p34_2, p34_3, hc35, hc36, hc37, hc39, hc53, hc54, hc55, hc56]; done)
                              exact ⟨_, _, _, by first | (rw [hF] <;> rfl) | rfl | (rw [hF]; simp only [Ending.returned.injEq, Value.slice.injEq, true_and, and_true]; first | omega | (simp; done)) | (rw [hF]; simp; omega), by rw [hF]; exact HH424.sel [0] (by decide) rfl⟩
                            · refine wp_skip ?_
                              refine nrm ?_
                              refine rg ?_
                              refine pl_x HE419 HH311 (wt0 rfl) (x_move rfl) rfl rfl fun a_425 HE426 => ?_
                              refine pl_x HE426 HH311 (wt0 rfl) (x_move rfl) rfl rfl fun a_427 HE428 => ?_
                              refine pl_x HE428 HH311 (wt0 rfl) (x_move rfl) rfl rfl fun a_429 HE430 => ?_
                              refine pl_x HE430 HH311 (wt0 rfl) (x_move rfl) rfl rfl fun a_431 HE432 => ?_
                              refine pl fun K_433 hK434 => ?_
                              refine st_lit (m := 3) (cs := [.slice A42 ((e30.1 ++ (e31.1.drop v)).length) c43, .slice A46 ((e30.2 ++ (e31.1.drop v)).length) c47, .slice A50 (((e30.1.take ((((e30.1.length : Int) - (v : Int))).toNat)) ++ e31.2).length) c51]) (e := 37) HE432 HH311 (run_lit ts_50 HE432 (vs := [.slice A42 ((e30.1 ++ (e31.1.drop v)).length) c43, .slice A46 ((e30.2 ++ (e31.1.drop v)).length) c47, .slice A50 (((e30.1.take ((((e30.1.length : Int) - (v : Int))).toNat)) ++ e31.2).length) c51]) rfl rfl (by simp [Value.cells]) rfl (by decide)) (wt0 rfl) rfl rfl fun q57 a_435 w' HE436 HH437 => hK434 _ _ ?_
                              refine pl fun K_438 hK439 => ?_
                              refine st_lit (m := 1) (cs := [.slice (some ⟨q57, 0, none⟩) (3) 3]) (e := 50) HE436 HH437 (run_lit ts_24 HE436 (vs := [.slice (some ⟨q57, 0, none⟩) (3) 3]) rfl rfl (by simp [Value.cells]) rfl (by decide)) (wt0 rfl) rfl rfl fun q58 a_440 w' HE441 HH442 => hK439 _ _ ?_
                              refine pl fun K_443 hK444 => ?_
                              have HH445 := HH442.sel [4, 0, 1, 2, 3, 5] (by decide) rfl
                              have HH446 := HH445.vecSo
                              have HH447 := HH446.sel [4, 0, 1, 2, 3, 5] (by decide) rfl
                              have HH448 := HH447.vecSo
                              have HH449 := HH448.sel [4, 0, 1, 2, 3, 5] (by decide) rfl
                              have HH450 := HH449.vecSo
                              have HH451 := HH450.sel [2, 1, 0, 4, 3, 5] (by decide) rfl
                              obtain ⟨S62, HH452⟩ := Held.vecLit (E := (eSl eInt)) (g := q57) (t := 37) (ps := [(S44, [.slice A42 ((e30.1 ++ (e31.1.drop v)).length) c43], (e30.1 ++ (e31.1.drop v))), (S48, [.slice A46 ((e30.2 ++ (e31.1.drop v)).length) c47], (e30.2 ++ (e31.1.drop v))), (S52, [.slice A50 (((e30.1.take ((((e30.1.length : Int) - (v : Int))).toNat)) ++ e31.2).length) c51], ((e30.1.take ((((e30.1.length : Int) - (v : Int))).toNat)) ++ e31.2))]) HH451 (by unfold maxLen; simp)
                              have HH453 : Held Nob w (rVec (eSl eInt) 37 S62 (some ⟨q57, 0, none⟩) 3 ([(e30.1 ++ (e31.1.drop v)), (e30.2 ++ (e31.1.drop v)), ((e30.1.take ((((e30.1.length : Int) - (v : Int))).toNat)) ++ e31.2)] : List (List Int)) :: [rBlk q58 50 [.slice (some ⟨q57, 0, none⟩) (3) 3], rVec (eSl (eSl eInt)) 50 S_4 A_4 c_4 o]) _ := HH452
                              have HH454 := HH453.vecSo
                              refine st_app1 HE441 HH454 ts_24 [2, 0, 1] (by decide) rfl rfl rfl (by simp [Value.oneCell']) (by unfold maxLen; first | omega | (simp; done) | (simp; omega)) (by first | omega | (simp; done) | (simp; omega)) (wt0 rfl) rfl fun A59 c60 S61 a_455 w' HE456 HH457 => hK444 _ _ ?_
                              refine pl_x HE456 HH457 (wt0 rfl) (x_assign rfl) rfl rfl fun a_458 HE459 => ?_
                              refine wpList_nil ?_
                              clear a_418 HE419 a_425 HE426 a_427 HE428 a_429 HE430 a_431 HE432 HH311 K_433 hK434 a_435 HE436 HH437 K_438 hK439 HH442 HH445 HH446 HH447 HH448 HH449 HH450 HH451 HH452 HH453 a_440 HE441 HH454 a_455 HE456 hK444 K_443
                              refine blk_n ?_
                              refine nrm ?_
                              refine rg ?_
                              refine pl_x HE459 HH457 (wt0 rfl) (x_move rfl) rfl rfl fun a_460 HE461 => ?_
                              refine pl_x HE461 HH457 (wt0 rfl) (x_sub rfl rfl (by exact ⟨by omega, by omega⟩)) rfl rfl fun a_462 HE463 => ?_
                              refine pl_x HE463 HH457 (wt0 rfl) (x_assign rfl) rfl rfl fun a_464 HE465 => ?_
                              refine wpList_nil ?_
                              clear a_458 HE459 a_460 HE461 a_462 HE463
                              have E63 : ((o ++ [([(e30.1 ++ (e31.1.drop v)), (e30.2 ++ (e31.1.drop v)), ((e30.1.take ((((e30.1.length : Int) - (v : Int))).toNat)) ++ e31.2)] : List (List Int))])) = (o ++ [([(e30.1 ++ (e31.1.drop v)), (e30.2 ++ (e31.1.drop v)), ((e30.1.take ((((e30.1.length : Int) - (v : Int))).toNat)) ++ e31.2)] : List (List Int))]) := by
                                first | rfl | simp
                              exact nrm ⟨0 + ((v - 1)), (by omega), (v - 1), (o ++ [([(e30.1 ++ (e31.1.drop v)), (e30.2 ++ (e31.1.drop v)), ((e30.1.take ((((e30.1.length : Int) - (v : Int))).toNat)) ++ e31.2)] : List (List Int))]), A59, c60, S61, rfl, HE465.sub ⟨(by rw [E63]; rfl), (lkI rfl (by first | rfl | omega | (simp [hc22, p25_0, p25_1, hc26, p28_0, p28_1, hc29, xe30, xe31, p34_0, p34_1, p34_2, p34_3, hc35, hc36, hc37, hc39, hc53, hc54, hc55, hc56]; done))), rfl, rfl, rfl, rfl, rfl, trivial⟩, ((HH457.sel [0] (by decide) rfl).to (by first | rfl | (rw [E63]; done) | (rw [E63]; rfl) | (simp only [E63]; done) | (simp only [E63]; rfl) | (rw [E63]; simp only [List.length_set]; done))), (by first | omega | assumption | (simp; done) | simp_all), (by first | omega | assumption | (simp; done) | simp_all), (by rw [p34_2]; first | (refine ovl_miss (by omega) ?_; unfold hitO; grind [sharesB]) | (refine ovl_hit (by omega) ?_ triO_of2; unfold hitO; grind [sharesB])), (by first | assumption | (rw [triO_of2]; exact goodO_snoc p34_3 (by rw [hok, decide_eq_true_eq, ← hdn]; omega) (by omega)))⟩
                · refine dr_takeNo (i := 4) (ls' := #[true, true, true, true, true, false, false, false, false, false, false, false, false, false, false, false, false, false, false, false, false, false, false, false, false]) HE117 HS109 rfl (by kernel_rfl) (by kernel_rfl) (by kernel_rfl) (fun _ _ _ h => h) rfl (wtF HE117 rfl rfl rfl (beq_f hc36)) rfl rfl fun a_466 HE467 => ?_
                  refine dr_takeNo (i := 5) (ls' := #[true, true, true, true, true, true, false, false, false, false, false, false, false, false, false, false, false, false, false, false, false, false, false, false, false]) HE467 HS109 rfl (by kernel_rfl) (by kernel_rfl) (by kernel_rfl) (fun _ _ _ h => h) rfl (wtF HE467 rfl rfl rfl (beq_f hc36)) rfl rfl fun a_468 HE469 => ?_
                  refine dr_takeNo (i := 6) (ls' := #[true, true, true, true, true, true, true, false, false, false, false, false, false, false, false, false, false, false, false, false, false, false, false, false, false]) HE469 HS109 rfl (by kernel_rfl) (by kernel_rfl) (by kernel_rfl) (fun _ _ _ h => h) rfl (wtF HE469 rfl rfl rfl (beq_f hc36)) rfl rfl fun a_470 HE471 => ?_
                  refine dr_takeNo (i := 7) (ls' := #[true, true, true, true, true, true, true, true, false, false, false, false, false, false, false, false, false, false, false, false, false, false, false, false, false]) HE471 HS109 rfl (by kernel_rfl) (by kernel_rfl) (by kernel_rfl) (fun _ _ _ h => h) rfl (wtF HE471 rfl rfl rfl (beq_f hc36)) rfl rfl fun a_472 HE473 => ?_
                  refine dr_takeNo (i := 8) (ls' := #[true, true, true, true, true, true, true, true, true, false, false, false, false, false, false, false, false, false, false, false, false, false, false, false, false]) HE473 HS109 rfl (by kernel_rfl) (by kernel_rfl) (by kernel_rfl) (fun _ _ _ h => h) rfl (wtF HE473 rfl rfl rfl (beq_f hc36)) rfl rfl fun a_474 HE475 => ?_
                  refine dr_takeNo (i := 9) (ls' := #[true, true, true, true, true, true, true, true, true, true, false, false, false, false, false, false, false, false, false, false, false, false, false, false, false]) HE475 HS109 rfl (by kernel_rfl) (by kernel_rfl) (by kernel_rfl) (fun _ _ _ h => h) rfl (wtF HE475 rfl rfl rfl (beq_f hc36)) rfl rfl fun a_476 HE477 => ?_
                  refine dr_takeNo (i := 10) (ls' := #[true, true, true, true, true, true, true, true, true, true, true, false, false, false, false, false, false, false, false, false, false, false, false, false, false]) HE477 HS109 rfl (by kernel_rfl) (by kernel_rfl) (by kernel_rfl) (fun _ _ _ h => h) rfl (wtF HE477 rfl rfl rfl (beq_f hc36)) rfl rfl fun a_478 HE479 => ?_
                  refine dr_take (i := 11) (ls' := #[true, true, true, true, true, true, true, true, true, true, true, true, false, false, false, false, false, false, false, false, false, false, false, false, false]) HE479 HS109 rfl (by kernel_rfl) (by kernel_rfl) (by kernel_rfl) (fun _ _ _ h => h) rfl (wt0 rfl) (x_pickF rfl (beq_f hc36) rfl) rfl rfl fun a_480 HE481 => ?_
                  refine dr_take (i := 12) (ls' := #[true, true, true, true, true, true, true, true, true, true, true, true, true, false, false, false, false, false, false, false, false, false, false, false, false]) HE481 HS109 rfl (by kernel_rfl) (by kernel_rfl) (by kernel_rfl) (fun _ _ _ h => h) rfl (wt0 rfl) (x_move rfl) rfl rfl fun a_482 HE483 => ?_
                  refine dr_take (i := 13) (ls' := #[true, true, true, true, true, true, true, true, true, true, true, true, true, true, false, false, false, false, false, false, false, false, false, false, false]) HE483 HS109 rfl (by kernel_rfl) (by kernel_rfl) (by kernel_rfl) (fun _ _ _ h => h) rfl (wtT HE483 rfl rfl rfl rfl) (x_move rfl) rfl rfl fun a_484 HE485 => ?_
                  refine dr_take (i := 14) (ls' := #[true, true, true, true, true, true, true, true, true, true, true, true, true, true, true, false, false, false, false, false, false, false, false, false, false]) HE485 HS109 rfl (by kernel_rfl) (by kernel_rfl) (by kernel_rfl) (fun _ _ _ h => h) rfl (wtT HE485 rfl rfl rfl rfl) (x_nilCheck rfl) rfl rfl fun a_486 HE487 => ?_
                  refine dr_take (i := 15) (ls' := #[true, true, true, true, true, true, true, true, true, true, true, true, true, true, true, true, false, false, false, false, false, false, false, false, false]) HE487 HS109 rfl (by kernel_rfl) (by kernel_rfl) (by kernel_rfl) (fun _ _ _ h => h) rfl (wtT HE487 rfl rfl rfl rfl) (x_fieldAddr fa_70_0 rfl) rfl rfl fun a_488 HE489 => ?_
                  refine dr_take (i := 16) (ls' := #[true, true, true, true, true, true, true, true, true, true, true, true, true, true, true, true, true, false, false, false, false, false, false, false, false]) HE489 HS109 rfl (by kernel_rfl) (by kernel_rfl) (by kernel_rfl) (fun _ _ _ h => h) rfl (wtT HE489 rfl rfl rfl rfl) (x_load1 tv_37 rfl (c_old (De30 0 _ rfl))) rfl rfl fun a_490 HE491 => ?_
                  refine dr_take (i := 17) (ls' := #[true, true, true, true, true, true, true, true, true, true, true, true, true, true, true, true, true, true, false, false, false, false, false, false, false]) HE491 HS109 rfl (by kernel_rfl) (by kernel_rfl) (by kernel_rfl) (fun _ _ _ h => h) rfl (wtT HE491 rfl rfl rfl rfl) (x_move rfl) rfl rfl fun a_492 HE493 => ?_
                  refine dr_take (i := 18) (ls' := #[true, true, true, true, true, true, true, true, true, true, true, true, true, true, true, true, true, true, true, false, false, false, false, false, false]) HE493 HS109 rfl (by kernel_rfl) (by kernel_rfl) (by kernel_rfl) (fun _ _ _ h => h) rfl (wtT HE493 rfl rfl rfl rfl) (x_nilCheck rfl) rfl rfl fun a_494 HE495 => ?_
                  refine dr_take (i := 19) (ls' := #[true, true, true, true, true, true, true, true, true, true, true, true, true, true, true, true, true, true, true, true, false, false, false, false, false]) HE495 HS109 rfl (by kernel_rfl) (by kernel_rfl) (by kernel_rfl) (fun _ _ _ h => h) rfl (wtT HE495 rfl rfl rfl rfl) (x_fieldAddr fa_70_0 rfl) rfl rfl fun a_496 HE497 => ?_
                  refine dr_take (i := 20) (ls' := #[true, true, true, true, true, true, true, true, true, true, true, true, true, true, true, true, true, true, true, true, true, false, false, false, false]) HE497 HS109 rfl (by kernel_rfl) (by kernel_rfl) (by kernel_rfl) (fun _ _ _ h => h) rfl (wtT HE497 rfl rfl rfl rfl) (x_load1 tv_37 rfl (c_old (De31 0 _ rfl))) rfl rfl fun a_498 HE499 => ?_
                  refine dr_take (i := 21) (ls' := #[true, true, true, true, true, true, true, true, true, true, true, true, true, true, true, true, true, true, true, true, true, true, false, false, false]) HE499 HS109 rfl (by kernel_rfl) (by kernel_rfl) (by kernel_rfl) (fun _ _ _ h => h) rfl (wtT HE499 rfl rfl rfl rfl) (x_move rfl) rfl rfl fun a_500 HE501 => ?_
                  refine dr_one (i := 22) (ls' := #[true, true, true, true, true, true, true, true, true, true, true, true, true, true, true, true, true, true, true, true, true, true, true, false, false]) rfl (by kernel_rfl) rfl fun K_502 hK503 => ?_
                  refine st_call HE501 (wtT HE501 rfl rfl rfl rfl) rfl rfl rfl en_41 rfl rfl (spec_l10Shares _ _ e30.1 _ _ e31.1 v _ (HH108.old ge30_0) (HH108.old ge31_0) (by omega) (by omega)) fun e w' hr => ?_
                  obtain ⟨rfl, hbr64⟩ := hr
                  have HH504 := HH108.on hbr64
                  refine ⟨_, rfl, fun a_505 HE506 => hK503 _ _ (by exact HH504.sel [0] (by decide) rfl) ?_⟩
                  have HS507 := HH504.sel [0] (by decide) rfl
                  refine dr_take (i := 23) (ls' := #[true, true, true, true, true, true, true, true, true, true, true, true, true, true, true, true, true, true, true, true, true, true, true, true, false]) HE506 HS507 rfl (by kernel_rfl) (by kernel_rfl) (by kernel_rfl) (fun _ _ _ h => h) rfl (wtT HE506 rfl rfl rfl rfl) (x_not rfl) rfl rfl fun a_508 HE509 => ?_
                  refine dr_take (i := 24) (ls' := #[true, true, true, true, true, true, true, true, true, true, true, true, true, true, true, true, true, true, true, true, true, true, true, true, true]) HE509 HS507 rfl (by kernel_rfl) (by kernel_rfl) (by kernel_rfl) (fun _ _ _ h => h) rfl (wt0 rfl) (x_pickF rfl rfl rfl) rfl rfl fun a_510 HE511 => ?_
                  refine dr_done (by kernel_rfl) ?_
                  clear HH103 HS98 a_106 HE107 a_110 HE111 a_112 HE113 a_114 HE115 a_116 HE117 a_466 HE467 a_468 HE469 a_470 HE471 a_472 HE473 a_474 HE475 a_476 HE477 a_478 HE479 a_480 HE481 a_482 HE483 a_484 HE485 a_486 HE487 a_488 HE489 a_490 HE491 a_492 HE493 a_494 HE495 a_496 HE497 a_498 HE499 HH108 a_500 HE501 HS109 a_505 HE506 a_508 HE509 hK503 K_502
                  refine nrm ?_
                  refine cnd_nb HE511 rfl (fun hc65 => ?_) (fun hc65 => ?_)
                  · refine wp_exit ?_
                    refine (thn_exit (blk_hit ?_))
                    refine nrm ?_
                    refine rg ?_
                    refine pl_x HE511 HH504 (wt0 rfl) (x_move rfl) rfl rfl fun a_512 HE513 => ?_
                    refine pl_x HE513 HH504 (wt0 rfl) (x_sub rfl rfl (by exact ⟨by omega, by omega⟩)) rfl rfl fun a_514 HE515 => ?_
                    refine pl_x HE515 HH504 (wt0 rfl) (x_assign rfl) rfl rfl fun a_516 HE517 => ?_
                    refine wpList_nil ?_
                    clear a_510 HE511 a_512 HE513 a_514 HE515
                    exact nrm ⟨0 + ((v - 1)), (by omega), (v - 1), o, A_4, c_4, S_4, rfl, HE517.sub ⟨rfl, (lkI rfl (by first | rfl | omega | (simp [hc22, p25_0, p25_1, hc26, p28_0, p28_1, hc29, xe30, xe31, p34_0, p34_1, p34_2, p34_3, hc35, hc36, hc65]; done))), rfl, rfl, rfl, rfl, rfl, trivial⟩, (HH504.sel [0] (by decide) rfl), (by first | omega | assumption | (simp; done) | simp_all), (by first | omega | assumption | (simp; done) | simp_all), (by rw [p34_2]; first | (refine ovl_miss (by omega) ?_; unfold hitO; grind [sharesB]) | (refine ovl_hit (by omega) ?_ triO_of2; unfold hitO; grind [sharesB])), (by first | assumption | (rw [triO_of2]; exact goodO_snoc p34_3 (by rw [hok, decide_eq_true_eq, ← hdn]; omega) (by omega)))⟩
                  · refine wp_skip ?_
                    refine nrm ?_
                    refine wp_seq ?_
                    refine rg ?_
                    refine pl_x HE511 HH504 (wt0 rfl) (x_move rfl) rfl rfl fun a_518 HE519 => ?_
                    refine pl_x HE519 HH504 (wt0 rfl) (x_nilCheck rfl) rfl rfl fun a_520 HE521 => ?_
                    refine pl_x HE521 HH504 (wt0 rfl) (x_fieldAddr fa_70_0 rfl) rfl rfl fun a_522 HE523 => ?_
                    refine pl_x HE523 HH504 (wt0 rfl) (x_load1 tv_37 rfl (c_old (De31 0 _ rfl))) rfl rfl fun a_524 HE525 => ?_
                    refine pl_x HE525 HH504 (wt0 rfl) (x_move rfl) rfl rfl fun a_526 HE527 => ?_
                    refine pl_x HE527 HH504 (wt0 rfl) (x_sliceL (k := v) ts_37 rfl rfl rfl (by omega) List.length_drop.symm) rfl rfl fun a_528 HE529 => ?_
                    refine pl_x HE529 HH504 (wt0 rfl) (x_assign rfl) rfl rfl fun a_530 HE531 => ?_
                    refine wpList_nil ?_
                    clear a_510 HE511 a_518 HE519 a_520 HE521 a_522 HE523 a_524 HE525 a_526 HE527 a_528 HE529
                    refine nrm ?_
                    refine wp_seq ?_
                    refine dr_start (Held Nob w [rVec (eSl (eSl eInt)) 50 S_4 A_4 c_4 o]) 13 #[false, false, false, false, false, false, false, false, false, false, false, false, false] hmix rfl rfl HH504 (fun _ h => h.sel [0] (by decide) rfl) fun w' HH532 => ?_
                    have HS533 := HH532
                    refine dr_take (i := 0) (ls' := #[true, false, false, false, false, false, false, false, false, false, false, false, false]) HE531 HS533 rfl (by kernel_rfl) (by kernel_rfl) (by kernel_rfl) (fun _ _ _ h => h) rfl (wt0 rfl) (x_move rfl) rfl rfl fun a_534 HE535 => ?_
                    refine dr_take (i := 1) (ls' := #[true, true, false, false, false, false, false, false, false, false, false, false, false]) HE535 HS533 rfl (by kernel_rfl) (by kernel_rfl) (by kernel_rfl) (fun _ _ _ h => h) rfl (wt0 rfl) (x_nilCheck rfl) rfl rfl fun a_536 HE537 => ?_
                    refine dr_take (i := 2) (ls' := #[true, true, true, false, false, false, false, false, false, false, false, false, false]) HE537 HS533 rfl (by kernel_rfl) (by kernel_rfl) (by kernel_rfl) (fun _ _ _ h => h) rfl (wt0 rfl) (x_fieldAddr fa_70_0 rfl) rfl rfl fun a_538 HE539 => ?_
                    refine dr_take (i := 3) (ls' := #[true, true, true, true, false, false, false, false, false, false, false, false, false]) HE539 HS533 rfl (by kernel_rfl) (by kernel_rfl) (by kernel_rfl) (fun _ _ _ h => h) rfl (wt0 rfl) (x_load1 tv_37 rfl (c_old (De30 0 _ rfl))) rfl rfl fun a_540 HE541 => ?_
                    refine dr_take (i := 4) (ls' := #[true, true, true, true, true, false, false, false, false, false, false, false, false]) HE541 HS533 rfl (by kernel_rfl) (by kernel_rfl) (by kernel_rfl) (fun _ _ _ h => h) rfl (wt0 rfl) (x_move rfl) rfl rfl fun a_542 HE543 => ?_
                    refine dr_take (i := 5) (ls' := #[true, true, true, true, true, true, false, false, false, false, false, false, false]) HE543 HS533 rfl (by kernel_rfl) (by kernel_rfl) (by kernel_rfl) (fun _ _ _ h => h) rfl (wt0 rfl) (x_nilCheck rfl) rfl rfl fun a_544 HE545 => ?_
                    refine dr_take (i := 6) (ls' := #[true, true, true, true, true, true, true, false, false, false, false, false, false]) HE545 HS533 rfl (by kernel_rfl) (by kernel_rfl) (by kernel_rfl) (fun _ _ _ h => h) rfl (wt0 rfl) (x_fieldAddr fa_70_0 rfl) rfl rfl fun a_546 HE547 => ?_
                    refine dr_take (i := 7) (ls' := #[true, true, true, true, true, true, true, true, false, false, false, false, false]) HE547 HS533 rfl (by kernel_rfl) (by kernel_rfl) (by kernel_rfl) (fun _ _ _ h => h) rfl (wt0 rfl) (x_load1 tv_37 rfl (c_old (De30 0 _ rfl))) rfl rfl fun a_548 HE549 => ?_
                    refine dr_take (i := 8) (ls' := #[true, true, true, true, true, true, true, true, true, false, false, false, false]) HE549 HS533 rfl (by kernel_rfl) (by kernel_rfl) (by kernel_rfl) (fun _ _ _ h => h) rfl (wt0 rfl) (x_len Try.underlying37 rfl) rfl rfl fun a_550 HE551 => ?_
                    refine dr_take (i := 9) (ls' := #[true, true, true, true, true, true, true, true, true, true, false, false, false]) HE551 HS533 rfl (by kernel_rfl) (by kernel_rfl) (by kernel_rfl) (fun _ _ _ h => h) rfl (wt0 rfl) (x_move rfl) rfl rfl fun a_552 HE553 => ?_
                    refine dr_take (i := 10) (ls' := #[true, true, true, true, true, true, true, true, true, true, true, false, false]) HE553 HS533 rfl (by kernel_rfl) (by kernel_rfl) (by kernel_rfl) (fun _ _ _ h => h) rfl (wt0 rfl) (x_sub rfl rfl (by exact ⟨by omega, by omega⟩)) rfl rfl fun a_554 HE555 => ?_
                    have cap66 := (HH532.old ge30_0).1
                    refine dr_take (i := 11) (ls' := #[true, true, true, true, true, true, true, true, true, true, true, true, false]) HE555 HS533 rfl (by kernel_rfl) (by kernel_rfl) (by kernel_rfl) (fun _ _ _ h => h) rfl (wt0 rfl) (x_sliceH (k := ((((e30.1.length : Int) - (v : Int))).toNat)) (r := (e30.1.take ((((e30.1.length : Int) - (v : Int))).toNat)).length) ts_37 rfl rfl (by omega) (by omega) (by rw [List.length_take]; omega)) rfl rfl fun a_556 HE557 => ?_
                    refine dr_take (i := 12) (ls' := #[true, true, true, true, true, true, true, true, true, true, true, true, true]) HE557 HS533 rfl (by kernel_rfl) (by kernel_rfl) (by kernel_rfl) (fun _ _ _ h => h) rfl (wt0 rfl) (x_assign rfl) rfl rfl fun a_558 HE559 => ?_
                    refine dr_done (by kernel_rfl) ?_
                    clear HH504 HS507 a_530 HE531 a_534 HE535 a_536 HE537 a_538 HE539 a_540 HE541 a_542 HE543 a_544 HE545 a_546 HE547 a_548 HE549 a_550 HE551 a_552 HE553 a_554 HE555 a_556 HE557
                    refine nrm ?_
                    refine wp_seq ?_
                    refine rg ?_
                    refine pl_x HE559 HH532 (wt0 rfl) (x_move rfl) rfl rfl fun a_560 HE561 => ?_
                    refine pl_x HE561 HH532 (wt0 rfl) (x_nilCheck rfl) rfl rfl fun a_562 HE563 => ?_
                    refine pl_x HE563 HH532 (wt0 rfl) (x_fieldAddr fa_70_0 rfl) rfl rfl fun a_564 HE565 => ?_
                    refine pl_x HE565 HH532 (wt0 rfl) (x_load1 tv_37 rfl (c_old (De30 0 _ rfl))) rfl rfl fun a_566 HE567 => ?_
                    refine pl fun K_568 hK569 => ?_
                    refine st_call HE567 (wt0 rfl) rfl rfl rfl en_42 rfl rfl (spec_l00OwnV _ _ e30.1 _ (HH532.old ge30_0) (by omega)) fun e w' hr => ?_
                    obtain ⟨Ar67_0, cr67_0, Sr67_0, rfl, hbr67⟩ := hr
                    have HH570 := HH532.app hbr67
                    clear hbr67
                    have HH571 : Held Nob w ([rVec eInt 2 Sr67_0 Ar67_0 cr67_0 e30.1, rVec (eSl (eSl eInt)) 50 S_4 A_4 c_4 o]) _ := HH570
                    refine ⟨_, rfl, fun a_572 HE573 => hK569 _ _ ?_⟩
                    refine pl_x HE573 HH571 (wt0 rfl) (x_move rfl) rfl rfl fun a_574 HE575 => ?_
                    refine pl fun K_576 hK577 => ?_
                    refine st_appS flat_int HE575 HH571 ts_37 [0, 1] (by decide) rfl rfl rfl ((HH571.old ge31_0).cutD v) (by unfold maxLen; first | omega | (simp; done) | (simp; omega)) (by first | omega | (simp; done) | (simp; omega)) (wt0 rfl) rfl fun A68 c69 S70 a_578 w' HE579 HH580 => hK577 _ _ ?_
                    have lA68 : (e30.1 ++ (e31.1.drop v)).length = List.length e30.1 + List.length (e31.1.drop v) := List.length_append
                    refine pl_x HE579 HH580 (wt0 rfl) (x_assign rfl) rfl rfl fun a_581 HE582 => ?_
                    refine wpList_nil ?_
                    clear a_558 HE559 a_560 HE561 a_562 HE563 a_564 HE565 HH532 HH570 a_566 HE567 a_572 HE573 K_568 hK569 a_574 HE575 HH571 a_578 HE579 hK577 K_576
                    refine nrm ?_
                    refine wp_seq ?_
                    refine rg ?_
                    refine pl_x HE582 HH580 (wt0 rfl) (x_move rfl) rfl rfl fun a_583 HE584 => ?_
                    refine pl_x HE584 HH580 (wt0 rfl) (x_nilCheck rfl) rfl rfl fun a_585 HE586 => ?_
                    refine pl_x HE586 HH580 (wt0 rfl) (x_fieldAddr fa_70_1 rfl) rfl rfl fun a_587 HE588 => ?_
                    refine pl_x HE588 HH580 (wt0 rfl) (x_load1 tv_37 rfl (c_old (De30 1 _ rfl))) rfl rfl fun a_589 HE590 => ?_
                    refine pl fun K_591 hK592 => ?_
                    refine st_call HE590 (wt0 rfl) rfl rfl rfl en_42 rfl rfl (spec_l00OwnV _ _ e30.2 _ (HH580.old ge30_1) (by omega)) fun e w' hr => ?_
                    obtain ⟨Ar71_0, cr71_0, Sr71_0, rfl, hbr71⟩ := hr
                    have HH593 := HH580.app hbr71
                    clear hbr71
                    have HH594 : Held Nob w ([rVec eInt 2 Sr71_0 Ar71_0 cr71_0 e30.2, rVec eInt 2 S70 A68 c69 (e30.1 ++ (e31.1.drop v)), rVec (eSl (eSl eInt)) 50 S_4 A_4 c_4 o]) _ := HH593
                    refine ⟨_, rfl, fun a_595 HE596 => hK592 _ _ ?_⟩
                    refine pl_x HE596 HH594 (wt0 rfl) (x_move rfl) rfl rfl fun a_597 HE598 => ?_
                    refine pl fun K_599 hK600 => ?_
                    refine st_appS flat_int HE598 HH594 ts_37 [0, 1, 2] (by decide) rfl rfl rfl ((HH594.old ge31_0).cutD v) (by unfold maxLen; first | omega | (simp; done) | (simp; omega)) (by first | omega | (simp; done) | (simp; omega)) (wt0 rfl) rfl fun A72 c73 S74 a_601 w' HE602 HH603 => hK600 _ _ ?_
                    have lA72 : (e30.2 ++ (e31.1.drop v)).length = List.length e30.2 + List.length (e31.1.drop v) := List.length_append
                    refine pl_x HE602 HH603 (wt0 rfl) (x_assign rfl) rfl rfl fun a_604 HE605 => ?_
                    refine wpList_nil ?_
                    clear a_581 HE582 a_583 HE584 a_585 HE586 a_587 HE588 HH580 HH593 a_589 HE590 a_595 HE596 K_591 hK592 a_597 HE598 HH594 a_601 HE602 hK600 K_599
                    refine nrm ?_
                    refine wp_seq ?_
                    refine dr_start (Held Nob w [rVec eInt 2 S74 A72 c73 (e30.2 ++ (e31.1.drop v)), rVec eInt 2 S70 A68 c69 (e30.1 ++ (e31.1.drop v)), rVec (eSl (eSl eInt)) 50 S_4 A_4 c_4 o]) 8 #[false, false, false, false, false, false, false, false] hmix rfl rfl HH603 (fun _ h => h.sel [0, 1, 2] (by decide) rfl) fun w' HH606 => ?_
                    have HS607 := HH606
                    refine dr_take (i := 0) (ls' := #[true, false, false, false, false, false, false, false]) HE605 HS607 rfl (by kernel_rfl) (by kernel_rfl) (by kernel_rfl) (fun _ _ _ h => h) rfl (wt0 rfl) (x_move rfl) rfl rfl fun a_608 HE609 => ?_
                    refine dr_take (i := 2) (ls' := #[true, false, true, false, false, false, false, false]) HE609 HS607 rfl (by kernel_rfl) (by kernel_rfl) (by kernel_rfl) (fun _ _ _ h => h) rfl (wt0 rfl) (x_move rfl) rfl rfl fun a_610 HE611 => ?_
                    refine dr_take (i := 3) (ls' := #[true, false, true, true, false, false, false, false]) HE611 HS607 rfl (by kernel_rfl) (by kernel_rfl) (by kernel_rfl) (fun _ _ _ h => h) rfl (wt0 rfl) (x_nilCheck rfl) rfl rfl fun a_612 HE613 => ?_
                    refine dr_take (i := 4) (ls' := #[true, false, true, true, true, false, false, false]) HE613 HS607 rfl (by kernel_rfl) (by kernel_rfl) (by kernel_rfl) (fun _ _ _ h => h) rfl (wt0 rfl) (x_fieldAddr fa_70_1 rfl) rfl rfl fun a_614 HE615 => ?_
                    refine dr_take (i := 5) (ls' := #[true, false, true, true, true, true, false, false]) HE615 HS607 rfl (by kernel_rfl) (by kernel_rfl) (by kernel_rfl) (fun _ _ _ h => h) rfl (wt0 rfl) (x_load1 tv_37 rfl (c_old (De31 1 _ rfl))) rfl rfl fun a_616 HE617 => ?_
                    refine dr_one (i := 1) (ls' := #[true, true, true, true, true, true, false, false]) rfl (by kernel_rfl) rfl fun K_618 hK619 => ?_
                    refine st_call HE617 (wt0 rfl) rfl rfl rfl en_42 rfl rfl (spec_l00OwnV _ _ (e30.1.take ((((e30.1.length : Int) - (v : Int))).toNat)) _ ((HH606.old ge30_0).take ((((e30.1.length : Int) - (v : Int))).toNat)) (by omega)) fun e w' hr => ?_
                    obtain ⟨Ar75_0, cr75_0, Sr75_0, rfl, hbr75⟩ := hr
                    have HH620 := HH606.app hbr75
                    clear hbr75
                    have HH621 : Held Nob w ([rVec eInt 2 Sr75_0 Ar75_0 cr75_0 (e30.1.take ((((e30.1.length : Int) - (v : Int))).toNat)), rVec eInt 2 S74 A72 c73 (e30.2 ++ (e31.1.drop v)), rVec eInt 2 S70 A68 c69 (e30.1 ++ (e31.1.drop v)), rVec (eSl (eSl eInt)) 50 S_4 A_4 c_4 o]) _ := HH620
                    refine ⟨_, rfl, fun a_622 HE623 => hK619 _ _ (by exact HH621.sel [1, 2, 3] (by decide) rfl) ?_⟩
                    have HS624 := HH621.sel [1, 2, 3] (by decide) rfl
                    refine dr_one (i := 6) (ls' := #[true, true, true, true, true, true, true, false]) rfl (by kernel_rfl) rfl fun K_625 hK626 => ?_
                    refine st_appS flat_int HE623 HH621 ts_37 [0, 1, 2, 3] (by decide) rfl rfl rfl (HH621.old ge31_1) (by unfold maxLen; first | omega | (simp; done) | (simp; omega)) (by first | omega | (simp; done) | (simp; omega)) (wt0 rfl) rfl fun A76 c77 S78 a_627 w' HE628 HH629 => hK626 _ _ (by exact HH629.sel [1, 2, 3] (by decide) rfl) ?_
                    have lA76 : ((e30.1.take ((((e30.1.length : Int) - (v : Int))).toNat)) ++ e31.2).length = List.length (e30.1.take ((((e30.1.length : Int) - (v : Int))).toNat)) + List.length e31.2 := List.length_append
                    have HS630 := HH629.sel [1, 2, 3] (by decide) rfl
                    refine dr_take (i := 7) (ls' := #[true, true, true, true, true, true, true, true]) HE628 HS630 rfl (by kernel_rfl) (by kernel_rfl) (by kernel_rfl) (fun _ _ _ h => h) rfl (wt0 rfl) (x_assign rfl) rfl rfl fun a_631 HE632 => ?_
                    refine dr_done (by kernel_rfl) ?_
                    clear HH603 HS533 a_604 HE605 a_608 HE609 a_610 HE611 a_612 HE613 a_614 HE615 HH606 HH620 a_616 HE617 HS607 K_618 hK619 a_622 HE623 HH621 HS624 a_627 HE628 hK626 K_625
                    refine nrm ?_
                    refine wp_seq ?_
                    refine wp_seq ?_
                    refine rg ?_
                    refine pl_x HE632 HH629 (wt0 rfl) (x_move rfl) rfl rfl fun a_633 HE634 => ?_
                    refine pl_x HE634 HH629 (wt0 rfl) (x_len Try.underlying37 rfl) rfl rfl fun a_635 HE636 => ?_
                    refine pl_x HE636 HH629 (wt0 rfl) (x_gtr rfl rfl) rfl rfl fun a_637 HE638 => ?_
                    refine pl_x HE638 HH629 (wt0 rfl) (x_move rfl) rfl rfl fun a_639 HE640 => ?_
                    by_cases hc79 : 400 < ((e30.1 ++ (e31.1.drop v)).length : Int)
                    · refine pl_no HE640 (wtF HE640 rfl rfl rfl (decide_eq_true hc79)) rfl rfl fun a_641 HE642 => ?_
                      refine pl_no HE642 (wtF HE642 rfl rfl rfl (decide_eq_true hc79)) rfl rfl fun a_643 HE644 => ?_
                      refine pl_no HE644 (wtF HE644 rfl rfl rfl (decide_eq_true hc79)) rfl rfl fun a_645 HE646 => ?_
                      refine pl_x HE646 HH629 (wt0 rfl) (x_pickT rfl (decide_eq_true hc79) rfl) rfl rfl fun a_647 HE648 => ?_
                      refine pl_x HE648 HH629 (wt0 rfl) (x_move rfl) rfl rfl fun a_649 HE650 => ?_
                      refine pl_no HE650 (wtF HE650 rfl rfl rfl rfl) rfl rfl fun a_651 HE652 => ?_
                      refine pl_no HE652 (wtF HE652 rfl rfl rfl rfl) rfl rfl fun a_653 HE654 => ?_
                      refine pl_no HE654 (wtF HE654 rfl rfl rfl rfl) rfl rfl fun a_655 HE656 => ?_
                      refine pl_x HE656 HH629 (wt0 rfl) (x_pickT rfl rfl rfl) rfl rfl fun a_657 HE658 => ?_
                      refine pl_x HE658 HH629 (wt0 rfl) (x_move rfl) rfl rfl fun a_659 HE660 => ?_
                      refine pl_no HE660 (wtF HE660 rfl rfl rfl rfl) rfl rfl fun a_661 HE662 => ?_
                      refine pl_no HE662 (wtF HE662 rfl rfl rfl rfl) rfl rfl fun a_663 HE664 => ?_
                      refine pl_no HE664 (wtF HE664 rfl rfl rfl rfl) rfl rfl fun a_665 HE666 => ?_
                      refine pl_x HE666 HH629 (wt0 rfl) (x_pickT rfl rfl rfl) rfl rfl fun a_667 HE668 => ?_
                      refine wpList_nil ?_
                      clear a_631 HE632 a_633 HE634 a_635 HE636 a_637 HE638 a_639 HE640 a_641 HE642 a_643 HE644 a_645 HE646 a_647 HE648 a_649 HE650 a_651 HE652 a_653 HE654 a_655 HE656 a_657 HE658 a_659 HE660 a_661 HE662 a_663 HE664 a_665 HE666
                      refine nrm ?_
                      refine cndT HE668 rfl rfl ?_
                      refine wp_seq ?_
                      refine rg ?_
                      refine pl_x HE668 HH629 (wt0 rfl) (x_assign rfl) rfl rfl fun a_669 HE670 => ?_
                      refine pl_x HE670 HH629 (wt0 rfl) (x_assign rfl) rfl rfl fun a_671 HE672 => ?_
                      refine wpList_nil ?_
                      clear a_667 HE668 a_669 HE670
                      refine nrm ?_
                      refine wp_ret ?_
                      refine (thn_ret (blk_ret (thn_ret (thn_ret (blk_ret (blk_ret (thn_ret (thn_ret (blk_ret (blk_ret (thn_ret (thn_ret (blk_ret (thn_ret ?_))))))))))))))
                      refine ret2 HE672 rfl (rv_tmp rfl) (rv_tmp rfl) ?_
                      have HH673 := HH629.vecNil (eSl (eSl eInt)) 50
                      have hF : (overlapsOf a0) = ([], 5) := by
                        first | (unfold overlapsOf; rw [if_pos hvr, show a0.length = i from by omega, if_pos p34_1]) | (have hcc := p34_2; rw [ovl_cons (by omega) (by unfold hitO; grind [sharesB])] at hcc; unfold overlapsOf; rw [if_pos hvr, goodO_bad2 (i := i) (j := j) (by omega) (by omega) hcc (by first | (right; omega) | (left; rw [hok, decide_eq_false_iff_not, ← hdn]; omega))]; rfl) | (simp [overlapsOf, hc22, p25_0, p25_1, hc26, p28_0, p28_1, hc29, xe30, xe31, p34_0, p34_1, p34_2, p34_3, hc35, hc36, hc65, hc79]; done)
                      exact ⟨_, _, _, by first | (rw [hF] <;> rfl) | rfl | (rw [hF]; simp only [Ending.returned.injEq, Value.slice.injEq, true_and, and_true]; first | omega | (simp; done)) | (rw [hF]; simp; omega), by rw [hF]; exact HH673.sel [0] (by decide) rfl⟩
                    · refine pl_x HE640 HH629 (wtT HE640 rfl rfl rfl (decide_eq_false hc79)) (x_move rfl) rfl rfl fun a_674 HE675 => ?_
                      refine pl_x HE675 HH629 (wtT HE675 rfl rfl rfl (decide_eq_false hc79)) (x_len Try.underlying37 rfl) rfl rfl fun a_676 HE677 => ?_
                      refine pl_x HE677 HH629 (wtT HE677 rfl rfl rfl (decide_eq_false hc79)) (x_gtr rfl rfl) rfl rfl fun a_678 HE679 => ?_
                      refine pl_x HE679 HH629 (wt0 rfl) (x_pickF rfl (decide_eq_false hc79) rfl) rfl rfl fun a_680 HE681 => ?_
                      refine pl_x HE681 HH629 (wt0 rfl) (x_move rfl) rfl rfl fun a_682 HE683 => ?_
                      by_cases hc80 : 400 < ((e30.2 ++ (e31.1.drop v)).length : Int)
                      · refine pl_no HE683 (wtF HE683 rfl rfl rfl (decide_eq_true hc80)) rfl rfl fun a_684 HE685 => ?_
                        refine pl_no HE685 (wtF HE685 rfl rfl rfl (decide_eq_true hc80)) rfl rfl fun a_686 HE687 => ?_
                        refine pl_no HE687 (wtF HE687 rfl rfl rfl (decide_eq_true hc80)) rfl rfl fun a_688 HE689 => ?_
                        refine pl_x HE689 HH629 (wt0 rfl) (x_pickT rfl (decide_eq_true hc80) rfl) rfl rfl fun a_690 HE691 => ?_
                        refine pl_x HE691 HH629 (wt0 rfl) (x_move rfl) rfl rfl fun a_692 HE693 => ?_
                        refine pl_no HE693 (wtF HE693 rfl rfl rfl rfl) rfl rfl fun a_694 HE695 => ?_
                        refine pl_no HE695 (wtF HE695 rfl rfl rfl rfl) rfl rfl fun a_696 HE697 => ?_
                        refine pl_no HE697 (wtF HE697 rfl rfl rfl rfl) rfl rfl fun a_698 HE699 => ?_
                        refine pl_x HE699 HH629 (wt0 rfl) (x_pickT rfl rfl rfl) rfl rfl fun a_700 HE701 => ?_
                        refine wpList_nil ?_
                        clear a_631 HE632 a_633 HE634 a_635 HE636 a_637 HE638 a_639 HE640 a_674 HE675 a_676 HE677 a_678 HE679 a_680 HE681 a_682 HE683 a_684 HE685 a_686 HE687 a_688 HE689 a_690 HE691 a_692 HE693 a_694 HE695 a_696 HE697 a_698 HE699
                        refine nrm ?_
                        refine cndT HE701 rfl rfl ?_
                        refine wp_seq ?_
                        refine rg ?_
                        refine pl_x HE701 HH629 (wt0 rfl) (x_assign rfl) rfl rfl fun a_702 HE703 => ?_
                        refine pl_x HE703 HH629 (wt0 rfl) (x_assign rfl) rfl rfl fun a_704 HE705 => ?_
                        refine wpList_nil ?_
                        clear a_700 HE701 a_702 HE703
                        refine nrm ?_
                        refine wp_ret ?_
                        refine (thn_ret (blk_ret (thn_ret (thn_ret (blk_ret (blk_ret (thn_ret (thn_ret (blk_ret (blk_ret (thn_ret (thn_ret (blk_ret (thn_ret ?_))))))))))))))
                        refine ret2 HE705 rfl (rv_tmp rfl) (rv_tmp rfl) ?_
                        have HH706 := HH629.vecNil (eSl (eSl eInt)) 50
                        have hF : (overlapsOf a0) = ([], 5) := by
                          first | (unfold overlapsOf; rw [if_pos hvr, show a0.length = i from by omega, if_pos p34_1]) | (have hcc := p34_2; rw [ovl_cons (by omega) (by unfold hitO; grind [sharesB])] at hcc; unfold overlapsOf; rw [if_pos hvr, goodO_bad2 (i := i) (j := j) (by omega) (by omega) hcc (by first | (right; omega) | (left; rw [hok, decide_eq_false_iff_not, ← hdn]; omega))]; rfl) | (simp [overlapsOf, hc22, p25_0, p25_1, hc26, p28_0, p28_1, hc29, xe30, xe31, p34_0, p34_1, p34_2, p34_3, hc35, hc36, hc65, hc79, hc80]; done)
                        exact ⟨_, _, _, by first | (rw [hF] <;> rfl) | rfl | (rw [hF]; simp only [Ending.returned.injEq, Value.slice.injEq, true_and, and_true]; first | omega | (simp; done)) | (rw [hF]; simp; omega), by rw [hF]; exact HH706.sel [0] (by decide) rfl⟩
                      · refine pl_x HE683 HH629 (wtT HE683 rfl rfl rfl (decide_eq_false hc80)) (x_move rfl) rfl rfl fun a_707 HE708 => ?_
                        refine pl_x HE708 HH629 (wtT HE708 rfl rfl rfl (decide_eq_false hc80)) (x_len Try.underlying37 rfl) rfl rfl fun a_709 HE710 => ?_
                        refine pl_x HE710 HH629 (wtT HE710 rfl rfl rfl (decide_eq_false hc80)) (x_gtr rfl rfl) rfl rfl fun a_711 HE712 => ?_
                        refine pl_x HE712 HH629 (wt0 rfl) (x_pickF rfl (decide_eq_false hc80) rfl) rfl rfl fun a_713 HE714 => ?_
                        refine pl_x HE714 HH629 (wt0 rfl) (x_move rfl) rfl rfl fun a_715 HE716 => ?_
                        by_cases hc81 : 400 < (((e30.1.take ((((e30.1.length : Int) - (v : Int))).toNat)) ++ e31.2).length : Int)
                        · refine pl_no HE716 (wtF HE716 rfl rfl rfl (decide_eq_true hc81)) rfl rfl fun a_717 HE718 => ?_
                          refine pl_no HE718 (wtF HE718 rfl rfl rfl (decide_eq_true hc81)) rfl rfl fun a_719 HE720 => ?_
                          refine pl_no HE720 (wtF HE720 rfl rfl rfl (decide_eq_true hc81)) rfl rfl fun a_721 HE722 => ?_
                          refine pl_x HE722 HH629 (wt0 rfl) (x_pickT rfl (decide_eq_true hc81) rfl) rfl rfl fun a_723 HE724 => ?_
                          refine wpList_nil ?_
                          clear a_631 HE632 a_633 HE634 a_635 HE636 a_637 HE638 a_639 HE640 a_674 HE675 a_676 HE677 a_678 HE679 a_680 HE681 a_682 HE683 a_707 HE708 a_709 HE710 a_711 HE712 a_713 HE714 a_715 HE716 a_717 HE718 a_719 HE720 a_721 HE722
                          refine nrm ?_
                          refine cndT HE724 rfl rfl ?_
                          refine wp_seq ?_
                          refine rg ?_
                          refine pl_x HE724 HH629 (wt0 rfl) (x_assign rfl) rfl rfl fun a_725 HE726 => ?_
                          refine pl_x HE726 HH629 (wt0 rfl) (x_assign rfl) rfl rfl fun a_727 HE728 => ?_
                          refine wpList_nil ?_
                          clear a_723 HE724 a_725 HE726
                          refine nrm ?_
                          refine wp_ret ?_
                          refine (thn_ret (blk_ret (thn_ret (thn_ret (blk_ret (blk_ret (thn_ret (thn_ret (blk_ret (blk_ret (thn_ret (thn_ret (blk_ret (thn_ret ?_))))))))))))))
                          refine ret2 HE728 rfl (rv_tmp rfl) (rv_tmp rfl) ?_
                          have HH729 := HH629.vecNil (eSl (eSl eInt)) 50
                          have hF : (overlapsOf a0) = ([], 5) := by
                            first | (unfold overlapsOf; rw [if_pos hvr, show a0.length = i from by omega, if_pos p34_1]) | (have hcc := p34_2; rw [ovl_cons (by omega) (by unfold hitO; grind [sharesB])] at hcc; unfold overlapsOf; rw [if_pos hvr, goodO_bad2 (i := i) (j := j) (by omega) (by omega) hcc (by first | (right; omega) | (left; rw [hok, decide_eq_false_iff_not, ← hdn]; omega))]; rfl) | (simp [overlapsOf, hc22, p25_0, p25_1, hc26, p28_0, p28_1, hc29, xe30, xe31, p34_0, p34_1, p34_2, p34_3, hc35, hc36, hc65, hc79, hc80, hc81]; done)
                          exact ⟨_, _, _, by first | (rw [hF] <;> rfl) | rfl | (rw [hF]; simp only [Ending.returned.injEq, Value.slice.injEq, true_and, and_true]; first | omega | (simp; done)) | (rw [hF]; simp; omega), by rw [hF]; exact HH729.sel [0] (by decide) rfl⟩
                        · refine pl_x HE716 HH629 (wtT HE716 rfl rfl rfl (decide_eq_false hc81)) (x_move rfl) rfl rfl fun a_730 HE731 => ?_
                          refine pl_x HE731 HH629 (wtT HE731 rfl rfl rfl (decide_eq_false hc81)) (x_len Try.underlying24 rfl) rfl rfl fun a_732 HE733 => ?_
                          refine pl_x HE733 HH629 (wtT HE733 rfl rfl rfl (decide_eq_false hc81)) (x_eql rfl rfl) rfl rfl fun a_734 HE735 => ?_
                          refine pl_x HE735 HH629 (wt0 rfl) (x_pickF rfl (decide_eq_false hc81) rfl) rfl rfl fun a_736 HE737 => ?_
                          refine wpList_nil ?_
                          clear a_631 HE632 a_633 HE634 a_635 HE636 a_637 HE638 a_639 HE640 a_674 HE675 a_676 HE677 a_678 HE679 a_680 HE681 a_682 HE683 a_707 HE708 a_709 HE710 a_711 HE712 a_713 HE714 a_715 HE716 a_730 HE731 a_732 HE733 a_734 HE735
                          refine nrm ?_
                          refine cnd_e HE737 rfl (fun hc82 => ?_) (fun hc82 => ?_)
                          · refine wp_seq ?_
                            refine rg ?_
                            refine pl_x HE737 HH629 (wt0 rfl) (x_assign rfl) rfl rfl fun a_738 HE739 => ?_
                            refine pl_x HE739 HH629 (wt0 rfl) (x_assign rfl) rfl rfl fun a_740 HE741 => ?_
                            refine wpList_nil ?_
                            clear a_736 HE737 a_738 HE739
                            refine nrm ?_
                            refine wp_ret ?_
                            refine (thn_ret (blk_ret (thn_ret (thn_ret (blk_ret (blk_ret (thn_ret (thn_ret (blk_ret (blk_ret (thn_ret (thn_ret (blk_ret (thn_ret ?_))))))))))))))
                            refine ret2 HE741 rfl (rv_tmp rfl) (rv_tmp rfl) ?_
                            have HH742 := HH629.vecNil (eSl (eSl eInt)) 50
                            have hF : (overlapsOf a0) = ([], 5) := by
                              first | (unfold overlapsOf; rw [if_pos hvr, show a0.length = i from by omega, if_pos p34_1]) | (have hcc := p34_2; rw [ovl_cons (by omega) (by unfold hitO; grind [sharesB])] at hcc; unfold overlapsOf; rw [if_pos hvr, goodO_bad2 (i := i) (j := j) (by omega) (by omega) hcc (by first | (right; omega) | (left; rw [hok, decide_eq_false_iff_not, ← hdn]; omega))]; rfl) | (simp [overlapsOf, hc22, p25_0, p25_1, hc26, p28_0, p28_1, hc29, xe30, xe31, p34_0, p34_1, p34_2, p34_3, hc35, hc36, hc65, hc79, hc80, hc81, hc82]; done)
                            exact ⟨_, _, _, by first | (rw [hF] <;> rfl) | rfl | (rw [hF]; simp only [Ending.returned.injEq, Value.slice.injEq, true_and, and_true]; first | omega | (simp; done)) | (rw [hF]; simp; omega), by rw [hF]; exact HH742.sel [0] (by decide) rfl⟩
                          · refine wp_skip ?_
                            refine nrm ?_
                            refine rg ?_
                            refine pl_x HE737 HH629 (wt0 rfl) (x_move rfl) rfl rfl fun a_743 HE744 => ?_
                            refine pl_x HE744 HH629 (wt0 rfl) (x_move rfl) rfl rfl fun a_745 HE746 => ?_
                            refine pl_x HE746 HH629 (wt0 rfl) (x_move rfl) rfl rfl fun a_747 HE748 => ?_
                            refine pl_x HE748 HH629 (wt0 rfl) (x_move rfl) rfl rfl fun a_749 HE750 => ?_
                            refine pl fun K_751 hK752 => ?_
                            refine st_lit (m := 3) (cs := [.slice A68 ((e30.1 ++ (e31.1.drop v)).length) c69, .slice A72 ((e30.2 ++ (e31.1.drop v)).length) c73, .slice A76 (((e30.1.take ((((e30.1.length : Int) - (v : Int))).toNat)) ++ e31.2).length) c77]) (e := 37) HE750 HH629 (run_lit ts_50 HE750 (vs := [.slice A68 ((e30.1 ++ (e31.1.drop v)).length) c69, .slice A72 ((e30.2 ++ (e31.1.drop v)).length) c73, .slice A76 (((e30.1.take ((((e30.1.length : Int) - (v : Int))).toNat)) ++ e31.2).length) c77]) rfl rfl (by simp [Value.cells]) rfl (by decide)) (wt0 rfl) rfl rfl fun q83 a_753 w' HE754 HH755 => hK752 _ _ ?_
                            refine pl fun K_756 hK757 => ?_
                            refine st_lit (m := 1) (cs := [.slice (some ⟨q83, 0, none⟩) (3) 3]) (e := 50) HE754 HH755 (run_lit ts_24 HE754 (vs := [.slice (some ⟨q83, 0, none⟩) (3) 3]) rfl rfl (by simp [Value.cells]) rfl (by decide)) (wt0 rfl) rfl rfl fun q84 a_758 w' HE759 HH760 => hK757 _ _ ?_
                            refine pl fun K_761 hK762 => ?_
                            have HH763 := HH760.sel [4, 0, 1, 2, 3, 5] (by decide) rfl
                            have HH764 := HH763.vecSo
                            have HH765 := HH764.sel [4, 0, 1, 2, 3, 5] (by decide) rfl
                            have HH766 := HH765.vecSo
                            have HH767 := HH766.sel [4, 0, 1, 2, 3, 5] (by decide) rfl
                            have HH768 := HH767.vecSo
                            have HH769 := HH768.sel [2, 1, 0, 4, 3, 5] (by decide) rfl
                            obtain ⟨S88, HH770⟩ := Held.vecLit (E := (eSl eInt)) (g := q83) (t := 37) (ps := [(S70, [.slice A68 ((e30.1 ++ (e31.1.drop v)).length) c69], (e30.1 ++ (e31.1.drop v))), (S74, [.slice A72 ((e30.2 ++ (e31.1.drop v)).length) c73], (e30.2 ++ (e31.1.drop v))), (S78, [.slice A76 (((e30.1.take ((((e30.1.length : Int) - (v : Int))).toNat)) ++ e31.2).length) c77], ((e30.1.take ((((e30.1.length : Int) - (v : Int))).toNat)) ++ e31.2))]) HH769 (by unfold maxLen; simp)
                            have HH771 : Held Nob w (rVec (eSl eInt) 37 S88 (some ⟨q83, 0, none⟩) 3 ([(e30.1 ++ (e31.1.drop v)), (e30.2 ++ (e31.1.drop v)), ((e30.1.take ((((e30.1.length : Int) - (v : Int))).toNat)) ++ e31.2)] : List (List Int)) :: [rBlk q84 50 [.slice (some ⟨q83, 0, none⟩) (3) 3], rVec (eSl (eSl eInt)) 50 S_4 A_4 c_4 o]) _ := HH770
                            have HH772 := HH771.vecSo
                            refine st_app1 HE759 HH772 ts_24 [2, 0, 1] (by decide) rfl rfl rfl (by simp [Value.oneCell']) (by unfold maxLen; first | omega | (simp; done) | (simp; omega)) (by first | omega | (simp; done) | (simp; omega)) (wt0 rfl) rfl fun A85 c86 S87 a_773 w' HE774 HH775 => hK762 _ _ ?_
                            refine pl_x HE774 HH775 (wt0 rfl) (x_assign rfl) rfl rfl fun a_776 HE777 => ?_
                            refine wpList_nil ?_
                            clear a_736 HE737 a_743 HE744 a_745 HE746 a_747 HE748 a_749 HE750 HH629 K_751 hK752 a_753 HE754 HH755 K_756 hK757 HH760 HH763 HH764 HH765 HH766 HH767 HH768 HH769 HH770 HH771 a_758 HE759 HH772 a_773 HE774 hK762 K_761
                            refine blk_n ?_
                            refine nrm ?_
                            refine rg ?_
                            refine pl_x HE777 HH775 (wt0 rfl) (x_move rfl) rfl rfl fun a_778 HE779 => ?_
                            refine pl_x HE779 HH775 (wt0 rfl) (x_sub rfl rfl (by exact ⟨by omega, by omega⟩)) rfl rfl fun a_780 HE781 => ?_
                            refine pl_x HE781 HH775 (wt0 rfl) (x_assign rfl) rfl rfl fun a_782 HE783 => ?_
                            refine wpList_nil ?_
                            clear a_776 HE777 a_778 HE779 a_780 HE781
                            have E89 : ((o ++ [([(e30.1 ++ (e31.1.drop v)), (e30.2 ++ (e31.1.drop v)), ((e30.1.take ((((e30.1.length : Int) - (v : Int))).toNat)) ++ e31.2)] : List (List Int))])) = (o ++ [([(e30.1 ++ (e31.1.drop v)), (e30.2 ++ (e31.1.drop v)), ((e30.1.take ((((e30.1.length : Int) - (v : Int))).toNat)) ++ e31.2)] : List (List Int))]) := by
                              first | rfl | simp
                            exact nrm ⟨0 + ((v - 1)), (by omega), (v - 1), (o ++ [([(e30.1 ++ (e31.1.drop v)), (e30.2 ++ (e31.1.drop v)), ((e30.1.take ((((e30.1.length : Int) - (v : Int))).toNat)) ++ e31.2)] : List (List Int))]), A85, c86, S87, rfl, HE783.sub ⟨(by rw [E89]; rfl), (lkI rfl (by first | rfl | omega | (simp [hc22, p25_0, p25_1, hc26, p28_0, p28_1, hc29, xe30, xe31, p34_0, p34_1, p34_2, p34_3, hc35, hc36, hc65, hc79, hc80, hc81, hc82]; done))), rfl, rfl, rfl, rfl, rfl, trivial⟩, ((HH775.sel [0] (by decide) rfl).to (by first | rfl | (rw [E89]; done) | (rw [E89]; rfl) | (simp only [E89]; done) | (simp only [E89]; rfl) | (rw [E89]; simp only [List.length_set]; done))), (by first | omega | assumption | (simp; done) | simp_all), (by first | omega | assumption | (simp; done) | simp_all), (by rw [p34_2]; first | (refine ovl_miss (by omega) ?_; unfold hitO; grind [sharesB]) | (refine ovl_hit (by omega) ?_ triO_of2; unfold hitO; grind [sharesB])), (by first | assumption | (rw [triO_of2]; exact goodO_snoc p34_3 (by rw [hok, decide_eq_true_eq, ← hdn]; omega) (by omega)))⟩
              · refine wp_exit ?_
                refine (thn_exit (thn_exit (blk_hit ?_)))
                refine blk_n ?_
                refine nrm ?_
                refine rg ?_
                refine pl_x HE107 HH103 (wt0 rfl) (x_move rfl) rfl rfl fun a_784 HE785 => ?_
                refine pl_x HE785 HH103 (wt0 rfl) (x_add rfl rfl (by exact ⟨by omega, by omega⟩)) rfl rfl fun a_786 HE787 => ?_
                refine pl_x HE787 HH103 (wt0 rfl) (x_assign rfl) rfl rfl fun a_788 HE789 => ?_
                refine wpList_nil ?_
                clear a_106 HE107 a_784 HE785 a_786 HE787
                have E90 : (allO a0 i ++ rowsO a0 i (j + 1)) = o := by
                  have hq := p34_2; rw [show v = 0 from by omega, ovl, List.append_nil] at hq; rw [rowsO_succ, ← List.append_assoc, hq]
                exact nrm ⟨a0.length - (j + 1), (by omega), j + 1, A_4, c_4, S_4, rfl, HE789.sub ⟨(by rw [E90]; rfl), (lkI rfl (by first | rfl | omega | (simp [hc22, p25_0, p25_1, hc26, p28_0, p28_1, hc29, xe30, xe31, p34_0, p34_1, p34_2, p34_3, hc35]; done))), rfl, rfl, trivial⟩, ((HH103.sel [0] (by decide) rfl).to (by first | rfl | (rw [E90]; done) | (rw [E90]; rfl) | (simp only [E90]; done) | (simp only [E90]; rfl) | (rw [E90]; simp only [List.length_set]; done))), (by first | omega | assumption | (simp; done) | simp_all), (by have hq := p34_2; rw [show v = 0 from by omega, ovl, List.append_nil] at hq; rw [rowsO_succ, ← List.append_assoc, hq]; exact p34_3)⟩
          · refine wp_exit ?_
            refine (thn_exit (thn_exit (blk_hit ?_)))
            refine blk_n ?_
            refine nrm ?_
            refine rg ?_
            refine pl_x HE54 HH46 (wt0 rfl) (x_move rfl) rfl rfl fun a_790 HE791 => ?_
            refine pl_x HE791 HH46 (wt0 rfl) (x_add rfl rfl (by exact ⟨by omega, by omega⟩)) rfl rfl fun a_792 HE793 => ?_
            refine pl_x HE793 HH46 (wt0 rfl) (x_assign rfl) rfl rfl fun a_794 HE795 => ?_
            refine wpList_nil ?_
            clear a_53 HE54 a_790 HE791 a_792 HE793
            have E91 : allO a0 (i + 1) = (allO a0 i ++ rowsO a0 i j) := by
              rw [allO_succ, show j = a0.length from by omega]
            exact nrm ⟨a0.length - (i + 1), (by omega), i + 1, A_4, c_4, S_4, rfl, HE795.sub ⟨(by rw [E91]; rfl), (lkI rfl (by first | rfl | omega | (simp [hc22, p25_0, p25_1, hc26, p28_0, p28_1, hc29]; done))), rfl, trivial⟩, ((HH46.sel [0] (by decide) rfl).to (by first | rfl | (rw [E91]; done) | (rw [E91]; rfl) | (simp only [E91]; done) | (simp only [E91]; rfl) | (rw [E91]; simp only [List.length_set]; done))), (by first | omega | assumption | (simp; done) | simp_all), (by have hq := p28_1; rw [show j = a0.length from by omega] at hq; rw [allO_succ]; exact hq)⟩
      · refine wp_exit ?_
        refine (thn_exit (thn_exit (blk_hit ?_)))
        refine nrm ?_
        refine wp_seq ?_
        refine rg ?_
        refine pl_x HE41 HH33 (wt0 rfl) (x_move rfl) rfl rfl fun a_796 HE797 => ?_
        refine pl_x HE797 HH33 (wt0 rfl) (x_assign rfl) rfl rfl fun a_798 HE799 => ?_
        refine pl_x HE799 HH33 (wt0 rfl) (x_assign rfl) rfl rfl fun a_800 HE801 => ?_
        refine wpList_nil ?_
        clear a_40 HE41 a_796 HE797 a_798 HE799
        refine nrm ?_
        refine wp_ret ?_
        refine ret2 HE801 rfl (rv_tmp rfl) (rv_tmp rfl) ?_
        have hF : (overlapsOf a0) = (allO a0 i, 0) := by
          first | (unfold overlapsOf; rw [if_pos hvr, show a0.length = i from by omega, if_pos p25_1]) | (have hcc := p25_2; rw [ovl_cons (by omega) (by unfold hitO; grind [sharesB])] at hcc; unfold overlapsOf; rw [if_pos hvr, goodO_bad2 (i := i) (j := j) (by omega) (by omega) hcc (by first | (right; omega) | (left; rw [hok, decide_eq_false_iff_not, ← hdn]; omega))]; rfl) | (simp [overlapsOf, hc22, p25_0, p25_1, hc26]; done)
        exact ⟨_, _, _, by first | (rw [hF] <;> rfl) | rfl | (rw [hF]; simp only [Ending.returned.injEq, Value.slice.injEq, true_and, and_true]; first | omega | (simp; done)) | (rw [hF]; simp; omega), by rw [hF]; exact HH33.sel [0] (by decide) rfl⟩

set_option maxHeartbeats 1000000 in
theorem mark_LLL_c (A : Option Addr) (c : Nat) (xs : List (List (List Int))) (k : Int) (w : World) (S : Nat → Prop) (h : So (eSl (eSl eInt)) w S A c xs) (hS : ∀ b, S b → b < w.heap.size) (hk : 0 ≤ k) (hk' : k + (ct_LLL xs : Int) ≤ 1000000000000) :
    Calls Try.prog 14 #[.slice A xs.length c, .int .i64 k] w fun e w' => e = .returned (.int .i64 (k + (ct_LLL xs : Int))) ∧ So (eSl (eSl eInt)) w' S A c (mk_LLL xs k) ∧ Chg S w w' := by
  have hlen := h.sl.len
  have H := Lib.hid h; clear h
  have HS0 := Lib.hid hS; clear hS
  have HC : Hid (ct_LLL xs = cntL ct_LL xs) := rfl
  go_enter Try.func14, Try.ntmps14
  go_wp2
  go_loopw [1, 5] (fun s1 s5 wr => ∃ (i : Nat) (q : Int), i ≤ xs.length ∧ s5 = .int .i64 i ∧ s1 = .int .i64 q ∧ 0 ≤ q ∧ q ≤ 1000000000000 ∧ Hid (q = k + (cntL ct_LL (xs.take i) : Int)) ∧ Hid (So (eSl (eSl eInt)) wr S A c (mkTo mk_LL ct_LL xs k i)) ∧ Hid (Chg S w wr)) (fun _ s5 _ => xs.length - (intOf s5).toNat)
  case atStart => exact ⟨0, k, Nat.zero_le _, rfl, rfl, hk, by omega, by show _ = _; simp [cntL], by show So _ _ _ _ _ _; rw [mkTo_zero]; exact H.out, Chg.refl _ _⟩
  case round =>
    obtain ⟨i, q, hi, rfl, rfl, hq0, hq1, HQ, HS, HG⟩ := hrel
    by_cases hlt : i < xs.length
    · have hltz : (i : Int) < (xs.length : Int) := by omega
      have HQ2 : Hid (q + (ct_LL xs[i] : Int) ≤ 1000000000000 ∧ q + (ct_LL xs[i] : Int) = k + (cntL ct_LL (xs.take (i + 1)) : Int)) := by
        have h1 := cntL_take ct_LL xs i hlt
        have h2 := cntL_le ct_LL xs (i + 1)
        have h4 := HQ.out
        have h5 := HC.out
        refine ⟨?_, ?_⟩ <;> omega
      have hq2 := HQ2.out.1
      have HSW : Hid (∀ b, S b → b < wr.heap.size) := fun b hb => Nat.lt_of_lt_of_le (HS0.out b hb) HG.out.size
      have hlt2 : i < (mkTo mk_LL ct_LL xs k i).length := by rw [mkTo_len]; exact hlt
      obtain ⟨b, off, t, cur, T, es, rfl, hSb, hB, hT, hO, hcells, hre⟩ := HS.out.at2 hlt2
      have hX : (mkTo mk_LL ct_LL xs k i)[i] = xs[i] := Option.some.inj ((List.getElem?_eq_getElem hlt2).symm.trans (mkTo_get mk_LL ct_LL xs k i hlt))
      rw [hX] at hO
      obtain ⟨A', c', rfl, hso⟩ := hO
      have d0 : wr.cell? ⟨b, off + i, none⟩ = some (.slice A' xs[i].length c') := (hB.cell _).trans (by have h1 := hcells 0 _ rfl; rw [show off + i * (eSl (eSl eInt)).size + 0 = off + i from by show off + i * 1 + 0 = _; omega] at h1; exact h1)
      have HM := Lib.hid (mark_LL_c A' c' xs[i] q wr T hso (fun b hb => HSW.out b (hT b hb).1) hq0 hq2)
      have HRE : Hid (∀ w1, So (eSl eInt) w1 T A' c' (mk_LL xs[i] q) → Chg T wr w1 → So (eSl (eSl eInt)) w1 S (some ⟨b, off, none⟩) c (mkTo mk_LL ct_LL xs k (i + 1))) := fun w1 h1 h2 => by
        rw [← mkTo_step mk_LL ct_LL xs k i hlt, ← HQ.out]
        refine hre w1 cur [.slice A' xs[i].length c'] _ ⟨A', c', by rw [show (mk_LL xs[i] q).length = xs[i].length from mkL_len _ _ _ _], h1⟩ ((h2.block b (HSW.out b hSb) (fun hb => (hT b hb).2 rfl)).trans hB) hcells (fun _ _ => rfl) (fun m hm _ hnT => h2.block m (HSW.out m hm) hnT)
      have HTS : Hid (∀ b, T b → S b) := fun b hb => (hT b hb).1
      clear hre hcells hT hX hso hSb hB
      generalize xs[i] = y at d0 HM HRE HQ2 hq2
      go_wp2_with fail
      refine HM.out.mono ?_
      rintro e w1 ⟨rfl, hs1, hc1⟩
      have HS1 := Lib.hid (HRE.out w1 hs1 hc1)
      have HG1 : Hid (Chg S w w1) := HG.out.trans (hc1.mono HTS.out)
      clear hs1 hc1
      go_wp2
      go_roundw
      case rel => exact ⟨i + 1, _, by omega, by go_num, rfl, by omega, by omega, HQ2.out.2, HS1.out, HG1.out⟩
      case measure => simp [intOf]; omega
    · have hltz : ¬ (i : Int) < (xs.length : Int) := by omega
      obtain rfl : i = xs.length := by omega
      have h2 := HQ.out
      rw [List.take_length] at h2
      have h3 := HS.out
      rw [mkTo_end] at h3
      have H2 := Lib.hid h2; have H3 := Lib.hid h3; clear h2 h3
      go_wp2
      go_ret
      exact ⟨ret_int (by rw [H2.out, HC.out]), H3.out, HG.out⟩

set_option maxHeartbeats 1000000 in
theorem held_LLL_c (A : Option Addr) (c : Nat) (xs : List (List (List Int))) (k : Int) (w : World) (h : Sl (eSl (eSl eInt)) w (Old w) A c (mk_LLL xs k)) (hk : 0 ≤ k) (hk' : k + (ct_LLL xs : Int) ≤ 1000000000000) :
    Calls Try.prog 15 #[.slice A xs.length c, .int .i64 k] w fun e w' => e = .returned (.int .i64 (k + (ct_LLL xs : Int))) ∧ Below w.heap.size w w' := by
  have hlen := h.len
  have hL : (mk_LLL xs k).length = xs.length := mkL_len _ _ _ _
  rw [hL] at hlen
  have HLen := Lib.hid hL; clear hL
  have H := Lib.hid h; clear h
  have HC : Hid (ct_LLL xs = cntL ct_LL xs) := rfl
  go_enter Try.func15, Try.ntmps15
  go_wp2
  go_loopw [1, 5] (fun s1 s5 wr => ∃ (i : Nat) (q : Int), i ≤ xs.length ∧ s5 = .int .i64 i ∧ s1 = .int .i64 q ∧ 0 ≤ q ∧ q ≤ 1000000000000 ∧ Hid (q = k + (cntL ct_LL (xs.take i) : Int)) ∧ Hid (Below w.heap.size w wr)) (fun _ s5 _ => xs.length - (intOf s5).toNat)
  case atStart => exact ⟨0, k, Nat.zero_le _, rfl, rfl, hk, by omega, by show _ = _; simp [cntL], Below.refl _ _⟩
  case round =>
    obtain ⟨i, q, hi, rfl, rfl, hq0, hq1, HQ, BW⟩ := hrel
    by_cases hlt : i < xs.length
    · have hltz : (i : Int) < (xs.length : Int) := by omega
      have HQ2 : Hid (q + (ct_LL xs[i] : Int) ≤ 1000000000000 ∧ q + (ct_LL xs[i] : Int) = k + (cntL ct_LL (xs.take (i + 1)) : Int)) := by
        have h1 := cntL_take ct_LL xs i hlt
        have h2 := cntL_le ct_LL xs (i + 1)
        have h4 := HQ.out
        have h5 := HC.out
        refine ⟨?_, ?_⟩ <;> omega
      have hq2 := HQ2.out.1
      have hlt2 : i < (mk_LLL xs k).length := by rw [HLen.out]; exact hlt
      have HE : Hid ((mk_LLL xs k)[i] = mk_LL xs[i] q) := by
        have h1 := mkL_get mk_LL ct_LL xs k i hlt
        rw [← HQ.out] at h1
        exact Option.some.inj ((List.getElem?_eq_getElem hlt2).symm.trans h1)
      obtain ⟨b, off, es, rfl, hb, hR, hc⟩ := H.out.at1 rfl hlt2
      rw [HE.out] at hR
      obtain ⟨A', c', rfl, g⟩ := hR
      have d0 : wr.cell? ⟨b, off + i, none⟩ = some (.slice A' xs[i].length c') := (below_olds BW.out _ hb).trans ((hc _ rfl).trans (by rw [show (mk_LL xs[i] q).length = xs[i].length from mkL_len _ _ _ _]))
      have HH := Lib.hid (held_LL_c A' c' xs[i] q wr (g.on BW.out) hq0 hq2)
      clear hc g
      generalize xs[i] = y at d0 HH HQ2 hq2
      have hneg : ¬ q + (ct_LL y : Int) < 0 := by omega
      go_wp2_with fail
      refine HH.out.mono ?_
      rintro e w1 ⟨rfl, hb1⟩
      have HB1 := Lib.hid (below_trans BW.out hb1); clear hb1
      go_wp2
      go_roundw
      case rel => exact ⟨i + 1, _, by omega, by go_num, rfl, by omega, by omega, HQ2.out.2, HB1.out⟩
      case measure => simp [intOf]; omega
    · have hltz : ¬ (i : Int) < (xs.length : Int) := by omega
      obtain rfl : i = xs.length := by omega
      have h2 := HQ.out
      rw [List.take_length] at h2
      have H2 := Lib.hid h2; clear h2
      go_wp2
      go_ret
      exact ⟨ret_int (by rw [H2.out, HC.out]), BW.out⟩

theorem mark_LLL_h (M : Nat → Prop) (A0 : Option Addr) (c0 : Nat) (a0 : List (List (List Int))) (S0 : Nat → Prop) (a1 : Int) (w : World) (HM : Held M w [rSo (eSl (eSl eInt)) S0 A0 c0 a0] w) (s0 : 0 ≤ a1) (s1 : a1 + (ct_LLL a0 : Int) ≤ 1000000000000) :
    Calls Try.prog 14 #[.slice A0 a0.length c0, .int .i64 a1] w fun e w' => ∃ (S0' : Nat → Prop), e = .returned (.int .i64 (a1 + (ct_LLL a0 : Int))) ∧ Held M w [rSo (eSl (eSl eInt)) S0' A0 c0 (mk_LLL a0 a1)] w' :=
  (mark_LLL_c A0 c0 a0 a1 w S0 (so_of_o (HM.get (i := 0) rfl)) (fun b hb => (HM.rng _ List.mem_cons_self b hb).2) s0 s1).mono fun _ _ ⟨h1, h2, h3⟩ => ⟨S0, h1, HM.mut (i := 0) rfl h3 (rSo (eSl (eSl eInt)) S0 A0 c0 (mk_LLL a0 a1)) (oSl h2) fun _ hb => .inl hb⟩

theorem held_LLL_e (A0 : Option Addr) (c0 : Nat) (a0 : List (List (List Int))) (a1 : Int) (z : List (List (List Int))) (w : World) (h0 : Sl (eSl (eSl eInt)) w (Old w) A0 c0 a0) (sz : a0 = mk_LLL z a1) (s0 : 0 ≤ a1) (s1 : a1 + (ct_LLL z : Int) ≤ 1000000000000) :
    Calls Try.prog 15 #[.slice A0 a0.length c0, .int .i64 a1] w fun e w' => e = .returned (.int .i64 (a1 + (ct_LLL z : Int))) ∧ Below w.heap.size w w' := by
  subst sz
  have h := held_LLL_c A0 c0 z a1 w h0 s0 s1
  rwa [show z.length = (mk_LLL z a1).length from (mkL_len _ _ _ _).symm] at h

end Go.Proofs.Ythfihlfjphiihaa
