/- What the proof of FnExactConfigText needs: contracts of the functions that it reaches, each once. -/
import Derived.Test.YtjnnkmflpbildaaDoorProg
import Derived.Test.YtjnnkmflpbildaaDoorQMem
import Derived.Test.YtjnnkmflpbildaaDoorQOpen
import Derived.Test.YtjnnkmflpbildaaDoorLConfigTexta
import Derived.Test.YtjnnkmflpbildaaDoorLConfigTextb
import Derived.WalkKit
import Derived.WalkSpells
import Derived.Below
import Derived.LoopTactic
import Derived.Outline
import Derived.Deep.QuietTactic
import Derived.BigQuiet
import Derived.Deep.LoopGhost
import Derived.Handy
import Derived.Lib.Hide
import Derived.Shelf.Abstract
import Derived.StillTailTactics
import Derived.OwnWalk
import Derived.Maps.AppendAt
import Derived.RegionTactic
import Derived.Deep.RegionHeld3
import Derived.IntWalk
import Derived.Deep.Upon
import Derived.Laws.OwnMore
import Derived.Maps.AppendAt
import Derived.Laws.BytesString
import Derived.Laws.Strings
import Derived.Lib.Bytes
import Derived.Lib.Strings
import Derived.Lib.FrozenHead
import Derived.Lib.RuneBytes
import Derived.Lib.LaidTab
import Derived.Laws.StructEq
import Derived.Lib.SliceRun
import Derived.Lib.AppendZeros
import Derived.Lib.ItoaLen
import Derived.Lib.Join
import Derived.Shelf.Strconv.Itoa4
import Derived.Shelf.Strings.OnBuilder
import Derived.Shelf.Strings.BuilderK
import Derived.Shelf.Strings.BuilderRune
import Derived.Shelf.LaysM
import Derived.Ground.NamesProg
namespace Go.Proofs.YtjnnkmflpbildaaDoor
open Go.RowKit

set_option maxRecDepth 100000 in
set_option maxHeartbeats 4000000 in
theorem impl_digitsText (A0 : Option Addr) (c0 : Nat) (a0 : (List Int)) (w : World) (h0 : Sl eInt w (Old w) A0 c0 a0) (s0 : ∀ x ∈ a0, 0 ≤ x ∧ x ≤ 9) (s1 : a0.length ≤ 1000000) :
    Calls Tryd.prog 93 #[.slice A0 a0.length c0] w fun e w' => e = .returned (.string (bs (digT a0))) ∧ Below w.heap.size w w' := by
  have l0 := h0.len
  have HH1 := Held.start Nob w
  refine enter (n := 18) Tryd.func93 rfl rfl rfl fun a_2 HE3 => ?_
  refine wp_seq ?_
  refine rg ?_
  refine pl_x HE3 HH1 (wt0 rfl) (x_assign rfl) rfl rfl fun a_4 HE5 => ?_
  refine wpList_nil ?_
  clear a_2 HE3
  refine nrm ?_
  refine wp_seq ?_
  refine rg ?_
  refine pl fun K_6 hK7 => ?_
  refine st_alloc HE5 HH1 tv_161 (wt0 rfl) rfl fun q21 a_8 w' HE9 HH10 => hK7 _ _ ?_
  refine wpList_nil ?_
  clear a_4 HE5 HH1 hK7 K_6
  refine nrm ?_
  refine wp_seq ?_
  refine wp_seq ?_
  refine rg ?_
  refine pl_x HE9 HH10 (wt0 rfl) (x_move rfl) rfl rfl fun a_11 HE12 => ?_
  refine pl_x HE12 HH10 (wt0 rfl) (x_len Tryd.underlying51 rfl) rfl rfl fun a_13 HE14 => ?_
  refine pl_x HE14 HH10 (wt0 rfl) (x_move rfl) rfl rfl fun a_15 HE16 => ?_
  refine wpList_nil ?_
  clear a_8 HE9 a_11 HE12 a_13 HE14
  refine nrm ?_
  refine wp_block ?_
  obtain ⟨Sr22, HH17⟩ := HH10.toBld (e := eBldT)
  have HH18 : Held Nob w [rBld w q21 Sr22 []] _ := HH17
  refine lp (fun m a w' => ∃ (k : Nat) (S_b3 : Nat → Prop), m = a0.length - k ∧ Env 18 [(8, .int .i64 (k : Int)), (3, .pointer (some ⟨q21, 0, none⟩)), (6, .slice A0 (a0.length) c0), (7, .int .i64 ((a0.length : Int)))] a ∧ Held Nob w [rBld w q21 S_b3 (digT (a0.take k))] w' ∧ (k ≤ a0.length)) (a0.length - (0)) ?_ ?_
  · have E23 : digT (a0.take 0) = [] := by
      first | rfl | simp
    exact ⟨0, Sr22, rfl, HE16.sub ⟨(lkI rfl (by first | rfl | omega | (simp []; done))), rfl, rfl, rfl, trivial⟩, ((HH18.sel [0] (by decide) rfl).to (by first | rfl | (rw [E23]; done) | (rw [E23]; rfl) | (simp only [E23]; done) | (simp only [E23]; rfl))), (by first | omega | assumption | (simp; done) | simp_all)⟩
  · rintro m a_19 w' ⟨k, S_b3, rfl, HE20, HH21, p24_0⟩
    have ol : (digT (a0.take k)).length ≤ 1000000 := by rw [digT_len, List.length_take]; omega
    refine wp_seq ?_
    refine rg ?_
    refine pl_x HE20 HH21 (wt0 rfl) (x_lss rfl rfl) rfl rfl fun a_22 HE23 => ?_
    refine wpList_nil ?_
    clear HH10 HH17 a_15 HE16 HH18 a_19 HE20
    refine nrm ?_
    refine wp_seq ?_
    refine cnd_d HE23 rfl (fun hc25 => ?_) (fun hc25 => ?_)
    · refine wp_skip ?_
      refine nrm ?_
      refine wp_seq ?_
      refine wp_block ?_
      refine wp_seq ?_
      refine rg ?_
      have ke26 : k < a0.length := by omega
      obtain ⟨be26, fe26, ese26, Ae26, Re26, De26⟩ := el_old h0 ke26
      obtain ⟨e26, xe26⟩ : ∃ x_, x_ = a0[k] := ⟨_, rfl⟩
      rw [← xe26] at Re26
      have Qe26 := Re26
      obtain ⟨rfl, ie26⟩ := Re26
      have je26 := ie26; unfold I64 at je26
      have be26 := s0 e26 (by rw [xe26]; exact List.getElem_mem _)
      refine pl_x HE23 HH21 (wt0 rfl) (x_indexAddr ts_51 rfl rfl Ae26 rfl ke26) rfl rfl fun a_24 HE25 => ?_
      refine pl_x HE25 HH21 (wt0 rfl) (x_load1 tv_2 rfl (c_old (De26 0 _ rfl))) rfl rfl fun a_26 HE27 => ?_
      refine pl_x HE27 HH21 (wt0 rfl) (x_assign rfl) rfl rfl fun a_28 HE29 => ?_
      refine wpList_nil ?_
      clear a_22 HE23 a_24 HE25 a_26 HE27
      refine nrm ?_
      refine rg ?_
      refine pl_x HE29 HH21 (wt0 rfl) (x_move rfl) rfl rfl fun a_30 HE31 => ?_
      refine pl_x HE31 HH21 (wt0 rfl) (x_conv32 Tryd.underlying2 Tryd.underlying21 rfl (by constructor <;> omega)) rfl rfl fun a_32 HE33 => ?_
      refine pl_x HE33 HH21 (wt0 rfl) (x_add32 rfl rfl (by constructor <;> omega)) rfl rfl fun a_34 HE35 => ?_
      refine pl fun K_36 hK37 => ?_
      refine st_call HE35 (wt0 rfl) rfl rfl rfl en_134 rfl rfl (Builder_WriteRune (48 + e26) HH21 (by constructor <;> omega) (by first | omega | (simp only [List.length_append, List.length_cons, List.length_nil]; omega) | (simp; omega))) fun e w' hr => ?_
      obtain ⟨⟨_, rfl⟩, Sr27_, HH21⟩ := hr
      refine ⟨_, rfl, fun a_38 HE39 => hK37 _ _ ?_⟩
      refine wpList_nil ?_
      clear a_28 HE29 a_30 HE31 a_32 HE33 a_34 HE35 hK37 K_36
      refine blk_n ?_
      refine nrm ?_
      refine rg ?_
      refine pl_x HE39 HH21 (wt0 rfl) (x_add rfl rfl (by exact ⟨by omega, by omega⟩)) rfl rfl fun a_40 HE41 => ?_
      refine pl_x HE41 HH21 (wt0 rfl) (x_move rfl) rfl rfl fun a_42 HE43 => ?_
      refine wpList_nil ?_
      clear a_38 HE39 a_40 HE41
      have E28 : digT (a0.take (k + 1)) = (digT (a0.take k) ++ [UInt8.ofNat (48 + e26).toNat]) := by
        unfold digT; rw [List.take_succ_eq_append_getElem (by omega), List.map_append, ← xe26]; rfl
      exact nrm ⟨a0.length - (k + 1), (by omega), k + 1, Sr27_, rfl, HE43.sub ⟨(lkI rfl (by first | rfl | omega | (simp [p24_0, hc25, xe26]; done))), rfl, rfl, rfl, trivial⟩, ((HH21.sel [0] (by decide) rfl).to (by first | rfl | (rw [E28]; done) | (rw [E28]; rfl) | (simp only [E28]; done) | (simp only [E28]; rfl))), (by first | omega | assumption | (simp; done) | simp_all)⟩
    · refine wp_exit ?_
      refine (thn_exit (thn_exit (blk_hit ?_)))
      refine nrm ?_
      refine wp_seq ?_
      refine rg ?_
      refine pl fun K_44 hK45 => ?_
      refine st_call HE23 (wt0 rfl) rfl rfl rfl en_111 rfl rfl (Builder_String HH21 (by first | omega | (simp only [List.length_append, List.length_cons, List.length_nil]; omega) | (simp; omega))) fun e w' hr => ?_
      obtain ⟨rfl, Sr29_, HH46⟩ := hr
      refine ⟨_, rfl, fun a_47 HE48 => hK45 _ _ ?_⟩
      refine pl_x HE48 HH46 (wt0 rfl) (x_assign rfl) rfl rfl fun a_49 HE50 => ?_
      refine wpList_nil ?_
      clear HH21 a_22 HE23 a_47 HE48 hK45 K_44
      refine nrm ?_
      refine wp_ret ?_
      refine ret1 HE50 rfl (rv_tmp rfl) ?_
      have hF : (digT a0) = digT (a0.take k) := by
        rw [List.take_of_length_le (by omega)]
      exact ⟨by first | (rw [hF] <;> rfl) | rfl | (rw [hF]; simp only [Ending.returned.injEq, Value.slice.injEq, true_and, and_true]; first | omega | (simp; done)) | (rw [hF]; simp; omega), HH46.below⟩

set_option maxRecDepth 100000 in
set_option maxHeartbeats 4000000 in
theorem spec_l03Text (A0 : Option Addr) (c0 : Nat) (a0 : (List Int)) (w : World) (h0 : Sl eInt w (Old w) A0 c0 a0) (s0 : ∀ x ∈ a0, 0 ≤ x ∧ x ≤ 9) (s1 : a0.length ≤ 1000000) :
    Calls Tryd.prog 158 #[.slice A0 a0.length c0] w fun e w' => e = .returned (.string (bs (wordT a0))) ∧ Below w.heap.size w w' := by
  have l0 := h0.len
  have HH1 := Held.start Nob w
  refine enter (n := 26) Tryd.func158 rfl rfl rfl fun a_2 HE3 => ?_
  refine wp_seq ?_
  refine rg ?_
  refine pl_x HE3 HH1 (wt0 rfl) (x_assign rfl) rfl rfl fun a_4 HE5 => ?_
  refine wpList_nil ?_
  clear a_2 HE3
  refine nrm ?_
  refine wp_seq ?_
  refine wp_seq ?_
  refine rg ?_
  refine pl_x HE5 HH1 (wt0 rfl) (x_move rfl) rfl rfl fun a_6 HE7 => ?_
  refine pl_x HE7 HH1 (wt0 rfl) (x_len Tryd.underlying51 rfl) rfl rfl fun a_8 HE9 => ?_
  refine pl_x HE9 HH1 (wt0 rfl) (x_eql rfl rfl) rfl rfl fun a_10 HE11 => ?_
  refine wpList_nil ?_
  clear a_4 HE5 a_6 HE7 a_8 HE9
  refine nrm ?_
  refine cnd_e HE11 rfl (fun hc21 => ?_) (fun hc21 => ?_)
  · refine wp_seq ?_
    refine rg ?_
    refine pl_x HE11 HH1 (wt0 rfl) (x_assign rfl) rfl rfl fun a_12 HE13 => ?_
    refine wpList_nil ?_
    clear a_10 HE11
    refine nrm ?_
    refine wp_ret ?_
    refine (thn_ret ?_)
    refine ret1 HE13 rfl (rv_tmp rfl) ?_
    have hF : (wordT a0) = [45] := by
      unfold wordT; first | (rw [if_pos (eq_nil (by omega))]; done) | (rw [if_neg (ne_nil (by omega)), List.take_of_length_le (by omega), digT_of])
    exact ⟨by first | (rw [hF] <;> rfl) | rfl | (rw [hF]; simp only [Ending.returned.injEq, Value.slice.injEq, true_and, and_true]; first | omega | (simp; done)) | (rw [hF]; simp; omega), HH1.below⟩
  · refine wp_skip ?_
    refine nrm ?_
    refine wp_seq ?_
    refine rg ?_
    refine pl fun K_14 hK15 => ?_
    refine st_lit (m := 0) (cs := []) (e := 5) HE11 HH1 (run_lit ts_159 HE11 (vs := []) rfl rfl (by simp [Value.cells]) rfl (by decide)) (wt0 rfl) rfl rfl fun q22 a_16 w' HE17 HH18 => hK15 _ _ ?_
    refine pl_x HE17 HH18 (wt0 rfl) (x_assign rfl) rfl rfl fun a_19 HE20 => ?_
    refine wpList_nil ?_
    clear a_10 HE11 HH1 a_16 HE17 hK15 K_14
    refine nrm ?_
    refine wp_seq ?_
    refine wp_seq ?_
    refine rg ?_
    refine pl_x HE20 HH18 (wt0 rfl) (x_assign rfl) rfl rfl fun a_21 HE22 => ?_
    refine wpList_nil ?_
    clear a_19 HE20
    refine nrm ?_
    refine wp_block ?_
    have HH23 := Held.vecFlat (E := eByte) (xs := []) (css := []) HH18 rfl (Nat.zero_le _) (fun i x hx => by simp at hx)
    refine lp (fun m a w' => ∃ (k : Nat) (A_3 : Option Addr) (c_3 : Nat) (S_3 : Nat → Prop), m = a0.length - k ∧ Env 26 [(3, .slice A_3 (List.length ((a0.take k).map digI)) c_3), (4, .int .i64 (k : Int)), (0, .slice A0 (a0.length) c0)] a ∧ Held Nob w [rVec eByte 5 S_3 A_3 c_3 ((a0.take k).map digI)] w' ∧ (k ≤ a0.length)) (a0.length - (0)) ?_ ?_
    · have E23 : (a0.take 0).map digI = ([] : List Int) := by
        first | rfl | simp
      exact ⟨0, (some ⟨q22, 0, none⟩), (List.length (α := Int) []), (fun b => b = q22), rfl, HE22.sub ⟨(by rw [E23]; rfl), (lkI rfl (by first | rfl | omega | (simp [hc21]; done))), rfl, trivial⟩, ((HH23.sel [0] (by decide) rfl).to (by first | rfl | (rw [E23]; done) | (rw [E23]; rfl) | (simp only [E23]; done) | (simp only [E23]; rfl))), (by first | omega | assumption | (simp; done) | simp_all)⟩
    · rintro m a_24 w' ⟨k, A_3, c_3, S_3, rfl, HE25, HH26, p24_0⟩
      have ol : ((a0.take k).map digI).length ≤ 1000000 := by rw [List.length_map, List.length_take]; omega
      refine wp_seq ?_
      refine wp_seq ?_
      refine rg ?_
      refine pl_x HE25 HH26 (wt0 rfl) (x_move rfl) rfl rfl fun a_27 HE28 => ?_
      refine pl_x HE28 HH26 (wt0 rfl) (x_move rfl) rfl rfl fun a_29 HE30 => ?_
      refine pl_x HE30 HH26 (wt0 rfl) (x_len Tryd.underlying51 rfl) rfl rfl fun a_31 HE32 => ?_
      refine pl_x HE32 HH26 (wt0 rfl) (x_lss rfl rfl) rfl rfl fun a_33 HE34 => ?_
      refine wpList_nil ?_
      clear HH18 a_21 HE22 HH23 a_24 HE25 a_27 HE28 a_29 HE30 a_31 HE32
      refine nrm ?_
      refine cnd_d HE34 rfl (fun hc25 => ?_) (fun hc25 => ?_)
      · refine wp_skip ?_
        refine nrm ?_
        refine wp_seq ?_
        refine wp_block ?_
        refine rg ?_
        refine pl_x HE34 HH26 (wt0 rfl) (x_move rfl) rfl rfl fun a_35 HE36 => ?_
        refine pl_x HE36 HH26 (wt0 rfl) (x_move rfl) rfl rfl fun a_37 HE38 => ?_
        refine pl_x HE38 HH26 (wt0 rfl) (x_move rfl) rfl rfl fun a_39 HE40 => ?_
        have ke26 : k < a0.length := by omega
        obtain ⟨be26, fe26, ese26, Ae26, Re26, De26⟩ := el_old h0 ke26
        obtain ⟨e26, xe26⟩ : ∃ x_, x_ = a0[k] := ⟨_, rfl⟩
        rw [← xe26] at Re26
        have Qe26 := Re26
        obtain ⟨rfl, ie26⟩ := Re26
        have je26 := ie26; unfold I64 at je26
        have be26 := s0 e26 (by rw [xe26]; exact List.getElem_mem _)
        refine pl_x HE40 HH26 (wt0 rfl) (x_indexAddr ts_51 rfl rfl Ae26 rfl ke26) rfl rfl fun a_41 HE42 => ?_
        refine pl_x HE42 HH26 (wt0 rfl) (x_load1 tv_2 rfl (c_old (De26 0 _ rfl))) rfl rfl fun a_43 HE44 => ?_
        refine pl_x HE44 HH26 (wt0 rfl) (x_add rfl rfl (by exact ⟨by omega, by omega⟩)) rfl rfl fun a_45 HE46 => ?_
        refine pl_x HE46 HH26 (wt0 rfl) (x_conv8 Tryd.underlying2 Tryd.underlying5 rfl (by constructor <;> omega)) rfl rfl fun a_47 HE48 => ?_
        refine pl fun K_49 hK50 => ?_
        refine st_lit (m := 1) (cs := [.int .u8 ((48 + e26))]) (e := 5) HE48 HH26 (run_lit ts_159 HE48 (vs := [.int .u8 ((48 + e26))]) rfl rfl (by simp [Value.cells]) rfl (by decide)) (wt0 rfl) rfl rfl fun q27 a_51 w' HE52 HH53 => hK50 _ _ ?_
        refine pl fun K_54 hK55 => ?_
        refine st_app1F (48 + e26) HE52 HH53 ts_159 [1, 0] (by decide) rfl (fun _ => (oY (by constructor <;> omega))) rfl rfl (by simp [Value.oneCell']) (by unfold maxLen; first | omega | (simp; done) | (simp; omega)) (by first | omega | (simp; done) | (simp; omega)) (wt0 rfl) rfl fun A28 c29 S30 a_56 w' HE57 HH58 => hK55 _ _ ?_
        refine pl_x HE57 HH58 (wt0 rfl) (x_assign rfl) rfl rfl fun a_59 HE60 => ?_
        refine wpList_nil ?_
        clear a_33 HE34 a_35 HE36 a_37 HE38 a_39 HE40 a_41 HE42 a_43 HE44 a_45 HE46 a_47 HE48 HH26 K_49 hK50 a_51 HE52 HH53 a_56 HE57 hK55 K_54
        refine blk_n ?_
        refine nrm ?_
        refine rg ?_
        refine pl_x HE60 HH58 (wt0 rfl) (x_move rfl) rfl rfl fun a_61 HE62 => ?_
        refine pl_x HE62 HH58 (wt0 rfl) (x_add rfl rfl (by exact ⟨by omega, by omega⟩)) rfl rfl fun a_63 HE64 => ?_
        refine pl_x HE64 HH58 (wt0 rfl) (x_assign rfl) rfl rfl fun a_65 HE66 => ?_
        refine wpList_nil ?_
        clear a_59 HE60 a_61 HE62 a_63 HE64
        have E31 : (a0.take (k + 1)).map digI = ((a0.take k).map digI ++ [(48 + e26)]) := by
          rw [List.take_succ_eq_append_getElem (by omega), List.map_append, ← xe26]; rfl
        exact nrm ⟨a0.length - (k + 1), (by omega), k + 1, A28, c29, S30, rfl, HE66.sub ⟨(by rw [E31]; rfl), (lkI rfl (by first | rfl | omega | (simp [hc21, p24_0, hc25, xe26]; done))), rfl, trivial⟩, ((HH58.sel [0] (by decide) rfl).to (by first | rfl | (rw [E31]; done) | (rw [E31]; rfl) | (simp only [E31]; done) | (simp only [E31]; rfl))), (by first | omega | assumption | (simp; done) | simp_all)⟩
      · refine wp_exit ?_
        refine (thn_exit (thn_exit (blk_hit ?_)))
        refine nrm ?_
        refine wp_seq ?_
        refine rg ?_
        refine pl_x HE34 HH26 (wt0 rfl) (x_move rfl) rfl rfl fun a_67 HE68 => ?_
        refine pl_x HE68 HH26 (wt0 rfl) (x_bytes (xs := (a0.take k).map digI) Tryd.underlying159 Tryd.underlying5 Tryd.underlying9 rfl (fun _ h_ => (h_.vecSl (i := 0) rfl))) rfl rfl fun a_69 HE70 => ?_
        refine pl_x HE70 HH26 (wt0 rfl) (x_assign rfl) rfl rfl fun a_71 HE72 => ?_
        refine wpList_nil ?_
        clear a_33 HE34 a_67 HE68 a_69 HE70
        refine nrm ?_
        refine wp_ret ?_
        refine ret1 HE72 rfl (rv_tmp rfl) ?_
        have hF : (wordT a0) = (Go.Lib.bytesOf ((a0.take k).map digI)) := by
          unfold wordT; first | (rw [if_pos (eq_nil (by omega))]; done) | (rw [if_neg (ne_nil (by omega)), List.take_of_length_le (by omega), digT_of])
        exact ⟨by first | (rw [hF] <;> rfl) | rfl | (rw [hF]; simp only [Ending.returned.injEq, Value.slice.injEq, true_and, and_true]; first | omega | (simp; done)) | (rw [hF]; simp; omega), HH26.below⟩

theorem eqg_Rule : Tryd.prog.eqGuardType Tryd.prog.depth 179 = false := by kernel_rfl

theorem eqr_Rule (w : World) (a b c a' b' c' : Int) : (Op.equalIn 10000 179 (.agg #[.int .i64 a, .int .i64 b, .int .i64 c]) (.agg #[.int .i64 a', .int .i64 b', .int .i64 c'])).run Tryd.prog w = .ok ((a == a') && ((b == b') && (c == c'))) w := by
  have hS : Tryd.prog.underlying 179 = some (.struct (Tryd.prog.fieldsOf 179)) := by kernel_rfl
  have hp : Tryd.prog.stoodInHeld 179 = false := by kernel_rfl
  have h2 : Tryd.prog.underlying 2 = some (.int .i64) := Tryd.underlying2
  rw [run_equalIn_struct w 9999 179 _ _ hS hp]
  simp only [Program.fieldsOf, Tryd.underlying179]
  simp [Op.eqFields, part, Sem.run_bind, run_equalIn_int, h2]
  by_cases h1 : a = a' <;> by_cases h3 : b = b' <;> by_cases h4 : c = c' <;> simp [h1, h3, h4]

def noRl : tRule := (0, 0, -1)

def isRl (r : tRule) : Bool := !((r.1 == noRl.1) && ((r.2.1 == noRl.2.1) && (r.2.2 == noRl.2.2)))

def ruleB (m1 m2 : Int) (r : tRule) : Bool := if isRl r = true then withinB r.1 0 (m1 - 1) && ((r.2.1 == -1) || (r.2.1 == 1)) && withinB r.2.2 0 (m2 - 1) else true

def validMach (m : tMachine) : Bool := withinB m.1 2 6 && withinB m.2.1 1 1000 && ((m.2.2.length : Int) == m.2.1 * m.1) && !m.2.2.any (fun r => !ruleB m.1 m.2.1 r)

theorem mul_bd2 {a b : Int} (h1 : 2 ≤ a ∧ a ≤ 6) (h2 : 1 ≤ b ∧ b ≤ 1000) : (0 ≤ b * a ∧ b * a ≤ 6000) ∧ a * b = b * a := by
  refine ⟨⟨Int.mul_nonneg (by omega) (by omega), ?_⟩, Int.mul_comm _ _⟩
  have := Int.mul_le_mul h2.2 h1.2 (by omega) (by omega)
  omega

def goodCfg (m : tMachine) (c : tConfig) : Bool := withinB c.1 0 (m.2.1 - 1) && sideB c.2.1 m.1 200 && sideB c.2.2 m.1 200

def validCfg (m : tMachine) (c : tConfig) : Bool := validMach m && goodCfg m c

def confT (c : tConfig) : List UInt8 := digT c.2.1.reverse ++ [40] ++ Go.Lib.itoa c.1 ++ [41] ++ digT c.2.2

def confText (m : tMachine) (c : tConfig) : List UInt8 := if validCfg m c = true then confT c else []

theorem validMach_facts {m : tMachine} (h : validMach m = true) : (2 ≤ m.1 ∧ m.1 ≤ 6) ∧ (1 ≤ m.2.1 ∧ m.2.1 ≤ 1000) ∧ (m.2.2.length : Int) = m.2.1 * m.1 ∧ m.2.2.length ≤ 6000 := by
  unfold validMach at h
  simp only [Bool.and_eq_true, beq_iff_eq] at h
  have h1 := withinB_true.1 h.1.1.1
  have h2 := withinB_true.1 h.1.1.2
  have h3 := mul_bd2 h1 h2
  exact ⟨h1, h2, h.1.2, by have := h.1.2; omega⟩

theorem sideB_facts {xs : List Int} {s most : Int} (h : sideB xs s most = true) : (xs.length : Int) ≤ most ∧ ∀ x ∈ xs, 0 ≤ x ∧ x ≤ s - 1 := by
  unfold sideB at h
  simp only [Bool.and_eq_true, decide_eq_true_eq] at h
  exact ⟨h.1.1, allW_mem h.1.2⟩

theorem validCfg_facts {m : tMachine} {c : tConfig} (h : validCfg m c = true) : (0 ≤ c.1 ∧ c.1 ≤ 999) ∧ (c.2.1.length ≤ 200 ∧ ∀ x ∈ c.2.1, 0 ≤ x ∧ x ≤ 9) ∧ c.2.2.length ≤ 200 ∧ ∀ x ∈ c.2.2, 0 ≤ x ∧ x ≤ 9 := by
  unfold validCfg goodCfg at h
  simp only [Bool.and_eq_true] at h
  obtain ⟨h1, h2, _⟩ := validMach_facts h.1
  have h3 := withinB_true.1 h.2.1.1
  have h4 := sideB_facts h.2.1.2
  have h5 := sideB_facts h.2.2
  exact ⟨by omega, ⟨by omega, fun x hx => by have := h4.2 x hx; omega⟩, by omega, fun x hx => by have := h5.2 x hx; omega⟩

theorem rev_facts {xs : List Int} {n : Nat} (h : xs.length ≤ n ∧ ∀ x ∈ xs, 0 ≤ x ∧ x ≤ 9) : xs.reverse.length ≤ n ∧ ∀ x ∈ xs.reverse, 0 ≤ x ∧ x ≤ 9 := ⟨by rw [List.length_reverse]; exact h.1, fun x hx => h.2 x (List.mem_reverse.1 hx)⟩

set_option maxRecDepth 100000 in
set_option maxHeartbeats 4000000 in
theorem impl_noRule  (w : World)  :
    Calls Tryd.prog 184 #[] w fun e w' => ∃ (es0' : List Value), e = .returned (.agg es0'.toArray) ∧ eRule.O w' (Fr w w') es0' noRl ∧ Below w.heap.size w w' := by
  have HH1 := Held.start Nob w
  refine enter (n := 2) Tryd.func184 rfl rfl rfl fun a_2 HE3 => ?_
  refine wp_seq ?_
  refine rg ?_
  refine pl fun K_4 hK5 => ?_
  refine st_alloc HE3 HH1 tv_179 (wt0 rfl) rfl fun q21 a_6 w' HE7 HH8 => hK5 _ _ ?_
  refine wpList_nil ?_
  clear a_2 HE3 HH1 hK5 K_4
  refine nrm ?_
  refine wp_seq ?_
  refine rg ?_
  refine pl_x HE7 HH8 (wt0 rfl) (show XS _ _ _ _ (.agg #[.int .i64 (0), .int .i64 (0), .int .i64 (-1)]) from x_build (vs := [(2, .int .i64 (-1))]) tb_179 rfl (by simp [Value.oneCell'])) rfl rfl fun a_9 HE10 => ?_
  refine pl fun K_11 hK12 => ?_
  refine st_store (vs := [.int .i64 (0), .int .i64 (0), .int .i64 (-1)]) 0 HE10 HH8 tv_179 rfl rfl rfl rfl rfl rfl (by simp [Value.oneCell']) (wt0 rfl) fun w' HH13 => hK12 _ _ ?_
  refine wpList_nil ?_
  clear a_6 HE7 HH8 hK12 K_11
  refine nrm ?_
  refine wp_ret ?_
  refine ret1 HE10 rfl (rv_cell rfl (tv_179.loadN (cs := [.int .i64 (0), .int .i64 (0), .int .i64 (-1)]) rfl (c_blkN 0 rfl _ HH13))) ?_
  have HH14 := HH13.flatO (E := eRule) (cs := [.int .i64 (0), .int .i64 (0), .int .i64 (-1)]) (x := (0, 0, -1)) (fun _ => (oPrN (oI (by exact ⟨by omega, by omega⟩)) (oPrN (oI (by exact ⟨by omega, by omega⟩)) (oI (by exact ⟨by omega, by omega⟩)))))
  have hF : noRl = (0, 0, -1) := by
    rfl
  exact ⟨_, rfl, by rw [hF]; exact (HH14.o (i := 0) rfl), HH14.below⟩

set_option maxRecDepth 100000 in
set_option maxHeartbeats 4000000 in
theorem impl_isRule (es0 : List Value) (a0 : tRule) (w : World) (h0 : eRule.R w (Old w) es0 a0) :
    Calls Tryd.prog 176 #[.agg es0.toArray] w fun e w' => e = .returned (.bool (isRl a0)) ∧ Below w.heap.size w w' := by
  have H0 := h0
  obtain ⟨rfl, gz0_0, gz0_1, gz0_2⟩ := shape_Rule h0
  have jz0_0 := gz0_0; unfold I64 at jz0_0
  have jz0_1 := gz0_1; unfold I64 at jz0_1
  have jz0_2 := gz0_2; unfold I64 at jz0_2
  have HH1 := Held.start Nob w
  refine enter (n := 6) Tryd.func176 rfl rfl rfl fun a_2 HE3 => ?_
  refine wp_seq ?_
  refine rg ?_
  refine pl fun K_4 hK5 => ?_
  refine st_box (cs := [.int .i64 (a0.1), .int .i64 (a0.2.1), .int .i64 (a0.2.2)]) HE3 HH1 rfl rfl (wt0 rfl) rfl fun q21 a_6 w' HE7 HH8 => hK5 _ _ ?_
  refine pl_x HE7 HH8 (wt0 rfl) (x_assign rfl) rfl rfl fun a_9 HE10 => ?_
  refine wpList_nil ?_
  clear a_2 HE3 HH1 a_6 HE7 hK5 K_4
  refine nrm ?_
  refine wp_seq ?_
  refine dr_start (Held Nob w [rBlk q21 179 [.int .i64 (a0.1), .int .i64 (a0.2.1), .int .i64 (a0.2.2)]]) 4 #[false, false, false, false] hmix rfl rfl HH8 (fun _ h => h.sel [0] (by decide) rfl) fun w' HH11 => ?_
  have HS12 := HH11
  refine dr_take (i := 0) (ls' := #[true, false, false, false]) HE10 HS12 rfl (by kernel_rfl) (by kernel_rfl) (by kernel_rfl) (fun _ _ _ h => h) rfl (wt0 rfl) (x_loadN (cs := [.int .i64 (a0.1), .int .i64 (a0.2.1), .int .i64 (a0.2.2)]) tv_179 rfl rfl (c_blkN 0 rfl)) rfl rfl fun a_13 HE14 => ?_
  refine dr_one (i := 1) (ls' := #[true, true, false, false]) rfl (by kernel_rfl) rfl fun K_15 hK16 => ?_
  refine st_call HE14 (wt0 rfl) rfl rfl rfl en_184 rfl rfl (impl_noRule  _ ) fun e w' hr => ?_
  obtain ⟨esr22_0, rfl, hor22_0, hbr22⟩ := hr
  have hr := eRule.read hor22_0
  obtain ⟨Sr22, HH17⟩ := HH11.newO hbr22 hor22_0
  obtain ⟨rfl, gr22_0_0, gr22_0_1, gr22_0_2⟩ := shape_Rule hr
  have jr22_0_0 := gr22_0_0; unfold I64 at jr22_0_0
  have jr22_0_1 := gr22_0_1; unfold I64 at jr22_0_1
  have jr22_0_2 := gr22_0_2; unfold I64 at jr22_0_2
  have HH18 := HH17.sel [1] (by decide) rfl
  refine ⟨_, rfl, fun a_19 HE20 => hK16 _ _ (by exact HH18.sel [0] (by decide) rfl) ?_⟩
  have HS21 := HH18.sel [0] (by decide) rfl
  refine dr_take (i := 2) (ls' := #[true, true, true, false]) HE20 HS21 rfl (by kernel_rfl) (by kernel_rfl) (by kernel_rfl) (fun _ _ _ h => h) rfl (wt0 rfl) (x_aneq eqg_Rule (fun w => eqr_Rule w _ _ _ _ _ _) rfl rfl) rfl rfl fun a_22 HE23 => ?_
  refine dr_take (i := 3) (ls' := #[true, true, true, true]) HE23 HS21 rfl (by kernel_rfl) (by kernel_rfl) (by kernel_rfl) (fun _ _ _ h => h) rfl (wt0 rfl) (x_assign rfl) rfl rfl fun a_24 HE25 => ?_
  refine dr_done (by kernel_rfl) ?_
  clear HH8 a_9 HE10 HH11 HH17 a_13 HE14 HS12 a_19 HE20 a_22 HE23 hK16 K_15
  refine nrm ?_
  refine wp_ret ?_
  refine ret1 HE25 rfl (rv_tmp rfl) ?_
  have hF : (isRl a0) = !(a0.1 == noRl.1 && (a0.2.1 == noRl.2.1 && (a0.2.2 == noRl.2.2))) := by
    rfl
  exact ⟨by first | (rw [hF] <;> rfl) | rfl | (rw [hF]; simp only [Ending.returned.injEq, Value.slice.injEq, true_and, and_true]; first | omega | (simp; done)) | (rw [hF]; simp; omega), HH18.below⟩

set_option maxRecDepth 100000 in
set_option maxHeartbeats 4000000 in
theorem impl_validRule (es0 : List Value) (a0 : tMachine) (es1 : List Value) (a1 : tRule) (w : World) (h0 : eMachine.R w (Old w) es0 a0) (h1 : eRule.R w (Old w) es1 a1) (s0 : 2 ≤ a0.1 ∧ a0.1 ≤ 6) (s1 : 1 ≤ a0.2.1 ∧ a0.2.1 ≤ 1000) :
    Calls Tryd.prog 162 #[.agg es0.toArray, .agg es1.toArray] w fun e w' => e = .returned (.bool ((fun m r => ruleB m.1 m.2.1 r) a0 a1)) ∧ Below w.heap.size w w' := by
  have H0 := h0
  obtain ⟨Az0_2, cz0_2, rfl, gz0_0, gz0_1, gz0_2⟩ := shape_Machine h0
  have jz0_0 := gz0_0; unfold I64 at jz0_0
  have jz0_1 := gz0_1; unfold I64 at jz0_1
  have lz0_2 := gz0_2.len
  have H1 := h1
  obtain ⟨rfl, gz1_0, gz1_1, gz1_2⟩ := shape_Rule h1
  have jz1_0 := gz1_0; unfold I64 at jz1_0
  have jz1_1 := gz1_1; unfold I64 at jz1_1
  have jz1_2 := gz1_2; unfold I64 at jz1_2
  have HH1 := Held.start Nob w
  refine enter (n := 32) Tryd.func162 rfl rfl rfl fun a_2 HE3 => ?_
  refine wp_seq ?_
  refine rg ?_
  refine pl fun K_4 hK5 => ?_
  refine st_box (cs := [.int .i64 (a0.1), .int .i64 (a0.2.1), .slice Az0_2 (a0.2.2.length) cz0_2]) HE3 HH1 rfl rfl (wt0 rfl) rfl fun q21 a_6 w' HE7 HH8 => hK5 _ _ ?_
  refine pl fun K_9 hK10 => ?_
  refine st_box (cs := [.int .i64 (a1.1), .int .i64 (a1.2.1), .int .i64 (a1.2.2)]) HE7 HH8 rfl rfl (wt0 rfl) rfl fun q22 a_11 w' HE12 HH13 => hK10 _ _ ?_
  refine pl_x HE12 HH13 (wt0 rfl) (x_assign rfl) rfl rfl fun a_14 HE15 => ?_
  refine wpList_nil ?_
  clear a_2 HE3 HH1 K_4 hK5 a_6 HE7 HH8 a_11 HE12 hK10 K_9
  refine nrm ?_
  refine wp_seq ?_
  refine wp_seq ?_
  refine rg ?_
  refine pl_x HE15 HH13 (wt0 rfl) (x_loadN (cs := [.int .i64 (a1.1), .int .i64 (a1.2.1), .int .i64 (a1.2.2)]) tv_179 rfl rfl (c_blkN 0 rfl)) rfl rfl fun a_16 HE17 => ?_
  refine pl fun K_18 hK19 => ?_
  refine st_call HE17 (wt0 rfl) rfl rfl rfl en_176 rfl rfl (impl_isRule [.int .i64 (a1.1), .int .i64 (a1.2.1), .int .i64 (a1.2.2)] a1 _ (HH13.oldR H1)) fun e w' hr => ?_
  obtain ⟨rfl, hbr23⟩ := hr
  have HH20 := HH13.on hbr23
  refine ⟨_, rfl, fun a_21 HE22 => hK19 _ _ ?_⟩
  refine pl_x HE22 HH20 (wt0 rfl) (x_not rfl) rfl rfl fun a_23 HE24 => ?_
  refine wpList_nil ?_
  clear a_14 HE15 HH13 a_16 HE17 a_21 HE22 hK19 K_18
  refine nrm ?_
  refine cnd_nb HE24 rfl (fun hc24 => ?_) (fun hc24 => ?_)
  · refine wp_seq ?_
    refine rg ?_
    refine pl_x HE24 HH20 (wt0 rfl) (x_assign rfl) rfl rfl fun a_25 HE26 => ?_
    refine wpList_nil ?_
    clear a_23 HE24
    refine nrm ?_
    refine wp_ret ?_
    refine (thn_ret ?_)
    refine ret1 HE26 rfl (rv_tmp rfl) ?_
    have hF : ((fun m r => ruleB m.1 m.2.1 r) a0 a1) = true := by
      unfold ruleB; simp [hc24]
    exact ⟨by first | (rw [hF] <;> rfl) | rfl | (rw [hF]; simp only [Ending.returned.injEq, Value.slice.injEq, true_and, and_true]; first | omega | (simp; done)) | (rw [hF]; simp; omega), HH20.below⟩
  · refine wp_skip ?_
    refine nrm ?_
    refine wp_seq ?_
    refine rg ?_
    refine pl_x HE24 HH20 (wt0 rfl) (x_fieldAddr fa_179_0 rfl) rfl rfl fun a_27 HE28 => ?_
    refine pl_x HE28 HH20 (wt0 rfl) (x_load1 tv_2 rfl (c_blk 0 rfl rfl)) rfl rfl fun a_29 HE30 => ?_
    refine pl_x HE30 HH20 (wt0 rfl) (x_fieldAddr fa_78_0 rfl) rfl rfl fun a_31 HE32 => ?_
    refine pl_x HE32 HH20 (wt0 rfl) (x_load1 tv_2 rfl (c_blk 1 rfl rfl)) rfl rfl fun a_33 HE34 => ?_
    refine pl_x HE34 HH20 (wt0 rfl) (x_sub rfl rfl (by exact ⟨by omega, by omega⟩)) rfl rfl fun a_35 HE36 => ?_
    refine pl fun K_37 hK38 => ?_
    refine st_call HE36 (wt0 rfl) rfl rfl rfl en_104 rfl rfl (impl_within a1.1 0 (a0.1 - 1) _ ) fun e w' hr => ?_
    obtain ⟨rfl, rfl⟩ := hr
    refine ⟨_, rfl, fun a_39 HE40 => hK38 _ _ ?_⟩
    refine pl_x HE40 HH20 (wt0 rfl) (x_move rfl) rfl rfl fun a_41 HE42 => ?_
    rcases Bool.eq_false_or_eq_true ((withinB a1.1 0 (a0.1 - 1))) with hc26 | hc26
    · refine pl_x HE42 HH20 (wtT HE42 rfl rfl rfl hc26) (x_fieldAddr fa_179_1 rfl) rfl rfl fun a_43 HE44 => ?_
      refine pl_x HE44 HH20 (wtT HE44 rfl rfl rfl hc26) (x_load1 tv_2 rfl (c_blk 0 rfl rfl)) rfl rfl fun a_45 HE46 => ?_
      refine pl_x HE46 HH20 (wtT HE46 rfl rfl rfl hc26) (x_eql rfl rfl) rfl rfl fun a_47 HE48 => ?_
      refine pl_x HE48 HH20 (wtT HE48 rfl rfl rfl hc26) (x_move rfl) rfl rfl fun a_49 HE50 => ?_
      by_cases hc27 : a1.2.1 = -1
      · refine pl_no HE50 (wtF HE50 rfl rfl rfl (beq_t hc27)) rfl rfl fun a_51 HE52 => ?_
        refine pl_no HE52 (wtF HE52 rfl rfl rfl (beq_t hc27)) rfl rfl fun a_53 HE54 => ?_
        refine pl_no HE54 (wtF HE54 rfl rfl rfl (beq_t hc27)) rfl rfl fun a_55 HE56 => ?_
        refine pl_x HE56 HH20 (wtT HE56 rfl rfl rfl hc26) (x_pickT rfl (beq_t hc27) rfl) rfl rfl fun a_57 HE58 => ?_
        refine pl_x HE58 HH20 (wt0 rfl) (x_pickT rfl hc26 rfl) rfl rfl fun a_59 HE60 => ?_
        refine pl_x HE60 HH20 (wt0 rfl) (x_move rfl) rfl rfl fun a_61 HE62 => ?_
        refine pl_x HE62 HH20 (wtT HE62 rfl rfl rfl rfl) (x_fieldAddr fa_179_2 rfl) rfl rfl fun a_63 HE64 => ?_
        refine pl_x HE64 HH20 (wtT HE64 rfl rfl rfl rfl) (x_load1 tv_2 rfl (c_blk 0 rfl rfl)) rfl rfl fun a_65 HE66 => ?_
        refine pl_x HE66 HH20 (wtT HE66 rfl rfl rfl rfl) (x_fieldAddr fa_78_1 rfl) rfl rfl fun a_67 HE68 => ?_
        refine pl_x HE68 HH20 (wtT HE68 rfl rfl rfl rfl) (x_load1 tv_2 rfl (c_blk 1 rfl rfl)) rfl rfl fun a_69 HE70 => ?_
        refine pl_x HE70 HH20 (wtT HE70 rfl rfl rfl rfl) (x_sub rfl rfl (by exact ⟨by omega, by omega⟩)) rfl rfl fun a_71 HE72 => ?_
        refine pl fun K_73 hK74 => ?_
        refine st_call HE72 (wtT HE72 rfl rfl rfl rfl) rfl rfl rfl en_104 rfl rfl (impl_within a1.2.2 0 (a0.2.1 - 1) _ ) fun e w' hr => ?_
        obtain ⟨rfl, rfl⟩ := hr
        refine ⟨_, rfl, fun a_75 HE76 => hK74 _ _ ?_⟩
        refine pl_x HE76 HH20 (wt0 rfl) (x_pickT rfl rfl rfl) rfl rfl fun a_77 HE78 => ?_
        refine pl_x HE78 HH20 (wt0 rfl) (x_assign rfl) rfl rfl fun a_79 HE80 => ?_
        refine wpList_nil ?_
        clear a_23 HE24 a_27 HE28 a_29 HE30 a_31 HE32 a_33 HE34 a_35 HE36 a_39 HE40 a_41 HE42 a_43 HE44 a_45 HE46 a_47 HE48 a_49 HE50 a_51 HE52 a_53 HE54 a_55 HE56 a_57 HE58 a_59 HE60 a_61 HE62 a_63 HE64 a_65 HE66 a_67 HE68 a_69 HE70 K_37 hK38 a_71 HE72 a_75 HE76 a_77 HE78 hK74 K_73
        refine nrm ?_
        refine wp_ret ?_
        refine ret1 HE80 rfl (rv_tmp rfl) ?_
        have hF : ((fun m r => ruleB m.1 m.2.1 r) a0 a1) = (withinB a1.2.2 0 (a0.2.1 - 1)) := by
          unfold ruleB; simp [hc24, hc26, hc27]
        exact ⟨by first | (rw [hF] <;> rfl) | rfl | (rw [hF]; simp only [Ending.returned.injEq, Value.slice.injEq, true_and, and_true]; first | omega | (simp; done)) | (rw [hF]; simp; omega), HH20.below⟩
      · refine pl_x HE50 HH20 (wtT HE50 rfl rfl rfl (beq_f hc27)) (x_fieldAddr fa_179_1 rfl) rfl rfl fun a_81 HE82 => ?_
        refine pl_x HE82 HH20 (wtT HE82 rfl rfl rfl (beq_f hc27)) (x_load1 tv_2 rfl (c_blk 0 rfl rfl)) rfl rfl fun a_83 HE84 => ?_
        refine pl_x HE84 HH20 (wtT HE84 rfl rfl rfl (beq_f hc27)) (x_eql rfl rfl) rfl rfl fun a_85 HE86 => ?_
        refine pl_x HE86 HH20 (wtT HE86 rfl rfl rfl hc26) (x_pickF rfl (beq_f hc27) rfl) rfl rfl fun a_87 HE88 => ?_
        refine pl_x HE88 HH20 (wt0 rfl) (x_pickT rfl hc26 rfl) rfl rfl fun a_89 HE90 => ?_
        refine pl_x HE90 HH20 (wt0 rfl) (x_move rfl) rfl rfl fun a_91 HE92 => ?_
        by_cases hc29 : a1.2.1 = 1
        · refine pl_x HE92 HH20 (wtT HE92 rfl rfl rfl (beq_t hc29)) (x_fieldAddr fa_179_2 rfl) rfl rfl fun a_93 HE94 => ?_
          refine pl_x HE94 HH20 (wtT HE94 rfl rfl rfl (beq_t hc29)) (x_load1 tv_2 rfl (c_blk 0 rfl rfl)) rfl rfl fun a_95 HE96 => ?_
          refine pl_x HE96 HH20 (wtT HE96 rfl rfl rfl (beq_t hc29)) (x_fieldAddr fa_78_1 rfl) rfl rfl fun a_97 HE98 => ?_
          refine pl_x HE98 HH20 (wtT HE98 rfl rfl rfl (beq_t hc29)) (x_load1 tv_2 rfl (c_blk 1 rfl rfl)) rfl rfl fun a_99 HE100 => ?_
          refine pl_x HE100 HH20 (wtT HE100 rfl rfl rfl (beq_t hc29)) (x_sub rfl rfl (by exact ⟨by omega, by omega⟩)) rfl rfl fun a_101 HE102 => ?_
          refine pl fun K_103 hK104 => ?_
          refine st_call HE102 (wtT HE102 rfl rfl rfl (beq_t hc29)) rfl rfl rfl en_104 rfl rfl (impl_within a1.2.2 0 (a0.2.1 - 1) _ ) fun e w' hr => ?_
          obtain ⟨rfl, rfl⟩ := hr
          refine ⟨_, rfl, fun a_105 HE106 => hK104 _ _ ?_⟩
          refine pl_x HE106 HH20 (wt0 rfl) (x_pickT rfl (beq_t hc29) rfl) rfl rfl fun a_107 HE108 => ?_
          refine pl_x HE108 HH20 (wt0 rfl) (x_assign rfl) rfl rfl fun a_109 HE110 => ?_
          refine wpList_nil ?_
          clear a_23 HE24 a_27 HE28 a_29 HE30 a_31 HE32 a_33 HE34 a_35 HE36 a_39 HE40 a_41 HE42 a_43 HE44 a_45 HE46 a_47 HE48 a_49 HE50 a_81 HE82 a_83 HE84 a_85 HE86 a_87 HE88 a_89 HE90 a_91 HE92 a_93 HE94 a_95 HE96 a_97 HE98 a_99 HE100 K_37 hK38 a_101 HE102 a_105 HE106 a_107 HE108 hK104 K_103
          refine nrm ?_
          refine wp_ret ?_
          refine ret1 HE110 rfl (rv_tmp rfl) ?_
          have hF : ((fun m r => ruleB m.1 m.2.1 r) a0 a1) = (withinB a1.2.2 0 (a0.2.1 - 1)) := by
            unfold ruleB; simp [hc24, hc26, hc27, hc29]
          exact ⟨by first | (rw [hF] <;> rfl) | rfl | (rw [hF]; simp only [Ending.returned.injEq, Value.slice.injEq, true_and, and_true]; first | omega | (simp; done)) | (rw [hF]; simp; omega), HH20.below⟩
        · refine pl_no HE92 (wtF HE92 rfl rfl rfl (beq_f hc29)) rfl rfl fun a_111 HE112 => ?_
          refine pl_no HE112 (wtF HE112 rfl rfl rfl (beq_f hc29)) rfl rfl fun a_113 HE114 => ?_
          refine pl_no HE114 (wtF HE114 rfl rfl rfl (beq_f hc29)) rfl rfl fun a_115 HE116 => ?_
          refine pl_no HE116 (wtF HE116 rfl rfl rfl (beq_f hc29)) rfl rfl fun a_117 HE118 => ?_
          refine pl_no HE118 (wtF HE118 rfl rfl rfl (beq_f hc29)) rfl rfl fun a_119 HE120 => ?_
          refine pl_no HE120 (wtF HE120 rfl rfl rfl (beq_f hc29)) rfl rfl fun a_121 HE122 => ?_
          refine pl_x HE122 HH20 (wt0 rfl) (x_pickF rfl (beq_f hc29) rfl) rfl rfl fun a_123 HE124 => ?_
          refine pl_x HE124 HH20 (wt0 rfl) (x_assign rfl) rfl rfl fun a_125 HE126 => ?_
          refine wpList_nil ?_
          clear a_23 HE24 a_27 HE28 a_29 HE30 a_31 HE32 a_33 HE34 a_35 HE36 a_39 HE40 a_41 HE42 a_43 HE44 a_45 HE46 a_47 HE48 a_49 HE50 a_81 HE82 a_83 HE84 a_85 HE86 a_87 HE88 a_89 HE90 a_91 HE92 a_111 HE112 a_113 HE114 a_115 HE116 a_117 HE118 a_119 HE120 a_121 HE122 a_123 HE124 hK38 K_37
          refine nrm ?_
          refine wp_ret ?_
          refine ret1 HE126 rfl (rv_tmp rfl) ?_
          have hF : ((fun m r => ruleB m.1 m.2.1 r) a0 a1) = false := by
            unfold ruleB; simp [hc24, hc26, hc27, hc29]
          exact ⟨by first | (rw [hF] <;> rfl) | rfl | (rw [hF]; simp only [Ending.returned.injEq, Value.slice.injEq, true_and, and_true]; first | omega | (simp; done)) | (rw [hF]; simp; omega), HH20.below⟩
    · refine pl_no HE42 (wtF HE42 rfl rfl rfl hc26) rfl rfl fun a_127 HE128 => ?_
      refine pl_no HE128 (wtF HE128 rfl rfl rfl hc26) rfl rfl fun a_129 HE130 => ?_
      refine pl_no HE130 (wtF HE130 rfl rfl rfl hc26) rfl rfl fun a_131 HE132 => ?_
      refine pl_no HE132 (wtF HE132 rfl rfl rfl hc26) rfl rfl fun a_133 HE134 => ?_
      refine pl_no HE134 (wtU HE134 rfl rfl rfl) rfl rfl fun a_135 HE136 => ?_
      refine pl_no HE136 (wtU HE136 rfl rfl rfl) rfl rfl fun a_137 HE138 => ?_
      refine pl_no HE138 (wtU HE138 rfl rfl rfl) rfl rfl fun a_139 HE140 => ?_
      refine pl_no HE140 (wtF HE140 rfl rfl rfl hc26) rfl rfl fun a_141 HE142 => ?_
      refine pl_x HE142 HH20 (wt0 rfl) (x_pickF rfl hc26 rfl) rfl rfl fun a_143 HE144 => ?_
      refine pl_x HE144 HH20 (wt0 rfl) (x_move rfl) rfl rfl fun a_145 HE146 => ?_
      refine pl_no HE146 (wtF HE146 rfl rfl rfl rfl) rfl rfl fun a_147 HE148 => ?_
      refine pl_no HE148 (wtF HE148 rfl rfl rfl rfl) rfl rfl fun a_149 HE150 => ?_
      refine pl_no HE150 (wtF HE150 rfl rfl rfl rfl) rfl rfl fun a_151 HE152 => ?_
      refine pl_no HE152 (wtF HE152 rfl rfl rfl rfl) rfl rfl fun a_153 HE154 => ?_
      refine pl_no HE154 (wtF HE154 rfl rfl rfl rfl) rfl rfl fun a_155 HE156 => ?_
      refine pl_no HE156 (wtF HE156 rfl rfl rfl rfl) rfl rfl fun a_157 HE158 => ?_
      refine pl_x HE158 HH20 (wt0 rfl) (x_pickF rfl rfl rfl) rfl rfl fun a_159 HE160 => ?_
      refine pl_x HE160 HH20 (wt0 rfl) (x_assign rfl) rfl rfl fun a_161 HE162 => ?_
      refine wpList_nil ?_
      clear a_23 HE24 a_27 HE28 a_29 HE30 a_31 HE32 a_33 HE34 a_35 HE36 a_39 HE40 a_41 HE42 a_127 HE128 a_129 HE130 a_131 HE132 a_133 HE134 a_135 HE136 a_137 HE138 a_139 HE140 a_141 HE142 a_143 HE144 a_145 HE146 a_147 HE148 a_149 HE150 a_151 HE152 a_153 HE154 a_155 HE156 a_157 HE158 a_159 HE160 hK38 K_37
      refine nrm ?_
      refine wp_ret ?_
      refine ret1 HE162 rfl (rv_tmp rfl) ?_
      have hF : ((fun m r => ruleB m.1 m.2.1 r) a0 a1) = false := by
        unfold ruleB; simp [hc24, hc26]
      exact ⟨by first | (rw [hF] <;> rfl) | rfl | (rw [hF]; simp only [Ending.returned.injEq, Value.slice.injEq, true_and, and_true]; first | omega | (simp; done)) | (rw [hF]; simp; omega), HH20.below⟩

set_option maxRecDepth 100000 in
set_option maxHeartbeats 4000000 in
theorem impl_ValidMachine1 (es0 : List Value) (a0 : tRule) (p1 : Nat) (es1 : List Value) (a1 : tMachine) (w : World) (h0 : eRule.R w (Old w) es0 a0) (h1 : eMachine.R w (Old w) es1 a1) (hq1 : ∀ j v, es1[j]? = some v → w.cell? ⟨p1, 0 + j, none⟩ = some v) (s0 : 2 ≤ a1.1 ∧ a1.1 ≤ 6) (s1 : 1 ≤ a1.2.1 ∧ a1.2.1 ≤ 1000) :
    Calls Tryd.prog 161 #[.agg es0.toArray, .pointer (some ⟨p1, 0, none⟩)] w fun e w' => e = .returned (.bool ((fun r m => !ruleB m.1 m.2.1 r) a0 a1)) ∧ Below w.heap.size w w' := by
  have H0 := h0
  obtain ⟨rfl, gz0_0, gz0_1, gz0_2⟩ := shape_Rule h0
  have jz0_0 := gz0_0; unfold I64 at jz0_0
  have jz0_1 := gz0_1; unfold I64 at jz0_1
  have jz0_2 := gz0_2; unfold I64 at jz0_2
  have H1 := h1
  obtain ⟨Az1_2, cz1_2, rfl, gz1_0, gz1_1, gz1_2⟩ := shape_Machine h1
  have jz1_0 := gz1_0; unfold I64 at jz1_0
  have jz1_1 := gz1_1; unfold I64 at jz1_1
  have lz1_2 := gz1_2.len
  have HH1 := Held.start Nob w
  refine enter (n := 8) Tryd.func161 rfl rfl rfl fun a_2 HE3 => ?_
  refine wp_seq ?_
  refine rg ?_
  refine pl fun K_4 hK5 => ?_
  refine st_box (cs := [.int .i64 (a0.1), .int .i64 (a0.2.1), .int .i64 (a0.2.2)]) HE3 HH1 rfl rfl (wt0 rfl) rfl fun q21 a_6 w' HE7 HH8 => hK5 _ _ ?_
  refine pl_x HE7 HH8 (wt0 rfl) (x_assign rfl) rfl rfl fun a_9 HE10 => ?_
  refine wpList_nil ?_
  clear a_2 HE3 HH1 a_6 HE7 hK5 K_4
  refine nrm ?_
  refine wp_seq ?_
  refine rg ?_
  refine pl_x HE10 HH8 (wt0 rfl) (x_loadN (cs := [.int .i64 (a1.1), .int .i64 (a1.2.1), .slice Az1_2 (a1.2.2.length) cz1_2]) tv_78 rfl rfl (c_oldN hq1)) rfl rfl fun a_11 HE12 => ?_
  refine pl_x HE12 HH8 (wt0 rfl) (x_loadN (cs := [.int .i64 (a0.1), .int .i64 (a0.2.1), .int .i64 (a0.2.2)]) tv_179 rfl rfl (c_blkN 0 rfl)) rfl rfl fun a_13 HE14 => ?_
  refine pl fun K_15 hK16 => ?_
  refine st_call HE14 (wt0 rfl) rfl rfl rfl en_162 rfl rfl (impl_validRule [.int .i64 (a1.1), .int .i64 (a1.2.1), .slice Az1_2 (a1.2.2.length) cz1_2] a1 [.int .i64 (a0.1), .int .i64 (a0.2.1), .int .i64 (a0.2.2)] a0 _ (HH8.oldR H1) (HH8.oldR H0) (by omega) (by omega)) fun e w' hr => ?_
  obtain ⟨rfl, hbr22⟩ := hr
  have HH17 := HH8.on hbr22
  refine ⟨_, rfl, fun a_18 HE19 => hK16 _ _ ?_⟩
  refine pl_x HE19 HH17 (wt0 rfl) (x_not rfl) rfl rfl fun a_20 HE21 => ?_
  refine pl_x HE21 HH17 (wt0 rfl) (x_assign rfl) rfl rfl fun a_22 HE23 => ?_
  refine wpList_nil ?_
  clear a_9 HE10 a_11 HE12 HH8 a_13 HE14 a_18 HE19 a_20 HE21 hK16 K_15
  refine nrm ?_
  refine wp_ret ?_
  refine ret1 HE23 rfl (rv_tmp rfl) ?_
  have hF : ((fun r m => !ruleB m.1 m.2.1 r) a0 a1) = !(ruleB a1.1 a1.2.1 a0) := by
    rfl
  exact ⟨by first | (rw [hF] <;> rfl) | rfl | (rw [hF]; simp only [Ending.returned.injEq, Value.slice.injEq, true_and, and_true]; first | omega | (simp; done)) | (rw [hF]; simp; omega), HH17.below⟩

set_option maxRecDepth 100000 in
set_option maxHeartbeats 4000000 in
theorem impl_ValidMachine (es0 : List Value) (a0 : tMachine) (w : World) (h0 : eMachine.R w (Old w) es0 a0) :
    Calls Tryd.prog 132 #[.agg es0.toArray] w fun e w' => e = .returned (.bool (validMach a0)) ∧ Below w.heap.size w w' := by
  have H0 := h0
  obtain ⟨Az0_2, cz0_2, rfl, gz0_0, gz0_1, gz0_2⟩ := shape_Machine h0
  have jz0_0 := gz0_0; unfold I64 at jz0_0
  have jz0_1 := gz0_1; unfold I64 at jz0_1
  have lz0_2 := gz0_2.len
  have HH1 := Held.start Nob w
  refine enter (n := 29) Tryd.func132 rfl rfl rfl fun a_2 HE3 => ?_
  refine wp_seq ?_
  refine rg ?_
  refine pl fun K_4 hK5 => ?_
  refine st_box (cs := [.int .i64 (a0.1), .int .i64 (a0.2.1), .slice Az0_2 (a0.2.2.length) cz0_2]) HE3 HH1 rfl rfl (wt0 rfl) rfl fun q21 a_6 w' HE7 HH8 => hK5 _ _ ?_
  refine pl_x HE7 HH8 (wt0 rfl) (x_assign rfl) rfl rfl fun a_9 HE10 => ?_
  refine wpList_nil ?_
  clear a_2 HE3 HH1 a_6 HE7 hK5 K_4
  refine nrm ?_
  refine wp_seq ?_
  refine wp_seq ?_
  refine dr_start (Held Nob w [rBlk q21 78 [.int .i64 (a0.1), .int .i64 (a0.2.1), .slice Az0_2 (a0.2.2.length) cz0_2]]) 21 #[false, false, false, false, false, false, false, false, false, false, false, false, false, false, false, false, false, false, false, false, false] hmix rfl rfl HH8 (fun _ h => h.sel [0] (by decide) rfl) fun w' HH11 => ?_
  have HS12 := HH11
  refine dr_take (i := 0) (ls' := #[true, false, false, false, false, false, false, false, false, false, false, false, false, false, false, false, false, false, false, false, false]) HE10 HS12 rfl (by kernel_rfl) (by kernel_rfl) (by kernel_rfl) (fun _ _ _ h => h) rfl (wt0 rfl) (x_fieldAddr fa_78_0 rfl) rfl rfl fun a_13 HE14 => ?_
  refine dr_take (i := 1) (ls' := #[true, true, false, false, false, false, false, false, false, false, false, false, false, false, false, false, false, false, false, false, false]) HE14 HS12 rfl (by kernel_rfl) (by kernel_rfl) (by kernel_rfl) (fun _ _ _ h => h) rfl (wt0 rfl) (x_load1 tv_2 rfl (c_blk 0 rfl rfl)) rfl rfl fun a_15 HE16 => ?_
  refine dr_one (i := 2) (ls' := #[true, true, true, false, false, false, false, false, false, false, false, false, false, false, false, false, false, false, false, false, false]) rfl (by kernel_rfl) rfl fun K_17 hK18 => ?_
  refine st_call HE16 (wt0 rfl) rfl rfl rfl en_104 rfl rfl (impl_within a0.1 2 6 _ ) fun e w' hr => ?_
  obtain ⟨rfl, rfl⟩ := hr
  refine ⟨_, rfl, fun a_19 HE20 => hK18 _ _ (by exact HH11.sel [0] (by decide) rfl) ?_⟩
  have HS21 := HH11.sel [0] (by decide) rfl
  refine dr_take (i := 3) (ls' := #[true, true, true, true, false, false, false, false, false, false, false, false, false, false, false, false, false, false, false, false, false]) HE20 HS21 rfl (by kernel_rfl) (by kernel_rfl) (by kernel_rfl) (fun _ _ _ h => h) rfl (wt0 rfl) (x_not rfl) rfl rfl fun a_22 HE23 => ?_
  refine dr_take (i := 4) (ls' := #[true, true, true, true, true, false, false, false, false, false, false, false, false, false, false, false, false, false, false, false, false]) HE23 HS21 rfl (by kernel_rfl) (by kernel_rfl) (by kernel_rfl) (fun _ _ _ h => h) rfl (wt0 rfl) (x_move rfl) rfl rfl fun a_24 HE25 => ?_
  rcases Bool.eq_false_or_eq_true ((withinB a0.1 2 6)) with hc23 | hc23
  · have m0 := withinB_true.1 hc23
    refine dr_take (i := 5) (ls' := #[true, true, true, true, true, true, false, false, false, false, false, false, false, false, false, false, false, false, false, false, false]) HE25 HS21 rfl (by kernel_rfl) (by kernel_rfl) (by kernel_rfl) (fun _ _ _ h => h) rfl (wtT HE25 rfl rfl rfl (not_f hc23)) (x_fieldAddr fa_78_1 rfl) rfl rfl fun a_26 HE27 => ?_
    refine dr_take (i := 6) (ls' := #[true, true, true, true, true, true, true, false, false, false, false, false, false, false, false, false, false, false, false, false, false]) HE27 HS21 rfl (by kernel_rfl) (by kernel_rfl) (by kernel_rfl) (fun _ _ _ h => h) rfl (wtT HE27 rfl rfl rfl (not_f hc23)) (x_load1 tv_2 rfl (c_blk 0 rfl rfl)) rfl rfl fun a_28 HE29 => ?_
    refine dr_one (i := 7) (ls' := #[true, true, true, true, true, true, true, true, false, false, false, false, false, false, false, false, false, false, false, false, false]) rfl (by kernel_rfl) rfl fun K_30 hK31 => ?_
    refine st_call HE29 (wtT HE29 rfl rfl rfl (not_f hc23)) rfl rfl rfl en_104 rfl rfl (impl_within a0.2.1 1 1000 _ ) fun e w' hr => ?_
    obtain ⟨rfl, rfl⟩ := hr
    refine ⟨_, rfl, fun a_32 HE33 => hK31 _ _ (by exact HH11.sel [0] (by decide) rfl) ?_⟩
    have HS34 := HH11.sel [0] (by decide) rfl
    refine dr_take (i := 8) (ls' := #[true, true, true, true, true, true, true, true, true, false, false, false, false, false, false, false, false, false, false, false, false]) HE33 HS34 rfl (by kernel_rfl) (by kernel_rfl) (by kernel_rfl) (fun _ _ _ h => h) rfl (wtT HE33 rfl rfl rfl (not_f hc23)) (x_not rfl) rfl rfl fun a_35 HE36 => ?_
    refine dr_take (i := 9) (ls' := #[true, true, true, true, true, true, true, true, true, true, false, false, false, false, false, false, false, false, false, false, false]) HE36 HS34 rfl (by kernel_rfl) (by kernel_rfl) (by kernel_rfl) (fun _ _ _ h => h) rfl (wt0 rfl) (x_pickF rfl (not_f hc23) rfl) rfl rfl fun a_37 HE38 => ?_
    refine dr_take (i := 10) (ls' := #[true, true, true, true, true, true, true, true, true, true, true, false, false, false, false, false, false, false, false, false, false]) HE38 HS34 rfl (by kernel_rfl) (by kernel_rfl) (by kernel_rfl) (fun _ _ _ h => h) rfl (wt0 rfl) (x_move rfl) rfl rfl fun a_39 HE40 => ?_
    rcases Bool.eq_false_or_eq_true ((withinB a0.2.1 1 1000)) with hc25 | hc25
    · have m1 := withinB_true.1 hc25
      obtain ⟨m2, m3⟩ := mul_bd2 m0 m1
      refine dr_take (i := 11) (ls' := #[true, true, true, true, true, true, true, true, true, true, true, true, false, false, false, false, false, false, false, false, false]) HE40 HS34 rfl (by kernel_rfl) (by kernel_rfl) (by kernel_rfl) (fun _ _ _ h => h) rfl (wtT HE40 rfl rfl rfl (not_f hc25)) (x_fieldAddr fa_78_2 rfl) rfl rfl fun a_41 HE42 => ?_
      refine dr_take (i := 12) (ls' := #[true, true, true, true, true, true, true, true, true, true, true, true, true, false, false, false, false, false, false, false, false]) HE42 HS34 rfl (by kernel_rfl) (by kernel_rfl) (by kernel_rfl) (fun _ _ _ h => h) rfl (wtT HE42 rfl rfl rfl (not_f hc25)) (x_load1 tv_76 rfl (c_blk 0 rfl rfl)) rfl rfl fun a_43 HE44 => ?_
      refine dr_take (i := 14) (ls' := #[true, true, true, true, true, true, true, true, true, true, true, true, true, false, true, false, false, false, false, false, false]) HE44 HS34 rfl (by kernel_rfl) (by kernel_rfl) (by kernel_rfl) (fun _ _ _ h => h) rfl (wtT HE44 rfl rfl rfl (not_f hc25)) (x_fieldAddr fa_78_1 rfl) rfl rfl fun a_45 HE46 => ?_
      refine dr_take (i := 15) (ls' := #[true, true, true, true, true, true, true, true, true, true, true, true, true, false, true, true, false, false, false, false, false]) HE46 HS34 rfl (by kernel_rfl) (by kernel_rfl) (by kernel_rfl) (fun _ _ _ h => h) rfl (wtT HE46 rfl rfl rfl (not_f hc25)) (x_load1 tv_2 rfl (c_blk 0 rfl rfl)) rfl rfl fun a_47 HE48 => ?_
      refine dr_take (i := 16) (ls' := #[true, true, true, true, true, true, true, true, true, true, true, true, true, false, true, true, true, false, false, false, false]) HE48 HS34 rfl (by kernel_rfl) (by kernel_rfl) (by kernel_rfl) (fun _ _ _ h => h) rfl (wtT HE48 rfl rfl rfl (not_f hc25)) (x_fieldAddr fa_78_0 rfl) rfl rfl fun a_49 HE50 => ?_
      refine dr_take (i := 17) (ls' := #[true, true, true, true, true, true, true, true, true, true, true, true, true, false, true, true, true, true, false, false, false]) HE50 HS34 rfl (by kernel_rfl) (by kernel_rfl) (by kernel_rfl) (fun _ _ _ h => h) rfl (wtT HE50 rfl rfl rfl (not_f hc25)) (x_load1 tv_2 rfl (c_blk 0 rfl rfl)) rfl rfl fun a_51 HE52 => ?_
      refine dr_take (i := 18) (ls' := #[true, true, true, true, true, true, true, true, true, true, true, true, true, false, true, true, true, true, true, false, false]) HE52 HS34 rfl (by kernel_rfl) (by kernel_rfl) (by kernel_rfl) (fun _ _ _ h => h) rfl (wtT HE52 rfl rfl rfl (not_f hc25)) (x_mul rfl rfl (by exact ⟨by omega, by omega⟩)) rfl rfl fun a_53 HE54 => ?_
      refine dr_one (i := 13) (ls' := #[true, true, true, true, true, true, true, true, true, true, true, true, true, true, true, true, true, true, true, false, false]) rfl (by kernel_rfl) rfl fun K_55 hK56 => ?_
      refine st_call HE54 (wtT HE54 rfl rfl rfl (not_f hc25)) rfl rfl rfl en_159 rfl rfl (impl_size_Rule _ _ _ _) fun e w' hr => ?_
      obtain ⟨rfl, rfl⟩ := hr
      refine ⟨_, rfl, fun a_57 HE58 => hK56 _ _ (by exact HH11.sel [0] (by decide) rfl) ?_⟩
      have HS59 := HH11.sel [0] (by decide) rfl
      refine dr_take (i := 19) (ls' := #[true, true, true, true, true, true, true, true, true, true, true, true, true, true, true, true, true, true, true, true, false]) HE58 HS59 rfl (by kernel_rfl) (by kernel_rfl) (by kernel_rfl) (fun _ _ _ h => h) rfl (wtT HE58 rfl rfl rfl (not_f hc25)) (x_neq rfl rfl) rfl rfl fun a_60 HE61 => ?_
      refine dr_take (i := 20) (ls' := #[true, true, true, true, true, true, true, true, true, true, true, true, true, true, true, true, true, true, true, true, true]) HE61 HS59 rfl (by kernel_rfl) (by kernel_rfl) (by kernel_rfl) (fun _ _ _ h => h) rfl (wt0 rfl) (x_pickF rfl (not_f hc25) rfl) rfl rfl fun a_62 HE63 => ?_
      refine dr_done (by kernel_rfl) ?_
      clear HH8 a_9 HE10 a_13 HE14 a_15 HE16 HS12 a_19 HE20 a_22 HE23 a_24 HE25 a_26 HE27 K_17 hK18 a_28 HE29 HS21 a_32 HE33 a_35 HE36 a_37 HE38 a_39 HE40 a_41 HE42 a_43 HE44 a_45 HE46 a_47 HE48 a_49 HE50 a_51 HE52 K_30 hK31 a_53 HE54 HS34 a_57 HE58 a_60 HE61 hK56 K_55
      refine nrm ?_
      refine cnd_ne HE63 rfl (fun hc27 => ?_) (fun hc27 => ?_)
      · refine wp_seq ?_
        refine rg ?_
        refine pl_x HE63 HH11 (wt0 rfl) (x_assign rfl) rfl rfl fun a_64 HE65 => ?_
        refine wpList_nil ?_
        clear a_62 HE63
        refine nrm ?_
        refine wp_ret ?_
        refine (thn_ret ?_)
        refine ret1 HE65 rfl (rv_tmp rfl) ?_
        have hF : (validMach a0) = false := by
          first | (simp [validMach, hc23, hc25, hc27]; done) | (unfold validMach; grind)
        exact ⟨by first | (rw [hF] <;> rfl) | rfl | (rw [hF]; simp only [Ending.returned.injEq, Value.slice.injEq, true_and, and_true]; first | omega | (simp; done)) | (rw [hF]; simp; omega), HH11.below⟩
      · refine wp_skip ?_
        refine nrm ?_
        refine wp_seq ?_
        refine rg ?_
        refine pl_x HE63 HH11 (wt0 rfl) (x_fieldAddr fa_78_2 rfl) rfl rfl fun a_66 HE67 => ?_
        refine pl_x HE67 HH11 (wt0 rfl) (x_load1 tv_76 rfl (c_blk 0 rfl rfl)) rfl rfl fun a_68 HE69 => ?_
        refine pl_x HE69 HH11 (wt0 rfl) (x_makeFunc rfl rfl) rfl rfl fun a_70 HE71 => ?_
        refine pl fun K_72 hK73 => ?_
        have hcl := ContainsFunc_Rule (fun r => !ruleB a0.1 a0.2.1 r) 161 #[.pointer (some ⟨q21, 0, none⟩)] _ _ a0.2.2 _ (HH11.old gz0_2) en_161 (fun W x es hx hb hR => impl_ValidMachine1 es x _ [.int .i64 (a0.1), .int .i64 (a0.2.1), .slice Az0_2 (a0.2.2.length) cz0_2] a0 W hR (((HH11.on hb).oldR H0)) (HH11.capB 0 rfl hb) (by omega) (by omega))
        refine st_call HE71 (wt0 rfl) rfl rfl rfl en_160 rfl rfl hcl fun e w' hr => ?_
        clear hcl
        obtain ⟨rfl, hbq⟩ := hr
        have HH74 := HH11.on hbq
        clear hbq
        refine ⟨_, rfl, fun a_75 HE76 => hK73 _ _ ?_⟩
        refine pl_x HE76 HH74 (wt0 rfl) (x_not rfl) rfl rfl fun a_77 HE78 => ?_
        refine pl_x HE78 HH74 (wt0 rfl) (x_assign rfl) rfl rfl fun a_79 HE80 => ?_
        refine wpList_nil ?_
        clear a_62 HE63 a_66 HE67 a_68 HE69 HH11 a_70 HE71 a_75 HE76 a_77 HE78 hK73 K_72
        refine nrm ?_
        refine wp_ret ?_
        refine ret1 HE80 rfl (rv_tmp rfl) ?_
        have hF : (validMach a0) = !(a0.2.2.any (fun r => !ruleB a0.1 a0.2.1 r)) := by
          first | (simp [validMach, hc23, hc25, hc27]; done) | (unfold validMach; grind)
        exact ⟨by first | (rw [hF] <;> rfl) | rfl | (rw [hF]; simp only [Ending.returned.injEq, Value.slice.injEq, true_and, and_true]; first | omega | (simp; done)) | (rw [hF]; simp; omega), HH74.below⟩
    · refine dr_takeNo (i := 11) (ls' := #[true, true, true, true, true, true, true, true, true, true, true, true, false, false, false, false, false, false, false, false, false]) HE40 HS34 rfl (by kernel_rfl) (by kernel_rfl) (by kernel_rfl) (fun _ _ _ h => h) rfl (wtF HE40 rfl rfl rfl (not_t hc25)) rfl rfl fun a_81 HE82 => ?_
      refine dr_takeNo (i := 12) (ls' := #[true, true, true, true, true, true, true, true, true, true, true, true, true, false, false, false, false, false, false, false, false]) HE82 HS34 rfl (by kernel_rfl) (by kernel_rfl) (by kernel_rfl) (fun _ _ _ h => h) rfl (wtF HE82 rfl rfl rfl (not_t hc25)) rfl rfl fun a_83 HE84 => ?_
      refine dr_takeNo (i := 13) (ls' := #[true, true, true, true, true, true, true, true, true, true, true, true, true, true, false, false, false, false, false, false, false]) HE84 HS34 rfl (by kernel_rfl) (by kernel_rfl) (by kernel_rfl) (fun _ _ _ h => h) rfl (wtF HE84 rfl rfl rfl (not_t hc25)) rfl rfl fun a_85 HE86 => ?_
      refine dr_takeNo (i := 14) (ls' := #[true, true, true, true, true, true, true, true, true, true, true, true, true, true, true, false, false, false, false, false, false]) HE86 HS34 rfl (by kernel_rfl) (by kernel_rfl) (by kernel_rfl) (fun _ _ _ h => h) rfl (wtF HE86 rfl rfl rfl (not_t hc25)) rfl rfl fun a_87 HE88 => ?_
      refine dr_takeNo (i := 15) (ls' := #[true, true, true, true, true, true, true, true, true, true, true, true, true, true, true, true, false, false, false, false, false]) HE88 HS34 rfl (by kernel_rfl) (by kernel_rfl) (by kernel_rfl) (fun _ _ _ h => h) rfl (wtF HE88 rfl rfl rfl (not_t hc25)) rfl rfl fun a_89 HE90 => ?_
      refine dr_takeNo (i := 16) (ls' := #[true, true, true, true, true, true, true, true, true, true, true, true, true, true, true, true, true, false, false, false, false]) HE90 HS34 rfl (by kernel_rfl) (by kernel_rfl) (by kernel_rfl) (fun _ _ _ h => h) rfl (wtF HE90 rfl rfl rfl (not_t hc25)) rfl rfl fun a_91 HE92 => ?_
      refine dr_takeNo (i := 17) (ls' := #[true, true, true, true, true, true, true, true, true, true, true, true, true, true, true, true, true, true, false, false, false]) HE92 HS34 rfl (by kernel_rfl) (by kernel_rfl) (by kernel_rfl) (fun _ _ _ h => h) rfl (wtF HE92 rfl rfl rfl (not_t hc25)) rfl rfl fun a_93 HE94 => ?_
      refine dr_takeNo (i := 18) (ls' := #[true, true, true, true, true, true, true, true, true, true, true, true, true, true, true, true, true, true, true, false, false]) HE94 HS34 rfl (by kernel_rfl) (by kernel_rfl) (by kernel_rfl) (fun _ _ _ h => h) rfl (wtF HE94 rfl rfl rfl (not_t hc25)) rfl rfl fun a_95 HE96 => ?_
      refine dr_takeNo (i := 19) (ls' := #[true, true, true, true, true, true, true, true, true, true, true, true, true, true, true, true, true, true, true, true, false]) HE96 HS34 rfl (by kernel_rfl) (by kernel_rfl) (by kernel_rfl) (fun _ _ _ h => h) rfl (wtF HE96 rfl rfl rfl (not_t hc25)) rfl rfl fun a_97 HE98 => ?_
      refine dr_take (i := 20) (ls' := #[true, true, true, true, true, true, true, true, true, true, true, true, true, true, true, true, true, true, true, true, true]) HE98 HS34 rfl (by kernel_rfl) (by kernel_rfl) (by kernel_rfl) (fun _ _ _ h => h) rfl (wt0 rfl) (x_pickT rfl (not_t hc25) rfl) rfl rfl fun a_99 HE100 => ?_
      refine dr_done (by kernel_rfl) ?_
      clear HH8 a_9 HE10 a_13 HE14 a_15 HE16 HS12 a_19 HE20 a_22 HE23 a_24 HE25 a_26 HE27 K_17 hK18 a_28 HE29 HS21 a_32 HE33 a_35 HE36 a_37 HE38 a_39 HE40 a_81 HE82 a_83 HE84 a_85 HE86 a_87 HE88 a_89 HE90 a_91 HE92 a_93 HE94 a_95 HE96 a_97 HE98 hK31 K_30
      refine nrm ?_
      refine cndT HE100 rfl rfl ?_
      refine wp_seq ?_
      refine rg ?_
      refine pl_x HE100 HH11 (wt0 rfl) (x_assign rfl) rfl rfl fun a_101 HE102 => ?_
      refine wpList_nil ?_
      clear a_99 HE100
      refine nrm ?_
      refine wp_ret ?_
      refine (thn_ret ?_)
      refine ret1 HE102 rfl (rv_tmp rfl) ?_
      have hF : (validMach a0) = false := by
        first | (simp [validMach, hc23, hc25]; done) | (unfold validMach; grind)
      exact ⟨by first | (rw [hF] <;> rfl) | rfl | (rw [hF]; simp only [Ending.returned.injEq, Value.slice.injEq, true_and, and_true]; first | omega | (simp; done)) | (rw [hF]; simp; omega), HH11.below⟩
  · refine dr_takeNo (i := 5) (ls' := #[true, true, true, true, true, true, false, false, false, false, false, false, false, false, false, false, false, false, false, false, false]) HE25 HS21 rfl (by kernel_rfl) (by kernel_rfl) (by kernel_rfl) (fun _ _ _ h => h) rfl (wtF HE25 rfl rfl rfl (not_t hc23)) rfl rfl fun a_103 HE104 => ?_
    refine dr_takeNo (i := 6) (ls' := #[true, true, true, true, true, true, true, false, false, false, false, false, false, false, false, false, false, false, false, false, false]) HE104 HS21 rfl (by kernel_rfl) (by kernel_rfl) (by kernel_rfl) (fun _ _ _ h => h) rfl (wtF HE104 rfl rfl rfl (not_t hc23)) rfl rfl fun a_105 HE106 => ?_
    refine dr_takeNo (i := 7) (ls' := #[true, true, true, true, true, true, true, true, false, false, false, false, false, false, false, false, false, false, false, false, false]) HE106 HS21 rfl (by kernel_rfl) (by kernel_rfl) (by kernel_rfl) (fun _ _ _ h => h) rfl (wtF HE106 rfl rfl rfl (not_t hc23)) rfl rfl fun a_107 HE108 => ?_
    refine dr_takeNo (i := 8) (ls' := #[true, true, true, true, true, true, true, true, true, false, false, false, false, false, false, false, false, false, false, false, false]) HE108 HS21 rfl (by kernel_rfl) (by kernel_rfl) (by kernel_rfl) (fun _ _ _ h => h) rfl (wtF HE108 rfl rfl rfl (not_t hc23)) rfl rfl fun a_109 HE110 => ?_
    refine dr_take (i := 9) (ls' := #[true, true, true, true, true, true, true, true, true, true, false, false, false, false, false, false, false, false, false, false, false]) HE110 HS21 rfl (by kernel_rfl) (by kernel_rfl) (by kernel_rfl) (fun _ _ _ h => h) rfl (wt0 rfl) (x_pickT rfl (not_t hc23) rfl) rfl rfl fun a_111 HE112 => ?_
    refine dr_take (i := 10) (ls' := #[true, true, true, true, true, true, true, true, true, true, true, false, false, false, false, false, false, false, false, false, false]) HE112 HS21 rfl (by kernel_rfl) (by kernel_rfl) (by kernel_rfl) (fun _ _ _ h => h) rfl (wt0 rfl) (x_move rfl) rfl rfl fun a_113 HE114 => ?_
    refine dr_takeNo (i := 11) (ls' := #[true, true, true, true, true, true, true, true, true, true, true, true, false, false, false, false, false, false, false, false, false]) HE114 HS21 rfl (by kernel_rfl) (by kernel_rfl) (by kernel_rfl) (fun _ _ _ h => h) rfl (wtF HE114 rfl rfl rfl rfl) rfl rfl fun a_115 HE116 => ?_
    refine dr_takeNo (i := 12) (ls' := #[true, true, true, true, true, true, true, true, true, true, true, true, true, false, false, false, false, false, false, false, false]) HE116 HS21 rfl (by kernel_rfl) (by kernel_rfl) (by kernel_rfl) (fun _ _ _ h => h) rfl (wtF HE116 rfl rfl rfl rfl) rfl rfl fun a_117 HE118 => ?_
    refine dr_takeNo (i := 13) (ls' := #[true, true, true, true, true, true, true, true, true, true, true, true, true, true, false, false, false, false, false, false, false]) HE118 HS21 rfl (by kernel_rfl) (by kernel_rfl) (by kernel_rfl) (fun _ _ _ h => h) rfl (wtF HE118 rfl rfl rfl rfl) rfl rfl fun a_119 HE120 => ?_
    refine dr_takeNo (i := 14) (ls' := #[true, true, true, true, true, true, true, true, true, true, true, true, true, true, true, false, false, false, false, false, false]) HE120 HS21 rfl (by kernel_rfl) (by kernel_rfl) (by kernel_rfl) (fun _ _ _ h => h) rfl (wtF HE120 rfl rfl rfl rfl) rfl rfl fun a_121 HE122 => ?_
    refine dr_takeNo (i := 15) (ls' := #[true, true, true, true, true, true, true, true, true, true, true, true, true, true, true, true, false, false, false, false, false]) HE122 HS21 rfl (by kernel_rfl) (by kernel_rfl) (by kernel_rfl) (fun _ _ _ h => h) rfl (wtF HE122 rfl rfl rfl rfl) rfl rfl fun a_123 HE124 => ?_
    refine dr_takeNo (i := 16) (ls' := #[true, true, true, true, true, true, true, true, true, true, true, true, true, true, true, true, true, false, false, false, false]) HE124 HS21 rfl (by kernel_rfl) (by kernel_rfl) (by kernel_rfl) (fun _ _ _ h => h) rfl (wtF HE124 rfl rfl rfl rfl) rfl rfl fun a_125 HE126 => ?_
    refine dr_takeNo (i := 17) (ls' := #[true, true, true, true, true, true, true, true, true, true, true, true, true, true, true, true, true, true, false, false, false]) HE126 HS21 rfl (by kernel_rfl) (by kernel_rfl) (by kernel_rfl) (fun _ _ _ h => h) rfl (wtF HE126 rfl rfl rfl rfl) rfl rfl fun a_127 HE128 => ?_
    refine dr_takeNo (i := 18) (ls' := #[true, true, true, true, true, true, true, true, true, true, true, true, true, true, true, true, true, true, true, false, false]) HE128 HS21 rfl (by kernel_rfl) (by kernel_rfl) (by kernel_rfl) (fun _ _ _ h => h) rfl (wtF HE128 rfl rfl rfl rfl) rfl rfl fun a_129 HE130 => ?_
    refine dr_takeNo (i := 19) (ls' := #[true, true, true, true, true, true, true, true, true, true, true, true, true, true, true, true, true, true, true, true, false]) HE130 HS21 rfl (by kernel_rfl) (by kernel_rfl) (by kernel_rfl) (fun _ _ _ h => h) rfl (wtF HE130 rfl rfl rfl rfl) rfl rfl fun a_131 HE132 => ?_
    refine dr_take (i := 20) (ls' := #[true, true, true, true, true, true, true, true, true, true, true, true, true, true, true, true, true, true, true, true, true]) HE132 HS21 rfl (by kernel_rfl) (by kernel_rfl) (by kernel_rfl) (fun _ _ _ h => h) rfl (wt0 rfl) (x_pickT rfl rfl rfl) rfl rfl fun a_133 HE134 => ?_
    refine dr_done (by kernel_rfl) ?_
    clear HH8 a_9 HE10 a_13 HE14 a_15 HE16 HS12 a_19 HE20 a_22 HE23 a_24 HE25 a_103 HE104 a_105 HE106 a_107 HE108 a_109 HE110 a_111 HE112 a_113 HE114 a_115 HE116 a_117 HE118 a_119 HE120 a_121 HE122 a_123 HE124 a_125 HE126 a_127 HE128 a_129 HE130 a_131 HE132 hK18 K_17
    refine nrm ?_
    refine cndT HE134 rfl rfl ?_
    refine wp_seq ?_
    refine rg ?_
    refine pl_x HE134 HH11 (wt0 rfl) (x_assign rfl) rfl rfl fun a_135 HE136 => ?_
    refine wpList_nil ?_
    clear a_133 HE134
    refine nrm ?_
    refine wp_ret ?_
    refine (thn_ret ?_)
    refine ret1 HE136 rfl (rv_tmp rfl) ?_
    have hF : (validMach a0) = false := by
      first | (simp [validMach, hc23]; done) | (unfold validMach; grind)
    exact ⟨by first | (rw [hF] <;> rfl) | rfl | (rw [hF]; simp only [Ending.returned.injEq, Value.slice.injEq, true_and, and_true]; first | omega | (simp; done)) | (rw [hF]; simp; omega), HH11.below⟩

set_option maxRecDepth 100000 in
set_option maxHeartbeats 4000000 in
theorem impl_configOf (es0 : List Value) (a0 : tMachine) (es1 : List Value) (a1 : tConfig) (w : World) (h0 : eMachine.R w (Old w) es0 a0) (h1 : eConfig.R w (Old w) es1 a1) (s0 : 2 ≤ a0.1 ∧ a0.1 ≤ 6) (s1 : 1 ≤ a0.2.1 ∧ a0.2.1 ≤ 1000) :
    Calls Tryd.prog 133 #[.agg es0.toArray, .agg es1.toArray] w fun e w' => e = .returned (.bool (goodCfg a0 a1)) ∧ Below w.heap.size w w' := by
  have H0 := h0
  obtain ⟨Az0_2, cz0_2, rfl, gz0_0, gz0_1, gz0_2⟩ := shape_Machine h0
  have jz0_0 := gz0_0; unfold I64 at jz0_0
  have jz0_1 := gz0_1; unfold I64 at jz0_1
  have lz0_2 := gz0_2.len
  have H1 := h1
  obtain ⟨Az1_1, cz1_1, Az1_2, cz1_2, rfl, gz1_0, gz1_1, gz1_2⟩ := shape_Config h1
  have jz1_0 := gz1_0; unfold I64 at jz1_0
  have lz1_1 := gz1_1.len
  have lz1_2 := gz1_2.len
  have HH1 := Held.start Nob w
  refine enter (n := 25) Tryd.func133 rfl rfl rfl fun a_2 HE3 => ?_
  refine wp_seq ?_
  refine rg ?_
  refine pl fun K_4 hK5 => ?_
  refine st_box (cs := [.int .i64 (a0.1), .int .i64 (a0.2.1), .slice Az0_2 (a0.2.2.length) cz0_2]) HE3 HH1 rfl rfl (wt0 rfl) rfl fun q21 a_6 w' HE7 HH8 => hK5 _ _ ?_
  refine pl fun K_9 hK10 => ?_
  refine st_box (cs := [.int .i64 (a1.1), .slice Az1_1 (a1.2.1.length) cz1_1, .slice Az1_2 (a1.2.2.length) cz1_2]) HE7 HH8 rfl rfl (wt0 rfl) rfl fun q22 a_11 w' HE12 HH13 => hK10 _ _ ?_
  refine pl_x HE12 HH13 (wt0 rfl) (x_assign rfl) rfl rfl fun a_14 HE15 => ?_
  refine wpList_nil ?_
  clear a_2 HE3 HH1 K_4 hK5 a_6 HE7 HH8 a_11 HE12 hK10 K_9
  refine nrm ?_
  refine wp_seq ?_
  refine rg ?_
  refine pl_x HE15 HH13 (wt0 rfl) (x_fieldAddr fa_80_0 rfl) rfl rfl fun a_16 HE17 => ?_
  refine pl_x HE17 HH13 (wt0 rfl) (x_load1 tv_2 rfl (c_blk 0 rfl rfl)) rfl rfl fun a_18 HE19 => ?_
  refine pl_x HE19 HH13 (wt0 rfl) (x_fieldAddr fa_78_1 rfl) rfl rfl fun a_20 HE21 => ?_
  refine pl_x HE21 HH13 (wt0 rfl) (x_load1 tv_2 rfl (c_blk 1 rfl rfl)) rfl rfl fun a_22 HE23 => ?_
  refine pl_x HE23 HH13 (wt0 rfl) (x_sub rfl rfl (by exact ⟨by omega, by omega⟩)) rfl rfl fun a_24 HE25 => ?_
  refine pl fun K_26 hK27 => ?_
  refine st_call HE25 (wt0 rfl) rfl rfl rfl en_104 rfl rfl (impl_within a1.1 0 (a0.2.1 - 1) _ ) fun e w' hr => ?_
  obtain ⟨rfl, rfl⟩ := hr
  refine ⟨_, rfl, fun a_28 HE29 => hK27 _ _ ?_⟩
  refine pl_x HE29 HH13 (wt0 rfl) (x_move rfl) rfl rfl fun a_30 HE31 => ?_
  rcases Bool.eq_false_or_eq_true ((withinB a1.1 0 (a0.2.1 - 1))) with hc24 | hc24
  · refine pl_x HE31 HH13 (wtT HE31 rfl rfl rfl hc24) (x_fieldAddr fa_80_1 rfl) rfl rfl fun a_32 HE33 => ?_
    refine pl_x HE33 HH13 (wtT HE33 rfl rfl rfl hc24) (x_load1 tv_51 rfl (c_blk 0 rfl rfl)) rfl rfl fun a_34 HE35 => ?_
    refine pl_x HE35 HH13 (wtT HE35 rfl rfl rfl hc24) (x_fieldAddr fa_78_0 rfl) rfl rfl fun a_36 HE37 => ?_
    refine pl_x HE37 HH13 (wtT HE37 rfl rfl rfl hc24) (x_load1 tv_2 rfl (c_blk 1 rfl rfl)) rfl rfl fun a_38 HE39 => ?_
    refine pl fun K_40 hK41 => ?_
    refine st_call HE39 (wtT HE39 rfl rfl rfl hc24) rfl rfl rfl en_163 rfl rfl (impl_validSide _ _ a1.2.1 a0.1 200 _ (HH13.old gz1_1) (by omega)) fun e w' hr => ?_
    obtain ⟨rfl, rfl⟩ := hr
    refine ⟨_, rfl, fun a_42 HE43 => hK41 _ _ ?_⟩
    refine pl_x HE43 HH13 (wt0 rfl) (x_pickT rfl hc24 rfl) rfl rfl fun a_44 HE45 => ?_
    refine pl_x HE45 HH13 (wt0 rfl) (x_move rfl) rfl rfl fun a_46 HE47 => ?_
    rcases Bool.eq_false_or_eq_true ((sideB a1.2.1 a0.1 200)) with hc26 | hc26
    · refine pl_x HE47 HH13 (wtT HE47 rfl rfl rfl hc26) (x_fieldAddr fa_80_2 rfl) rfl rfl fun a_48 HE49 => ?_
      refine pl_x HE49 HH13 (wtT HE49 rfl rfl rfl hc26) (x_load1 tv_51 rfl (c_blk 0 rfl rfl)) rfl rfl fun a_50 HE51 => ?_
      refine pl_x HE51 HH13 (wtT HE51 rfl rfl rfl hc26) (x_fieldAddr fa_78_0 rfl) rfl rfl fun a_52 HE53 => ?_
      refine pl_x HE53 HH13 (wtT HE53 rfl rfl rfl hc26) (x_load1 tv_2 rfl (c_blk 1 rfl rfl)) rfl rfl fun a_54 HE55 => ?_
      refine pl fun K_56 hK57 => ?_
      refine st_call HE55 (wtT HE55 rfl rfl rfl hc26) rfl rfl rfl en_163 rfl rfl (impl_validSide _ _ a1.2.2 a0.1 200 _ (HH13.old gz1_2) (by omega)) fun e w' hr => ?_
      obtain ⟨rfl, rfl⟩ := hr
      refine ⟨_, rfl, fun a_58 HE59 => hK57 _ _ ?_⟩
      refine pl_x HE59 HH13 (wt0 rfl) (x_pickT rfl hc26 rfl) rfl rfl fun a_60 HE61 => ?_
      refine pl_x HE61 HH13 (wt0 rfl) (x_assign rfl) rfl rfl fun a_62 HE63 => ?_
      refine wpList_nil ?_
      clear a_14 HE15 a_16 HE17 a_18 HE19 a_20 HE21 a_22 HE23 a_24 HE25 a_28 HE29 a_30 HE31 a_32 HE33 a_34 HE35 a_36 HE37 K_26 hK27 a_38 HE39 a_42 HE43 a_44 HE45 a_46 HE47 a_48 HE49 a_50 HE51 a_52 HE53 K_40 hK41 a_54 HE55 a_58 HE59 a_60 HE61 hK57 K_56
      refine nrm ?_
      refine wp_ret ?_
      refine ret1 HE63 rfl (rv_tmp rfl) ?_
      have hF : (goodCfg a0 a1) = (sideB a1.2.2 a0.1 200) := by
        simp [goodCfg, hc24, hc26]
      exact ⟨by first | (rw [hF] <;> rfl) | rfl | (rw [hF]; simp only [Ending.returned.injEq, Value.slice.injEq, true_and, and_true]; first | omega | (simp; done)) | (rw [hF]; simp; omega), HH13.below⟩
    · refine pl_no HE47 (wtF HE47 rfl rfl rfl hc26) rfl rfl fun a_64 HE65 => ?_
      refine pl_no HE65 (wtF HE65 rfl rfl rfl hc26) rfl rfl fun a_66 HE67 => ?_
      refine pl_no HE67 (wtF HE67 rfl rfl rfl hc26) rfl rfl fun a_68 HE69 => ?_
      refine pl_no HE69 (wtF HE69 rfl rfl rfl hc26) rfl rfl fun a_70 HE71 => ?_
      refine pl_no HE71 (wtF HE71 rfl rfl rfl hc26) rfl rfl fun a_72 HE73 => ?_
      refine pl_x HE73 HH13 (wt0 rfl) (x_pickF rfl hc26 rfl) rfl rfl fun a_74 HE75 => ?_
      refine pl_x HE75 HH13 (wt0 rfl) (x_assign rfl) rfl rfl fun a_76 HE77 => ?_
      refine wpList_nil ?_
      clear a_14 HE15 a_16 HE17 a_18 HE19 a_20 HE21 a_22 HE23 a_24 HE25 a_28 HE29 a_30 HE31 a_32 HE33 a_34 HE35 a_36 HE37 K_26 hK27 a_38 HE39 a_42 HE43 a_44 HE45 a_46 HE47 a_64 HE65 a_66 HE67 a_68 HE69 a_70 HE71 a_72 HE73 a_74 HE75 hK41 K_40
      refine nrm ?_
      refine wp_ret ?_
      refine ret1 HE77 rfl (rv_tmp rfl) ?_
      have hF : (goodCfg a0 a1) = false := by
        simp [goodCfg, hc24, hc26]
      exact ⟨by first | (rw [hF] <;> rfl) | rfl | (rw [hF]; simp only [Ending.returned.injEq, Value.slice.injEq, true_and, and_true]; first | omega | (simp; done)) | (rw [hF]; simp; omega), HH13.below⟩
  · refine pl_no HE31 (wtF HE31 rfl rfl rfl hc24) rfl rfl fun a_78 HE79 => ?_
    refine pl_no HE79 (wtF HE79 rfl rfl rfl hc24) rfl rfl fun a_80 HE81 => ?_
    refine pl_no HE81 (wtF HE81 rfl rfl rfl hc24) rfl rfl fun a_82 HE83 => ?_
    refine pl_no HE83 (wtF HE83 rfl rfl rfl hc24) rfl rfl fun a_84 HE85 => ?_
    refine pl_no HE85 (wtF HE85 rfl rfl rfl hc24) rfl rfl fun a_86 HE87 => ?_
    refine pl_x HE87 HH13 (wt0 rfl) (x_pickF rfl hc24 rfl) rfl rfl fun a_88 HE89 => ?_
    refine pl_x HE89 HH13 (wt0 rfl) (x_move rfl) rfl rfl fun a_90 HE91 => ?_
    refine pl_no HE91 (wtF HE91 rfl rfl rfl rfl) rfl rfl fun a_92 HE93 => ?_
    refine pl_no HE93 (wtF HE93 rfl rfl rfl rfl) rfl rfl fun a_94 HE95 => ?_
    refine pl_no HE95 (wtF HE95 rfl rfl rfl rfl) rfl rfl fun a_96 HE97 => ?_
    refine pl_no HE97 (wtF HE97 rfl rfl rfl rfl) rfl rfl fun a_98 HE99 => ?_
    refine pl_no HE99 (wtF HE99 rfl rfl rfl rfl) rfl rfl fun a_100 HE101 => ?_
    refine pl_x HE101 HH13 (wt0 rfl) (x_pickF rfl rfl rfl) rfl rfl fun a_102 HE103 => ?_
    refine pl_x HE103 HH13 (wt0 rfl) (x_assign rfl) rfl rfl fun a_104 HE105 => ?_
    refine wpList_nil ?_
    clear a_14 HE15 a_16 HE17 a_18 HE19 a_20 HE21 a_22 HE23 a_24 HE25 a_28 HE29 a_30 HE31 a_78 HE79 a_80 HE81 a_82 HE83 a_84 HE85 a_86 HE87 a_88 HE89 a_90 HE91 a_92 HE93 a_94 HE95 a_96 HE97 a_98 HE99 a_100 HE101 a_102 HE103 hK27 K_26
    refine nrm ?_
    refine wp_ret ?_
    refine ret1 HE105 rfl (rv_tmp rfl) ?_
    have hF : (goodCfg a0 a1) = false := by
      simp [goodCfg, hc24]
    exact ⟨by first | (rw [hF] <;> rfl) | rfl | (rw [hF]; simp only [Ending.returned.injEq, Value.slice.injEq, true_and, and_true]; first | omega | (simp; done)) | (rw [hF]; simp; omega), HH13.below⟩

set_option maxRecDepth 100000 in
set_option maxHeartbeats 4000000 in
theorem impl_ValidConfig (es0 : List Value) (a0 : tMachine) (es1 : List Value) (a1 : tConfig) (w : World) (h0 : eMachine.R w (Old w) es0 a0) (h1 : eConfig.R w (Old w) es1 a1) :
    Calls Tryd.prog 92 #[.agg es0.toArray, .agg es1.toArray] w fun e w' => e = .returned (.bool (validCfg a0 a1)) ∧ Below w.heap.size w w' := by
  have H0 := h0
  obtain ⟨Az0_2, cz0_2, rfl, gz0_0, gz0_1, gz0_2⟩ := shape_Machine h0
  have jz0_0 := gz0_0; unfold I64 at jz0_0
  have jz0_1 := gz0_1; unfold I64 at jz0_1
  have lz0_2 := gz0_2.len
  have H1 := h1
  obtain ⟨Az1_1, cz1_1, Az1_2, cz1_2, rfl, gz1_0, gz1_1, gz1_2⟩ := shape_Config h1
  have jz1_0 := gz1_0; unfold I64 at jz1_0
  have lz1_1 := gz1_1.len
  have lz1_2 := gz1_2.len
  have HH1 := Held.start Nob w
  refine enter (n := 12) Tryd.func92 rfl rfl rfl fun a_2 HE3 => ?_
  refine wp_seq ?_
  refine rg ?_
  refine pl fun K_4 hK5 => ?_
  refine st_box (cs := [.int .i64 (a0.1), .int .i64 (a0.2.1), .slice Az0_2 (a0.2.2.length) cz0_2]) HE3 HH1 rfl rfl (wt0 rfl) rfl fun q21 a_6 w' HE7 HH8 => hK5 _ _ ?_
  refine pl fun K_9 hK10 => ?_
  refine st_box (cs := [.int .i64 (a1.1), .slice Az1_1 (a1.2.1.length) cz1_1, .slice Az1_2 (a1.2.2.length) cz1_2]) HE7 HH8 rfl rfl (wt0 rfl) rfl fun q22 a_11 w' HE12 HH13 => hK10 _ _ ?_
  refine pl_x HE12 HH13 (wt0 rfl) (x_assign rfl) rfl rfl fun a_14 HE15 => ?_
  refine wpList_nil ?_
  clear a_2 HE3 HH1 K_4 hK5 a_6 HE7 HH8 a_11 HE12 hK10 K_9
  refine nrm ?_
  refine wp_seq ?_
  refine rg ?_
  refine pl_x HE15 HH13 (wt0 rfl) (x_loadN (cs := [.int .i64 (a0.1), .int .i64 (a0.2.1), .slice Az0_2 (a0.2.2.length) cz0_2]) tv_78 rfl rfl (c_blkN 1 rfl)) rfl rfl fun a_16 HE17 => ?_
  refine pl fun K_18 hK19 => ?_
  refine st_call HE17 (wt0 rfl) rfl rfl rfl en_132 rfl rfl (impl_ValidMachine [.int .i64 (a0.1), .int .i64 (a0.2.1), .slice Az0_2 (a0.2.2.length) cz0_2] a0 _ (HH13.oldR H0)) fun e w' hr => ?_
  obtain ⟨rfl, hbr23⟩ := hr
  have HH20 := HH13.on hbr23
  refine ⟨_, rfl, fun a_21 HE22 => hK19 _ _ ?_⟩
  refine pl_x HE22 HH20 (wt0 rfl) (x_move rfl) rfl rfl fun a_23 HE24 => ?_
  rcases Bool.eq_false_or_eq_true ((validMach a0)) with hc24 | hc24
  · obtain ⟨v0, v1, v2, v3⟩ := validMach_facts hc24
    refine pl_x HE24 HH20 (wtT HE24 rfl rfl rfl hc24) (x_loadN (cs := [.int .i64 (a0.1), .int .i64 (a0.2.1), .slice Az0_2 (a0.2.2.length) cz0_2]) tv_78 rfl rfl (c_blkN 1 rfl)) rfl rfl fun a_25 HE26 => ?_
    refine pl_x HE26 HH20 (wtT HE26 rfl rfl rfl hc24) (x_loadN (cs := [.int .i64 (a1.1), .slice Az1_1 (a1.2.1.length) cz1_1, .slice Az1_2 (a1.2.2.length) cz1_2]) tv_80 rfl rfl (c_blkN 0 rfl)) rfl rfl fun a_27 HE28 => ?_
    refine pl fun K_29 hK30 => ?_
    refine st_call HE28 (wtT HE28 rfl rfl rfl hc24) rfl rfl rfl en_133 rfl rfl (impl_configOf [.int .i64 (a0.1), .int .i64 (a0.2.1), .slice Az0_2 (a0.2.2.length) cz0_2] a0 [.int .i64 (a1.1), .slice Az1_1 (a1.2.1.length) cz1_1, .slice Az1_2 (a1.2.2.length) cz1_2] a1 _ (HH20.oldR H0) (HH20.oldR H1) (by omega) (by omega)) fun e w' hr => ?_
    obtain ⟨rfl, hbr25⟩ := hr
    have HH31 := HH20.on hbr25
    refine ⟨_, rfl, fun a_32 HE33 => hK30 _ _ ?_⟩
    refine pl_x HE33 HH31 (wt0 rfl) (x_pickT rfl hc24 rfl) rfl rfl fun a_34 HE35 => ?_
    refine pl_x HE35 HH31 (wt0 rfl) (x_assign rfl) rfl rfl fun a_36 HE37 => ?_
    refine wpList_nil ?_
    clear a_14 HE15 HH13 a_16 HE17 a_21 HE22 a_23 HE24 a_25 HE26 K_18 hK19 HH20 a_27 HE28 a_32 HE33 a_34 HE35 hK30 K_29
    refine nrm ?_
    refine wp_ret ?_
    refine ret1 HE37 rfl (rv_tmp rfl) ?_
    have hF : (validCfg a0 a1) = (goodCfg a0 a1) := by
      simp [validCfg, hc24]
    exact ⟨by first | (rw [hF] <;> rfl) | rfl | (rw [hF]; simp only [Ending.returned.injEq, Value.slice.injEq, true_and, and_true]; first | omega | (simp; done)) | (rw [hF]; simp; omega), HH31.below⟩
  · refine pl_no HE24 (wtF HE24 rfl rfl rfl hc24) rfl rfl fun a_38 HE39 => ?_
    refine pl_no HE39 (wtF HE39 rfl rfl rfl hc24) rfl rfl fun a_40 HE41 => ?_
    refine pl_no HE41 (wtF HE41 rfl rfl rfl hc24) rfl rfl fun a_42 HE43 => ?_
    refine pl_x HE43 HH20 (wt0 rfl) (x_pickF rfl hc24 rfl) rfl rfl fun a_44 HE45 => ?_
    refine pl_x HE45 HH20 (wt0 rfl) (x_assign rfl) rfl rfl fun a_46 HE47 => ?_
    refine wpList_nil ?_
    clear a_14 HE15 HH13 a_16 HE17 a_21 HE22 a_23 HE24 a_38 HE39 a_40 HE41 a_42 HE43 a_44 HE45 hK19 K_18
    refine nrm ?_
    refine wp_ret ?_
    refine ret1 HE47 rfl (rv_tmp rfl) ?_
    have hF : (validCfg a0 a1) = false := by
      simp [validCfg, hc24]
    exact ⟨by first | (rw [hF] <;> rfl) | rfl | (rw [hF]; simp only [Ending.returned.injEq, Value.slice.injEq, true_and, and_true]; first | omega | (simp; done)) | (rw [hF]; simp; omega), HH20.below⟩

set_option maxRecDepth 100000 in
set_option maxHeartbeats 4000000 in
theorem impl_ConfigText (es0 : List Value) (a0 : tMachine) (es1 : List Value) (a1 : tConfig) (w : World) (h0 : eMachine.R w (Old w) es0 a0) (h1 : eConfig.R w (Old w) es1 a1) (hG : Glob w) :
    Calls Tryd.prog 44 #[.agg es0.toArray, .agg es1.toArray] w fun e w' => e = .returned (.string (bs (confText a0 a1))) ∧ Below w.heap.size w w' := by
  have H0 := h0
  obtain ⟨Az0_2, cz0_2, rfl, gz0_0, gz0_1, gz0_2⟩ := shape_Machine h0
  have jz0_0 := gz0_0; unfold I64 at jz0_0
  have jz0_1 := gz0_1; unfold I64 at jz0_1
  have lz0_2 := gz0_2.len
  have H1 := h1
  obtain ⟨Az1_1, cz1_1, Az1_2, cz1_2, rfl, gz1_0, gz1_1, gz1_2⟩ := shape_Config h1
  have jz1_0 := gz1_0; unfold I64 at jz1_0
  have lz1_1 := gz1_1.len
  have lz1_2 := gz1_2.len
  have HH1 := Held.start Nob w
  refine enter (n := 23) Tryd.func44 rfl rfl rfl fun a_2 HE3 => ?_
  refine wp_seq ?_
  refine rg ?_
  refine pl fun K_4 hK5 => ?_
  refine st_box (cs := [.int .i64 (a0.1), .int .i64 (a0.2.1), .slice Az0_2 (a0.2.2.length) cz0_2]) HE3 HH1 rfl rfl (wt0 rfl) rfl fun q21 a_6 w' HE7 HH8 => hK5 _ _ ?_
  refine pl fun K_9 hK10 => ?_
  refine st_box (cs := [.int .i64 (a1.1), .slice Az1_1 (a1.2.1.length) cz1_1, .slice Az1_2 (a1.2.2.length) cz1_2]) HE7 HH8 rfl rfl (wt0 rfl) rfl fun q22 a_11 w' HE12 HH13 => hK10 _ _ ?_
  refine pl_x HE12 HH13 (wt0 rfl) (x_assign rfl) rfl rfl fun a_14 HE15 => ?_
  refine wpList_nil ?_
  clear a_2 HE3 HH1 K_4 hK5 a_6 HE7 HH8 a_11 HE12 hK10 K_9
  refine nrm ?_
  refine wp_seq ?_
  refine wp_seq ?_
  refine rg ?_
  refine pl_x HE15 HH13 (wt0 rfl) (x_loadN (cs := [.int .i64 (a0.1), .int .i64 (a0.2.1), .slice Az0_2 (a0.2.2.length) cz0_2]) tv_78 rfl rfl (c_blkN 1 rfl)) rfl rfl fun a_16 HE17 => ?_
  refine pl_x HE17 HH13 (wt0 rfl) (x_loadN (cs := [.int .i64 (a1.1), .slice Az1_1 (a1.2.1.length) cz1_1, .slice Az1_2 (a1.2.2.length) cz1_2]) tv_80 rfl rfl (c_blkN 0 rfl)) rfl rfl fun a_18 HE19 => ?_
  refine pl fun K_20 hK21 => ?_
  refine st_call HE19 (wt0 rfl) rfl rfl rfl en_92 rfl rfl (impl_ValidConfig [.int .i64 (a0.1), .int .i64 (a0.2.1), .slice Az0_2 (a0.2.2.length) cz0_2] a0 [.int .i64 (a1.1), .slice Az1_1 (a1.2.1.length) cz1_1, .slice Az1_2 (a1.2.2.length) cz1_2] a1 _ (HH13.oldR H0) (HH13.oldR H1)) fun e w' hr => ?_
  obtain ⟨rfl, hbr23⟩ := hr
  have HH22 := HH13.on hbr23
  refine ⟨_, rfl, fun a_23 HE24 => hK21 _ _ ?_⟩
  refine pl_x HE24 HH22 (wt0 rfl) (x_not rfl) rfl rfl fun a_25 HE26 => ?_
  refine wpList_nil ?_
  clear a_14 HE15 a_16 HE17 HH13 a_18 HE19 a_23 HE24 hK21 K_20
  refine nrm ?_
  refine cnd_nb HE26 rfl (fun hc24 => ?_) (fun hc24 => ?_)
  · refine wp_seq ?_
    refine rg ?_
    refine pl_x HE26 HH22 (wt0 rfl) (x_assign rfl) rfl rfl fun a_27 HE28 => ?_
    refine wpList_nil ?_
    clear a_25 HE26
    refine nrm ?_
    refine wp_ret ?_
    refine (thn_ret ?_)
    refine ret1 HE28 rfl (rv_tmp rfl) ?_
    have hF : (confText a0 a1) = [] := by
      first | (simp [confText, hc24]; done) | (unfold confText; rw [if_pos ‹_›]; rfl)
    exact ⟨by first | (rw [hF] <;> rfl) | rfl | (rw [hF]; simp only [Ending.returned.injEq, Value.slice.injEq, true_and, and_true]; first | omega | (simp; done)) | (rw [hF]; simp; omega), HH22.below⟩
  · obtain ⟨v0, v1, v2, v3⟩ := validCfg_facts hc24
    obtain ⟨v4, v5⟩ := v1
    obtain ⟨v6, v7⟩ := rev_facts ⟨v4, v5⟩
    have v8 := digT_len a1.2.1.reverse
    have v9 := digT_len a1.2.2
    have v10 : (List.reverse a1.2.1).length = a1.2.1.length := List.length_reverse
    refine wp_skip ?_
    refine nrm ?_
    refine wp_seq ?_
    refine dr_start (Held Nob w [rBlk q22 80 [.int .i64 (a1.1), .slice Az1_1 (a1.2.1.length) cz1_1, .slice Az1_2 (a1.2.2.length) cz1_2], rBlk q21 78 [.int .i64 (a0.1), .int .i64 (a0.2.1), .slice Az0_2 (a0.2.2.length) cz0_2]]) 15 #[false, false, false, false, false, false, false, false, false, false, false, false, false, false, false] hmix rfl rfl HH22 (fun _ h => h.sel [0, 1] (by decide) rfl) fun w' HH29 => ?_
    have HS30 := HH29
    refine dr_take (i := 0) (ls' := #[true, false, false, false, false, false, false, false, false, false, false, false, false, false, false]) HE26 HS30 rfl (by kernel_rfl) (by kernel_rfl) (by kernel_rfl) (fun _ _ _ h => h) rfl (wt0 rfl) (x_fieldAddr fa_80_1 rfl) rfl rfl fun a_31 HE32 => ?_
    refine dr_take (i := 1) (ls' := #[true, true, false, false, false, false, false, false, false, false, false, false, false, false, false]) HE32 HS30 rfl (by kernel_rfl) (by kernel_rfl) (by kernel_rfl) (fun _ _ _ h => h) rfl (wt0 rfl) (x_load1 tv_51 rfl (c_blk 0 rfl rfl)) rfl rfl fun a_33 HE34 => ?_
    refine dr_take (i := 5) (ls' := #[true, true, false, false, false, true, false, false, false, false, false, false, false, false, false]) HE34 HS30 rfl (by kernel_rfl) (by kernel_rfl) (by kernel_rfl) (fun _ _ _ h => h) rfl (wt0 rfl) (x_fieldAddr fa_80_0 rfl) rfl rfl fun a_35 HE36 => ?_
    refine dr_take (i := 6) (ls' := #[true, true, false, false, false, true, true, false, false, false, false, false, false, false, false]) HE36 HS30 rfl (by kernel_rfl) (by kernel_rfl) (by kernel_rfl) (fun _ _ _ h => h) rfl (wt0 rfl) (x_load1 tv_2 rfl (c_blk 0 rfl rfl)) rfl rfl fun a_37 HE38 => ?_
    refine dr_take (i := 10) (ls' := #[true, true, false, false, false, true, true, false, false, false, true, false, false, false, false]) HE38 HS30 rfl (by kernel_rfl) (by kernel_rfl) (by kernel_rfl) (fun _ _ _ h => h) rfl (wt0 rfl) (x_fieldAddr fa_80_2 rfl) rfl rfl fun a_39 HE40 => ?_
    refine dr_take (i := 11) (ls' := #[true, true, false, false, false, true, true, false, false, false, true, true, false, false, false]) HE40 HS30 rfl (by kernel_rfl) (by kernel_rfl) (by kernel_rfl) (fun _ _ _ h => h) rfl (wt0 rfl) (x_load1 tv_51 rfl (c_blk 0 rfl rfl)) rfl rfl fun a_41 HE42 => ?_
    refine dr_one (i := 2) (ls' := #[true, true, true, false, false, true, true, false, false, false, true, true, false, false, false]) rfl (by kernel_rfl) rfl fun K_43 hK44 => ?_
    refine st_call HE42 (wt0 rfl) rfl rfl rfl en_94 rfl rfl (impl_reversed _ _ a1.2.1 _ (HH29.old gz1_1) (by omega)) fun e w' hr => ?_
    obtain ⟨Ar25_0, cr25_0, rfl, hor25_0, hbr25⟩ := hr
    obtain ⟨Sr25, HH45⟩ := HH29.newS hbr25 hor25_0
    refine ⟨_, rfl, fun a_46 HE47 => hK44 _ _ (by exact HH45.sel [1, 2] (by decide) rfl) ?_⟩
    have HS48 := HH45.sel [1, 2] (by decide) rfl
    refine dr_one (i := 3) (ls' := #[true, true, true, true, false, true, true, false, false, false, true, true, false, false, false]) rfl (by kernel_rfl) rfl fun K_49 hK50 => ?_
    refine st_call HE47 (wt0 rfl) rfl rfl rfl en_93 rfl rfl (impl_digitsText _ _ (List.reverse a1.2.1) _ (HH45.sl (i := 0) rfl) (by assumption) (by omega)) fun e w' hr => ?_
    have hAr26_0 := digT_len (List.reverse a1.2.1)
    obtain ⟨rfl, hbr26⟩ := hr
    have HH51 := HH45.on hbr26
    refine ⟨_, rfl, fun a_52 HE53 => hK50 _ _ (by exact HH51.sel [1, 2] (by decide) rfl) ?_⟩
    have HS54 := HH51.sel [1, 2] (by decide) rfl
    refine dr_take (i := 4) (ls' := #[true, true, true, true, true, true, true, false, false, false, true, true, false, false, false]) HE53 HS54 rfl (by kernel_rfl) (by kernel_rfl) (by kernel_rfl) (fun _ _ _ h => h) rfl (wt0 rfl) (x_sadd rfl rfl (by first | omega | (simp only [List.length_append, List.length_cons, List.length_nil]; omega) | (simp; omega))) rfl rfl fun a_55 HE56 => ?_
    refine dr_one (i := 7) (ls' := #[true, true, true, true, true, true, true, true, false, false, true, true, false, false, false]) rfl (by kernel_rfl) rfl fun K_57 hK58 => ?_
    refine st_call HE56 (wt0 rfl) rfl rfl rfl en_60 rfl rfl (impl_Decimal a1.1 _ (HH51.glob hG) (by omega)) fun e w' hr => ?_
    have hAr27_0 := itoa_len (n := a1.1) (by omega)
    obtain ⟨rfl, hbr27⟩ := hr
    have HH59 := HH51.on hbr27
    refine ⟨_, rfl, fun a_60 HE61 => hK58 _ _ (by exact HH59.sel [1, 2] (by decide) rfl) ?_⟩
    have HS62 := HH59.sel [1, 2] (by decide) rfl
    refine dr_take (i := 8) (ls' := #[true, true, true, true, true, true, true, true, true, false, true, true, false, false, false]) HE61 HS62 rfl (by kernel_rfl) (by kernel_rfl) (by kernel_rfl) (fun _ _ _ h => h) rfl (wt0 rfl) (x_sadd rfl rfl (by first | omega | (simp only [List.length_append, List.length_cons, List.length_nil]; omega) | (simp; omega))) rfl rfl fun a_63 HE64 => ?_
    refine dr_take (i := 9) (ls' := #[true, true, true, true, true, true, true, true, true, true, true, true, false, false, false]) HE64 HS62 rfl (by kernel_rfl) (by kernel_rfl) (by kernel_rfl) (fun _ _ _ h => h) rfl (wt0 rfl) (x_sadd rfl rfl (by first | omega | (simp only [List.length_append, List.length_cons, List.length_nil]; omega) | (simp; omega))) rfl rfl fun a_65 HE66 => ?_
    refine dr_one (i := 12) (ls' := #[true, true, true, true, true, true, true, true, true, true, true, true, true, false, false]) rfl (by kernel_rfl) rfl fun K_67 hK68 => ?_
    refine st_call HE66 (wt0 rfl) rfl rfl rfl en_93 rfl rfl (impl_digitsText _ _ a1.2.2 _ (HH59.old gz1_2) (by assumption) (by omega)) fun e w' hr => ?_
    have hAr28_0 := digT_len a1.2.2
    obtain ⟨rfl, hbr28⟩ := hr
    have HH69 := HH59.on hbr28
    refine ⟨_, rfl, fun a_70 HE71 => hK68 _ _ (by exact HH69.sel [1, 2] (by decide) rfl) ?_⟩
    have HS72 := HH69.sel [1, 2] (by decide) rfl
    refine dr_take (i := 13) (ls' := #[true, true, true, true, true, true, true, true, true, true, true, true, true, true, false]) HE71 HS72 rfl (by kernel_rfl) (by kernel_rfl) (by kernel_rfl) (fun _ _ _ h => h) rfl (wt0 rfl) (x_sadd rfl rfl (by first | omega | (simp only [List.length_append, List.length_cons, List.length_nil]; omega) | (simp; omega))) rfl rfl fun a_73 HE74 => ?_
    refine dr_take (i := 14) (ls' := #[true, true, true, true, true, true, true, true, true, true, true, true, true, true, true]) HE74 HS72 rfl (by kernel_rfl) (by kernel_rfl) (by kernel_rfl) (fun _ _ _ h => h) rfl (wt0 rfl) (x_assign rfl) rfl rfl fun a_75 HE76 => ?_
    refine dr_done (by kernel_rfl) ?_
    clear HH22 a_25 HE26 a_31 HE32 a_33 HE34 a_35 HE36 a_37 HE38 a_39 HE40 HH29 a_41 HE42 HS30 K_43 hK44 HH45 a_46 HE47 HS48 a_52 HE53 K_49 hK50 HH51 a_55 HE56 HS54 a_60 HE61 a_63 HE64 K_57 hK58 HH59 a_65 HE66 HS62 a_70 HE71 a_73 HE74 hK68 K_67
    refine nrm ?_
    refine wp_ret ?_
    refine ret1 HE76 rfl (rv_tmp rfl) ?_
    have hF : (confText a0 a1) = (((((digT (List.reverse a1.2.1)) ++ [40]) ++ (Go.Lib.itoa a1.1)) ++ [41]) ++ (digT a1.2.2)) := by
      first | (simp [confText, hc24]; done) | (unfold confText; rw [if_pos ‹_›]; rfl)
    exact ⟨by first | (rw [hF] <;> rfl) | rfl | (rw [hF]; simp only [Ending.returned.injEq, Value.slice.injEq, true_and, and_true]; first | omega | (simp; done)) | (rw [hF]; simp; omega), HH69.below⟩

set_option maxRecDepth 100000 in
set_option maxHeartbeats 4000000 in
theorem spec_l05None  (w : World)  :
    Calls Tryd.prog 157 #[] w fun e w' => ∃ (es0' : List Value), e = .returned (.agg es0'.toArray) ∧ eRule.O w' (Fr w w') es0' noRl ∧ Below w.heap.size w w' := by
  have HH1 := Held.start Nob w
  refine enter (n := 2) Tryd.func157 rfl rfl rfl fun a_2 HE3 => ?_
  refine wp_seq ?_
  refine rg ?_
  refine pl fun K_4 hK5 => ?_
  refine st_alloc HE3 HH1 tv_179 (wt0 rfl) rfl fun q21 a_6 w' HE7 HH8 => hK5 _ _ ?_
  refine wpList_nil ?_
  clear a_2 HE3 HH1 hK5 K_4
  refine nrm ?_
  refine wp_seq ?_
  refine rg ?_
  refine pl_x HE7 HH8 (wt0 rfl) (show XS _ _ _ _ (.agg #[.int .i64 (0), .int .i64 (0), .int .i64 (-1)]) from x_build (vs := [(2, .int .i64 (-1))]) tb_179 rfl (by simp [Value.oneCell'])) rfl rfl fun a_9 HE10 => ?_
  refine pl fun K_11 hK12 => ?_
  refine st_store (vs := [.int .i64 (0), .int .i64 (0), .int .i64 (-1)]) 0 HE10 HH8 tv_179 rfl rfl rfl rfl rfl rfl (by simp [Value.oneCell']) (wt0 rfl) fun w' HH13 => hK12 _ _ ?_
  refine wpList_nil ?_
  clear a_6 HE7 HH8 hK12 K_11
  refine nrm ?_
  refine wp_ret ?_
  refine ret1 HE10 rfl (rv_cell rfl (tv_179.loadN (cs := [.int .i64 (0), .int .i64 (0), .int .i64 (-1)]) rfl (c_blkN 0 rfl _ HH13))) ?_
  have HH14 := HH13.flatO (E := eRule) (cs := [.int .i64 (0), .int .i64 (0), .int .i64 (-1)]) (x := (0, 0, -1)) (fun _ => (oPrN (oI (by exact ⟨by omega, by omega⟩)) (oPrN (oI (by exact ⟨by omega, by omega⟩)) (oI (by exact ⟨by omega, by omega⟩)))))
  have hF : noRl = (0, 0, -1) := by
    rfl
  exact ⟨_, rfl, by rw [hF]; exact (HH14.o (i := 0) rfl), HH14.below⟩

set_option maxRecDepth 100000 in
set_option maxHeartbeats 4000000 in
theorem spec_l05Rule (es0 : List Value) (a0 : tRule) (a1 : Int) (a2 : Int) (w : World) (h0 : eRule.R w (Old w) es0 a0) (s0 : 2 ≤ a1 ∧ a1 ≤ 6) (s1 : 1 ≤ a2 ∧ a2 ≤ 1000) :
    Calls Tryd.prog 127 #[.agg es0.toArray, .int .i64 a1, .int .i64 a2] w fun e w' => e = .returned (.bool ((fun r s t => ruleB s t r) a0 a1 a2)) ∧ Below w.heap.size w w' := by
  have H0 := h0
  obtain ⟨rfl, gz0_0, gz0_1, gz0_2⟩ := shape_Rule h0
  have jz0_0 := gz0_0; unfold I64 at jz0_0
  have jz0_1 := gz0_1; unfold I64 at jz0_1
  have jz0_2 := gz0_2; unfold I64 at jz0_2
  have HH1 := Held.start Nob w
  refine enter (n := 32) Tryd.func127 rfl rfl rfl fun a_2 HE3 => ?_
  refine wp_seq ?_
  refine rg ?_
  refine pl fun K_4 hK5 => ?_
  refine st_box (cs := [.int .i64 (a0.1), .int .i64 (a0.2.1), .int .i64 (a0.2.2)]) HE3 HH1 rfl rfl (wt0 rfl) rfl fun q21 a_6 w' HE7 HH8 => hK5 _ _ ?_
  refine pl_x HE7 HH8 (wt0 rfl) (x_assign rfl) rfl rfl fun a_9 HE10 => ?_
  refine wpList_nil ?_
  clear a_2 HE3 HH1 a_6 HE7 hK5 K_4
  refine nrm ?_
  refine wp_seq ?_
  refine wp_seq ?_
  refine dr_start (Held Nob w [rBlk q21 179 [.int .i64 (a0.1), .int .i64 (a0.2.1), .int .i64 (a0.2.2)]]) 3 #[false, false, false] hmix rfl rfl HH8 (fun _ h => h.sel [0] (by decide) rfl) fun w' HH11 => ?_
  have HS12 := HH11
  refine dr_take (i := 0) (ls' := #[true, false, false]) HE10 HS12 rfl (by kernel_rfl) (by kernel_rfl) (by kernel_rfl) (fun _ _ _ h => h) rfl (wt0 rfl) (x_loadN (cs := [.int .i64 (a0.1), .int .i64 (a0.2.1), .int .i64 (a0.2.2)]) tv_179 rfl rfl (c_blkN 0 rfl)) rfl rfl fun a_13 HE14 => ?_
  refine dr_one (i := 1) (ls' := #[true, true, false]) rfl (by kernel_rfl) rfl fun K_15 hK16 => ?_
  refine st_call HE14 (wt0 rfl) rfl rfl rfl en_157 rfl rfl (spec_l05None  _ ) fun e w' hr => ?_
  obtain ⟨esr22_0, rfl, hor22_0, hbr22⟩ := hr
  have hr := eRule.read hor22_0
  obtain ⟨Sr22, HH17⟩ := HH11.newO hbr22 hor22_0
  obtain ⟨rfl, gr22_0_0, gr22_0_1, gr22_0_2⟩ := shape_Rule hr
  have jr22_0_0 := gr22_0_0; unfold I64 at jr22_0_0
  have jr22_0_1 := gr22_0_1; unfold I64 at jr22_0_1
  have jr22_0_2 := gr22_0_2; unfold I64 at jr22_0_2
  have HH18 := HH17.sel [1] (by decide) rfl
  refine ⟨_, rfl, fun a_19 HE20 => hK16 _ _ (by exact HH18.sel [0] (by decide) rfl) ?_⟩
  have HS21 := HH18.sel [0] (by decide) rfl
  refine dr_take (i := 2) (ls' := #[true, true, true]) HE20 HS21 rfl (by kernel_rfl) (by kernel_rfl) (by kernel_rfl) (fun _ _ _ h => h) rfl (wt0 rfl) (x_aeql eqg_Rule (fun w => eqr_Rule w _ _ _ _ _ _) rfl rfl) rfl rfl fun a_22 HE23 => ?_
  refine dr_done (by kernel_rfl) ?_
  clear HH8 a_9 HE10 HH11 HH17 a_13 HE14 HS12 a_19 HE20 hK16 K_15
  refine nrm ?_
  refine cnd_b HE23 rfl (fun hc23 => ?_) (fun hc23 => ?_)
  · refine wp_seq ?_
    refine rg ?_
    refine pl_x HE23 HH18 (wt0 rfl) (x_assign rfl) rfl rfl fun a_24 HE25 => ?_
    refine wpList_nil ?_
    clear a_22 HE23
    refine nrm ?_
    refine wp_ret ?_
    refine (thn_ret ?_)
    refine ret1 HE25 rfl (rv_tmp rfl) ?_
    have hF : ((fun r s t => ruleB s t r) a0 a1 a2) = true := by
      unfold ruleB isRl; first | (simp [hc23]; done) | grind
    exact ⟨by first | (rw [hF] <;> rfl) | rfl | (rw [hF]; simp only [Ending.returned.injEq, Value.slice.injEq, true_and, and_true]; first | omega | (simp; done)) | (rw [hF]; simp; omega), HH18.below⟩
  · refine wp_skip ?_
    refine nrm ?_
    refine wp_seq ?_
    refine rg ?_
    refine pl_x HE23 HH18 (wt0 rfl) (x_fieldAddr fa_179_0 rfl) rfl rfl fun a_26 HE27 => ?_
    refine pl_x HE27 HH18 (wt0 rfl) (x_load1 tv_2 rfl (c_blk 0 rfl rfl)) rfl rfl fun a_28 HE29 => ?_
    refine pl_x HE29 HH18 (wt0 rfl) (x_move rfl) rfl rfl fun a_30 HE31 => ?_
    refine pl_x HE31 HH18 (wt0 rfl) (x_sub rfl rfl (by exact ⟨by omega, by omega⟩)) rfl rfl fun a_32 HE33 => ?_
    refine pl fun K_34 hK35 => ?_
    refine st_call HE33 (wt0 rfl) rfl rfl rfl en_52 rfl rfl (spec_l00In a0.1 0 (a1 - 1) _ ) fun e w' hr => ?_
    obtain ⟨rfl, rfl⟩ := hr
    refine ⟨_, rfl, fun a_36 HE37 => hK35 _ _ ?_⟩
    refine pl_x HE37 HH18 (wt0 rfl) (x_move rfl) rfl rfl fun a_38 HE39 => ?_
    rcases Bool.eq_false_or_eq_true ((withinB a0.1 0 (a1 - 1))) with hc25 | hc25
    · refine pl_x HE39 HH18 (wtT HE39 rfl rfl rfl hc25) (x_fieldAddr fa_179_1 rfl) rfl rfl fun a_40 HE41 => ?_
      refine pl_x HE41 HH18 (wtT HE41 rfl rfl rfl hc25) (x_load1 tv_2 rfl (c_blk 0 rfl rfl)) rfl rfl fun a_42 HE43 => ?_
      refine pl_x HE43 HH18 (wtT HE43 rfl rfl rfl hc25) (x_eql rfl rfl) rfl rfl fun a_44 HE45 => ?_
      refine pl_x HE45 HH18 (wtT HE45 rfl rfl rfl hc25) (x_move rfl) rfl rfl fun a_46 HE47 => ?_
      by_cases hc26 : a0.2.1 = 1
      · refine pl_no HE47 (wtF HE47 rfl rfl rfl (beq_t hc26)) rfl rfl fun a_48 HE49 => ?_
        refine pl_no HE49 (wtF HE49 rfl rfl rfl (beq_t hc26)) rfl rfl fun a_50 HE51 => ?_
        refine pl_no HE51 (wtF HE51 rfl rfl rfl (beq_t hc26)) rfl rfl fun a_52 HE53 => ?_
        refine pl_x HE53 HH18 (wtT HE53 rfl rfl rfl hc25) (x_pickT rfl (beq_t hc26) rfl) rfl rfl fun a_54 HE55 => ?_
        refine pl_x HE55 HH18 (wt0 rfl) (x_pickT rfl hc25 rfl) rfl rfl fun a_56 HE57 => ?_
        refine pl_x HE57 HH18 (wt0 rfl) (x_move rfl) rfl rfl fun a_58 HE59 => ?_
        refine pl_x HE59 HH18 (wtT HE59 rfl rfl rfl rfl) (x_fieldAddr fa_179_2 rfl) rfl rfl fun a_60 HE61 => ?_
        refine pl_x HE61 HH18 (wtT HE61 rfl rfl rfl rfl) (x_load1 tv_2 rfl (c_blk 0 rfl rfl)) rfl rfl fun a_62 HE63 => ?_
        refine pl_x HE63 HH18 (wtT HE63 rfl rfl rfl rfl) (x_move rfl) rfl rfl fun a_64 HE65 => ?_
        refine pl_x HE65 HH18 (wtT HE65 rfl rfl rfl rfl) (x_sub rfl rfl (by exact ⟨by omega, by omega⟩)) rfl rfl fun a_66 HE67 => ?_
        refine pl fun K_68 hK69 => ?_
        refine st_call HE67 (wtT HE67 rfl rfl rfl rfl) rfl rfl rfl en_52 rfl rfl (spec_l00In a0.2.2 0 (a2 - 1) _ ) fun e w' hr => ?_
        obtain ⟨rfl, rfl⟩ := hr
        refine ⟨_, rfl, fun a_70 HE71 => hK69 _ _ ?_⟩
        refine pl_x HE71 HH18 (wt0 rfl) (x_pickT rfl rfl rfl) rfl rfl fun a_72 HE73 => ?_
        refine pl_x HE73 HH18 (wt0 rfl) (x_assign rfl) rfl rfl fun a_74 HE75 => ?_
        refine wpList_nil ?_
        clear a_22 HE23 a_26 HE27 a_28 HE29 a_30 HE31 a_32 HE33 a_36 HE37 a_38 HE39 a_40 HE41 a_42 HE43 a_44 HE45 a_46 HE47 a_48 HE49 a_50 HE51 a_52 HE53 a_54 HE55 a_56 HE57 a_58 HE59 a_60 HE61 a_62 HE63 a_64 HE65 K_34 hK35 a_66 HE67 a_70 HE71 a_72 HE73 hK69 K_68
        refine nrm ?_
        refine wp_ret ?_
        refine ret1 HE75 rfl (rv_tmp rfl) ?_
        have hF : ((fun r s t => ruleB s t r) a0 a1 a2) = (withinB a0.2.2 0 (a2 - 1)) := by
          unfold ruleB isRl; first | (simp [hc23, hc25, hc26]; done) | grind
        exact ⟨by first | (rw [hF] <;> rfl) | rfl | (rw [hF]; simp only [Ending.returned.injEq, Value.slice.injEq, true_and, and_true]; first | omega | (simp; done)) | (rw [hF]; simp; omega), HH18.below⟩
      · refine pl_x HE47 HH18 (wtT HE47 rfl rfl rfl (beq_f hc26)) (x_fieldAddr fa_179_1 rfl) rfl rfl fun a_76 HE77 => ?_
        refine pl_x HE77 HH18 (wtT HE77 rfl rfl rfl (beq_f hc26)) (x_load1 tv_2 rfl (c_blk 0 rfl rfl)) rfl rfl fun a_78 HE79 => ?_
        refine pl_x HE79 HH18 (wtT HE79 rfl rfl rfl (beq_f hc26)) (x_eql rfl rfl) rfl rfl fun a_80 HE81 => ?_
        refine pl_x HE81 HH18 (wtT HE81 rfl rfl rfl hc25) (x_pickF rfl (beq_f hc26) rfl) rfl rfl fun a_82 HE83 => ?_
        refine pl_x HE83 HH18 (wt0 rfl) (x_pickT rfl hc25 rfl) rfl rfl fun a_84 HE85 => ?_
        refine pl_x HE85 HH18 (wt0 rfl) (x_move rfl) rfl rfl fun a_86 HE87 => ?_
        by_cases hc28 : a0.2.1 = -1
        · refine pl_x HE87 HH18 (wtT HE87 rfl rfl rfl (beq_t hc28)) (x_fieldAddr fa_179_2 rfl) rfl rfl fun a_88 HE89 => ?_
          refine pl_x HE89 HH18 (wtT HE89 rfl rfl rfl (beq_t hc28)) (x_load1 tv_2 rfl (c_blk 0 rfl rfl)) rfl rfl fun a_90 HE91 => ?_
          refine pl_x HE91 HH18 (wtT HE91 rfl rfl rfl (beq_t hc28)) (x_move rfl) rfl rfl fun a_92 HE93 => ?_
          refine pl_x HE93 HH18 (wtT HE93 rfl rfl rfl (beq_t hc28)) (x_sub rfl rfl (by exact ⟨by omega, by omega⟩)) rfl rfl fun a_94 HE95 => ?_
          refine pl fun K_96 hK97 => ?_
          refine st_call HE95 (wtT HE95 rfl rfl rfl (beq_t hc28)) rfl rfl rfl en_52 rfl rfl (spec_l00In a0.2.2 0 (a2 - 1) _ ) fun e w' hr => ?_
          obtain ⟨rfl, rfl⟩ := hr
          refine ⟨_, rfl, fun a_98 HE99 => hK97 _ _ ?_⟩
          refine pl_x HE99 HH18 (wt0 rfl) (x_pickT rfl (beq_t hc28) rfl) rfl rfl fun a_100 HE101 => ?_
          refine pl_x HE101 HH18 (wt0 rfl) (x_assign rfl) rfl rfl fun a_102 HE103 => ?_
          refine wpList_nil ?_
          clear a_22 HE23 a_26 HE27 a_28 HE29 a_30 HE31 a_32 HE33 a_36 HE37 a_38 HE39 a_40 HE41 a_42 HE43 a_44 HE45 a_46 HE47 a_76 HE77 a_78 HE79 a_80 HE81 a_82 HE83 a_84 HE85 a_86 HE87 a_88 HE89 a_90 HE91 a_92 HE93 K_34 hK35 a_94 HE95 a_98 HE99 a_100 HE101 hK97 K_96
          refine nrm ?_
          refine wp_ret ?_
          refine ret1 HE103 rfl (rv_tmp rfl) ?_
          have hF : ((fun r s t => ruleB s t r) a0 a1 a2) = (withinB a0.2.2 0 (a2 - 1)) := by
            unfold ruleB isRl; first | (simp [hc23, hc25, hc26, hc28]; done) | grind
          exact ⟨by first | (rw [hF] <;> rfl) | rfl | (rw [hF]; simp only [Ending.returned.injEq, Value.slice.injEq, true_and, and_true]; first | omega | (simp; done)) | (rw [hF]; simp; omega), HH18.below⟩
        · refine pl_no HE87 (wtF HE87 rfl rfl rfl (beq_f hc28)) rfl rfl fun a_104 HE105 => ?_
          refine pl_no HE105 (wtF HE105 rfl rfl rfl (beq_f hc28)) rfl rfl fun a_106 HE107 => ?_
          refine pl_no HE107 (wtF HE107 rfl rfl rfl (beq_f hc28)) rfl rfl fun a_108 HE109 => ?_
          refine pl_no HE109 (wtF HE109 rfl rfl rfl (beq_f hc28)) rfl rfl fun a_110 HE111 => ?_
          refine pl_no HE111 (wtF HE111 rfl rfl rfl (beq_f hc28)) rfl rfl fun a_112 HE113 => ?_
          refine pl_x HE113 HH18 (wt0 rfl) (x_pickF rfl (beq_f hc28) rfl) rfl rfl fun a_114 HE115 => ?_
          refine pl_x HE115 HH18 (wt0 rfl) (x_assign rfl) rfl rfl fun a_116 HE117 => ?_
          refine wpList_nil ?_
          clear a_22 HE23 a_26 HE27 a_28 HE29 a_30 HE31 a_32 HE33 a_36 HE37 a_38 HE39 a_40 HE41 a_42 HE43 a_44 HE45 a_46 HE47 a_76 HE77 a_78 HE79 a_80 HE81 a_82 HE83 a_84 HE85 a_86 HE87 a_104 HE105 a_106 HE107 a_108 HE109 a_110 HE111 a_112 HE113 a_114 HE115 hK35 K_34
          refine nrm ?_
          refine wp_ret ?_
          refine ret1 HE117 rfl (rv_tmp rfl) ?_
          have hF : ((fun r s t => ruleB s t r) a0 a1 a2) = false := by
            unfold ruleB isRl; first | (simp [hc23, hc25, hc26, hc28]; done) | grind
          exact ⟨by first | (rw [hF] <;> rfl) | rfl | (rw [hF]; simp only [Ending.returned.injEq, Value.slice.injEq, true_and, and_true]; first | omega | (simp; done)) | (rw [hF]; simp; omega), HH18.below⟩
    · refine pl_no HE39 (wtF HE39 rfl rfl rfl hc25) rfl rfl fun a_118 HE119 => ?_
      refine pl_no HE119 (wtF HE119 rfl rfl rfl hc25) rfl rfl fun a_120 HE121 => ?_
      refine pl_no HE121 (wtF HE121 rfl rfl rfl hc25) rfl rfl fun a_122 HE123 => ?_
      refine pl_no HE123 (wtF HE123 rfl rfl rfl hc25) rfl rfl fun a_124 HE125 => ?_
      refine pl_no HE125 (wtU HE125 rfl rfl rfl) rfl rfl fun a_126 HE127 => ?_
      refine pl_no HE127 (wtU HE127 rfl rfl rfl) rfl rfl fun a_128 HE129 => ?_
      refine pl_no HE129 (wtU HE129 rfl rfl rfl) rfl rfl fun a_130 HE131 => ?_
      refine pl_no HE131 (wtF HE131 rfl rfl rfl hc25) rfl rfl fun a_132 HE133 => ?_
      refine pl_x HE133 HH18 (wt0 rfl) (x_pickF rfl hc25 rfl) rfl rfl fun a_134 HE135 => ?_
      refine pl_x HE135 HH18 (wt0 rfl) (x_move rfl) rfl rfl fun a_136 HE137 => ?_
      refine pl_no HE137 (wtF HE137 rfl rfl rfl rfl) rfl rfl fun a_138 HE139 => ?_
      refine pl_no HE139 (wtF HE139 rfl rfl rfl rfl) rfl rfl fun a_140 HE141 => ?_
      refine pl_no HE141 (wtF HE141 rfl rfl rfl rfl) rfl rfl fun a_142 HE143 => ?_
      refine pl_no HE143 (wtF HE143 rfl rfl rfl rfl) rfl rfl fun a_144 HE145 => ?_
      refine pl_no HE145 (wtF HE145 rfl rfl rfl rfl) rfl rfl fun a_146 HE147 => ?_
      refine pl_x HE147 HH18 (wt0 rfl) (x_pickF rfl rfl rfl) rfl rfl fun a_148 HE149 => ?_
      refine pl_x HE149 HH18 (wt0 rfl) (x_assign rfl) rfl rfl fun a_150 HE151 => ?_
      refine wpList_nil ?_
      clear a_22 HE23 a_26 HE27 a_28 HE29 a_30 HE31 a_32 HE33 a_36 HE37 a_38 HE39 a_118 HE119 a_120 HE121 a_122 HE123 a_124 HE125 a_126 HE127 a_128 HE129 a_130 HE131 a_132 HE133 a_134 HE135 a_136 HE137 a_138 HE139 a_140 HE141 a_142 HE143 a_144 HE145 a_146 HE147 a_148 HE149 hK35 K_34
      refine nrm ?_
      refine wp_ret ?_
      refine ret1 HE151 rfl (rv_tmp rfl) ?_
      have hF : ((fun r s t => ruleB s t r) a0 a1 a2) = false := by
        unfold ruleB isRl; first | (simp [hc23, hc25]; done) | grind
      exact ⟨by first | (rw [hF] <;> rfl) | rfl | (rw [hF]; simp only [Ending.returned.injEq, Value.slice.injEq, true_and, and_true]; first | omega | (simp; done)) | (rw [hF]; simp; omega), HH18.below⟩

end Go.Proofs.YtjnnkmflpbildaaDoor
