/- What the proof of FnExactMultiText needs: contracts of the functions that it reaches, each once. -/
import Derived.Test.YtjnnkmflpbildaaDoorProg
import Derived.Test.YtjnnkmflpbildaaDoorQMem
import Derived.Test.YtjnnkmflpbildaaDoorQOpen
import Derived.Test.YtjnnkmflpbildaaDoorLMultiTexta
import Derived.Test.YtjnnkmflpbildaaDoorLMultiTextb
import Derived.Test.YtjnnkmflpbildaaDoorLMultiTextc
import Derived.Test.YtjnnkmflpbildaaDoorLMultiTextd
import Derived.WalkKit
import Derived.WalkSpells
import Derived.Below
import Derived.LoopTactic
import Derived.Outline
import Derived.Deep.QuietTactic
import Derived.BigQuiet
import Derived.Deep.LoopGhost
import Derived.Handy
import Derived.Lib.Hide
import Derived.Shelf.Abstract
import Derived.StillTailTactics
import Derived.OwnWalk
import Derived.Maps.AppendAt
import Derived.RegionTactic
import Derived.Deep.RegionHeld3
import Derived.IntWalk
import Derived.Deep.Upon
import Derived.Laws.OwnMore
import Derived.Maps.AppendAt
import Derived.Laws.BytesString
import Derived.Laws.Strings
import Derived.Lib.Bytes
import Derived.Lib.Strings
import Derived.Lib.FrozenHead
import Derived.Lib.RuneBytes
import Derived.Lib.LaidTab
import Derived.Laws.StructEq
import Derived.Lib.ItoaLen
import Derived.Lib.Join
import Derived.Shelf.Strconv.Itoa4
import Derived.Shelf.Strings.OnBuilder
import Derived.Shelf.Strings.BuilderK
import Derived.Shelf.Strings.BuilderRune
import Derived.Shelf.LaysM
import Derived.Ground.NamesProg
namespace Go.Proofs.YtjnnkmflpbildaaDoor
open Go.RowKit

set_option maxRecDepth 100000 in
set_option maxHeartbeats 4000000 in
theorem impl_decimals (A0 : Option Addr) (c0 : Nat) (a0 : (List Int)) (a1 : List UInt8) (w : World) (h0 : Sl eInt w (Old w) A0 c0 a0) (hG : Glob w) (s0 : a0.length ≤ 1000000) (s1 : a1.length ≤ 10) :
    Calls Tryd.prog 55 #[.slice A0 a0.length c0, .string (bs a1)] w fun e w' => e = .returned (.string (bs (decs a0 a1))) ∧ Below w.heap.size w w' := by
  have l0 := h0.len
  have HH1 := Held.start Nob w
  refine enter (n := 24) Tryd.func55 rfl rfl rfl fun a_2 HE3 => ?_
  refine wp_seq ?_
  refine rg ?_
  refine pl_x HE3 HH1 (wt0 rfl) (x_assign rfl) rfl rfl fun a_4 HE5 => ?_
  refine wpList_nil ?_
  clear a_2 HE3
  refine nrm ?_
  refine wp_seq ?_
  refine rg ?_
  refine pl fun K_6 hK7 => ?_
  refine st_lit (m := 0) (cs := []) (e := 9) HE5 HH1 (run_lit ts_106 HE5 (vs := []) rfl rfl (by simp [Value.cells]) rfl (by decide)) (wt0 rfl) rfl rfl fun q21 a_8 w' HE9 HH10 => hK7 _ _ ?_
  refine pl_x HE9 HH10 (wt0 rfl) (x_assign rfl) rfl rfl fun a_11 HE12 => ?_
  refine wpList_nil ?_
  clear a_4 HE5 HH1 a_8 HE9 hK7 K_6
  refine nrm ?_
  refine wp_seq ?_
  refine wp_seq ?_
  refine rg ?_
  refine pl_x HE12 HH10 (wt0 rfl) (x_move rfl) rfl rfl fun a_13 HE14 => ?_
  refine pl_x HE14 HH10 (wt0 rfl) (x_len Tryd.underlying51 rfl) rfl rfl fun a_15 HE16 => ?_
  refine pl_x HE16 HH10 (wt0 rfl) (x_move rfl) rfl rfl fun a_17 HE18 => ?_
  refine wpList_nil ?_
  clear a_11 HE12 a_13 HE14 a_15 HE16
  refine nrm ?_
  refine wp_block ?_
  have HH19 := Held.vecFlat (E := eTxt) (xs := []) (css := []) HH10 rfl (Nat.zero_le _) (fun i x hx => by simp at hx)
  refine lp (fun m a w' => ∃ (k : Nat) (A_5 : Option Addr) (c_5 : Nat) (S_5 : Nat → Prop), m = a0.length - k ∧ Env 24 [(5, .slice A_5 (List.length ((a0.take k).map Go.Lib.itoa)) c_5), (11, .int .i64 (k : Int)), (1, .string (bs a1)), (9, .slice A0 (a0.length) c0), (10, .int .i64 ((a0.length : Int)))] a ∧ Held Nob w [rVec eTxt 9 S_5 A_5 c_5 ((a0.take k).map Go.Lib.itoa)] w' ∧ (k ≤ a0.length)) (a0.length - (0)) ?_ ?_
  · have E22 : (a0.take 0).map Go.Lib.itoa = ([] : List (List UInt8)) := by
      first | rfl | simp
    exact ⟨0, (some ⟨q21, 0, none⟩), (List.length (α := (List UInt8)) []), (fun b => b = q21), rfl, HE18.sub ⟨(by rw [E22]; rfl), (lkI rfl (by first | rfl | omega | (simp []; done))), rfl, rfl, rfl, trivial⟩, ((HH19.sel [0] (by decide) rfl).to (by first | rfl | (rw [E22]; done) | (rw [E22]; rfl) | (simp only [E22]; done) | (simp only [E22]; rfl))), (by first | omega | assumption | (simp; done) | simp_all)⟩
  · rintro m a_20 w' ⟨k, A_5, c_5, S_5, rfl, HE21, HH22, p23_0⟩
    have ol : ((a0.take k).map Go.Lib.itoa).length ≤ 1000000 := by rw [List.length_map, List.length_take]; omega
    have oj := decs_take_len (Sl.i64 h0) (b := a1) (by omega) k
    refine wp_seq ?_
    refine rg ?_
    refine pl_x HE21 HH22 (wt0 rfl) (x_lss rfl rfl) rfl rfl fun a_23 HE24 => ?_
    refine wpList_nil ?_
    clear HH10 a_17 HE18 HH19 a_20 HE21
    refine nrm ?_
    refine wp_seq ?_
    refine cnd_d HE24 rfl (fun hc24 => ?_) (fun hc24 => ?_)
    · refine wp_skip ?_
      refine nrm ?_
      refine wp_seq ?_
      refine wp_block ?_
      refine wp_seq ?_
      refine rg ?_
      have ke25 : k < a0.length := by omega
      obtain ⟨be25, fe25, ese25, Ae25, Re25, De25⟩ := el_old h0 ke25
      obtain ⟨e25, xe25⟩ : ∃ x_, x_ = a0[k] := ⟨_, rfl⟩
      rw [← xe25] at Re25
      have Qe25 := Re25
      obtain ⟨rfl, ie25⟩ := Re25
      have je25 := ie25; unfold I64 at je25
      refine pl_x HE24 HH22 (wt0 rfl) (x_indexAddr ts_51 rfl rfl Ae25 rfl ke25) rfl rfl fun a_25 HE26 => ?_
      refine pl_x HE26 HH22 (wt0 rfl) (x_load1 tv_2 rfl (c_old (De25 0 _ rfl))) rfl rfl fun a_27 HE28 => ?_
      refine pl_x HE28 HH22 (wt0 rfl) (x_assign rfl) rfl rfl fun a_29 HE30 => ?_
      refine wpList_nil ?_
      clear a_23 HE24 a_25 HE26 a_27 HE28
      refine nrm ?_
      refine rg ?_
      refine pl_x HE30 HH22 (wt0 rfl) (x_move rfl) rfl rfl fun a_31 HE32 => ?_
      refine pl_x HE32 HH22 (wt0 rfl) (x_move rfl) rfl rfl fun a_33 HE34 => ?_
      refine pl fun K_35 hK36 => ?_
      refine st_call HE34 (wt0 rfl) rfl rfl rfl en_60 rfl rfl (impl_Decimal e25 _ (HH22.glob hG) (by omega)) fun e w' hr => ?_
      have hAr26_0 := itoa_len (n := e25) (by omega)
      obtain ⟨rfl, hbr26⟩ := hr
      have HH37 := HH22.on hbr26
      refine ⟨_, rfl, fun a_38 HE39 => hK36 _ _ ?_⟩
      refine pl fun K_40 hK41 => ?_
      refine st_lit (m := 1) (cs := [.string (bs (Go.Lib.itoa e25))]) (e := 9) HE39 HH37 (run_lit ts_106 HE39 (vs := [.string (bs (Go.Lib.itoa e25))]) rfl rfl (by simp [Value.cells]) rfl (by decide)) (wt0 rfl) rfl rfl fun q27 a_42 w' HE43 HH44 => hK41 _ _ ?_
      refine pl fun K_45 hK46 => ?_
      refine st_app1F (Go.Lib.itoa e25) HE43 HH44 ts_106 [1, 0] (by decide) rfl (fun _ => (oS (by first | omega | (simp only [List.length_append, List.length_cons, List.length_nil]; omega) | (simp; omega)))) rfl rfl (by simp [Value.oneCell']) (by unfold maxLen; first | omega | (simp; done) | (simp; omega)) (by first | omega | (simp; done) | (simp; omega)) (wt0 rfl) rfl fun A28 c29 S30 a_47 w' HE48 HH49 => hK46 _ _ ?_
      refine pl_x HE48 HH49 (wt0 rfl) (x_assign rfl) rfl rfl fun a_50 HE51 => ?_
      refine wpList_nil ?_
      clear a_29 HE30 a_31 HE32 HH22 a_33 HE34 K_35 hK36 a_38 HE39 HH37 K_40 hK41 a_42 HE43 HH44 a_47 HE48 hK46 K_45
      refine blk_n ?_
      refine nrm ?_
      refine rg ?_
      refine pl_x HE51 HH49 (wt0 rfl) (x_add rfl rfl (by exact ⟨by omega, by omega⟩)) rfl rfl fun a_52 HE53 => ?_
      refine pl_x HE53 HH49 (wt0 rfl) (x_move rfl) rfl rfl fun a_54 HE55 => ?_
      refine wpList_nil ?_
      clear a_50 HE51 a_52 HE53
      have E31 : (a0.take (k + 1)).map Go.Lib.itoa = ((a0.take k).map Go.Lib.itoa ++ [(Go.Lib.itoa e25)]) := by
        rw [List.take_succ_eq_append_getElem (by omega), List.map_append, ← xe25]; rfl
      exact nrm ⟨a0.length - (k + 1), (by omega), k + 1, A28, c29, S30, rfl, HE55.sub ⟨(by rw [E31]; rfl), (lkI rfl (by first | rfl | omega | (simp [p23_0, hc24, xe25]; done))), rfl, rfl, rfl, trivial⟩, ((HH49.sel [0] (by decide) rfl).to (by first | rfl | (rw [E31]; done) | (rw [E31]; rfl) | (simp only [E31]; done) | (simp only [E31]; rfl))), (by first | omega | assumption | (simp; done) | simp_all)⟩
    · refine wp_exit ?_
      refine (thn_exit (thn_exit (blk_hit ?_)))
      refine nrm ?_
      refine wp_seq ?_
      refine rg ?_
      refine pl_x HE24 HH22 (wt0 rfl) (x_move rfl) rfl rfl fun a_56 HE57 => ?_
      refine pl_x HE57 HH22 (wt0 rfl) (x_move rfl) rfl rfl fun a_58 HE59 => ?_
      refine pl fun K_60 hK61 => ?_
      refine st_call HE59 (wt0 rfl) rfl rfl rfl en_61 rfl rfl (Join_Str _ _ ((a0.take k).map Go.Lib.itoa) a1 _ (HH22.vecSl (i := 0) rfl) (by first | omega | (simp; done)) (by first | omega | (simp [Go.Lib.join, List.intercalate]; omega))) fun e w' hr => ?_
      have hAr32_0 := (by first | omega | (simp [Go.Lib.join, List.intercalate]; omega) : (Go.Lib.join ((a0.take k).map Go.Lib.itoa) a1).length ≤ 1000000000)
      obtain ⟨rfl, hbr32⟩ := hr
      have HH62 := HH22.on hbr32
      refine ⟨_, rfl, fun a_63 HE64 => hK61 _ _ ?_⟩
      refine pl_x HE64 HH62 (wt0 rfl) (x_assign rfl) rfl rfl fun a_65 HE66 => ?_
      refine wpList_nil ?_
      clear a_23 HE24 a_56 HE57 HH22 a_58 HE59 a_63 HE64 hK61 K_60
      refine nrm ?_
      refine wp_ret ?_
      refine ret1 HE66 rfl (rv_tmp rfl) ?_
      have hF : (decs a0 a1) = (Go.Lib.join ((a0.take k).map Go.Lib.itoa) a1) := by
        unfold decs; rw [List.take_of_length_le (by omega)]
      exact ⟨by first | (rw [hF] <;> rfl) | rfl | (rw [hF]; simp only [Ending.returned.injEq, Value.slice.injEq, true_and, and_true]; first | omega | (simp; done)) | (rw [hF]; simp; omega), HH62.below⟩

set_option maxRecDepth 100000 in
set_option maxHeartbeats 4000000 in
theorem impl_digitsText (A0 : Option Addr) (c0 : Nat) (a0 : (List Int)) (w : World) (h0 : Sl eInt w (Old w) A0 c0 a0) (s0 : ∀ x ∈ a0, 0 ≤ x ∧ x ≤ 9) (s1 : a0.length ≤ 1000000) :
    Calls Tryd.prog 93 #[.slice A0 a0.length c0] w fun e w' => e = .returned (.string (bs (digT a0))) ∧ Below w.heap.size w w' := by
  have l0 := h0.len
  have HH1 := Held.start Nob w
  refine enter (n := 18) Tryd.func93 rfl rfl rfl fun a_2 HE3 => ?_
  refine wp_seq ?_
  refine rg ?_
  refine pl_x HE3 HH1 (wt0 rfl) (x_assign rfl) rfl rfl fun a_4 HE5 => ?_
  refine wpList_nil ?_
  clear a_2 HE3
  refine nrm ?_
  refine wp_seq ?_
  refine rg ?_
  refine pl fun K_6 hK7 => ?_
  refine st_alloc HE5 HH1 tv_161 (wt0 rfl) rfl fun q21 a_8 w' HE9 HH10 => hK7 _ _ ?_
  refine wpList_nil ?_
  clear a_4 HE5 HH1 hK7 K_6
  refine nrm ?_
  refine wp_seq ?_
  refine wp_seq ?_
  refine rg ?_
  refine pl_x HE9 HH10 (wt0 rfl) (x_move rfl) rfl rfl fun a_11 HE12 => ?_
  refine pl_x HE12 HH10 (wt0 rfl) (x_len Tryd.underlying51 rfl) rfl rfl fun a_13 HE14 => ?_
  refine pl_x HE14 HH10 (wt0 rfl) (x_move rfl) rfl rfl fun a_15 HE16 => ?_
  refine wpList_nil ?_
  clear a_8 HE9 a_11 HE12 a_13 HE14
  refine nrm ?_
  refine wp_block ?_
  obtain ⟨Sr22, HH17⟩ := HH10.toBld (e := eBldT)
  have HH18 : Held Nob w [rBld w q21 Sr22 []] _ := HH17
  refine lp (fun m a w' => ∃ (k : Nat) (S_b3 : Nat → Prop), m = a0.length - k ∧ Env 18 [(8, .int .i64 (k : Int)), (3, .pointer (some ⟨q21, 0, none⟩)), (6, .slice A0 (a0.length) c0), (7, .int .i64 ((a0.length : Int)))] a ∧ Held Nob w [rBld w q21 S_b3 (digT (a0.take k))] w' ∧ (k ≤ a0.length)) (a0.length - (0)) ?_ ?_
  · have E23 : digT (a0.take 0) = [] := by
      first | rfl | simp
    exact ⟨0, Sr22, rfl, HE16.sub ⟨(lkI rfl (by first | rfl | omega | (simp []; done))), rfl, rfl, rfl, trivial⟩, ((HH18.sel [0] (by decide) rfl).to (by first | rfl | (rw [E23]; done) | (rw [E23]; rfl) | (simp only [E23]; done) | (simp only [E23]; rfl))), (by first | omega | assumption | (simp; done) | simp_all)⟩
  · rintro m a_19 w' ⟨k, S_b3, rfl, HE20, HH21, p24_0⟩
    have ol : (digT (a0.take k)).length ≤ 1000000 := by rw [digT_len, List.length_take]; omega
    refine wp_seq ?_
    refine rg ?_
    refine pl_x HE20 HH21 (wt0 rfl) (x_lss rfl rfl) rfl rfl fun a_22 HE23 => ?_
    refine wpList_nil ?_
    clear HH10 HH17 a_15 HE16 HH18 a_19 HE20
    refine nrm ?_
    refine wp_seq ?_
    refine cnd_d HE23 rfl (fun hc25 => ?_) (fun hc25 => ?_)
    · refine wp_skip ?_
      refine nrm ?_
      refine wp_seq ?_
      refine wp_block ?_
      refine wp_seq ?_
      refine rg ?_
      have ke26 : k < a0.length := by omega
      obtain ⟨be26, fe26, ese26, Ae26, Re26, De26⟩ := el_old h0 ke26
      obtain ⟨e26, xe26⟩ : ∃ x_, x_ = a0[k] := ⟨_, rfl⟩
      rw [← xe26] at Re26
      have Qe26 := Re26
      obtain ⟨rfl, ie26⟩ := Re26
      have je26 := ie26; unfold I64 at je26
      have be26 := s0 e26 (by rw [xe26]; exact List.getElem_mem _)
      refine pl_x HE23 HH21 (wt0 rfl) (x_indexAddr ts_51 rfl rfl Ae26 rfl ke26) rfl rfl fun a_24 HE25 => ?_
      refine pl_x HE25 HH21 (wt0 rfl) (x_load1 tv_2 rfl (c_old (De26 0 _ rfl))) rfl rfl fun a_26 HE27 => ?_
      refine pl_x HE27 HH21 (wt0 rfl) (x_assign rfl) rfl rfl fun a_28 HE29 => ?_
      refine wpList_nil ?_
      clear a_22 HE23 a_24 HE25 a_26 HE27
      refine nrm ?_
      refine rg ?_
      refine pl_x HE29 HH21 (wt0 rfl) (x_move rfl) rfl rfl fun a_30 HE31 => ?_
      refine pl_x HE31 HH21 (wt0 rfl) (x_conv32 Tryd.underlying2 Tryd.underlying21 rfl (by constructor <;> omega)) rfl rfl fun a_32 HE33 => ?_
      refine pl_x HE33 HH21 (wt0 rfl) (x_add32 rfl rfl (by constructor <;> omega)) rfl rfl fun a_34 HE35 => ?_
      refine pl fun K_36 hK37 => ?_
      refine st_call HE35 (wt0 rfl) rfl rfl rfl en_134 rfl rfl (Builder_WriteRune (48 + e26) HH21 (by constructor <;> omega) (by first | omega | (simp only [List.length_append, List.length_cons, List.length_nil]; omega) | (simp; omega))) fun e w' hr => ?_
      obtain ⟨⟨_, rfl⟩, Sr27_, HH21⟩ := hr
      refine ⟨_, rfl, fun a_38 HE39 => hK37 _ _ ?_⟩
      refine wpList_nil ?_
      clear a_28 HE29 a_30 HE31 a_32 HE33 a_34 HE35 hK37 K_36
      refine blk_n ?_
      refine nrm ?_
      refine rg ?_
      refine pl_x HE39 HH21 (wt0 rfl) (x_add rfl rfl (by exact ⟨by omega, by omega⟩)) rfl rfl fun a_40 HE41 => ?_
      refine pl_x HE41 HH21 (wt0 rfl) (x_move rfl) rfl rfl fun a_42 HE43 => ?_
      refine wpList_nil ?_
      clear a_38 HE39 a_40 HE41
      have E28 : digT (a0.take (k + 1)) = (digT (a0.take k) ++ [UInt8.ofNat (48 + e26).toNat]) := by
        unfold digT; rw [List.take_succ_eq_append_getElem (by omega), List.map_append, ← xe26]; rfl
      exact nrm ⟨a0.length - (k + 1), (by omega), k + 1, Sr27_, rfl, HE43.sub ⟨(lkI rfl (by first | rfl | omega | (simp [p24_0, hc25, xe26]; done))), rfl, rfl, rfl, trivial⟩, ((HH21.sel [0] (by decide) rfl).to (by first | rfl | (rw [E28]; done) | (rw [E28]; rfl) | (simp only [E28]; done) | (simp only [E28]; rfl))), (by first | omega | assumption | (simp; done) | simp_all)⟩
    · refine wp_exit ?_
      refine (thn_exit (thn_exit (blk_hit ?_)))
      refine nrm ?_
      refine wp_seq ?_
      refine rg ?_
      refine pl fun K_44 hK45 => ?_
      refine st_call HE23 (wt0 rfl) rfl rfl rfl en_111 rfl rfl (Builder_String HH21 (by first | omega | (simp only [List.length_append, List.length_cons, List.length_nil]; omega) | (simp; omega))) fun e w' hr => ?_
      obtain ⟨rfl, Sr29_, HH46⟩ := hr
      refine ⟨_, rfl, fun a_47 HE48 => hK45 _ _ ?_⟩
      refine pl_x HE48 HH46 (wt0 rfl) (x_assign rfl) rfl rfl fun a_49 HE50 => ?_
      refine wpList_nil ?_
      clear HH21 a_22 HE23 a_47 HE48 hK45 K_44
      refine nrm ?_
      refine wp_ret ?_
      refine ret1 HE50 rfl (rv_tmp rfl) ?_
      have hF : (digT a0) = digT (a0.take k) := by
        rw [List.take_of_length_le (by omega)]
      exact ⟨by first | (rw [hF] <;> rfl) | rfl | (rw [hF]; simp only [Ending.returned.injEq, Value.slice.injEq, true_and, and_true]; first | omega | (simp; done)) | (rw [hF]; simp; omega), HH46.below⟩

def movB (x : Int) : UInt8 := ([76, 83, 82] : List UInt8).getD (x + 1).toNat 0

def movT (l : List Int) : List UInt8 := l.map movB

theorem movT_len (l : List Int) : (movT l).length = l.length := by simp [movT]

theorem mov_slice {x : Int} (h : -1 ≤ x ∧ x ≤ 1) : ((([76, 83, 82] : List UInt8).drop (x + 1).toNat).take (((x + 1) + 1).toNat - (x + 1).toNat)) = [movB x] := by
  obtain rfl | rfl | rfl : x = -1 ∨ x = 0 ∨ x = 1 := by omega
  · rfl
  · rfl
  · rfl

theorem itoa_one {x : Int} (h : 0 ≤ x ∧ x ≤ 9) : Go.Lib.itoa x = [UInt8.ofNat (48 + x).toNat] := by
  unfold Go.Lib.itoa
  rw [if_neg (by omega), Go.Lib.decDigits, dif_pos (by omega), show (48 + x).toNat = 48 + x.toNat from by omega]

def mrT (r : tMultiRule) : List UInt8 := Go.Lib.join [Go.Lib.itoa r.1, digT r.2.1, digT r.2.2.1, movT r.2.2.2.1, Go.Lib.itoa r.2.2.2.2] [32]

def headT (m : tMulti) : List UInt8 := decs [m.1, m.2.1, m.2.2.1] [32]

def multT (m : tMulti) : List UInt8 := headT m ++ Go.Lib.joinTail [10] (m.2.2.2.map mrT)

def multText (m : tMulti) : List UInt8 := if validMulti m = true then multT m else []

def okMr (r : tMultiRule) : Prop := (0 ≤ r.1 ∧ r.1 ≤ 15) ∧ (r.2.1.length ≤ 3 ∧ ∀ x ∈ r.2.1, 0 ≤ x ∧ x ≤ 9) ∧ (r.2.2.1.length ≤ 3 ∧ ∀ x ∈ r.2.2.1, 0 ≤ x ∧ x ≤ 9) ∧ (r.2.2.2.1.length ≤ 3 ∧ ∀ x ∈ r.2.2.2.1, -1 ≤ x ∧ x ≤ 1) ∧ 0 ≤ r.2.2.2.2 ∧ r.2.2.2.2 ≤ 15

theorem validMulti_ok {m : tMulti} (h : validMulti m = true) : ∀ r ∈ m.2.2.2, okMr r := by
  intro r hr
  obtain ⟨h1, h2, h3, h4⟩ := validMulti_facts h
  unfold validMulti at h
  simp only [Bool.and_eq_true, Bool.not_eq_true', List.any_eq_false] at h
  obtain ⟨i, hi⟩ := List.mem_iff_getElem?.1 hr
  have hb := h.2 i (List.mem_range.2 (List.getElem?_eq_some_iff.1 hi).1)
  unfold badMR at hb
  rw [hi, Option.getD_some] at hb
  have hv : validMR m r = true := by
    cases hq : validMR m r with
    | true => rfl
    | false => rw [hq] at hb; simp at hb
  unfold validMR at hv
  simp only [Bool.and_eq_true, beq_iff_eq] at hv
  obtain ⟨⟨⟨⟨⟨⟨⟨b1, b2⟩, b3⟩, b4⟩, b5⟩, b6⟩, b7⟩, b8⟩ := hv
  have e1 := withinB_true.1 b1
  have e2 := withinB_true.1 b2
  exact ⟨by omega, ⟨by omega, fun x hx => by have := allW_mem b6 x hx; omega⟩, ⟨by omega, fun x hx => by have := allW_mem b7 x hx; omega⟩, ⟨by omega, allW_mem b8⟩, by omega⟩

theorem mrT_len {r : tMultiRule} (h : okMr r) : (mrT r).length ≤ 99 := by
  obtain ⟨h1, h2, h3, h4, h5⟩ := h
  have i1 := itoa_len (n := r.1) (by omega)
  have i2 := itoa_len (n := r.2.2.2.2) (by omega)
  have d1 := digT_len r.2.1
  have d2 := digT_len r.2.2.1
  have d3 := movT_len r.2.2.2.1
  have g1 := h2.1
  have g2 := h3.1
  have g3 := h4.1
  simp [mrT, Go.Lib.join, List.intercalate]
  omega

theorem headT_len {m : tMulti} (h : (2 ≤ m.1 ∧ m.1 ≤ 3) ∧ (2 ≤ m.2.1 ∧ m.2.1 ≤ 3) ∧ 1 ≤ m.2.2.1 ∧ m.2.2.1 ≤ 16) : (headT m).length ≤ 90 := by
  have := decs_len (l := [m.1, m.2.1, m.2.2.1]) (b := [32]) (by intro x hx; simp at hx; omega) (by simp)
  simpa [headT] using this

theorem decs_three2 (a b c : Int) (s : List UInt8) : decs [a, b, c] s = Go.Lib.itoa a ++ s ++ Go.Lib.itoa b ++ s ++ Go.Lib.itoa c := by
  simp [decs, Go.Lib.join, List.intercalate]

theorem jt_step {α : Type} (f : α → List UInt8) (l : List α) {k : Nat} (hk : k < l.length) (sep : List UInt8) : Go.Lib.joinTail sep ((l.take (k + 1)).map f) = Go.Lib.joinTail sep ((l.take k).map f) ++ sep ++ f l[k] := by
  rw [List.take_succ_eq_append_getElem hk, List.map_append]
  simp [Go.Lib.joinTail]

theorem jt_len {l : List tMultiRule} (h : ∀ r ∈ l, okMr r) (k : Nat) : (Go.Lib.joinTail [10] ((l.take k).map mrT)).length ≤ 100 * l.length := by
  have key : ∀ q : List tMultiRule, (∀ r ∈ q, okMr r) → (Go.Lib.joinTail [10] (q.map mrT)).length ≤ 100 * q.length := by
    intro q
    induction q with
    | nil => intro _; simp [Go.Lib.joinTail]
    | cons x q ih =>
      intro hq
      have h1 := ih fun r hr => hq r (List.mem_cons_of_mem _ hr)
      have h2 := mrT_len (hq x (by simp))
      simp only [Go.Lib.joinTail, List.map_cons, List.flatten_cons, List.length_append, List.length_cons, List.length_nil] at h1 ⊢
      omega
  have h1 := key (l.take k) fun r hr => h r (List.mem_of_mem_take hr)
  rw [List.length_take] at h1
  omega

theorem join_head (x : List UInt8) (r : List (List UInt8)) (sep : List UInt8) : Go.Lib.join ([x] ++ r) sep = x ++ Go.Lib.joinTail sep r := Go.Lib.join_cons x r sep

set_option maxRecDepth 100000 in
set_option maxHeartbeats 4000000 in
theorem impl_movesText (A0 : Option Addr) (c0 : Nat) (a0 : (List Int)) (w : World) (h0 : Sl eInt w (Old w) A0 c0 a0) (s0 : ∀ x ∈ a0, -1 ≤ x ∧ x ≤ 1) (s1 : a0.length ≤ 1000) :
    Calls Tryd.prog 101 #[.slice A0 a0.length c0] w fun e w' => e = .returned (.string (bs (movT a0))) ∧ Below w.heap.size w w' := by
  have l0 := h0.len
  have HH1 := Held.start Nob w
  refine enter (n := 18) Tryd.func101 rfl rfl rfl fun a_2 HE3 => ?_
  refine wp_seq ?_
  refine rg ?_
  refine pl_x HE3 HH1 (wt0 rfl) (x_assign rfl) rfl rfl fun a_4 HE5 => ?_
  refine wpList_nil ?_
  clear a_2 HE3
  refine nrm ?_
  refine wp_seq ?_
  refine rg ?_
  refine pl fun K_6 hK7 => ?_
  refine st_alloc HE5 HH1 tv_161 (wt0 rfl) rfl fun q21 a_8 w' HE9 HH10 => hK7 _ _ ?_
  refine wpList_nil ?_
  clear a_4 HE5 HH1 hK7 K_6
  refine nrm ?_
  refine wp_seq ?_
  refine wp_seq ?_
  refine rg ?_
  refine pl_x HE9 HH10 (wt0 rfl) (x_move rfl) rfl rfl fun a_11 HE12 => ?_
  refine pl_x HE12 HH10 (wt0 rfl) (x_len Tryd.underlying51 rfl) rfl rfl fun a_13 HE14 => ?_
  refine pl_x HE14 HH10 (wt0 rfl) (x_move rfl) rfl rfl fun a_15 HE16 => ?_
  refine wpList_nil ?_
  clear a_8 HE9 a_11 HE12 a_13 HE14
  refine nrm ?_
  refine wp_block ?_
  obtain ⟨Sr22, HH17⟩ := HH10.toBld (e := eBldT)
  have HH18 : Held Nob w [rBld w q21 Sr22 []] _ := HH17
  refine lp (fun m a w' => ∃ (k : Nat) (S_b3 : Nat → Prop), m = a0.length - k ∧ Env 18 [(8, .int .i64 (k : Int)), (3, .pointer (some ⟨q21, 0, none⟩)), (6, .slice A0 (a0.length) c0), (7, .int .i64 ((a0.length : Int)))] a ∧ Held Nob w [rBld w q21 S_b3 (movT (a0.take k))] w' ∧ (k ≤ a0.length)) (a0.length - (0)) ?_ ?_
  · have E23 : movT (a0.take 0) = [] := by
      first | rfl | simp
    exact ⟨0, Sr22, rfl, HE16.sub ⟨(lkI rfl (by first | rfl | omega | (simp []; done))), rfl, rfl, rfl, trivial⟩, ((HH18.sel [0] (by decide) rfl).to (by first | rfl | (rw [E23]; done) | (rw [E23]; rfl) | (simp only [E23]; done) | (simp only [E23]; rfl))), (by first | omega | assumption | (simp; done) | simp_all)⟩
  · rintro m a_19 w' ⟨k, S_b3, rfl, HE20, HH21, p24_0⟩
    have ol : (movT (a0.take k)).length ≤ 1000 := by rw [movT_len, List.length_take]; omega
    refine wp_seq ?_
    refine rg ?_
    refine pl_x HE20 HH21 (wt0 rfl) (x_lss rfl rfl) rfl rfl fun a_22 HE23 => ?_
    refine wpList_nil ?_
    clear HH10 HH17 a_15 HE16 HH18 a_19 HE20
    refine nrm ?_
    refine wp_seq ?_
    refine cnd_d HE23 rfl (fun hc25 => ?_) (fun hc25 => ?_)
    · refine wp_skip ?_
      refine nrm ?_
      refine wp_seq ?_
      refine wp_block ?_
      refine wp_seq ?_
      refine rg ?_
      have ke26 : k < a0.length := by omega
      obtain ⟨be26, fe26, ese26, Ae26, Re26, De26⟩ := el_old h0 ke26
      obtain ⟨e26, xe26⟩ : ∃ x_, x_ = a0[k] := ⟨_, rfl⟩
      rw [← xe26] at Re26
      have Qe26 := Re26
      obtain ⟨rfl, ie26⟩ := Re26
      have je26 := ie26; unfold I64 at je26
      have be26 := s0 e26 (by rw [xe26]; exact List.getElem_mem _)
      have ha0 : a0[k]'(by omega) = e26 := xe26.symm
      refine pl_x HE23 HH21 (wt0 rfl) (x_indexAddr ts_51 rfl rfl Ae26 rfl ke26) rfl rfl fun a_24 HE25 => ?_
      refine pl_x HE25 HH21 (wt0 rfl) (x_load1 tv_2 rfl (c_old (De26 0 _ rfl))) rfl rfl fun a_26 HE27 => ?_
      refine pl_x HE27 HH21 (wt0 rfl) (x_assign rfl) rfl rfl fun a_28 HE29 => ?_
      refine wpList_nil ?_
      clear a_22 HE23 a_24 HE25 a_26 HE27
      refine nrm ?_
      refine rg ?_
      refine pl_x HE29 HH21 (wt0 rfl) (x_move rfl) rfl rfl fun a_30 HE31 => ?_
      refine pl_x HE31 HH21 (wt0 rfl) (x_add rfl rfl (by exact ⟨by omega, by omega⟩)) rfl rfl fun a_32 HE33 => ?_
      have ke27 : ((e26 + 1)).toNat < List.length ([76, 83, 82] : List UInt8) := by first | omega | (simp only [List.length_cons, List.length_nil]; omega)
      obtain ⟨e27, xe27⟩ : ∃ x_, x_ = ([76, 83, 82] : List UInt8)[((e26 + 1)).toNat] := ⟨_, rfl⟩
      have je27 : 0 ≤ (e27.toNat : Int) ∧ (e27.toNat : Int) ≤ 255 := by have := e27.toNat_lt; omega
      have hb0 : e27 = ([76, 83, 82] : List UInt8).getD ((e26 + 1)).toNat 0 := by rw [xe27, List.getD_eq_getElem?_getD, List.getElem?_eq_getElem ke27]; rfl
      refine pl_x HE33 HH21 (wt0 rfl) (x_idxB Tryd.underlying9 rfl rfl (by omega) ke27 xe27) rfl rfl fun a_34 HE35 => ?_
      refine pl fun K_36 hK37 => ?_
      refine st_call HE35 (wt0 rfl) rfl rfl rfl en_146 rfl rfl (Builder_WriteByte (e27.toNat : Int) HH21 (by constructor <;> omega) (by first | omega | (simp only [List.length_append, List.length_cons, List.length_nil]; omega) | (simp; omega))) fun e w' hr => ?_
      obtain ⟨⟨_, rfl⟩, Sr28_, HH21⟩ := hr
      refine ⟨_, rfl, fun a_38 HE39 => hK37 _ _ ?_⟩
      refine wpList_nil ?_
      clear a_28 HE29 a_30 HE31 a_32 HE33 a_34 HE35 hK37 K_36
      refine blk_n ?_
      refine nrm ?_
      refine rg ?_
      refine pl_x HE39 HH21 (wt0 rfl) (x_add rfl rfl (by exact ⟨by omega, by omega⟩)) rfl rfl fun a_40 HE41 => ?_
      refine pl_x HE41 HH21 (wt0 rfl) (x_move rfl) rfl rfl fun a_42 HE43 => ?_
      refine wpList_nil ?_
      clear a_38 HE39 a_40 HE41
      have E29 : movT (a0.take (k + 1)) = (movT (a0.take k) ++ [UInt8.ofNat (e27.toNat : Int).toNat]) := by
        unfold movT; rw [List.take_succ_eq_append_getElem (by omega), List.map_append, ha0]; simp [movB, hb0]
      exact nrm ⟨a0.length - (k + 1), (by omega), k + 1, Sr28_, rfl, HE43.sub ⟨(lkI rfl (by first | rfl | omega | (simp [p24_0, hc25, xe26, xe27]; done))), rfl, rfl, rfl, trivial⟩, ((HH21.sel [0] (by decide) rfl).to (by first | rfl | (rw [E29]; done) | (rw [E29]; rfl) | (simp only [E29]; done) | (simp only [E29]; rfl))), (by first | omega | assumption | (simp; done) | simp_all)⟩
    · refine wp_exit ?_
      refine (thn_exit (thn_exit (blk_hit ?_)))
      refine nrm ?_
      refine wp_seq ?_
      refine rg ?_
      refine pl fun K_44 hK45 => ?_
      refine st_call HE23 (wt0 rfl) rfl rfl rfl en_111 rfl rfl (Builder_String HH21 (by first | omega | (simp only [List.length_append, List.length_cons, List.length_nil]; omega) | (simp; omega))) fun e w' hr => ?_
      obtain ⟨rfl, Sr30_, HH46⟩ := hr
      refine ⟨_, rfl, fun a_47 HE48 => hK45 _ _ ?_⟩
      refine pl_x HE48 HH46 (wt0 rfl) (x_assign rfl) rfl rfl fun a_49 HE50 => ?_
      refine wpList_nil ?_
      clear HH21 a_22 HE23 a_47 HE48 hK45 K_44
      refine nrm ?_
      refine wp_ret ?_
      refine ret1 HE50 rfl (rv_tmp rfl) ?_
      have hF : (movT a0) = movT (a0.take k) := by
        rw [List.take_of_length_le (by omega)]
      exact ⟨by first | (rw [hF] <;> rfl) | rfl | (rw [hF]; simp only [Ending.returned.injEq, Value.slice.injEq, true_and, and_true]; first | omega | (simp; done)) | (rw [hF]; simp; omega), HH46.below⟩

set_option maxRecDepth 100000 in
set_option maxHeartbeats 4000000 in
theorem impl_MultiText (es0 : List Value) (a0 : tMulti) (w : World) (h0 : eMulti.R w (Old w) es0 a0) (hG : Glob w) :
    Calls Tryd.prog 50 #[.agg es0.toArray] w fun e w' => e = .returned (.string (bs (multText a0))) ∧ Below w.heap.size w w' := by
  have H0 := h0
  obtain ⟨Az0_3, cz0_3, rfl, gz0_0, gz0_1, gz0_2, gz0_3⟩ := shape_Multi h0
  have jz0_0 := gz0_0; unfold I64 at jz0_0
  have jz0_1 := gz0_1; unfold I64 at jz0_1
  have jz0_2 := gz0_2; unfold I64 at jz0_2
  have lz0_3 := gz0_3.len
  have HH1 := Held.start Nob w
  refine enter (n := 48) Tryd.func50 rfl rfl rfl fun a_2 HE3 => ?_
  refine wp_seq ?_
  refine rg ?_
  refine pl fun K_4 hK5 => ?_
  refine st_box (cs := [.int .i64 (a0.1), .int .i64 (a0.2.1), .int .i64 (a0.2.2.1), .slice Az0_3 (a0.2.2.2.length) cz0_3]) HE3 HH1 rfl rfl (wt0 rfl) rfl fun q21 a_6 w' HE7 HH8 => hK5 _ _ ?_
  refine pl_x HE7 HH8 (wt0 rfl) (x_assign rfl) rfl rfl fun a_9 HE10 => ?_
  refine wpList_nil ?_
  clear a_2 HE3 HH1 a_6 HE7 hK5 K_4
  refine nrm ?_
  refine wp_seq ?_
  refine wp_seq ?_
  refine rg ?_
  refine pl_x HE10 HH8 (wt0 rfl) (x_loadN (cs := [.int .i64 (a0.1), .int .i64 (a0.2.1), .int .i64 (a0.2.2.1), .slice Az0_3 (a0.2.2.2.length) cz0_3]) tv_92 rfl rfl (c_blkN 0 rfl)) rfl rfl fun a_11 HE12 => ?_
  refine pl fun K_13 hK14 => ?_
  refine st_call HE12 (wt0 rfl) rfl rfl rfl en_100 rfl rfl (impl_ValidMulti [.int .i64 (a0.1), .int .i64 (a0.2.1), .int .i64 (a0.2.2.1), .slice Az0_3 (a0.2.2.2.length) cz0_3] a0 _ (HH8.oldR H0)) fun e w' hr => ?_
  obtain ⟨rfl, hbr22⟩ := hr
  have HH15 := HH8.on hbr22
  refine ⟨_, rfl, fun a_16 HE17 => hK14 _ _ ?_⟩
  refine pl_x HE17 HH15 (wt0 rfl) (x_not rfl) rfl rfl fun a_18 HE19 => ?_
  refine wpList_nil ?_
  clear a_9 HE10 HH8 a_11 HE12 a_16 HE17 hK14 K_13
  refine nrm ?_
  refine cnd_nb HE19 rfl (fun hc23 => ?_) (fun hc23 => ?_)
  · refine wp_seq ?_
    refine rg ?_
    refine pl_x HE19 HH15 (wt0 rfl) (x_assign rfl) rfl rfl fun a_20 HE21 => ?_
    refine wpList_nil ?_
    clear a_18 HE19
    refine nrm ?_
    refine wp_ret ?_
    refine (thn_ret ?_)
    refine ret1 HE21 rfl (rv_tmp rfl) ?_
    have hF : (multText a0) = [] := by
      unfold multText; first | (simp [hc23]; done) | (rw [if_pos ‹_›]; unfold multT; rw [join_head, List.take_of_length_le (by omega)])
    exact ⟨by first | (rw [hF] <;> rfl) | rfl | (rw [hF]; simp only [Ending.returned.injEq, Value.slice.injEq, true_and, and_true]; first | omega | (simp; done)) | (rw [hF]; simp; omega), HH15.below⟩
  · obtain ⟨v0, v1, v2, v3⟩ := validMulti_facts hc23
    have v4 := validMulti_ok hc23
    have v5 := headT_len (m := a0) ⟨v0, v1, v2⟩
    refine wp_skip ?_
    refine nrm ?_
    refine wp_seq ?_
    refine rg ?_
    refine pl_x HE19 HH15 (wt0 rfl) (x_fieldAddr fa_92_0 rfl) rfl rfl fun a_22 HE23 => ?_
    refine pl_x HE23 HH15 (wt0 rfl) (x_load1 tv_2 rfl (c_blk 0 rfl rfl)) rfl rfl fun a_24 HE25 => ?_
    refine pl_x HE25 HH15 (wt0 rfl) (x_fieldAddr fa_92_1 rfl) rfl rfl fun a_26 HE27 => ?_
    refine pl_x HE27 HH15 (wt0 rfl) (x_load1 tv_2 rfl (c_blk 0 rfl rfl)) rfl rfl fun a_28 HE29 => ?_
    refine pl_x HE29 HH15 (wt0 rfl) (x_fieldAddr fa_92_2 rfl) rfl rfl fun a_30 HE31 => ?_
    refine pl_x HE31 HH15 (wt0 rfl) (x_load1 tv_2 rfl (c_blk 0 rfl rfl)) rfl rfl fun a_32 HE33 => ?_
    refine pl fun K_34 hK35 => ?_
    refine st_lit (m := 3) (cs := [.int .i64 (a0.1), .int .i64 (a0.2.1), .int .i64 (a0.2.2.1)]) (e := 2) HE33 HH15 (run_lit ts_51 HE33 (vs := [.int .i64 (a0.1), .int .i64 (a0.2.1), .int .i64 (a0.2.2.1)]) rfl rfl (by simp [Value.cells]) rfl (by decide)) (wt0 rfl) rfl rfl fun q24 a_36 w' HE37 HH38 => hK35 _ _ ?_
    refine pl fun K_39 hK40 => ?_
    have HH41 := Held.vecFlat (E := eInt) (xs := [a0.1, a0.2.1, a0.2.2.1]) (css := [[.int .i64 (a0.1)], [.int .i64 (a0.2.1)], [.int .i64 (a0.2.2.1)]]) HH38 rfl (by unfold maxLen; simp) (fun i x hx => by match i with | 0 => exact ⟨_, rfl, fun _ => by simp at hx; subst hx; exact (oI (by exact ⟨by omega, by omega⟩))⟩ | 1 => exact ⟨_, rfl, fun _ => by simp at hx; subst hx; exact (oI (by exact ⟨by omega, by omega⟩))⟩ | 2 => exact ⟨_, rfl, fun _ => by simp at hx; subst hx; exact (oI (by exact ⟨by omega, by omega⟩))⟩ | i + 3 => simp at hx)
    refine st_call HE37 (wt0 rfl) rfl rfl rfl en_55 rfl rfl (impl_decimals _ _ ([a0.1, a0.2.1, a0.2.2.1] : List Int) ([32]) _ (HH41.vecSl (i := 0) rfl) (HH41.glob hG) (by first | omega | (simp; done) | (simp; omega)) (by first | omega | (simp; done))) fun e w' hr => ?_
    have hAr25_0 := decs_len (l := ([a0.1, a0.2.1, a0.2.2.1] : List Int)) (b := ([32])) (by first | assumption | exact Sl.i64 (by assumption) | (intro x hx; simp at hx; omega)) (by simp)
    have hAr25_1 := (show List.length ([a0.1, a0.2.1, a0.2.2.1] : List Int) = 3 from rfl)
    obtain ⟨rfl, hbr25⟩ := hr
    have HH42 := HH41.on hbr25
    refine ⟨_, rfl, fun a_43 HE44 => hK40 _ _ ?_⟩
    refine pl fun K_45 hK46 => ?_
    refine st_lit (m := 1) (cs := [.string (bs (decs ([a0.1, a0.2.1, a0.2.2.1] : List Int) ([32])))]) (e := 9) HE44 HH42 (run_lit ts_106 HE44 (vs := [.string (bs (decs ([a0.1, a0.2.1, a0.2.2.1] : List Int) ([32])))]) rfl rfl (by simp [Value.cells]) rfl (by decide)) (wt0 rfl) rfl rfl fun q26 a_47 w' HE48 HH49 => hK46 _ _ ?_
    refine pl_x HE48 HH49 (wt0 rfl) (x_assign rfl) rfl rfl fun a_50 HE51 => ?_
    refine wpList_nil ?_
    clear a_18 HE19 a_22 HE23 a_24 HE25 a_26 HE27 a_28 HE29 a_30 HE31 a_32 HE33 HH15 K_34 hK35 HH38 HH41 a_36 HE37 K_39 hK40 a_43 HE44 HH42 a_47 HE48 hK46 K_45
    refine nrm ?_
    refine wp_seq ?_
    refine wp_seq ?_
    refine rg ?_
    refine pl_x HE51 HH49 (wt0 rfl) (x_fieldAddr fa_92_3 rfl) rfl rfl fun a_52 HE53 => ?_
    refine pl_x HE53 HH49 (wt0 rfl) (x_load1 tv_90 rfl (c_blk 2 rfl rfl)) rfl rfl fun a_54 HE55 => ?_
    refine pl_x HE55 HH49 (wt0 rfl) (x_len Tryd.underlying90 rfl) rfl rfl fun a_56 HE57 => ?_
    refine pl_x HE57 HH49 (wt0 rfl) (x_move rfl) rfl rfl fun a_58 HE59 => ?_
    refine wpList_nil ?_
    clear a_50 HE51 a_52 HE53 a_54 HE55 a_56 HE57
    refine nrm ?_
    refine wp_block ?_
    have HH60 := Held.vecFlat (E := eTxt) (xs := [(decs ([a0.1, a0.2.1, a0.2.2.1] : List Int) ([32]))]) (css := [[.string (bs (decs ([a0.1, a0.2.1, a0.2.2.1] : List Int) ([32])))]]) HH49 rfl (by unfold maxLen; simp) (fun i x hx => by match i with | 0 => exact ⟨_, rfl, fun _ => by simp at hx; subst hx; exact (oS (by first | omega | (simp only [List.length_append, List.length_cons, List.length_nil]; omega) | (simp; omega)))⟩ | i + 1 => simp at hx)
    refine lp (fun m a w' => ∃ (k : Nat) (A_3 : Option Addr) (c_3 : Nat) (S_3 : Nat → Prop), m = a0.2.2.2.length - k ∧ Env 48 [(3, .slice A_3 (List.length ([headT a0] ++ (a0.2.2.2.take k).map mrT)) c_3), (21, .int .i64 (k : Int)), (19, .slice Az0_3 (a0.2.2.2.length) cz0_3), (20, .int .i64 ((a0.2.2.2.length : Int)))] a ∧ Held Nob w [rVec eTxt 9 S_3 A_3 c_3 ([headT a0] ++ (a0.2.2.2.take k).map mrT), rVec eInt 2 (fun b => b = q24) (some ⟨q24, 0, none⟩) (List.length (α := Int) [a0.1, a0.2.1, a0.2.2.1]) ([a0.1, a0.2.1, a0.2.2.1] : List Int), rBlk q21 92 [.int .i64 (a0.1), .int .i64 (a0.2.1), .int .i64 (a0.2.2.1), .slice Az0_3 (a0.2.2.2.length) cz0_3]] w' ∧ (k ≤ a0.2.2.2.length)) (a0.2.2.2.length - (0)) ?_ ?_
    · have E27 : [headT a0] ++ (a0.2.2.2.take 0).map mrT = ([(decs ([a0.1, a0.2.1, a0.2.2.1] : List Int) ([32]))] : List (List UInt8)) := by
        simp [headT]
      exact ⟨0, (some ⟨q26, 0, none⟩), (List.length (α := (List UInt8)) [(decs ([a0.1, a0.2.1, a0.2.2.1] : List Int) ([32]))]), (fun b => b = q26), rfl, HE59.sub ⟨(by rw [E27]; rfl), (lkI rfl (by first | rfl | omega | (simp [hc23]; done))), rfl, rfl, trivial⟩, ((HH60.sel [0, 1, 2] (by decide) rfl).to (by first | rfl | (rw [E27]; done) | (rw [E27]; rfl) | (simp only [E27]; done) | (simp only [E27]; rfl))), (by first | omega | assumption | (simp; done) | simp_all)⟩
    · rintro m a_61 w' ⟨k, A_3, c_3, S_3, rfl, HE62, HH63, p28_0⟩
      have ol : ([headT a0] ++ (a0.2.2.2.take k).map mrT).length ≤ 61 := by rw [List.length_append, List.length_map, List.length_take]; simp; omega
      have oj : (Go.Lib.join ([headT a0] ++ (a0.2.2.2.take k).map mrT) [10]).length ≤ 10000 := by have := jt_len v4 k; rw [join_head, List.length_append]; omega
      refine wp_seq ?_
      refine rg ?_
      refine pl_x HE62 HH63 (wt0 rfl) (x_lss rfl rfl) rfl rfl fun a_64 HE65 => ?_
      refine wpList_nil ?_
      clear HH49 a_58 HE59 HH60 a_61 HE62
      refine nrm ?_
      refine wp_seq ?_
      refine cnd_d HE65 rfl (fun hc29 => ?_) (fun hc29 => ?_)
      · refine wp_skip ?_
        refine nrm ?_
        refine wp_seq ?_
        refine wp_block ?_
        refine wp_seq ?_
        refine rg ?_
        have ke30 : k < a0.2.2.2.length := by omega
        obtain ⟨be30, fe30, ese30, Ae30, Re30, De30⟩ := el_old gz0_3 ke30
        obtain ⟨e30, xe30⟩ : ∃ x_, x_ = a0.2.2.2[k] := ⟨_, rfl⟩
        rw [← xe30] at Re30
        have Qe30 := Re30
        obtain ⟨Ae30_1, ce30_1, Ae30_2, ce30_2, Ae30_3, ce30_3, rfl, ge30_0, ge30_1, ge30_2, ge30_3, ge30_4⟩ := shape_MultiRule Re30
        have je30_0 := ge30_0; unfold I64 at je30_0
        have le30_1 := ge30_1.len
        have le30_2 := ge30_2.len
        have le30_3 := ge30_3.len
        have je30_4 := ge30_4; unfold I64 at je30_4
        have fe30 := v4 e30 (by rw [xe30]; exact List.getElem_mem _)
        obtain ⟨fae30, ⟨fbe30, fce30⟩, ⟨fde30, fee30⟩, ⟨ffe30, fge30⟩, fhe30⟩ := fe30
        refine pl_x HE65 HH63 (wt0 rfl) (x_indexAddr ts_90 rfl rfl Ae30 rfl ke30) rfl rfl fun a_66 HE67 => ?_
        refine pl_x HE67 HH63 (wt0 rfl) (x_loadN (cs := [.int .i64 (e30.1), .slice Ae30_1 (e30.2.1.length) ce30_1, .slice Ae30_2 (e30.2.2.1.length) ce30_2, .slice Ae30_3 (e30.2.2.2.1.length) ce30_3, .int .i64 (e30.2.2.2.2)]) tv_152 rfl rfl (c_oldN De30)) rfl rfl fun a_68 HE69 => ?_
        refine pl fun K_70 hK71 => ?_
        refine st_alloc HE69 HH63 tv_152 (wt0 rfl) rfl fun q31 a_72 w' HE73 HH74 => hK71 _ _ ?_
        refine pl fun K_75 hK76 => ?_
        refine st_store (vs := [.int .i64 (e30.1), .slice Ae30_1 (e30.2.1.length) ce30_1, .slice Ae30_2 (e30.2.2.1.length) ce30_2, .slice Ae30_3 (e30.2.2.2.1.length) ce30_3, .int .i64 (e30.2.2.2.2)]) 0 HE73 HH74 tv_152 rfl rfl rfl rfl rfl rfl (by simp [Value.oneCell']) (wt0 rfl) fun w' HH77 => hK76 _ _ ?_
        refine wpList_nil ?_
        clear a_64 HE65 a_66 HE67 a_68 HE69 HH63 K_70 hK71 HH74 hK76 K_75
        refine nrm ?_
        refine dr_start (Held Nob w [rBlk q31 152 [.int .i64 (e30.1), .slice Ae30_1 (e30.2.1.length) ce30_1, .slice Ae30_2 (e30.2.2.1.length) ce30_2, .slice Ae30_3 (e30.2.2.2.1.length) ce30_3, .int .i64 (e30.2.2.2.2)], rVec eInt 2 (fun b => b = q24) (some ⟨q24, 0, none⟩) (List.length (α := Int) [a0.1, a0.2.1, a0.2.2.1]) ([a0.1, a0.2.1, a0.2.2.1] : List Int), rBlk q21 92 [.int .i64 (a0.1), .int .i64 (a0.2.1), .int .i64 (a0.2.2.1), .slice Az0_3 (a0.2.2.2.length) cz0_3]]) 21 #[false, false, false, false, false, false, false, false, false, false, false, false, false, false, false, false, false, false, false, false, false] hmix rfl rfl HH77 (fun _ h => h.sel [0, 2, 3] (by decide) rfl) fun w' HH78 => ?_
        have HS79 := HH78.sel [0, 2, 3] (by decide) rfl
        refine dr_take (i := 0) (ls' := #[true, false, false, false, false, false, false, false, false, false, false, false, false, false, false, false, false, false, false, false, false]) HE73 HS79 rfl (by kernel_rfl) (by kernel_rfl) (by kernel_rfl) (fun _ _ _ h => h) rfl (wt0 rfl) (x_move rfl) rfl rfl fun a_80 HE81 => ?_
        refine dr_take (i := 1) (ls' := #[true, true, false, false, false, false, false, false, false, false, false, false, false, false, false, false, false, false, false, false, false]) HE81 HS79 rfl (by kernel_rfl) (by kernel_rfl) (by kernel_rfl) (fun _ _ _ h => h) rfl (wt0 rfl) (x_fieldAddr fa_152_0 rfl) rfl rfl fun a_82 HE83 => ?_
        refine dr_take (i := 2) (ls' := #[true, true, true, false, false, false, false, false, false, false, false, false, false, false, false, false, false, false, false, false, false]) HE83 HS79 rfl (by kernel_rfl) (by kernel_rfl) (by kernel_rfl) (fun _ _ _ h => h) rfl (wt0 rfl) (x_load1 tv_2 rfl (c_blk 0 rfl rfl)) rfl rfl fun a_84 HE85 => ?_
        refine dr_take (i := 4) (ls' := #[true, true, true, false, true, false, false, false, false, false, false, false, false, false, false, false, false, false, false, false, false]) HE85 HS79 rfl (by kernel_rfl) (by kernel_rfl) (by kernel_rfl) (fun _ _ _ h => h) rfl (wt0 rfl) (x_fieldAddr fa_152_1 rfl) rfl rfl fun a_86 HE87 => ?_
        refine dr_take (i := 5) (ls' := #[true, true, true, false, true, true, false, false, false, false, false, false, false, false, false, false, false, false, false, false, false]) HE87 HS79 rfl (by kernel_rfl) (by kernel_rfl) (by kernel_rfl) (fun _ _ _ h => h) rfl (wt0 rfl) (x_load1 tv_51 rfl (c_blk 0 rfl rfl)) rfl rfl fun a_88 HE89 => ?_
        refine dr_take (i := 7) (ls' := #[true, true, true, false, true, true, false, true, false, false, false, false, false, false, false, false, false, false, false, false, false]) HE89 HS79 rfl (by kernel_rfl) (by kernel_rfl) (by kernel_rfl) (fun _ _ _ h => h) rfl (wt0 rfl) (x_fieldAddr fa_152_2 rfl) rfl rfl fun a_90 HE91 => ?_
        refine dr_take (i := 8) (ls' := #[true, true, true, false, true, true, false, true, true, false, false, false, false, false, false, false, false, false, false, false, false]) HE91 HS79 rfl (by kernel_rfl) (by kernel_rfl) (by kernel_rfl) (fun _ _ _ h => h) rfl (wt0 rfl) (x_load1 tv_51 rfl (c_blk 0 rfl rfl)) rfl rfl fun a_92 HE93 => ?_
        refine dr_take (i := 10) (ls' := #[true, true, true, false, true, true, false, true, true, false, true, false, false, false, false, false, false, false, false, false, false]) HE93 HS79 rfl (by kernel_rfl) (by kernel_rfl) (by kernel_rfl) (fun _ _ _ h => h) rfl (wt0 rfl) (x_fieldAddr fa_152_3 rfl) rfl rfl fun a_94 HE95 => ?_
        refine dr_take (i := 11) (ls' := #[true, true, true, false, true, true, false, true, true, false, true, true, false, false, false, false, false, false, false, false, false]) HE95 HS79 rfl (by kernel_rfl) (by kernel_rfl) (by kernel_rfl) (fun _ _ _ h => h) rfl (wt0 rfl) (x_load1 tv_51 rfl (c_blk 0 rfl rfl)) rfl rfl fun a_96 HE97 => ?_
        refine dr_take (i := 13) (ls' := #[true, true, true, false, true, true, false, true, true, false, true, true, false, true, false, false, false, false, false, false, false]) HE97 HS79 rfl (by kernel_rfl) (by kernel_rfl) (by kernel_rfl) (fun _ _ _ h => h) rfl (wt0 rfl) (x_fieldAddr fa_152_4 rfl) rfl rfl fun a_98 HE99 => ?_
        refine dr_take (i := 14) (ls' := #[true, true, true, false, true, true, false, true, true, false, true, true, false, true, true, false, false, false, false, false, false]) HE99 HS79 rfl (by kernel_rfl) (by kernel_rfl) (by kernel_rfl) (fun _ _ _ h => h) rfl (wt0 rfl) (x_load1 tv_2 rfl (c_blk 0 rfl rfl)) rfl rfl fun a_100 HE101 => ?_
        refine dr_one (i := 3) (ls' := #[true, true, true, true, true, true, false, true, true, false, true, true, false, true, true, false, false, false, false, false, false]) rfl (by kernel_rfl) rfl fun K_102 hK103 => ?_
        refine st_call HE101 (wt0 rfl) rfl rfl rfl en_60 rfl rfl (impl_Decimal e30.1 _ (HH78.glob hG) (by omega)) fun e w' hr => ?_
        have hAr32_0 := itoa_len (n := e30.1) (by omega)
        obtain ⟨rfl, hbr32⟩ := hr
        have HH104 := HH78.on hbr32
        refine ⟨_, rfl, fun a_105 HE106 => hK103 _ _ (by exact HH104.sel [0, 2, 3] (by decide) rfl) ?_⟩
        have HS107 := HH104.sel [0, 2, 3] (by decide) rfl
        refine dr_one (i := 6) (ls' := #[true, true, true, true, true, true, true, true, true, false, true, true, false, true, true, false, false, false, false, false, false]) rfl (by kernel_rfl) rfl fun K_108 hK109 => ?_
        refine st_call HE106 (wt0 rfl) rfl rfl rfl en_93 rfl rfl (impl_digitsText _ _ e30.2.1 _ (HH104.old ge30_1) (by assumption) (by omega)) fun e w' hr => ?_
        have hAr33_0 := digT_len e30.2.1
        obtain ⟨rfl, hbr33⟩ := hr
        have HH110 := HH104.on hbr33
        refine ⟨_, rfl, fun a_111 HE112 => hK109 _ _ (by exact HH110.sel [0, 2, 3] (by decide) rfl) ?_⟩
        have HS113 := HH110.sel [0, 2, 3] (by decide) rfl
        refine dr_one (i := 9) (ls' := #[true, true, true, true, true, true, true, true, true, true, true, true, false, true, true, false, false, false, false, false, false]) rfl (by kernel_rfl) rfl fun K_114 hK115 => ?_
        refine st_call HE112 (wt0 rfl) rfl rfl rfl en_93 rfl rfl (impl_digitsText _ _ e30.2.2.1 _ (HH110.old ge30_2) (by assumption) (by omega)) fun e w' hr => ?_
        have hAr34_0 := digT_len e30.2.2.1
        obtain ⟨rfl, hbr34⟩ := hr
        have HH116 := HH110.on hbr34
        refine ⟨_, rfl, fun a_117 HE118 => hK115 _ _ (by exact HH116.sel [0, 2, 3] (by decide) rfl) ?_⟩
        have HS119 := HH116.sel [0, 2, 3] (by decide) rfl
        refine dr_one (i := 12) (ls' := #[true, true, true, true, true, true, true, true, true, true, true, true, true, true, true, false, false, false, false, false, false]) rfl (by kernel_rfl) rfl fun K_120 hK121 => ?_
        refine st_call HE118 (wt0 rfl) rfl rfl rfl en_101 rfl rfl (impl_movesText _ _ e30.2.2.2.1 _ (HH116.old ge30_3) (by assumption) (by omega)) fun e w' hr => ?_
        have hAr35_0 := movT_len e30.2.2.2.1
        obtain ⟨rfl, hbr35⟩ := hr
        have HH122 := HH116.on hbr35
        refine ⟨_, rfl, fun a_123 HE124 => hK121 _ _ (by exact HH122.sel [0, 2, 3] (by decide) rfl) ?_⟩
        have HS125 := HH122.sel [0, 2, 3] (by decide) rfl
        refine dr_one (i := 15) (ls' := #[true, true, true, true, true, true, true, true, true, true, true, true, true, true, true, true, false, false, false, false, false]) rfl (by kernel_rfl) rfl fun K_126 hK127 => ?_
        refine st_call HE124 (wt0 rfl) rfl rfl rfl en_60 rfl rfl (impl_Decimal e30.2.2.2.2 _ (HH122.glob hG) (by omega)) fun e w' hr => ?_
        have hAr36_0 := itoa_len (n := e30.2.2.2.2) (by omega)
        obtain ⟨rfl, hbr36⟩ := hr
        have HH128 := HH122.on hbr36
        refine ⟨_, rfl, fun a_129 HE130 => hK127 _ _ (by exact HH128.sel [0, 2, 3] (by decide) rfl) ?_⟩
        have HS131 := HH128.sel [0, 2, 3] (by decide) rfl
        refine dr_one (i := 16) (ls' := #[true, true, true, true, true, true, true, true, true, true, true, true, true, true, true, true, true, false, false, false, false]) rfl (by kernel_rfl) rfl fun K_132 hK133 => ?_
        refine st_lit (m := 5) (cs := [.string (bs (Go.Lib.itoa e30.1)), .string (bs (digT e30.2.1)), .string (bs (digT e30.2.2.1)), .string (bs (movT e30.2.2.2.1)), .string (bs (Go.Lib.itoa e30.2.2.2.2))]) (e := 9) HE130 HH128 (run_lit ts_106 HE130 (vs := [.string (bs (Go.Lib.itoa e30.1)), .string (bs (digT e30.2.1)), .string (bs (digT e30.2.2.1)), .string (bs (movT e30.2.2.2.1)), .string (bs (Go.Lib.itoa e30.2.2.2.2))]) rfl rfl (by simp [Value.cells]) rfl (by decide)) (wt0 rfl) rfl rfl fun q37 a_134 w' HE135 HH136 => hK133 _ _ (by exact HH136.sel [1, 3, 4] (by decide) rfl) ?_
        have HS137 := HH136.sel [1, 3, 4] (by decide) rfl
        refine dr_one (i := 17) (ls' := #[true, true, true, true, true, true, true, true, true, true, true, true, true, true, true, true, true, true, false, false, false]) rfl (by kernel_rfl) rfl fun K_138 hK139 => ?_
        have HH140 := Held.vecFlat (E := eTxt) (xs := [(Go.Lib.itoa e30.1), (digT e30.2.1), (digT e30.2.2.1), (movT e30.2.2.2.1), (Go.Lib.itoa e30.2.2.2.2)]) (css := [[.string (bs (Go.Lib.itoa e30.1))], [.string (bs (digT e30.2.1))], [.string (bs (digT e30.2.2.1))], [.string (bs (movT e30.2.2.2.1))], [.string (bs (Go.Lib.itoa e30.2.2.2.2))]]) HH136 rfl (by unfold maxLen; simp) (fun i x hx => by match i with | 0 => exact ⟨_, rfl, fun _ => by simp at hx; subst hx; exact (oS (by first | omega | (simp only [List.length_append, List.length_cons, List.length_nil]; omega) | (simp; omega)))⟩ | 1 => exact ⟨_, rfl, fun _ => by simp at hx; subst hx; exact (oS (by first | omega | (simp only [List.length_append, List.length_cons, List.length_nil]; omega) | (simp; omega)))⟩ | 2 => exact ⟨_, rfl, fun _ => by simp at hx; subst hx; exact (oS (by first | omega | (simp only [List.length_append, List.length_cons, List.length_nil]; omega) | (simp; omega)))⟩ | 3 => exact ⟨_, rfl, fun _ => by simp at hx; subst hx; exact (oS (by first | omega | (simp only [List.length_append, List.length_cons, List.length_nil]; omega) | (simp; omega)))⟩ | 4 => exact ⟨_, rfl, fun _ => by simp at hx; subst hx; exact (oS (by first | omega | (simp only [List.length_append, List.length_cons, List.length_nil]; omega) | (simp; omega)))⟩ | i + 5 => simp at hx)
        refine st_call HE135 (wt0 rfl) rfl rfl rfl en_61 rfl rfl (Join_Str _ _ ([(Go.Lib.itoa e30.1), (digT e30.2.1), (digT e30.2.2.1), (movT e30.2.2.2.1), (Go.Lib.itoa e30.2.2.2.2)] : List (List UInt8)) ([32]) _ (HH140.vecSl (i := 0) rfl) (by first | omega | (simp; done)) (by first | omega | (simp [Go.Lib.join, List.intercalate]; omega))) fun e w' hr => ?_
        have hAr38_0 := (by first | omega | (simp [Go.Lib.join, List.intercalate]; omega) : (Go.Lib.join ([(Go.Lib.itoa e30.1), (digT e30.2.1), (digT e30.2.2.1), (movT e30.2.2.2.1), (Go.Lib.itoa e30.2.2.2.2)] : List (List UInt8)) ([32])).length ≤ 1000000000)
        obtain ⟨rfl, hbr38⟩ := hr
        have HH141 := HH140.on hbr38
        refine ⟨_, rfl, fun a_142 HE143 => hK139 _ _ (by exact HH141.sel [1, 3, 4] (by decide) rfl) ?_⟩
        have HS144 := HH141.sel [1, 3, 4] (by decide) rfl
        refine dr_one (i := 18) (ls' := #[true, true, true, true, true, true, true, true, true, true, true, true, true, true, true, true, true, true, true, false, false]) rfl (by kernel_rfl) rfl fun K_145 hK146 => ?_
        refine st_lit (m := 1) (cs := [.string (bs (Go.Lib.join ([(Go.Lib.itoa e30.1), (digT e30.2.1), (digT e30.2.2.1), (movT e30.2.2.2.1), (Go.Lib.itoa e30.2.2.2.2)] : List (List UInt8)) ([32])))]) (e := 9) HE143 HH141 (run_lit ts_106 HE143 (vs := [.string (bs (Go.Lib.join ([(Go.Lib.itoa e30.1), (digT e30.2.1), (digT e30.2.2.1), (movT e30.2.2.2.1), (Go.Lib.itoa e30.2.2.2.2)] : List (List UInt8)) ([32])))]) rfl rfl (by simp [Value.cells]) rfl (by decide)) (wt0 rfl) rfl rfl fun q39 a_147 w' HE148 HH149 => hK146 _ _ (by exact HH149.sel [2, 4, 5] (by decide) rfl) ?_
        have HS150 := HH149.sel [2, 4, 5] (by decide) rfl
        refine dr_one (i := 19) (ls' := #[true, true, true, true, true, true, true, true, true, true, true, true, true, true, true, true, true, true, true, true, false]) rfl (by kernel_rfl) rfl fun K_151 hK152 => ?_
        refine st_app1F (Go.Lib.join ([(Go.Lib.itoa e30.1), (digT e30.2.1), (digT e30.2.2.1), (movT e30.2.2.2.1), (Go.Lib.itoa e30.2.2.2.2)] : List (List UInt8)) ([32])) HE148 HH149 ts_106 [3, 0, 1, 2, 4, 5] (by decide) rfl (fun _ => (oS (by first | omega | (simp only [List.length_append, List.length_cons, List.length_nil]; omega) | (simp; omega)))) rfl rfl (by simp [Value.oneCell']) (by unfold maxLen; first | omega | (simp; done) | (simp; omega)) (by first | omega | (simp; done) | (simp; omega)) (wt0 rfl) rfl fun A40 c41 S42 a_153 w' HE154 HH155 => hK152 _ _ (by exact HH155.sel [2, 3, 4] (by decide) rfl) ?_
        have HS156 := HH155.sel [2, 3, 4] (by decide) rfl
        refine dr_take (i := 20) (ls' := #[true, true, true, true, true, true, true, true, true, true, true, true, true, true, true, true, true, true, true, true, true]) HE154 HS156 rfl (by kernel_rfl) (by kernel_rfl) (by kernel_rfl) (fun _ _ _ h => h) rfl (wt0 rfl) (x_assign rfl) rfl rfl fun a_157 HE158 => ?_
        refine dr_done (by kernel_rfl) ?_
        clear HH77 a_72 HE73 a_80 HE81 a_82 HE83 a_84 HE85 a_86 HE87 a_88 HE89 a_90 HE91 a_92 HE93 a_94 HE95 a_96 HE97 a_98 HE99 HH78 a_100 HE101 HS79 K_102 hK103 HH104 a_105 HE106 HS107 K_108 hK109 HH110 a_111 HE112 HS113 K_114 hK115 HH116 a_117 HE118 HS119 K_120 hK121 HH122 a_123 HE124 HS125 K_126 hK127 a_129 HE130 HH128 HS131 K_132 hK133 HH136 HH140 a_134 HE135 HS137 K_138 hK139 a_142 HE143 HH141 HS144 K_145 hK146 a_147 HE148 HH149 HS150 a_153 HE154 hK152 K_151
        refine blk_n ?_
        refine nrm ?_
        refine rg ?_
        refine pl_x HE158 HH155 (wt0 rfl) (x_add rfl rfl (by exact ⟨by omega, by omega⟩)) rfl rfl fun a_159 HE160 => ?_
        refine pl_x HE160 HH155 (wt0 rfl) (x_move rfl) rfl rfl fun a_161 HE162 => ?_
        refine wpList_nil ?_
        clear a_157 HE158 a_159 HE160
        have E43 : [headT a0] ++ (a0.2.2.2.take (k + 1)).map mrT = ([headT a0] ++ (a0.2.2.2.take k).map mrT ++ [(Go.Lib.join ([(Go.Lib.itoa e30.1), (digT e30.2.1), (digT e30.2.2.1), (movT e30.2.2.2.1), (Go.Lib.itoa e30.2.2.2.2)] : List (List UInt8)) ([32]))]) := by
          rw [List.take_succ_eq_append_getElem (by omega), List.map_append, ← xe30]; simp [mrT]
        exact nrm ⟨a0.2.2.2.length - (k + 1), (by omega), k + 1, A40, c41, S42, rfl, HE162.sub ⟨(by rw [E43]; rfl), (lkI rfl (by first | rfl | omega | (simp [hc23, p28_0, hc29, xe30]; done))), rfl, rfl, trivial⟩, ((HH155.sel [0, 3, 4] (by decide) rfl).to (by first | rfl | (rw [E43]; done) | (rw [E43]; rfl) | (simp only [E43]; done) | (simp only [E43]; rfl))), (by first | omega | assumption | (simp; done) | simp_all)⟩
      · refine wp_exit ?_
        refine (thn_exit (thn_exit (blk_hit ?_)))
        refine nrm ?_
        refine wp_seq ?_
        refine rg ?_
        refine pl_x HE65 HH63 (wt0 rfl) (x_move rfl) rfl rfl fun a_163 HE164 => ?_
        refine pl fun K_165 hK166 => ?_
        refine st_call HE164 (wt0 rfl) rfl rfl rfl en_61 rfl rfl (Join_Str _ _ ([headT a0] ++ (a0.2.2.2.take k).map mrT) ([10]) _ (HH63.vecSl (i := 0) rfl) (by first | omega | (simp; done)) (by first | omega | (simp [Go.Lib.join, List.intercalate]; omega))) fun e w' hr => ?_
        have hAr44_0 := (by first | omega | (simp [Go.Lib.join, List.intercalate]; omega) : (Go.Lib.join ([headT a0] ++ (a0.2.2.2.take k).map mrT) ([10])).length ≤ 1000000000)
        obtain ⟨rfl, hbr44⟩ := hr
        have HH167 := HH63.on hbr44
        refine ⟨_, rfl, fun a_168 HE169 => hK166 _ _ ?_⟩
        refine pl_x HE169 HH167 (wt0 rfl) (x_assign rfl) rfl rfl fun a_170 HE171 => ?_
        refine wpList_nil ?_
        clear a_64 HE65 HH63 a_163 HE164 a_168 HE169 hK166 K_165
        refine nrm ?_
        refine wp_ret ?_
        refine ret1 HE171 rfl (rv_tmp rfl) ?_
        have hF : (multText a0) = (Go.Lib.join ([headT a0] ++ (a0.2.2.2.take k).map mrT) ([10])) := by
          unfold multText; first | (simp [hc23, p28_0, hc29]; done) | (rw [if_pos ‹_›]; unfold multT; rw [join_head, List.take_of_length_le (by omega)])
        exact ⟨by first | (rw [hF] <;> rfl) | rfl | (rw [hF]; simp only [Ending.returned.injEq, Value.slice.injEq, true_and, and_true]; first | omega | (simp; done)) | (rw [hF]; simp; omega), HH167.below⟩

set_option maxRecDepth 100000 in
set_option maxHeartbeats 4000000 in
theorem spec_l06Digits (A0 : Option Addr) (c0 : Nat) (a0 : (List Int)) (w : World) (h0 : Sl eInt w (Old w) A0 c0 a0) (s0 : ∀ x ∈ a0, 0 ≤ x ∧ x ≤ 9) (s1 : a0.length ≤ 1000000) :
    Calls Tryd.prog 141 #[.slice A0 a0.length c0] w fun e w' => e = .returned (.string (bs (digT a0))) ∧ Below w.heap.size w w' := by
  have l0 := h0.len
  have HH1 := Held.start Nob w
  refine enter (n := 19) Tryd.func141 rfl rfl rfl fun a_2 HE3 => ?_
  refine wp_seq ?_
  refine rg ?_
  refine pl_x HE3 HH1 (wt0 rfl) (x_assign rfl) rfl rfl fun a_4 HE5 => ?_
  refine wpList_nil ?_
  clear a_2 HE3
  refine nrm ?_
  refine wp_seq ?_
  refine rg ?_
  refine pl_x HE5 HH1 (wt0 rfl) (x_assign rfl) rfl rfl fun a_6 HE7 => ?_
  refine wpList_nil ?_
  clear a_4 HE5
  refine nrm ?_
  refine wp_seq ?_
  refine wp_seq ?_
  refine rg ?_
  refine pl_x HE7 HH1 (wt0 rfl) (x_assign rfl) rfl rfl fun a_8 HE9 => ?_
  refine wpList_nil ?_
  clear a_6 HE7
  refine nrm ?_
  refine wp_block ?_
  refine lp (fun m a w' => ∃ (k : Nat), m = a0.length - k ∧ Env 19 [(3, .string (bs (digT (a0.take k)))), (4, .int .i64 (k : Int)), (0, .slice A0 (a0.length) c0)] a ∧ Held Nob w [] w' ∧ (k ≤ a0.length)) (a0.length - (0)) ?_ ?_
  · exact ⟨0, rfl, HE9.sub ⟨(lkS rfl (by first | rfl | (simp []; done))), (lkI rfl (by first | rfl | omega | (simp []; done))), rfl, trivial⟩, (HH1.sel [] (by decide) rfl), (by first | omega | assumption | (simp; done) | simp_all)⟩
  · rintro m a_10 w' ⟨k, rfl, HE11, HH12, p21_0⟩
    have ol : (digT (a0.take k)).length ≤ 1000000 := by rw [digT_len, List.length_take]; omega
    refine wp_seq ?_
    refine wp_seq ?_
    refine rg ?_
    refine pl_x HE11 HH12 (wt0 rfl) (x_move rfl) rfl rfl fun a_13 HE14 => ?_
    refine pl_x HE14 HH12 (wt0 rfl) (x_move rfl) rfl rfl fun a_15 HE16 => ?_
    refine pl_x HE16 HH12 (wt0 rfl) (x_len Tryd.underlying51 rfl) rfl rfl fun a_17 HE18 => ?_
    refine pl_x HE18 HH12 (wt0 rfl) (x_lss rfl rfl) rfl rfl fun a_19 HE20 => ?_
    refine wpList_nil ?_
    clear a_8 HE9 HH1 a_10 HE11 a_13 HE14 a_15 HE16 a_17 HE18
    refine nrm ?_
    refine cnd_d HE20 rfl (fun hc22 => ?_) (fun hc22 => ?_)
    · refine wp_skip ?_
      refine nrm ?_
      refine wp_seq ?_
      refine wp_block ?_
      refine rg ?_
      refine pl_x HE20 HH12 (wt0 rfl) (x_move rfl) rfl rfl fun a_21 HE22 => ?_
      refine pl_x HE22 HH12 (wt0 rfl) (x_move rfl) rfl rfl fun a_23 HE24 => ?_
      refine pl_x HE24 HH12 (wt0 rfl) (x_move rfl) rfl rfl fun a_25 HE26 => ?_
      have ke23 : k < a0.length := by omega
      obtain ⟨be23, fe23, ese23, Ae23, Re23, De23⟩ := el_old h0 ke23
      obtain ⟨e23, xe23⟩ : ∃ x_, x_ = a0[k] := ⟨_, rfl⟩
      rw [← xe23] at Re23
      have Qe23 := Re23
      obtain ⟨rfl, ie23⟩ := Re23
      have je23 := ie23; unfold I64 at je23
      have be23 := s0 e23 (by rw [xe23]; exact List.getElem_mem _)
      refine pl_x HE26 HH12 (wt0 rfl) (x_indexAddr ts_51 rfl rfl Ae23 rfl ke23) rfl rfl fun a_27 HE28 => ?_
      refine pl_x HE28 HH12 (wt0 rfl) (x_load1 tv_2 rfl (c_old (De23 0 _ rfl))) rfl rfl fun a_29 HE30 => ?_
      refine pl fun K_31 hK32 => ?_
      refine st_call HE30 (wt0 rfl) rfl rfl rfl en_103 rfl rfl (spec_l01Dec e23 _ (by omega)) fun e w' hr => ?_
      have hAr24_0 := itoa_len (n := e23) (by omega)
      obtain ⟨rfl, hbr24⟩ := hr
      have HH33 := HH12.on hbr24
      refine ⟨_, rfl, fun a_34 HE35 => hK32 _ _ ?_⟩
      refine pl_x HE35 HH33 (wt0 rfl) (x_sadd rfl rfl (by first | omega | (simp only [List.length_append, List.length_cons, List.length_nil]; omega) | (simp; omega))) rfl rfl fun a_36 HE37 => ?_
      refine pl_x HE37 HH33 (wt0 rfl) (x_assign rfl) rfl rfl fun a_38 HE39 => ?_
      refine wpList_nil ?_
      clear a_19 HE20 a_21 HE22 a_23 HE24 a_25 HE26 a_27 HE28 HH12 a_29 HE30 a_34 HE35 a_36 HE37 hK32 K_31
      refine blk_n ?_
      refine nrm ?_
      refine rg ?_
      refine pl_x HE39 HH33 (wt0 rfl) (x_move rfl) rfl rfl fun a_40 HE41 => ?_
      refine pl_x HE41 HH33 (wt0 rfl) (x_add rfl rfl (by exact ⟨by omega, by omega⟩)) rfl rfl fun a_42 HE43 => ?_
      refine pl_x HE43 HH33 (wt0 rfl) (x_assign rfl) rfl rfl fun a_44 HE45 => ?_
      refine wpList_nil ?_
      clear a_38 HE39 a_40 HE41 a_42 HE43
      exact nrm ⟨a0.length - (k + 1), (by omega), k + 1, rfl, HE45.sub ⟨(lkS rfl (by rw [itoa_one (by omega)]; unfold digT; rw [List.take_succ_eq_append_getElem (by omega), List.map_append, ← xe23]; rfl)), (lkI rfl (by first | rfl | omega | (simp [p21_0, hc22, xe23]; done))), rfl, trivial⟩, (HH33.sel [] (by decide) rfl), (by first | omega | assumption | (simp; done) | simp_all)⟩
    · refine wp_exit ?_
      refine (thn_exit (thn_exit (blk_hit ?_)))
      refine nrm ?_
      refine wp_seq ?_
      refine rg ?_
      refine pl_x HE20 HH12 (wt0 rfl) (x_move rfl) rfl rfl fun a_46 HE47 => ?_
      refine pl_x HE47 HH12 (wt0 rfl) (x_assign rfl) rfl rfl fun a_48 HE49 => ?_
      refine wpList_nil ?_
      clear a_19 HE20 a_46 HE47
      refine nrm ?_
      refine wp_ret ?_
      refine ret1 HE49 rfl (rv_tmp rfl) ?_
      have hF : (digT a0) = (digT (a0.take k)) := by
        rw [List.take_of_length_le (by omega)]
      exact ⟨by first | (rw [hF] <;> rfl) | rfl | (rw [hF]; simp only [Ending.returned.injEq, Value.slice.injEq, true_and, and_true]; first | omega | (simp; done)) | (rw [hF]; simp; omega), HH12.below⟩

set_option maxRecDepth 100000 in
set_option maxHeartbeats 4000000 in
theorem spec_l06Moves (A0 : Option Addr) (c0 : Nat) (a0 : (List Int)) (w : World) (h0 : Sl eInt w (Old w) A0 c0 a0) (s0 : ∀ x ∈ a0, -1 ≤ x ∧ x ≤ 1) (s1 : a0.length ≤ 1000) :
    Calls Tryd.prog 142 #[.slice A0 a0.length c0] w fun e w' => e = .returned (.string (bs (movT a0))) ∧ Below w.heap.size w w' := by
  have l0 := h0.len
  have HH1 := Held.start Nob w
  refine enter (n := 24) Tryd.func142 rfl rfl rfl fun a_2 HE3 => ?_
  refine wp_seq ?_
  refine rg ?_
  refine pl_x HE3 HH1 (wt0 rfl) (x_assign rfl) rfl rfl fun a_4 HE5 => ?_
  refine wpList_nil ?_
  clear a_2 HE3
  refine nrm ?_
  refine wp_seq ?_
  refine rg ?_
  refine pl_x HE5 HH1 (wt0 rfl) (x_assign rfl) rfl rfl fun a_6 HE7 => ?_
  refine wpList_nil ?_
  clear a_4 HE5
  refine nrm ?_
  refine wp_seq ?_
  refine wp_seq ?_
  refine rg ?_
  refine pl_x HE7 HH1 (wt0 rfl) (x_assign rfl) rfl rfl fun a_8 HE9 => ?_
  refine wpList_nil ?_
  clear a_6 HE7
  refine nrm ?_
  refine wp_block ?_
  refine lp (fun m a w' => ∃ (k : Nat), m = a0.length - k ∧ Env 24 [(3, .string (bs (movT (a0.take k)))), (4, .int .i64 (k : Int)), (0, .slice A0 (a0.length) c0)] a ∧ Held Nob w [] w' ∧ (k ≤ a0.length)) (a0.length - (0)) ?_ ?_
  · exact ⟨0, rfl, HE9.sub ⟨(lkS rfl (by first | rfl | (simp []; done))), (lkI rfl (by first | rfl | omega | (simp []; done))), rfl, trivial⟩, (HH1.sel [] (by decide) rfl), (by first | omega | assumption | (simp; done) | simp_all)⟩
  · rintro m a_10 w' ⟨k, rfl, HE11, HH12, p21_0⟩
    have ol : (movT (a0.take k)).length ≤ 1000 := by rw [movT_len, List.length_take]; omega
    have hm0 : ∀ x : Int, -1 ≤ x ∧ x ≤ 1 → ((([76, 83, 82] : List UInt8).drop (x + 1).toNat).take (((x + 1) + 1).toNat - (x + 1).toNat)).length = 1 := fun x hx => by rw [mov_slice hx]; rfl
    refine wp_seq ?_
    refine wp_seq ?_
    refine rg ?_
    refine pl_x HE11 HH12 (wt0 rfl) (x_move rfl) rfl rfl fun a_13 HE14 => ?_
    refine pl_x HE14 HH12 (wt0 rfl) (x_move rfl) rfl rfl fun a_15 HE16 => ?_
    refine pl_x HE16 HH12 (wt0 rfl) (x_len Tryd.underlying51 rfl) rfl rfl fun a_17 HE18 => ?_
    refine pl_x HE18 HH12 (wt0 rfl) (x_lss rfl rfl) rfl rfl fun a_19 HE20 => ?_
    refine wpList_nil ?_
    clear a_8 HE9 HH1 a_10 HE11 a_13 HE14 a_15 HE16 a_17 HE18
    refine nrm ?_
    refine cnd_d HE20 rfl (fun hc22 => ?_) (fun hc22 => ?_)
    · refine wp_skip ?_
      refine nrm ?_
      refine wp_seq ?_
      refine wp_block ?_
      refine wp_seq ?_
      refine rg ?_
      refine pl_x HE20 HH12 (wt0 rfl) (x_move rfl) rfl rfl fun a_21 HE22 => ?_
      refine pl_x HE22 HH12 (wt0 rfl) (x_move rfl) rfl rfl fun a_23 HE24 => ?_
      have ke23 : k < a0.length := by omega
      obtain ⟨be23, fe23, ese23, Ae23, Re23, De23⟩ := el_old h0 ke23
      obtain ⟨e23, xe23⟩ : ∃ x_, x_ = a0[k] := ⟨_, rfl⟩
      rw [← xe23] at Re23
      have Qe23 := Re23
      obtain ⟨rfl, ie23⟩ := Re23
      have je23 := ie23; unfold I64 at je23
      have be23 := s0 e23 (by rw [xe23]; exact List.getElem_mem _)
      have ha0 : a0[k]'(by omega) = e23 := xe23.symm
      refine pl_x HE24 HH12 (wt0 rfl) (x_indexAddr ts_51 rfl rfl Ae23 rfl ke23) rfl rfl fun a_25 HE26 => ?_
      refine pl_x HE26 HH12 (wt0 rfl) (x_load1 tv_2 rfl (c_old (De23 0 _ rfl))) rfl rfl fun a_27 HE28 => ?_
      refine pl_x HE28 HH12 (wt0 rfl) (x_add rfl rfl (by exact ⟨by omega, by omega⟩)) rfl rfl fun a_29 HE30 => ?_
      refine pl_x HE30 HH12 (wt0 rfl) (x_assign rfl) rfl rfl fun a_31 HE32 => ?_
      refine wpList_nil ?_
      clear a_19 HE20 a_21 HE22 a_23 HE24 a_25 HE26 a_27 HE28 a_29 HE30
      refine nrm ?_
      refine rg ?_
      refine pl_x HE32 HH12 (wt0 rfl) (x_move rfl) rfl rfl fun a_33 HE34 => ?_
      refine pl_x HE34 HH12 (wt0 rfl) (x_move rfl) rfl rfl fun a_35 HE36 => ?_
      refine pl_x HE36 HH12 (wt0 rfl) (x_move rfl) rfl rfl fun a_37 HE38 => ?_
      refine pl_x HE38 HH12 (wt0 rfl) (x_add rfl rfl (by exact ⟨by omega, by omega⟩)) rfl rfl fun a_39 HE40 => ?_
      refine pl_x HE40 HH12 (wt0 rfl) (x_sliceSH (k := (((e23 + 1)).toNat)) (k2 := ((((e23 + 1) + 1)).toNat)) Tryd.underlying9 rfl rfl rfl (by omega) (by omega) (by omega) (by first | omega | (simp only [List.length_cons, List.length_nil]; omega) | (rw [hm0 _ (by omega)]; omega))) rfl rfl fun a_41 HE42 => ?_
      refine pl_x HE42 HH12 (wt0 rfl) (x_sadd rfl rfl (by first | omega | (simp only [List.length_cons, List.length_nil]; omega) | (rw [hm0 _ (by omega)]; omega))) rfl rfl fun a_43 HE44 => ?_
      refine pl_x HE44 HH12 (wt0 rfl) (x_assign rfl) rfl rfl fun a_45 HE46 => ?_
      refine wpList_nil ?_
      clear a_31 HE32 a_33 HE34 a_35 HE36 a_37 HE38 a_39 HE40 a_41 HE42 a_43 HE44
      refine blk_n ?_
      refine nrm ?_
      refine rg ?_
      refine pl_x HE46 HH12 (wt0 rfl) (x_move rfl) rfl rfl fun a_47 HE48 => ?_
      refine pl_x HE48 HH12 (wt0 rfl) (x_add rfl rfl (by exact ⟨by omega, by omega⟩)) rfl rfl fun a_49 HE50 => ?_
      refine pl_x HE50 HH12 (wt0 rfl) (x_assign rfl) rfl rfl fun a_51 HE52 => ?_
      refine wpList_nil ?_
      clear a_45 HE46 a_47 HE48 a_49 HE50
      exact nrm ⟨a0.length - (k + 1), (by omega), k + 1, rfl, HE52.sub ⟨(lkS rfl (by unfold movT; rw [List.take_succ_eq_append_getElem (by omega), List.map_append, ha0, mov_slice (by omega)]; rfl)), (lkI rfl (by first | rfl | omega | (simp [p21_0, hc22, xe23]; done))), rfl, trivial⟩, (HH12.sel [] (by decide) rfl), (by first | omega | assumption | (simp; done) | simp_all)⟩
    · refine wp_exit ?_
      refine (thn_exit (thn_exit (blk_hit ?_)))
      refine nrm ?_
      refine wp_seq ?_
      refine rg ?_
      refine pl_x HE20 HH12 (wt0 rfl) (x_move rfl) rfl rfl fun a_53 HE54 => ?_
      refine pl_x HE54 HH12 (wt0 rfl) (x_assign rfl) rfl rfl fun a_55 HE56 => ?_
      refine wpList_nil ?_
      clear a_19 HE20 a_53 HE54
      refine nrm ?_
      refine wp_ret ?_
      refine ret1 HE56 rfl (rv_tmp rfl) ?_
      have hF : (movT a0) = (movT (a0.take k)) := by
        rw [List.take_of_length_le (by omega)]
      exact ⟨by first | (rw [hF] <;> rfl) | rfl | (rw [hF]; simp only [Ending.returned.injEq, Value.slice.injEq, true_and, and_true]; first | omega | (simp; done)) | (rw [hF]; simp; omega), HH12.below⟩

set_option maxRecDepth 100000 in
set_option maxHeartbeats 4000000 in
theorem spec_l06Text (p0 o0 : Nat) (es0 : List Value) (a0 : tMulti) (w : World) (h0 : eMulti.R w (Old w) es0 a0) (hq0 : ∀ j v, es0[j]? = some v → w.cell? ⟨p0, o0 + j, none⟩ = some v) (v0 : (2 ≤ a0.1 ∧ a0.1 ≤ 3) ∧ (2 ≤ a0.2.1 ∧ a0.2.1 ≤ 3) ∧ 1 ≤ a0.2.2.1 ∧ a0.2.2.1 ≤ 16) (v3 : a0.2.2.2.length ≤ 60) (v4 : ∀ r ∈ a0.2.2.2, okMr r) :
    Calls Tryd.prog 98 #[.pointer (some ⟨p0, o0, none⟩)] w fun e w' => e = .returned (.string (bs (multT a0))) ∧ Below w.heap.size w w' := by
  have H0 := h0
  obtain ⟨Az0_3, cz0_3, rfl, gz0_0, gz0_1, gz0_2, gz0_3⟩ := shape_Multi h0
  have jz0_0 := gz0_0; unfold I64 at jz0_0
  have jz0_1 := gz0_1; unfold I64 at jz0_1
  have jz0_2 := gz0_2; unfold I64 at jz0_2
  have lz0_3 := gz0_3.len
  have v5 := headT_len v0
  have HH1 := Held.start Nob w
  refine enter (n := 77) Tryd.func98 rfl rfl rfl fun a_2 HE3 => ?_
  refine wp_seq ?_
  refine rg ?_
  refine pl_x HE3 HH1 (wt0 rfl) (x_assign rfl) rfl rfl fun a_4 HE5 => ?_
  refine wpList_nil ?_
  clear a_2 HE3
  refine nrm ?_
  refine wp_seq ?_
  refine dr_start (Held Nob w []) 20 #[false, false, false, false, false, false, false, false, false, false, false, false, false, false, false, false, false, false, false, false] hmix rfl rfl HH1 (fun _ h => h.sel [] (by decide) rfl) fun w' HH6 => ?_
  have HS7 := HH6
  refine dr_take (i := 0) (ls' := #[true, false, false, false, false, false, false, false, false, false, false, false, false, false, false, false, false, false, false, false]) HE5 HS7 rfl (by kernel_rfl) (by kernel_rfl) (by kernel_rfl) (fun _ _ _ h => h) rfl (wt0 rfl) (x_move rfl) rfl rfl fun a_8 HE9 => ?_
  refine dr_take (i := 1) (ls' := #[true, true, false, false, false, false, false, false, false, false, false, false, false, false, false, false, false, false, false, false]) HE9 HS7 rfl (by kernel_rfl) (by kernel_rfl) (by kernel_rfl) (fun _ _ _ h => h) rfl (wt0 rfl) (x_nilCheck rfl) rfl rfl fun a_10 HE11 => ?_
  refine dr_take (i := 2) (ls' := #[true, true, true, false, false, false, false, false, false, false, false, false, false, false, false, false, false, false, false, false]) HE11 HS7 rfl (by kernel_rfl) (by kernel_rfl) (by kernel_rfl) (fun _ _ _ h => h) rfl (wt0 rfl) (x_fieldAddr fa_92_0 rfl) rfl rfl fun a_12 HE13 => ?_
  refine dr_take (i := 3) (ls' := #[true, true, true, true, false, false, false, false, false, false, false, false, false, false, false, false, false, false, false, false]) HE13 HS7 rfl (by kernel_rfl) (by kernel_rfl) (by kernel_rfl) (fun _ _ _ h => h) rfl (wt0 rfl) (x_load1 tv_2 rfl (c_old (hq0 0 _ rfl))) rfl rfl fun a_14 HE15 => ?_
  refine dr_take (i := 6) (ls' := #[true, true, true, true, false, false, true, false, false, false, false, false, false, false, false, false, false, false, false, false]) HE15 HS7 rfl (by kernel_rfl) (by kernel_rfl) (by kernel_rfl) (fun _ _ _ h => h) rfl (wt0 rfl) (x_move rfl) rfl rfl fun a_16 HE17 => ?_
  refine dr_take (i := 7) (ls' := #[true, true, true, true, false, false, true, true, false, false, false, false, false, false, false, false, false, false, false, false]) HE17 HS7 rfl (by kernel_rfl) (by kernel_rfl) (by kernel_rfl) (fun _ _ _ h => h) rfl (wt0 rfl) (x_nilCheck rfl) rfl rfl fun a_18 HE19 => ?_
  refine dr_take (i := 8) (ls' := #[true, true, true, true, false, false, true, true, true, false, false, false, false, false, false, false, false, false, false, false]) HE19 HS7 rfl (by kernel_rfl) (by kernel_rfl) (by kernel_rfl) (fun _ _ _ h => h) rfl (wt0 rfl) (x_fieldAddr fa_92_1 rfl) rfl rfl fun a_20 HE21 => ?_
  refine dr_take (i := 9) (ls' := #[true, true, true, true, false, false, true, true, true, true, false, false, false, false, false, false, false, false, false, false]) HE21 HS7 rfl (by kernel_rfl) (by kernel_rfl) (by kernel_rfl) (fun _ _ _ h => h) rfl (wt0 rfl) (x_load1 tv_2 rfl (c_old (hq0 1 _ rfl))) rfl rfl fun a_22 HE23 => ?_
  refine dr_take (i := 13) (ls' := #[true, true, true, true, false, false, true, true, true, true, false, false, false, true, false, false, false, false, false, false]) HE23 HS7 rfl (by kernel_rfl) (by kernel_rfl) (by kernel_rfl) (fun _ _ _ h => h) rfl (wt0 rfl) (x_move rfl) rfl rfl fun a_24 HE25 => ?_
  refine dr_take (i := 14) (ls' := #[true, true, true, true, false, false, true, true, true, true, false, false, false, true, true, false, false, false, false, false]) HE25 HS7 rfl (by kernel_rfl) (by kernel_rfl) (by kernel_rfl) (fun _ _ _ h => h) rfl (wt0 rfl) (x_nilCheck rfl) rfl rfl fun a_26 HE27 => ?_
  refine dr_take (i := 15) (ls' := #[true, true, true, true, false, false, true, true, true, true, false, false, false, true, true, true, false, false, false, false]) HE27 HS7 rfl (by kernel_rfl) (by kernel_rfl) (by kernel_rfl) (fun _ _ _ h => h) rfl (wt0 rfl) (x_fieldAddr fa_92_2 rfl) rfl rfl fun a_28 HE29 => ?_
  refine dr_take (i := 16) (ls' := #[true, true, true, true, false, false, true, true, true, true, false, false, false, true, true, true, true, false, false, false]) HE29 HS7 rfl (by kernel_rfl) (by kernel_rfl) (by kernel_rfl) (fun _ _ _ h => h) rfl (wt0 rfl) (x_load1 tv_2 rfl (c_old (hq0 2 _ rfl))) rfl rfl fun a_30 HE31 => ?_
  refine dr_one (i := 4) (ls' := #[true, true, true, true, true, false, true, true, true, true, false, false, false, true, true, true, true, false, false, false]) rfl (by kernel_rfl) rfl fun K_32 hK33 => ?_
  refine st_call HE31 (wt0 rfl) rfl rfl rfl en_103 rfl rfl (spec_l01Dec a0.1 _ (by omega)) fun e w' hr => ?_
  have hAr21_0 := itoa_len (n := a0.1) (by omega)
  obtain ⟨rfl, hbr21⟩ := hr
  have HH34 := HH6.on hbr21
  refine ⟨_, rfl, fun a_35 HE36 => hK33 _ _ (by exact HH34.sel [] (by decide) rfl) ?_⟩
  have HS37 := HH34.sel [] (by decide) rfl
  refine dr_take (i := 5) (ls' := #[true, true, true, true, true, true, true, true, true, true, false, false, false, true, true, true, true, false, false, false]) HE36 HS37 rfl (by kernel_rfl) (by kernel_rfl) (by kernel_rfl) (fun _ _ _ h => h) rfl (wt0 rfl) (x_sadd rfl rfl (by first | omega | (simp only [List.length_append, List.length_cons, List.length_nil]; omega) | (simp; omega))) rfl rfl fun a_38 HE39 => ?_
  refine dr_one (i := 10) (ls' := #[true, true, true, true, true, true, true, true, true, true, true, false, false, true, true, true, true, false, false, false]) rfl (by kernel_rfl) rfl fun K_40 hK41 => ?_
  refine st_call HE39 (wt0 rfl) rfl rfl rfl en_103 rfl rfl (spec_l01Dec a0.2.1 _ (by omega)) fun e w' hr => ?_
  have hAr22_0 := itoa_len (n := a0.2.1) (by omega)
  obtain ⟨rfl, hbr22⟩ := hr
  have HH42 := HH34.on hbr22
  refine ⟨_, rfl, fun a_43 HE44 => hK41 _ _ (by exact HH42.sel [] (by decide) rfl) ?_⟩
  have HS45 := HH42.sel [] (by decide) rfl
  refine dr_take (i := 11) (ls' := #[true, true, true, true, true, true, true, true, true, true, true, true, false, true, true, true, true, false, false, false]) HE44 HS45 rfl (by kernel_rfl) (by kernel_rfl) (by kernel_rfl) (fun _ _ _ h => h) rfl (wt0 rfl) (x_sadd rfl rfl (by first | omega | (simp only [List.length_append, List.length_cons, List.length_nil]; omega) | (simp; omega))) rfl rfl fun a_46 HE47 => ?_
  refine dr_take (i := 12) (ls' := #[true, true, true, true, true, true, true, true, true, true, true, true, true, true, true, true, true, false, false, false]) HE47 HS45 rfl (by kernel_rfl) (by kernel_rfl) (by kernel_rfl) (fun _ _ _ h => h) rfl (wt0 rfl) (x_sadd rfl rfl (by first | omega | (simp only [List.length_append, List.length_cons, List.length_nil]; omega) | (simp; omega))) rfl rfl fun a_48 HE49 => ?_
  refine dr_one (i := 17) (ls' := #[true, true, true, true, true, true, true, true, true, true, true, true, true, true, true, true, true, true, false, false]) rfl (by kernel_rfl) rfl fun K_50 hK51 => ?_
  refine st_call HE49 (wt0 rfl) rfl rfl rfl en_103 rfl rfl (spec_l01Dec a0.2.2.1 _ (by omega)) fun e w' hr => ?_
  have hAr23_0 := itoa_len (n := a0.2.2.1) (by omega)
  obtain ⟨rfl, hbr23⟩ := hr
  have HH52 := HH42.on hbr23
  refine ⟨_, rfl, fun a_53 HE54 => hK51 _ _ (by exact HH52.sel [] (by decide) rfl) ?_⟩
  have HS55 := HH52.sel [] (by decide) rfl
  refine dr_take (i := 18) (ls' := #[true, true, true, true, true, true, true, true, true, true, true, true, true, true, true, true, true, true, true, false]) HE54 HS55 rfl (by kernel_rfl) (by kernel_rfl) (by kernel_rfl) (fun _ _ _ h => h) rfl (wt0 rfl) (x_sadd rfl rfl (by first | omega | (simp only [List.length_append, List.length_cons, List.length_nil]; omega) | (simp; omega))) rfl rfl fun a_56 HE57 => ?_
  refine dr_take (i := 19) (ls' := #[true, true, true, true, true, true, true, true, true, true, true, true, true, true, true, true, true, true, true, true]) HE57 HS55 rfl (by kernel_rfl) (by kernel_rfl) (by kernel_rfl) (fun _ _ _ h => h) rfl (wt0 rfl) (x_assign rfl) rfl rfl fun a_58 HE59 => ?_
  refine dr_done (by kernel_rfl) ?_
  clear HH1 a_4 HE5 a_8 HE9 a_10 HE11 a_12 HE13 a_14 HE15 a_16 HE17 a_18 HE19 a_20 HE21 a_22 HE23 a_24 HE25 a_26 HE27 a_28 HE29 HH6 a_30 HE31 HS7 a_35 HE36 K_32 hK33 HH34 a_38 HE39 HS37 a_43 HE44 a_46 HE47 K_40 hK41 HH42 a_48 HE49 HS45 a_53 HE54 a_56 HE57 hK51 K_50
  refine nrm ?_
  refine wp_seq ?_
  refine wp_seq ?_
  refine rg ?_
  refine pl_x HE59 HH52 (wt0 rfl) (x_assign rfl) rfl rfl fun a_60 HE61 => ?_
  refine wpList_nil ?_
  clear a_58 HE59
  refine nrm ?_
  refine wp_block ?_
  refine lp (fun m a w' => ∃ (k : Nat), m = a0.2.2.2.length - k ∧ Env 77 [(3, .string (bs (headT a0 ++ Go.Lib.joinTail [10] ((a0.2.2.2.take k).map mrT)))), (4, .int .i64 (k : Int)), (0, .pointer (some ⟨p0, o0, none⟩))] a ∧ Held Nob w [] w' ∧ (k ≤ a0.2.2.2.length)) (a0.2.2.2.length - (0)) ?_ ?_
  · exact ⟨0, rfl, HE61.sub ⟨(lkS rfl (by simp [headT, Go.Lib.joinTail, decs_three2])), (lkI rfl (by first | rfl | omega | (simp []; done))), rfl, trivial⟩, (HH52.sel [] (by decide) rfl), (by first | omega | assumption | (simp; done) | simp_all)⟩
  · rintro m a_62 w' ⟨k, rfl, HE63, HH64, p24_0⟩
    have oj := jt_len v4 k
    refine wp_seq ?_
    refine wp_seq ?_
    refine rg ?_
    refine pl_x HE63 HH64 (wt0 rfl) (x_move rfl) rfl rfl fun a_65 HE66 => ?_
    refine pl_x HE66 HH64 (wt0 rfl) (x_move rfl) rfl rfl fun a_67 HE68 => ?_
    refine pl_x HE68 HH64 (wt0 rfl) (x_nilCheck rfl) rfl rfl fun a_69 HE70 => ?_
    refine pl_x HE70 HH64 (wt0 rfl) (x_fieldAddr fa_92_3 rfl) rfl rfl fun a_71 HE72 => ?_
    refine pl_x HE72 HH64 (wt0 rfl) (x_load1 tv_90 rfl (c_old (hq0 3 _ rfl))) rfl rfl fun a_73 HE74 => ?_
    refine pl_x HE74 HH64 (wt0 rfl) (x_len Tryd.underlying90 rfl) rfl rfl fun a_75 HE76 => ?_
    refine pl_x HE76 HH64 (wt0 rfl) (x_lss rfl rfl) rfl rfl fun a_77 HE78 => ?_
    refine wpList_nil ?_
    clear a_60 HE61 HH52 a_62 HE63 a_65 HE66 a_67 HE68 a_69 HE70 a_71 HE72 a_73 HE74 a_75 HE76
    refine nrm ?_
    refine cnd_d HE78 rfl (fun hc25 => ?_) (fun hc25 => ?_)
    · refine wp_skip ?_
      refine nrm ?_
      refine wp_seq ?_
      refine wp_block ?_
      refine wp_seq ?_
      refine rg ?_
      refine pl_x HE78 HH64 (wt0 rfl) (x_move rfl) rfl rfl fun a_79 HE80 => ?_
      refine pl_x HE80 HH64 (wt0 rfl) (x_nilCheck rfl) rfl rfl fun a_81 HE82 => ?_
      refine pl_x HE82 HH64 (wt0 rfl) (x_fieldAddr fa_92_3 rfl) rfl rfl fun a_83 HE84 => ?_
      refine pl_x HE84 HH64 (wt0 rfl) (x_load1 tv_90 rfl (c_old (hq0 3 _ rfl))) rfl rfl fun a_85 HE86 => ?_
      refine pl_x HE86 HH64 (wt0 rfl) (x_move rfl) rfl rfl fun a_87 HE88 => ?_
      have ke26 : k < a0.2.2.2.length := by omega
      obtain ⟨be26, fe26, ese26, Ae26, Re26, De26⟩ := el_old gz0_3 ke26
      obtain ⟨e26, xe26⟩ : ∃ x_, x_ = a0.2.2.2[k] := ⟨_, rfl⟩
      rw [← xe26] at Re26
      have Qe26 := Re26
      obtain ⟨Ae26_1, ce26_1, Ae26_2, ce26_2, Ae26_3, ce26_3, rfl, ge26_0, ge26_1, ge26_2, ge26_3, ge26_4⟩ := shape_MultiRule Re26
      have je26_0 := ge26_0; unfold I64 at je26_0
      have le26_1 := ge26_1.len
      have le26_2 := ge26_2.len
      have le26_3 := ge26_3.len
      have je26_4 := ge26_4; unfold I64 at je26_4
      have fe26 := v4 e26 (by rw [xe26]; exact List.getElem_mem _)
      obtain ⟨fae26, ⟨fbe26, fce26⟩, ⟨fde26, fee26⟩, ⟨ffe26, fge26⟩, fhe26⟩ := fe26
      refine pl_x HE88 HH64 (wt0 rfl) (x_indexAddr ts_90 rfl rfl Ae26 rfl ke26) rfl rfl fun a_89 HE90 => ?_
      refine pl_x HE90 HH64 (wt0 rfl) (x_assign rfl) rfl rfl fun a_91 HE92 => ?_
      refine wpList_nil ?_
      clear a_77 HE78 a_79 HE80 a_81 HE82 a_83 HE84 a_85 HE86 a_87 HE88 a_89 HE90
      refine nrm ?_
      refine dr_start (Held Nob w []) 37 #[false, false, false, false, false, false, false, false, false, false, false, false, false, false, false, false, false, false, false, false, false, false, false, false, false, false, false, false, false, false, false, false, false, false, false, false, false] hmix rfl rfl HH64 (fun _ h => h.sel [] (by decide) rfl) fun w' HH93 => ?_
      have HS94 := HH93
      refine dr_take (i := 0) (ls' := #[true, false, false, false, false, false, false, false, false, false, false, false, false, false, false, false, false, false, false, false, false, false, false, false, false, false, false, false, false, false, false, false, false, false, false, false, false]) HE92 HS94 rfl (by kernel_rfl) (by kernel_rfl) (by kernel_rfl) (fun _ _ _ h => h) rfl (wt0 rfl) (x_move rfl) rfl rfl fun a_95 HE96 => ?_
      refine dr_take (i := 1) (ls' := #[true, true, false, false, false, false, false, false, false, false, false, false, false, false, false, false, false, false, false, false, false, false, false, false, false, false, false, false, false, false, false, false, false, false, false, false, false]) HE96 HS94 rfl (by kernel_rfl) (by kernel_rfl) (by kernel_rfl) (fun _ _ _ h => h) rfl (wt0 rfl) (x_move rfl) rfl rfl fun a_97 HE98 => ?_
      refine dr_take (i := 2) (ls' := #[true, true, true, false, false, false, false, false, false, false, false, false, false, false, false, false, false, false, false, false, false, false, false, false, false, false, false, false, false, false, false, false, false, false, false, false, false]) HE98 HS94 rfl (by kernel_rfl) (by kernel_rfl) (by kernel_rfl) (fun _ _ _ h => h) rfl (wt0 rfl) (x_nilCheck rfl) rfl rfl fun a_99 HE100 => ?_
      refine dr_take (i := 3) (ls' := #[true, true, true, true, false, false, false, false, false, false, false, false, false, false, false, false, false, false, false, false, false, false, false, false, false, false, false, false, false, false, false, false, false, false, false, false, false]) HE100 HS94 rfl (by kernel_rfl) (by kernel_rfl) (by kernel_rfl) (fun _ _ _ h => h) rfl (wt0 rfl) (x_fieldAddr fa_152_0 rfl) rfl rfl fun a_101 HE102 => ?_
      refine dr_take (i := 4) (ls' := #[true, true, true, true, true, false, false, false, false, false, false, false, false, false, false, false, false, false, false, false, false, false, false, false, false, false, false, false, false, false, false, false, false, false, false, false, false]) HE102 HS94 rfl (by kernel_rfl) (by kernel_rfl) (by kernel_rfl) (fun _ _ _ h => h) rfl (wt0 rfl) (x_load1 tv_2 rfl (c_old (De26 0 _ rfl))) rfl rfl fun a_103 HE104 => ?_
      refine dr_take (i := 8) (ls' := #[true, true, true, true, true, false, false, false, true, false, false, false, false, false, false, false, false, false, false, false, false, false, false, false, false, false, false, false, false, false, false, false, false, false, false, false, false]) HE104 HS94 rfl (by kernel_rfl) (by kernel_rfl) (by kernel_rfl) (fun _ _ _ h => h) rfl (wt0 rfl) (x_move rfl) rfl rfl fun a_105 HE106 => ?_
      refine dr_take (i := 9) (ls' := #[true, true, true, true, true, false, false, false, true, true, false, false, false, false, false, false, false, false, false, false, false, false, false, false, false, false, false, false, false, false, false, false, false, false, false, false, false]) HE106 HS94 rfl (by kernel_rfl) (by kernel_rfl) (by kernel_rfl) (fun _ _ _ h => h) rfl (wt0 rfl) (x_nilCheck rfl) rfl rfl fun a_107 HE108 => ?_
      refine dr_take (i := 10) (ls' := #[true, true, true, true, true, false, false, false, true, true, true, false, false, false, false, false, false, false, false, false, false, false, false, false, false, false, false, false, false, false, false, false, false, false, false, false, false]) HE108 HS94 rfl (by kernel_rfl) (by kernel_rfl) (by kernel_rfl) (fun _ _ _ h => h) rfl (wt0 rfl) (x_fieldAddr fa_152_1 rfl) rfl rfl fun a_109 HE110 => ?_
      refine dr_take (i := 11) (ls' := #[true, true, true, true, true, false, false, false, true, true, true, true, false, false, false, false, false, false, false, false, false, false, false, false, false, false, false, false, false, false, false, false, false, false, false, false, false]) HE110 HS94 rfl (by kernel_rfl) (by kernel_rfl) (by kernel_rfl) (fun _ _ _ h => h) rfl (wt0 rfl) (x_load1 tv_51 rfl (c_old (De26 1 _ rfl))) rfl rfl fun a_111 HE112 => ?_
      refine dr_take (i := 15) (ls' := #[true, true, true, true, true, false, false, false, true, true, true, true, false, false, false, true, false, false, false, false, false, false, false, false, false, false, false, false, false, false, false, false, false, false, false, false, false]) HE112 HS94 rfl (by kernel_rfl) (by kernel_rfl) (by kernel_rfl) (fun _ _ _ h => h) rfl (wt0 rfl) (x_move rfl) rfl rfl fun a_113 HE114 => ?_
      refine dr_take (i := 16) (ls' := #[true, true, true, true, true, false, false, false, true, true, true, true, false, false, false, true, true, false, false, false, false, false, false, false, false, false, false, false, false, false, false, false, false, false, false, false, false]) HE114 HS94 rfl (by kernel_rfl) (by kernel_rfl) (by kernel_rfl) (fun _ _ _ h => h) rfl (wt0 rfl) (x_nilCheck rfl) rfl rfl fun a_115 HE116 => ?_
      refine dr_take (i := 17) (ls' := #[true, true, true, true, true, false, false, false, true, true, true, true, false, false, false, true, true, true, false, false, false, false, false, false, false, false, false, false, false, false, false, false, false, false, false, false, false]) HE116 HS94 rfl (by kernel_rfl) (by kernel_rfl) (by kernel_rfl) (fun _ _ _ h => h) rfl (wt0 rfl) (x_fieldAddr fa_152_2 rfl) rfl rfl fun a_117 HE118 => ?_
      refine dr_take (i := 18) (ls' := #[true, true, true, true, true, false, false, false, true, true, true, true, false, false, false, true, true, true, true, false, false, false, false, false, false, false, false, false, false, false, false, false, false, false, false, false, false]) HE118 HS94 rfl (by kernel_rfl) (by kernel_rfl) (by kernel_rfl) (fun _ _ _ h => h) rfl (wt0 rfl) (x_load1 tv_51 rfl (c_old (De26 2 _ rfl))) rfl rfl fun a_119 HE120 => ?_
      refine dr_take (i := 22) (ls' := #[true, true, true, true, true, false, false, false, true, true, true, true, false, false, false, true, true, true, true, false, false, false, true, false, false, false, false, false, false, false, false, false, false, false, false, false, false]) HE120 HS94 rfl (by kernel_rfl) (by kernel_rfl) (by kernel_rfl) (fun _ _ _ h => h) rfl (wt0 rfl) (x_move rfl) rfl rfl fun a_121 HE122 => ?_
      refine dr_take (i := 23) (ls' := #[true, true, true, true, true, false, false, false, true, true, true, true, false, false, false, true, true, true, true, false, false, false, true, true, false, false, false, false, false, false, false, false, false, false, false, false, false]) HE122 HS94 rfl (by kernel_rfl) (by kernel_rfl) (by kernel_rfl) (fun _ _ _ h => h) rfl (wt0 rfl) (x_nilCheck rfl) rfl rfl fun a_123 HE124 => ?_
      refine dr_take (i := 24) (ls' := #[true, true, true, true, true, false, false, false, true, true, true, true, false, false, false, true, true, true, true, false, false, false, true, true, true, false, false, false, false, false, false, false, false, false, false, false, false]) HE124 HS94 rfl (by kernel_rfl) (by kernel_rfl) (by kernel_rfl) (fun _ _ _ h => h) rfl (wt0 rfl) (x_fieldAddr fa_152_3 rfl) rfl rfl fun a_125 HE126 => ?_
      refine dr_take (i := 25) (ls' := #[true, true, true, true, true, false, false, false, true, true, true, true, false, false, false, true, true, true, true, false, false, false, true, true, true, true, false, false, false, false, false, false, false, false, false, false, false]) HE126 HS94 rfl (by kernel_rfl) (by kernel_rfl) (by kernel_rfl) (fun _ _ _ h => h) rfl (wt0 rfl) (x_load1 tv_51 rfl (c_old (De26 3 _ rfl))) rfl rfl fun a_127 HE128 => ?_
      refine dr_take (i := 29) (ls' := #[true, true, true, true, true, false, false, false, true, true, true, true, false, false, false, true, true, true, true, false, false, false, true, true, true, true, false, false, false, true, false, false, false, false, false, false, false]) HE128 HS94 rfl (by kernel_rfl) (by kernel_rfl) (by kernel_rfl) (fun _ _ _ h => h) rfl (wt0 rfl) (x_move rfl) rfl rfl fun a_129 HE130 => ?_
      refine dr_take (i := 30) (ls' := #[true, true, true, true, true, false, false, false, true, true, true, true, false, false, false, true, true, true, true, false, false, false, true, true, true, true, false, false, false, true, true, false, false, false, false, false, false]) HE130 HS94 rfl (by kernel_rfl) (by kernel_rfl) (by kernel_rfl) (fun _ _ _ h => h) rfl (wt0 rfl) (x_nilCheck rfl) rfl rfl fun a_131 HE132 => ?_
      refine dr_take (i := 31) (ls' := #[true, true, true, true, true, false, false, false, true, true, true, true, false, false, false, true, true, true, true, false, false, false, true, true, true, true, false, false, false, true, true, true, false, false, false, false, false]) HE132 HS94 rfl (by kernel_rfl) (by kernel_rfl) (by kernel_rfl) (fun _ _ _ h => h) rfl (wt0 rfl) (x_fieldAddr fa_152_4 rfl) rfl rfl fun a_133 HE134 => ?_
      refine dr_take (i := 32) (ls' := #[true, true, true, true, true, false, false, false, true, true, true, true, false, false, false, true, true, true, true, false, false, false, true, true, true, true, false, false, false, true, true, true, true, false, false, false, false]) HE134 HS94 rfl (by kernel_rfl) (by kernel_rfl) (by kernel_rfl) (fun _ _ _ h => h) rfl (wt0 rfl) (x_load1 tv_2 rfl (c_old (De26 4 _ rfl))) rfl rfl fun a_135 HE136 => ?_
      refine dr_one (i := 5) (ls' := #[true, true, true, true, true, true, false, false, true, true, true, true, false, false, false, true, true, true, true, false, false, false, true, true, true, true, false, false, false, true, true, true, true, false, false, false, false]) rfl (by kernel_rfl) rfl fun K_137 hK138 => ?_
      refine st_call HE136 (wt0 rfl) rfl rfl rfl en_103 rfl rfl (spec_l01Dec e26.1 _ (by omega)) fun e w' hr => ?_
      have hAr27_0 := itoa_len (n := e26.1) (by omega)
      obtain ⟨rfl, hbr27⟩ := hr
      have HH139 := HH93.on hbr27
      refine ⟨_, rfl, fun a_140 HE141 => hK138 _ _ (by exact HH139.sel [] (by decide) rfl) ?_⟩
      have HS142 := HH139.sel [] (by decide) rfl
      refine dr_take (i := 6) (ls' := #[true, true, true, true, true, true, true, false, true, true, true, true, false, false, false, true, true, true, true, false, false, false, true, true, true, true, false, false, false, true, true, true, true, false, false, false, false]) HE141 HS142 rfl (by kernel_rfl) (by kernel_rfl) (by kernel_rfl) (fun _ _ _ h => h) rfl (wt0 rfl) (x_sadd rfl rfl (by first | omega | (simp only [List.length_append, List.length_cons, List.length_nil]; omega) | (simp; omega))) rfl rfl fun a_143 HE144 => ?_
      refine dr_take (i := 7) (ls' := #[true, true, true, true, true, true, true, true, true, true, true, true, false, false, false, true, true, true, true, false, false, false, true, true, true, true, false, false, false, true, true, true, true, false, false, false, false]) HE144 HS142 rfl (by kernel_rfl) (by kernel_rfl) (by kernel_rfl) (fun _ _ _ h => h) rfl (wt0 rfl) (x_sadd rfl rfl (by first | omega | (simp only [List.length_append, List.length_cons, List.length_nil]; omega) | (simp; omega))) rfl rfl fun a_145 HE146 => ?_
      refine dr_one (i := 12) (ls' := #[true, true, true, true, true, true, true, true, true, true, true, true, true, false, false, true, true, true, true, false, false, false, true, true, true, true, false, false, false, true, true, true, true, false, false, false, false]) rfl (by kernel_rfl) rfl fun K_147 hK148 => ?_
      refine st_call HE146 (wt0 rfl) rfl rfl rfl en_141 rfl rfl (spec_l06Digits _ _ e26.2.1 _ (HH139.old ge26_1) (by assumption) (by omega)) fun e w' hr => ?_
      have hAr28_0 := digT_len e26.2.1
      obtain ⟨rfl, hbr28⟩ := hr
      have HH149 := HH139.on hbr28
      refine ⟨_, rfl, fun a_150 HE151 => hK148 _ _ (by exact HH149.sel [] (by decide) rfl) ?_⟩
      have HS152 := HH149.sel [] (by decide) rfl
      refine dr_take (i := 13) (ls' := #[true, true, true, true, true, true, true, true, true, true, true, true, true, true, false, true, true, true, true, false, false, false, true, true, true, true, false, false, false, true, true, true, true, false, false, false, false]) HE151 HS152 rfl (by kernel_rfl) (by kernel_rfl) (by kernel_rfl) (fun _ _ _ h => h) rfl (wt0 rfl) (x_sadd rfl rfl (by first | omega | (simp only [List.length_append, List.length_cons, List.length_nil]; omega) | (simp; omega))) rfl rfl fun a_153 HE154 => ?_
      refine dr_take (i := 14) (ls' := #[true, true, true, true, true, true, true, true, true, true, true, true, true, true, true, true, true, true, true, false, false, false, true, true, true, true, false, false, false, true, true, true, true, false, false, false, false]) HE154 HS152 rfl (by kernel_rfl) (by kernel_rfl) (by kernel_rfl) (fun _ _ _ h => h) rfl (wt0 rfl) (x_sadd rfl rfl (by first | omega | (simp only [List.length_append, List.length_cons, List.length_nil]; omega) | (simp; omega))) rfl rfl fun a_155 HE156 => ?_
      refine dr_one (i := 19) (ls' := #[true, true, true, true, true, true, true, true, true, true, true, true, true, true, true, true, true, true, true, true, false, false, true, true, true, true, false, false, false, true, true, true, true, false, false, false, false]) rfl (by kernel_rfl) rfl fun K_157 hK158 => ?_
      refine st_call HE156 (wt0 rfl) rfl rfl rfl en_141 rfl rfl (spec_l06Digits _ _ e26.2.2.1 _ (HH149.old ge26_2) (by assumption) (by omega)) fun e w' hr => ?_
      have hAr29_0 := digT_len e26.2.2.1
      obtain ⟨rfl, hbr29⟩ := hr
      have HH159 := HH149.on hbr29
      refine ⟨_, rfl, fun a_160 HE161 => hK158 _ _ (by exact HH159.sel [] (by decide) rfl) ?_⟩
      have HS162 := HH159.sel [] (by decide) rfl
      refine dr_take (i := 20) (ls' := #[true, true, true, true, true, true, true, true, true, true, true, true, true, true, true, true, true, true, true, true, true, false, true, true, true, true, false, false, false, true, true, true, true, false, false, false, false]) HE161 HS162 rfl (by kernel_rfl) (by kernel_rfl) (by kernel_rfl) (fun _ _ _ h => h) rfl (wt0 rfl) (x_sadd rfl rfl (by first | omega | (simp only [List.length_append, List.length_cons, List.length_nil]; omega) | (simp; omega))) rfl rfl fun a_163 HE164 => ?_
      refine dr_take (i := 21) (ls' := #[true, true, true, true, true, true, true, true, true, true, true, true, true, true, true, true, true, true, true, true, true, true, true, true, true, true, false, false, false, true, true, true, true, false, false, false, false]) HE164 HS162 rfl (by kernel_rfl) (by kernel_rfl) (by kernel_rfl) (fun _ _ _ h => h) rfl (wt0 rfl) (x_sadd rfl rfl (by first | omega | (simp only [List.length_append, List.length_cons, List.length_nil]; omega) | (simp; omega))) rfl rfl fun a_165 HE166 => ?_
      refine dr_one (i := 26) (ls' := #[true, true, true, true, true, true, true, true, true, true, true, true, true, true, true, true, true, true, true, true, true, true, true, true, true, true, true, false, false, true, true, true, true, false, false, false, false]) rfl (by kernel_rfl) rfl fun K_167 hK168 => ?_
      refine st_call HE166 (wt0 rfl) rfl rfl rfl en_142 rfl rfl (spec_l06Moves _ _ e26.2.2.2.1 _ (HH159.old ge26_3) (by assumption) (by omega)) fun e w' hr => ?_
      have hAr30_0 := movT_len e26.2.2.2.1
      obtain ⟨rfl, hbr30⟩ := hr
      have HH169 := HH159.on hbr30
      refine ⟨_, rfl, fun a_170 HE171 => hK168 _ _ (by exact HH169.sel [] (by decide) rfl) ?_⟩
      have HS172 := HH169.sel [] (by decide) rfl
      refine dr_take (i := 27) (ls' := #[true, true, true, true, true, true, true, true, true, true, true, true, true, true, true, true, true, true, true, true, true, true, true, true, true, true, true, true, false, true, true, true, true, false, false, false, false]) HE171 HS172 rfl (by kernel_rfl) (by kernel_rfl) (by kernel_rfl) (fun _ _ _ h => h) rfl (wt0 rfl) (x_sadd rfl rfl (by first | omega | (simp only [List.length_append, List.length_cons, List.length_nil]; omega) | (simp; omega))) rfl rfl fun a_173 HE174 => ?_
      refine dr_take (i := 28) (ls' := #[true, true, true, true, true, true, true, true, true, true, true, true, true, true, true, true, true, true, true, true, true, true, true, true, true, true, true, true, true, true, true, true, true, false, false, false, false]) HE174 HS172 rfl (by kernel_rfl) (by kernel_rfl) (by kernel_rfl) (fun _ _ _ h => h) rfl (wt0 rfl) (x_sadd rfl rfl (by first | omega | (simp only [List.length_append, List.length_cons, List.length_nil]; omega) | (simp; omega))) rfl rfl fun a_175 HE176 => ?_
      refine dr_one (i := 33) (ls' := #[true, true, true, true, true, true, true, true, true, true, true, true, true, true, true, true, true, true, true, true, true, true, true, true, true, true, true, true, true, true, true, true, true, true, false, false, false]) rfl (by kernel_rfl) rfl fun K_177 hK178 => ?_
      refine st_call HE176 (wt0 rfl) rfl rfl rfl en_103 rfl rfl (spec_l01Dec e26.2.2.2.2 _ (by omega)) fun e w' hr => ?_
      have hAr31_0 := itoa_len (n := e26.2.2.2.2) (by omega)
      obtain ⟨rfl, hbr31⟩ := hr
      have HH179 := HH169.on hbr31
      refine ⟨_, rfl, fun a_180 HE181 => hK178 _ _ (by exact HH179.sel [] (by decide) rfl) ?_⟩
      have HS182 := HH179.sel [] (by decide) rfl
      refine dr_take (i := 34) (ls' := #[true, true, true, true, true, true, true, true, true, true, true, true, true, true, true, true, true, true, true, true, true, true, true, true, true, true, true, true, true, true, true, true, true, true, true, false, false]) HE181 HS182 rfl (by kernel_rfl) (by kernel_rfl) (by kernel_rfl) (fun _ _ _ h => h) rfl (wt0 rfl) (x_sadd rfl rfl (by first | omega | (simp only [List.length_append, List.length_cons, List.length_nil]; omega) | (simp; omega))) rfl rfl fun a_183 HE184 => ?_
      refine dr_take (i := 35) (ls' := #[true, true, true, true, true, true, true, true, true, true, true, true, true, true, true, true, true, true, true, true, true, true, true, true, true, true, true, true, true, true, true, true, true, true, true, true, false]) HE184 HS182 rfl (by kernel_rfl) (by kernel_rfl) (by kernel_rfl) (fun _ _ _ h => h) rfl (wt0 rfl) (x_sadd rfl rfl (by first | omega | (simp only [List.length_append, List.length_cons, List.length_nil]; omega) | (simp; omega))) rfl rfl fun a_185 HE186 => ?_
      refine dr_take (i := 36) (ls' := #[true, true, true, true, true, true, true, true, true, true, true, true, true, true, true, true, true, true, true, true, true, true, true, true, true, true, true, true, true, true, true, true, true, true, true, true, true]) HE186 HS182 rfl (by kernel_rfl) (by kernel_rfl) (by kernel_rfl) (fun _ _ _ h => h) rfl (wt0 rfl) (x_assign rfl) rfl rfl fun a_187 HE188 => ?_
      refine dr_done (by kernel_rfl) ?_
      clear HH64 HS55 a_91 HE92 a_95 HE96 a_97 HE98 a_99 HE100 a_101 HE102 a_103 HE104 a_105 HE106 a_107 HE108 a_109 HE110 a_111 HE112 a_113 HE114 a_115 HE116 a_117 HE118 a_119 HE120 a_121 HE122 a_123 HE124 a_125 HE126 a_127 HE128 a_129 HE130 a_131 HE132 a_133 HE134 HH93 a_135 HE136 HS94 a_140 HE141 a_143 HE144 K_137 hK138 HH139 a_145 HE146 HS142 a_150 HE151 a_153 HE154 K_147 hK148 HH149 a_155 HE156 HS152 a_160 HE161 a_163 HE164 K_157 hK158 HH159 a_165 HE166 HS162 a_170 HE171 a_173 HE174 K_167 hK168 HH169 a_175 HE176 HS172 a_180 HE181 a_183 HE184 a_185 HE186 hK178 K_177
      refine blk_n ?_
      refine nrm ?_
      refine rg ?_
      refine pl_x HE188 HH179 (wt0 rfl) (x_move rfl) rfl rfl fun a_189 HE190 => ?_
      refine pl_x HE190 HH179 (wt0 rfl) (x_add rfl rfl (by exact ⟨by omega, by omega⟩)) rfl rfl fun a_191 HE192 => ?_
      refine pl_x HE192 HH179 (wt0 rfl) (x_assign rfl) rfl rfl fun a_193 HE194 => ?_
      refine wpList_nil ?_
      clear a_187 HE188 a_189 HE190 a_191 HE192
      exact nrm ⟨a0.2.2.2.length - (k + 1), (by omega), k + 1, rfl, HE194.sub ⟨(lkS rfl (by rw [jt_step _ _ (by omega), ← xe26]; simp [mrT, Go.Lib.join, List.intercalate])), (lkI rfl (by first | rfl | omega | (simp [p24_0, hc25, xe26]; done))), rfl, trivial⟩, (HH179.sel [] (by decide) rfl), (by first | omega | assumption | (simp; done) | simp_all)⟩
    · refine wp_exit ?_
      refine (thn_exit (thn_exit (blk_hit ?_)))
      refine nrm ?_
      refine wp_seq ?_
      refine rg ?_
      refine pl_x HE78 HH64 (wt0 rfl) (x_move rfl) rfl rfl fun a_195 HE196 => ?_
      refine pl_x HE196 HH64 (wt0 rfl) (x_assign rfl) rfl rfl fun a_197 HE198 => ?_
      refine wpList_nil ?_
      clear a_77 HE78 a_195 HE196
      refine nrm ?_
      refine wp_ret ?_
      refine ret1 HE198 rfl (rv_tmp rfl) ?_
      have hF : (multT a0) = (headT a0 ++ Go.Lib.joinTail [10] ((a0.2.2.2.take k).map mrT)) := by
        unfold multT; rw [List.take_of_length_le (by omega)]
      exact ⟨by first | (rw [hF] <;> rfl) | rfl | (rw [hF]; simp only [Ending.returned.injEq, Value.slice.injEq, true_and, and_true]; first | omega | (simp; done)) | (rw [hF]; simp; omega), HH64.below⟩

set_option maxRecDepth 100000 in
set_option maxHeartbeats 4000000 in
theorem spec_MultiText (es0 : List Value) (a0 : tMulti) (w : World) (h0 : eMulti.R w (Old w) es0 a0) :
    Calls Tryd.prog 48 #[.agg es0.toArray] w fun e w' => e = .returned (.string (bs (multText a0))) ∧ Below w.heap.size w w' := by
  have H0 := h0
  obtain ⟨Az0_3, cz0_3, rfl, gz0_0, gz0_1, gz0_2, gz0_3⟩ := shape_Multi h0
  have jz0_0 := gz0_0; unfold I64 at jz0_0
  have jz0_1 := gz0_1; unfold I64 at jz0_1
  have jz0_2 := gz0_2; unfold I64 at jz0_2
  have lz0_3 := gz0_3.len
  have HH1 := Held.start Nob w
  refine enter (n := 6) Tryd.func48 rfl rfl rfl fun a_2 HE3 => ?_
  refine wp_seq ?_
  refine rg ?_
  refine pl fun K_4 hK5 => ?_
  refine st_box (cs := [.int .i64 (a0.1), .int .i64 (a0.2.1), .int .i64 (a0.2.2.1), .slice Az0_3 (a0.2.2.2.length) cz0_3]) HE3 HH1 rfl rfl (wt0 rfl) rfl fun q21 a_6 w' HE7 HH8 => hK5 _ _ ?_
  refine pl_x HE7 HH8 (wt0 rfl) (x_assign rfl) rfl rfl fun a_9 HE10 => ?_
  refine wpList_nil ?_
  clear a_2 HE3 HH1 a_6 HE7 hK5 K_4
  refine nrm ?_
  refine wp_seq ?_
  refine wp_seq ?_
  refine rg ?_
  refine pl fun K_11 hK12 => ?_
  refine st_call HE10 (wt0 rfl) rfl rfl rfl en_97 rfl rfl (spec_l06Is _ _ _ a0 _ (HH8.oldR H0) (c_blkN 0 rfl _ HH8)) fun e w' hr => ?_
  obtain ⟨rfl, hbr22⟩ := hr
  have HH13 := HH8.on hbr22
  refine ⟨_, rfl, fun a_14 HE15 => hK12 _ _ ?_⟩
  refine pl_x HE15 HH13 (wt0 rfl) (x_not rfl) rfl rfl fun a_16 HE17 => ?_
  refine wpList_nil ?_
  clear HH8 a_9 HE10 a_14 HE15 hK12 K_11
  refine nrm ?_
  refine cnd_nb HE17 rfl (fun hc23 => ?_) (fun hc23 => ?_)
  · refine wp_seq ?_
    refine rg ?_
    refine pl_x HE17 HH13 (wt0 rfl) (x_assign rfl) rfl rfl fun a_18 HE19 => ?_
    refine wpList_nil ?_
    clear a_16 HE17
    refine nrm ?_
    refine wp_ret ?_
    refine (thn_ret ?_)
    refine ret1 HE19 rfl (rv_tmp rfl) ?_
    have hF : (multText a0) = [] := by
      simp [multText, hc23]
    exact ⟨by first | (rw [hF] <;> rfl) | rfl | (rw [hF]; simp only [Ending.returned.injEq, Value.slice.injEq, true_and, and_true]; first | omega | (simp; done)) | (rw [hF]; simp; omega), HH13.below⟩
  · obtain ⟨v0, v1, v2, v3⟩ := validMulti_facts hc23
    have v4 := validMulti_ok hc23
    have v5 := headT_len (m := a0) ⟨v0, v1, v2⟩
    refine wp_skip ?_
    refine nrm ?_
    refine wp_seq ?_
    refine rg ?_
    refine pl fun K_20 hK21 => ?_
    refine st_call HE17 (wt0 rfl) rfl rfl rfl en_98 rfl rfl (spec_l06Text _ _ _ a0 _ (HH13.oldR H0) (c_blkN 0 rfl _ HH13) (by exact ⟨v0, v1, v2⟩) (by omega) (by assumption)) fun e w' hr => ?_
    obtain ⟨rfl, hbr24⟩ := hr
    have HH22 := HH13.on hbr24
    refine ⟨_, rfl, fun a_23 HE24 => hK21 _ _ ?_⟩
    refine pl_x HE24 HH22 (wt0 rfl) (x_assign rfl) rfl rfl fun a_25 HE26 => ?_
    refine wpList_nil ?_
    clear HH13 a_16 HE17 a_23 HE24 hK21 K_20
    refine nrm ?_
    refine wp_ret ?_
    refine ret1 HE26 rfl (rv_tmp rfl) ?_
    have hF : (multText a0) = (multT a0) := by
      simp [multText, hc23]
    exact ⟨by first | (rw [hF] <;> rfl) | rfl | (rw [hF]; simp only [Ending.returned.injEq, Value.slice.injEq, true_and, and_true]; first | omega | (simp; done)) | (rw [hF]; simp; omega), HH22.below⟩

set_option maxRecDepth 100000 in
set_option maxHeartbeats 4000000 in
theorem law_MultiText (es0 : List Value) (a0 : tMulti) (w : World) (h0 : eMulti.R w (Old w) es0 a0) (hG : Glob w) :
    Calls Tryd.prog 10 #[.agg es0.toArray] w fun e w' => e = .returned (.bool true) ∧ Below w.heap.size w w' := by
  have H0 := h0
  obtain ⟨Az0_3, cz0_3, rfl, gz0_0, gz0_1, gz0_2, gz0_3⟩ := shape_Multi h0
  have jz0_0 := gz0_0; unfold I64 at jz0_0
  have jz0_1 := gz0_1; unfold I64 at jz0_1
  have jz0_2 := gz0_2; unfold I64 at jz0_2
  have lz0_3 := gz0_3.len
  have HH1 := Held.start Nob w
  refine enter (n := 27) Tryd.func10 rfl rfl rfl fun a_2 HE3 => ?_
  refine wp_seq ?_
  refine rg ?_
  refine pl fun K_4 hK5 => ?_
  refine st_box (cs := [.int .i64 (a0.1), .int .i64 (a0.2.1), .int .i64 (a0.2.2.1), .slice Az0_3 (a0.2.2.2.length) cz0_3]) HE3 HH1 rfl rfl (wt0 rfl) rfl fun q21 a_6 w' HE7 HH8 => hK5 _ _ ?_
  refine pl_x HE7 HH8 (wt0 rfl) (x_assign rfl) rfl rfl fun a_9 HE10 => ?_
  refine wpList_nil ?_
  clear a_2 HE3 HH1 a_6 HE7 hK5 K_4
  refine nrm ?_
  refine wp_seq ?_
  refine rg ?_
  refine pl_x HE10 HH8 (wt0 rfl) (x_assign rfl) rfl rfl fun a_11 HE12 => ?_
  refine wpList_nil ?_
  clear a_9 HE10
  refine nrm ?_
  refine wp_seq ?_
  refine rg ?_
  refine pl_x HE12 HH8 (wt0 rfl) (x_loadN (cs := [.int .i64 (a0.1), .int .i64 (a0.2.1), .int .i64 (a0.2.2.1), .slice Az0_3 (a0.2.2.2.length) cz0_3]) tv_87 rfl rfl (c_blkN 0 rfl)) rfl rfl fun a_13 HE14 => ?_
  refine pl_x HE14 HH8 (wt0 rfl) (x_move rfl) rfl rfl fun a_15 HE16 => ?_
  refine pl fun K_17 hK18 => ?_
  refine st_call HE16 (wt0 rfl) rfl rfl rfl en_47 rfl rfl (sz_Multi [.int .i64 (a0.1), .int .i64 (a0.2.1), .int .i64 (a0.2.2.1), .slice Az0_3 (a0.2.2.2.length) cz0_3] a0 1048576 _ (HH8.oldR H0) (by omega) (by omega)) fun e w' hr => ?_
  obtain ⟨rfl, hbr22⟩ := hr
  have HH19 := HH8.on hbr22
  clear hbr22
  refine ⟨_, rfl, fun a_20 HE21 => hK18 _ _ ?_⟩
  refine pl_x HE21 HH19 (wt0 rfl) (x_assign rfl) rfl rfl fun a_22 HE23 => ?_
  refine wpList_nil ?_
  clear a_11 HE12 a_13 HE14 HH8 a_15 HE16 a_20 HE21 hK18 K_17
  refine nrm ?_
  refine wp_seq ?_
  refine wp_seq ?_
  refine rg ?_
  refine pl_x HE23 HH19 (wt0 rfl) (x_move rfl) rfl rfl fun a_24 HE25 => ?_
  refine pl_x HE25 HH19 (wt0 rfl) (x_lss rfl rfl) rfl rfl fun a_26 HE27 => ?_
  refine wpList_nil ?_
  clear a_22 HE23 a_24 HE25
  refine nrm ?_
  refine cnd_d HE27 rfl (fun hc23 => ?_) (fun hc23 => ?_)
  · refine wp_seq ?_
    refine rg ?_
    refine pl_x HE27 HH19 (wt0 rfl) (x_assign rfl) rfl rfl fun a_28 HE29 => ?_
    refine wpList_nil ?_
    clear a_26 HE27
    refine nrm ?_
    refine wp_ret ?_
    refine (thn_ret ?_)
    refine ret1 HE29 rfl (rv_tmp rfl) ?_
    have hF : true = true := by
      first | rfl | (exfalso; omega)
    exact ⟨by first | (rw [hF] <;> rfl) | rfl | (rw [hF]; simp only [Ending.returned.injEq, Value.slice.injEq, true_and, and_true]; first | omega | (simp; done)) | (rw [hF]; simp; omega), HH19.below⟩
  · have zr22 := left_ok hc23
    refine wp_skip ?_
    refine nrm ?_
    refine wp_seq ?_
    refine rg ?_
    refine pl_x HE27 HH19 (wt0 rfl) (x_loadN (cs := [.int .i64 (a0.1), .int .i64 (a0.2.1), .int .i64 (a0.2.2.1), .slice Az0_3 (a0.2.2.2.length) cz0_3]) tv_87 rfl rfl (c_blkN 0 rfl)) rfl rfl fun a_30 HE31 => ?_
    refine pl fun K_32 hK33 => ?_
    refine st_call HE31 (wt0 rfl) rfl rfl rfl en_49 rfl rfl (to_Multi [.int .i64 (a0.1), .int .i64 (a0.2.1), .int .i64 (a0.2.2.1), .slice Az0_3 (a0.2.2.2.length) cz0_3] a0 _ (HH19.oldR H0) (by omega)) fun e w' hr => ?_
    obtain ⟨esr24, rfl, hor24, hbr24⟩ := hr
    have hr := eMulti.read hor24
    obtain ⟨Sr24, HH34⟩ := HH19.newO hbr24 hor24
    obtain ⟨Ar24_3, cr24_3, rfl, gr24_0, gr24_1, gr24_2, gr24_3⟩ := shape_Multi hr
    clear hbr24 hor24 gr24_0 gr24_1 gr24_2 gr24_3
    refine ⟨_, rfl, fun a_35 HE36 => hK33 _ _ ?_⟩
    refine pl fun K_37 hK38 => ?_
    refine st_call HE36 (wt0 rfl) rfl rfl rfl en_48 rfl rfl (spec_MultiText [.int .i64 (a0.1), .int .i64 (a0.2.1), .int .i64 (a0.2.2.1), .slice Ar24_3 (a0.2.2.2.length) cr24_3] a0 _ (HH34.rd (i := 0) rfl)) fun e w' hr => ?_
    obtain ⟨rfl, hbr25⟩ := hr
    have HH39 := HH34.on hbr25
    refine ⟨_, rfl, fun a_40 HE41 => hK38 _ _ ?_⟩
    refine pl_x HE41 HH39 (wt0 rfl) (x_assign rfl) rfl rfl fun a_42 HE43 => ?_
    refine wpList_nil ?_
    clear a_26 HE27 HH19 a_30 HE31 K_32 hK33 HH34 a_35 HE36 a_40 HE41 hK38 K_37
    refine nrm ?_
    refine wp_seq ?_
    refine rg ?_
    refine pl_x HE43 HH39 (wt0 rfl) (x_loadN (cs := [.int .i64 (a0.1), .int .i64 (a0.2.1), .int .i64 (a0.2.2.1), .slice Az0_3 (a0.2.2.2.length) cz0_3]) tv_87 rfl rfl (c_blkN 1 rfl)) rfl rfl fun a_44 HE45 => ?_
    refine pl fun K_46 hK47 => ?_
    refine st_call HE45 (wt0 rfl) rfl rfl rfl en_49 rfl rfl (to_Multi [.int .i64 (a0.1), .int .i64 (a0.2.1), .int .i64 (a0.2.2.1), .slice Az0_3 (a0.2.2.2.length) cz0_3] a0 _ (HH39.oldR H0) (by omega)) fun e w' hr => ?_
    obtain ⟨esr26, rfl, hor26, hbr26⟩ := hr
    have hr := eMulti.read hor26
    obtain ⟨Sr26, HH48⟩ := HH39.newO hbr26 hor26
    obtain ⟨Ar26_3, cr26_3, rfl, gr26_0, gr26_1, gr26_2, gr26_3⟩ := shape_Multi hr
    clear hbr26 hor26 gr26_0 gr26_1 gr26_2 gr26_3
    refine ⟨_, rfl, fun a_49 HE50 => hK47 _ _ ?_⟩
    refine pl fun K_51 hK52 => ?_
    refine st_alloc HE50 HH48 tv_92 (wt0 rfl) rfl fun q27 a_53 w' HE54 HH55 => hK52 _ _ ?_
    refine pl fun K_56 hK57 => ?_
    refine st_store (vs := [.int .i64 (a0.1), .int .i64 (a0.2.1), .int .i64 (a0.2.2.1), .slice Ar26_3 (a0.2.2.2.length) cr26_3]) 0 HE54 HH55 tv_92 rfl rfl rfl rfl rfl rfl (by simp [Value.oneCell']) (wt0 rfl) fun w' HH58 => hK57 _ _ ?_
    refine wpList_nil ?_
    clear a_42 HE43 HH39 a_44 HE45 K_46 hK47 a_49 HE50 HH48 K_51 hK52 HH55 hK57 K_56
    refine nrm ?_
    refine wp_seq ?_
    refine rg ?_
    refine pl_x HE54 HH58 (wt0 rfl) (x_loadN (cs := [.int .i64 (a0.1), .int .i64 (a0.2.1), .int .i64 (a0.2.2.1), .slice Ar26_3 (a0.2.2.2.length) cr26_3]) tv_92 rfl rfl (c_blkN 0 rfl)) rfl rfl fun a_59 HE60 => ?_
    refine pl fun K_61 hK62 => ?_
    refine st_call HE60 (wt0 rfl) rfl rfl rfl en_50 rfl rfl (impl_MultiText [.int .i64 (a0.1), .int .i64 (a0.2.1), .int .i64 (a0.2.2.1), .slice Ar26_3 (a0.2.2.2.length) cr26_3] a0 _ (HH58.rd (i := 1) rfl) (HH58.glob hG)) fun e w' hr => ?_
    obtain ⟨rfl, hbr28⟩ := hr
    have HH63 := HH58.on hbr28
    refine ⟨_, rfl, fun a_64 HE65 => hK62 _ _ ?_⟩
    refine pl_x HE65 HH63 (wt0 rfl) (x_assign rfl) rfl rfl fun a_66 HE67 => ?_
    refine wpList_nil ?_
    clear a_53 HE54 HH58 a_59 HE60 a_64 HE65 hK62 K_61
    refine nrm ?_
    refine wp_seq ?_
    refine wp_seq ?_
    refine rg ?_
    refine pl_x HE67 HH63 (wt0 rfl) (x_move rfl) rfl rfl fun a_68 HE69 => ?_
    refine pl_x HE69 HH63 (wt0 rfl) (x_move rfl) rfl rfl fun a_70 HE71 => ?_
    refine pl_x HE71 HH63 (wt0 rfl) (x_sneqB rfl rfl) rfl rfl fun a_72 HE73 => ?_
    refine wpList_nil ?_
    clear a_66 HE67 a_68 HE69 a_70 HE71
    refine nrm ?_
    refine cndF HE73 rfl (not_f (decide_eq_true rfl)) ?_
    refine wp_skip ?_
    refine nrm ?_
    refine wp_seq ?_
    refine wp_seq ?_
    refine dr_start (Held Nob w [rBlk q27 92 [.int .i64 (a0.1), .int .i64 (a0.2.1), .int .i64 (a0.2.2.1), .slice Ar26_3 (a0.2.2.2.length) cr26_3], rO eMulti Sr26 [.int .i64 (a0.1), .int .i64 (a0.2.1), .int .i64 (a0.2.2.1), .slice Ar26_3 (a0.2.2.2.length) cr26_3] a0, rO eMulti Sr24 [.int .i64 (a0.1), .int .i64 (a0.2.1), .int .i64 (a0.2.2.1), .slice Ar24_3 (a0.2.2.2.length) cr24_3] a0, rBlk q21 87 [.int .i64 (a0.1), .int .i64 (a0.2.1), .int .i64 (a0.2.2.1), .slice Az0_3 (a0.2.2.2.length) cz0_3]]) 5 #[false, false, false, false, false] hmix rfl rfl HH63 (fun _ h => h.sel [0, 1, 2, 3] (by decide) rfl) fun w' HH74 => ?_
    have HS75 := HH74
    refine dr_take (i := 0) (ls' := #[true, false, false, false, false]) HE73 HS75 rfl (by kernel_rfl) (by kernel_rfl) (by kernel_rfl) (fun _ _ _ h => h) rfl (wt0 rfl) (x_loadN (cs := [.int .i64 (a0.1), .int .i64 (a0.2.1), .int .i64 (a0.2.2.1), .slice Ar26_3 (a0.2.2.2.length) cr26_3]) tv_92 rfl rfl (c_blkN 0 rfl)) rfl rfl fun a_76 HE77 => ?_
    refine dr_take (i := 1) (ls' := #[true, true, false, false, false]) HE77 HS75 rfl (by kernel_rfl) (by kernel_rfl) (by kernel_rfl) (fun _ _ _ h => h) rfl (wt0 rfl) (x_loadN (cs := [.int .i64 (a0.1), .int .i64 (a0.2.1), .int .i64 (a0.2.2.1), .slice Az0_3 (a0.2.2.2.length) cz0_3]) tv_87 rfl rfl (c_blkN 3 rfl)) rfl rfl fun a_78 HE79 => ?_
    refine dr_one (i := 2) (ls' := #[true, true, true, false, false]) rfl (by kernel_rfl) rfl fun K_80 hK81 => ?_
    refine st_call HE79 (wt0 rfl) rfl rfl rfl en_49 rfl rfl (to_Multi [.int .i64 (a0.1), .int .i64 (a0.2.1), .int .i64 (a0.2.2.1), .slice Az0_3 (a0.2.2.2.length) cz0_3] a0 _ (HH74.oldR H0) (by omega)) fun e w' hr => ?_
    obtain ⟨esr29, rfl, hor29, hbr29⟩ := hr
    have hr := eMulti.read hor29
    obtain ⟨Sr29, HH82⟩ := HH74.newO hbr29 hor29
    obtain ⟨Ar29_3, cr29_3, rfl, gr29_0, gr29_1, gr29_2, gr29_3⟩ := shape_Multi hr
    clear hbr29 hor29 gr29_0 gr29_1 gr29_2 gr29_3
    refine ⟨_, rfl, fun a_83 HE84 => hK81 _ _ (by exact HH82.sel [1, 2, 3, 4] (by decide) rfl) ?_⟩
    have HS85 := HH82.sel [1, 2, 3, 4] (by decide) rfl
    refine dr_one (i := 3) (ls' := #[true, true, true, true, false]) rfl (by kernel_rfl) rfl fun K_86 hK87 => ?_
    refine st_call HE84 (wt0 rfl) rfl rfl rfl en_51 rfl rfl (eq_Multi_c [.int .i64 (a0.1), .int .i64 (a0.2.1), .int .i64 (a0.2.2.1), .slice Ar26_3 (a0.2.2.2.length) cr26_3] [.int .i64 (a0.1), .int .i64 (a0.2.1), .int .i64 (a0.2.2.1), .slice Ar29_3 (a0.2.2.2.length) cr29_3] a0 a0 _ (HH82.rd (i := 2) rfl) (HH82.rd (i := 0) rfl)) fun e w' hr => ?_
    obtain ⟨rfl, hbr30⟩ := hr
    have HH88 := HH82.on hbr30
    clear hbr30
    refine ⟨_, rfl, fun a_89 HE90 => hK87 _ _ (by exact HH88.sel [1, 2, 3, 4] (by decide) rfl) ?_⟩
    have HS91 := HH88.sel [1, 2, 3, 4] (by decide) rfl
    refine dr_take (i := 4) (ls' := #[true, true, true, true, true]) HE90 HS91 rfl (by kernel_rfl) (by kernel_rfl) (by kernel_rfl) (fun _ _ _ h => h) rfl (wt0 rfl) (x_not rfl) rfl rfl fun a_92 HE93 => ?_
    refine dr_done (by kernel_rfl) ?_
    clear HH63 a_72 HE73 a_76 HE77 HH74 a_78 HE79 HS75 K_80 hK81 HH82 a_83 HE84 HS85 a_89 HE90 hK87 K_86
    refine nrm ?_
    refine cndF HE93 rfl (not_f (eq_Multi_refl _)) ?_
    refine wp_skip ?_
    refine nrm ?_
    refine wp_seq ?_
    refine rg ?_
    refine pl_x HE93 HH88 (wt0 rfl) (x_assign rfl) rfl rfl fun a_94 HE95 => ?_
    refine wpList_nil ?_
    clear a_92 HE93
    refine nrm ?_
    refine wp_ret ?_
    refine ret1 HE95 rfl (rv_tmp rfl) ?_
    have hF : true = true := by
      first | rfl | (exfalso; omega)
    exact ⟨by first | (rw [hF] <;> rfl) | rfl | (rw [hF]; simp only [Ending.returned.injEq, Value.slice.injEq, true_and, and_true]; first | omega | (simp; done)) | (rw [hF]; simp; omega), HH88.below⟩

end Go.Proofs.YtjnnkmflpbildaaDoor
