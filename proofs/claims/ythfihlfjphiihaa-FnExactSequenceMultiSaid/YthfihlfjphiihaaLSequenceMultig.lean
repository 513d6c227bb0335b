/- What the proof of FnExactSequenceMulti needs: contracts of the functions that it reaches, each once. -/
import Derived.Test.YthfihlfjphiihaaProg
import Derived.Test.YthfihlfjphiihaaQMem
import Derived.Test.YthfihlfjphiihaaQOpen
import Derived.Test.YthfihlfjphiihaaLSequenceMultia
import Derived.Test.YthfihlfjphiihaaLSequenceMultib
import Derived.Test.YthfihlfjphiihaaLSequenceMultic
import Derived.Test.YthfihlfjphiihaaLSequenceMultid
import Derived.Test.YthfihlfjphiihaaLSequenceMultie
import Derived.Test.YthfihlfjphiihaaLSequenceMultif
import Derived.WalkKit
import Derived.WalkSpells
import Derived.Below
import Derived.LoopTactic
import Derived.Outline
import Derived.Deep.QuietTactic
import Derived.BigQuiet
import Derived.Deep.LoopGhost
import Derived.Handy
import Derived.Lib.Hide
import Derived.Shelf.Abstract
import Derived.StillTailTactics
import Derived.OwnWalk
import Derived.Maps.AppendAt
import Derived.RegionTactic
import Derived.Deep.RegionHeld3
import Derived.IntWalk
import Derived.Deep.Upon
import Derived.Laws.OwnMore
import Derived.Maps.AppendAt
import Derived.Laws.Small
import Derived.Lib.FrozenHead
import Derived.Lib.RuneBytes
import Derived.Lib.LaidTab
import Derived.Laws.StructEq
import Derived.Maps.OwnSet
import Derived.DeepKeys4
import Derived.Lib.SliceRun
import Derived.Lib.AppendZeros
import Derived.Shelf.SortG.Plain
import Derived.Shelf.SortG.SortNone
import Derived.Shelf.SlicesG.CompactI
import Derived.Shelf.SlicesG.SearchI
import Derived.Sort.OwnSortedInts
import Derived.Lib.RowBridge
import Derived.Lib.ItoaLen
import Derived.Lib.Join
import Derived.Shelf.Strconv.Itoa4
import Derived.Shelf.Strings.OnBuilder
import Derived.Shelf.Strings.BuilderK
import Derived.Shelf.Strings.BuilderRune
import Derived.Shelf.LaysM
import Derived.Ground.NamesProg
import Derived.Shelf.SlSortCmp.WholeK
import Derived.Shelf.SlSortCmp.NoneTotal
namespace Go.Proofs.Ythfihlfjphiihaa
open Go.RowKit

set_option maxRecDepth 100000 in
set_option maxHeartbeats 4000000 in
theorem spec_l06ReadsV (p0 o0 : Nat) (es0 : List Value) (a0 : tMulti) (a1 : Int) (w : World) (h0 : eMulti.R w (Old w) es0 a0) (hq0 : ∀ j v, es0[j]? = some v → w.cell? ⟨p0, o0 + j, none⟩ = some v) (s0 : validMulti a0 = true) (s1 : 0 ≤ a1 ∧ a1 ≤ 1000) :
    Calls Try.prog 62 #[.pointer (some ⟨p0, o0, none⟩), .int .i64 a1] w fun e w' => ∃ (A0' : Option Addr) (c0' : Nat) (S0' : Nat → Prop), e = .returned (.slice A0' (hReads a0 a1).length c0') ∧ Held Nob w [rVec (eSl eInt) 37 S0' A0' c0' (hReads a0 a1)] w' := by
  have H0 := h0
  obtain ⟨Az0_3, cz0_3, rfl, gz0_0, gz0_1, gz0_2, gz0_3⟩ := shape_Multi h0
  have jz0_0 := gz0_0; unfold I64 at jz0_0
  have jz0_1 := gz0_1; unfold I64 at jz0_1
  have jz0_2 := gz0_2; unfold I64 at jz0_2
  have lz0_3 := gz0_3.len
  obtain ⟨v0, v1, v2, v3⟩ := validMulti_facts s0
  have hrl := validMulti_reads s0
  have HH1 := Held.start Nob w
  refine enter (n := 55) Try.func62 rfl rfl rfl fun a_2 HE3 => ?_
  refine wp_seq ?_
  refine rg ?_
  refine pl_x HE3 HH1 (wt0 rfl) (x_assign rfl) rfl rfl fun a_4 HE5 => ?_
  refine wpList_nil ?_
  clear a_2 HE3
  refine nrm ?_
  refine wp_seq ?_
  refine rg ?_
  refine pl fun K_6 hK7 => ?_
  refine st_lit (m := 0) (cs := []) (e := 37) HE5 HH1 (run_lit ts_50 HE5 (vs := []) rfl rfl (by simp [Value.cells]) rfl (by decide)) (wt0 rfl) rfl rfl fun q21 a_8 w' HE9 HH10 => hK7 _ _ ?_
  refine pl_x HE9 HH10 (wt0 rfl) (x_assign rfl) rfl rfl fun a_11 HE12 => ?_
  refine wpList_nil ?_
  clear a_4 HE5 HH1 a_8 HE9 hK7 K_6
  refine nrm ?_
  refine wp_seq ?_
  refine rg ?_
  refine pl_x HE12 HH10 (wt0 rfl) (x_move rfl) rfl rfl fun a_13 HE14 => ?_
  refine pl_x HE14 HH10 (wt0 rfl) (x_nilCheck rfl) rfl rfl fun a_15 HE16 => ?_
  refine pl_x HE16 HH10 (wt0 rfl) (x_fieldAddr fa_55_0 rfl) rfl rfl fun a_17 HE18 => ?_
  refine pl_x HE18 HH10 (wt0 rfl) (x_load1 tv_2 rfl (c_old (hq0 0 _ rfl))) rfl rfl fun a_19 HE20 => ?_
  refine pl fun K_21 hK22 => ?_
  refine st_make (E := eInt) (x := (0 : Int)) (k := ((a0.1).toNat)) HE20 HH10 ts_37 tv_2 rfl (fun _ => oI ⟨by omega, by omega⟩) rfl rfl (by omega) (by omega) (by omega) (by omega) (wt0 rfl) rfl fun q22 a_23 w' HE24 HH25 => hK22 _ _ ?_
  have hlq22 : (List.replicate ((a0.1).toNat) (0 : Int)).length = (a0.1).toNat := List.length_replicate
  refine pl_x HE24 HH25 (wt0 rfl) (x_assign rfl) rfl rfl fun a_26 HE27 => ?_
  refine wpList_nil ?_
  clear a_11 HE12 a_13 HE14 a_15 HE16 a_17 HE18 a_19 HE20 HH10 a_23 HE24 hK22 K_21
  refine nrm ?_
  refine wp_block ?_
  have HH28 := HH25.sel [1, 0] (by decide) rfl
  have HH29 := Held.vecFlat (E := (eSl eInt)) (xs := []) (css := []) HH28 rfl (Nat.zero_le _) (fun i x hx => by simp at hx)
  refine lp (fun m a w' => ∃ (r : List Int) (o : List (List Int)) (A_5 : Option Addr) (c_5 : Nat) (S_5 : Nat → Prop) (S_6 : Nat → Prop), m = (seqF a0.2.1.toNat r).length ∧ Env 55 [(5, .slice A_5 (List.length o) c_5), (0, .pointer (some ⟨p0, o0, none⟩)), (1, .int .i64 (a1)), (6, .slice (some ⟨q22, 0, none⟩) ((List.replicate ((a0.1).toNat) (0 : Int)).length) ((a0.1).toNat))] a ∧ Held Nob w [rVec (eSl eInt) 37 S_5 A_5 c_5 o, rSo eInt S_6 (some ⟨q22, 0, none⟩) ((a0.1).toNat) r] w' ∧ (r.length = a0.1.toNat) ∧ (∀ x ∈ r, 0 ≤ x ∧ x ≤ (a0.2.1.toNat : Int) - 1) ∧ (hReads a0 a1 = o ++ goodL (a0.2.2.2.map ruleK) a1 (seqF a0.2.1.toNat r)) ∧ (o.length + (seqF a0.2.1.toNat r).length ≤ 1000000)) ((seqF a0.2.1.toNat ((List.replicate (a0.1).toNat 0))).length) ?_ ?_
  · have E23 : ([]) = ([] : List (List Int)) := by
      first | rfl | simp
    have E24 : ((List.replicate (a0.1).toNat 0)) = (List.replicate ((a0.1).toNat) (0 : Int)) := by
      first | rfl | simp
    exact ⟨(List.replicate (a0.1).toNat 0), [], (some ⟨q21, 0, none⟩), (List.length (α := (List Int)) []), (fun b => b = q21), (fun b => b = q22), rfl, HE27.sub ⟨(by rw [E23]; rfl), rfl, rfl, rfl, trivial⟩, ((HH29.sel [0, 1] (by decide) rfl).to (by first | rfl | (rw [E23, E24]; done) | (rw [E23, E24]; rfl) | (simp only [E23, E24]; done) | (simp only [E23, E24]; rfl) | (rw [E23, E24]; simp only [List.length_set]; done))), (by simp), (by intro x hx; rw [(List.mem_replicate.1 hx).2]; omega), (by rw [hReads_eq, seqF_zero (by omega)]; rfl), (by rw [seqF_zero (by omega), allF_len]; have q := pow_room (S := a0.2.1.toNat) (T := a0.1.toNat) (by omega) (by omega); simpa using q)⟩
  · rintro m a_30 w' ⟨r, o, A_5, c_5, S_5, S_6, rfl, HE31, HH32, p25_0, p25_1, p25_2, p25_3⟩
    have hng := ruleI_neg (m := a0) (st := a1) (r := r) (fun x hx => by rw [hrl x hx]; omega) (by omega)
    refine wp_block ?_
    refine wp_seq ?_
    refine wp_seq ?_
    refine rg ?_
    refine pl_x HE31 HH32 (wt0 rfl) (x_move rfl) rfl rfl fun a_33 HE34 => ?_
    refine pl_x HE34 HH32 (wt0 rfl) (x_move rfl) rfl rfl fun a_35 HE36 => ?_
    refine pl_x HE36 HH32 (wt0 rfl) (x_move rfl) rfl rfl fun a_37 HE38 => ?_
    refine pl fun K_39 hK40 => ?_
    have HE41 := HE38.castS (t := 16) (m' := List.length r) rfl (by first | omega | (simp; done) | (simp; omega))
    refine st_call HE41 (wt0 rfl) rfl rfl rfl en_99 rfl rfl (spec_l06RuleOf _ _ _ a0 a1 _ _ r _ (HH32.oldR H0) (c_oldN hq0 _ HH32) (HH32.sl (i := 1) rfl)) fun e w' hr => ?_
    obtain ⟨rfl, hbr26⟩ := hr
    have HH42 := HH32.on hbr26
    refine ⟨_, rfl, fun a_43 HE44 => hK40 _ _ ?_⟩
    refine pl_x HE44 HH42 (wt0 rfl) (x_lss rfl rfl) rfl rfl fun a_45 HE46 => ?_
    refine wpList_nil ?_
    clear HH25 HH28 a_26 HE27 HH29 a_30 HE31 a_33 HE34 a_35 HE36 HE38 HH32 a_37 HE41 a_43 HE44 hK40 K_39
    refine nrm ?_
    refine cnd_d HE46 rfl (fun hc27 => ?_) (fun hc27 => ?_)
    · refine rg ?_
      refine pl_x HE46 HH42 (wt0 rfl) (x_move rfl) rfl rfl fun a_47 HE48 => ?_
      refine pl_x HE48 HH42 (wt0 rfl) (x_move rfl) rfl rfl fun a_49 HE50 => ?_
      refine pl fun K_51 hK52 => ?_
      have HE53 := HE50.castS (t := 20) (m' := List.length r) rfl (by first | omega | (simp; done) | (simp; omega))
      refine st_call HE53 (wt0 rfl) rfl rfl rfl en_42 rfl rfl (spec_l00Own _ _ r _ (HH42.sl (i := 1) rfl) (by omega)) fun e w' hr => ?_
      obtain ⟨Ar28_0, cr28_0, rfl, hor28_0, hbr28⟩ := hr
      obtain ⟨Sr28, HH54⟩ := HH42.newS hbr28 hor28_0
      refine ⟨_, rfl, fun a_55 HE56 => hK52 _ _ ?_⟩
      refine pl fun K_57 hK58 => ?_
      refine st_lit (m := 1) (cs := [.slice Ar28_0 (r.length) cr28_0]) (e := 37) HE56 HH54 (run_lit ts_50 HE56 (vs := [.slice Ar28_0 (r.length) cr28_0]) rfl rfl (by simp [Value.cells]) rfl (by decide)) (wt0 rfl) rfl rfl fun q29 a_59 w' HE60 HH61 => hK58 _ _ ?_
      refine pl fun K_62 hK63 => ?_
      refine st_app1 HE60 HH61 ts_50 [2, 1, 0, 3] (by decide) rfl rfl rfl (by simp [Value.oneCell']) (by unfold maxLen; first | omega | (simp; done) | (simp; omega)) (by first | omega | (simp; done) | (simp; omega)) (wt0 rfl) rfl fun A30 c31 S32 a_64 w' HE65 HH66 => hK63 _ _ ?_
      refine pl_x HE65 HH66 (wt0 rfl) (x_assign rfl) rfl rfl fun a_67 HE68 => ?_
      refine wpList_nil ?_
      clear a_45 HE46 a_47 HE48 HE50 HH42 a_49 HE53 K_51 hK52 a_55 HE56 HH54 K_57 hK58 a_59 HE60 HH61 a_64 HE65 hK63 K_62
      refine nrm ?_
      refine wp_seq ?_
      refine rg ?_
      refine pl_x HE68 HH66 (wt0 rfl) (x_move rfl) rfl rfl fun a_69 HE70 => ?_
      refine pl_x HE70 HH66 (wt0 rfl) (x_len Try.underlying37 rfl) rfl rfl fun a_71 HE72 => ?_
      refine pl_x HE72 HH66 (wt0 rfl) (x_sub rfl rfl (by exact ⟨by omega, by omega⟩)) rfl rfl fun a_73 HE74 => ?_
      refine pl_x HE74 HH66 (wt0 rfl) (x_assign rfl) rfl rfl fun a_75 HE76 => ?_
      refine wpList_nil ?_
      clear a_67 HE68 a_69 HE70 a_71 HE72 a_73 HE74
      refine nrm ?_
      refine wp_seq ?_
      refine wp_block ?_
      refine lp (fun m a w' => ∃ (v : Nat) (S_6 : Nat → Prop), m = 0 + v ∧ Env 55 [(7, .int .i64 ((v : Int) - 1)), (0, .pointer (some ⟨p0, o0, none⟩)), (1, .int .i64 (a1)), (5, .slice A30 ((o ++ [r]).length) c31), (6, .slice (some ⟨q22, 0, none⟩) ((List.replicate ((a0.1).toNat) (0 : Int)).length) ((a0.1).toNat))] a ∧ Held Nob w [rSo eInt S_6 (some ⟨q22, 0, none⟩) ((a0.1).toNat) (rowZ r v), rVec (eSl eInt) 37 S32 A30 c31 (o ++ [r]), rBlk q29 37 [.slice Ar28_0 (r.length) cr28_0]] w' ∧ (v ≤ r.length) ∧ (∀ j, v ≤ j → j < r.length → r[j]?.getD 0 = (a0.2.1.toNat : Int) - 1)) (0 + (r.length)) ?_ ?_
      · have E33 : rowZ r (r.length) = r := by
          exact rowZ_all r
        exact ⟨r.length, S_6, rfl, HE76.sub ⟨(lkI rfl (by omega)), rfl, rfl, rfl, rfl, trivial⟩, ((HH66.sel [2, 0, 1] (by decide) rfl).to (by first | rfl | (rw [E33]; done) | (rw [E33]; rfl) | (simp only [E33]; done) | (simp only [E33]; rfl) | (rw [E33]; simp only [List.length_set]; done))), (by first | omega | assumption | (simp; done) | simp_all), (by intro j h1 h2; omega)⟩
      · rintro m a_77 w' ⟨v, S_6, rfl, HE78, HH79, p34_0, p34_1⟩
        have hzl := rowZ_len r (v := v) (by omega)
        refine wp_seq ?_
        refine wp_seq ?_
        refine dr_start (Held Nob w [rSo eInt S_6 (some ⟨q22, 0, none⟩) ((a0.1).toNat) (rowZ r v), rVec (eSl eInt) 37 S32 A30 c31 (o ++ [r]), rBlk q29 37 [.slice Ar28_0 (r.length) cr28_0]]) 14 #[false, false, false, false, false, false, false, false, false, false, false, false, false, false] hmix rfl rfl HH79 (fun _ h => h.sel [0, 1, 2] (by decide) rfl) fun w' HH80 => ?_
        have HS81 := HH80
        refine dr_take (i := 0) (ls' := #[true, false, false, false, false, false, false, false, false, false, false, false, false, false]) HE78 HS81 rfl (by kernel_rfl) (by kernel_rfl) (by kernel_rfl) (fun _ _ _ h => h) rfl (wt0 rfl) (x_move rfl) rfl rfl fun a_82 HE83 => ?_
        refine dr_take (i := 1) (ls' := #[true, true, false, false, false, false, false, false, false, false, false, false, false, false]) HE83 HS81 rfl (by kernel_rfl) (by kernel_rfl) (by kernel_rfl) (fun _ _ _ h => h) rfl (wt0 rfl) (x_geq rfl rfl) rfl rfl fun a_84 HE85 => ?_
        refine dr_take (i := 2) (ls' := #[true, true, true, false, false, false, false, false, false, false, false, false, false, false]) HE85 HS81 rfl (by kernel_rfl) (by kernel_rfl) (by kernel_rfl) (fun _ _ _ h => h) rfl (wt0 rfl) (x_move rfl) rfl rfl fun a_86 HE87 => ?_
        by_cases hc35 : 0 ≤ ((v : Int) - 1)
        · refine dr_take (i := 3) (ls' := #[true, true, true, true, false, false, false, false, false, false, false, false, false, false]) HE87 HS81 rfl (by kernel_rfl) (by kernel_rfl) (by kernel_rfl) (fun _ _ _ h => h) rfl (wtT HE87 rfl rfl rfl (decide_eq_true hc35)) (x_move rfl) rfl rfl fun a_88 HE89 => ?_
          refine dr_take (i := 4) (ls' := #[true, true, true, true, true, false, false, false, false, false, false, false, false, false]) HE89 HS81 rfl (by kernel_rfl) (by kernel_rfl) (by kernel_rfl) (fun _ _ _ h => h) rfl (wtT HE89 rfl rfl rfl (decide_eq_true hc35)) (x_move rfl) rfl rfl fun a_90 HE91 => ?_
          have ke36 : (v - 1) < (List.replicate ((a0.1).toNat) (0 : Int)).length := by omega
          refine dr_take (i := 5) (ls' := #[true, true, true, true, true, true, false, false, false, false, false, false, false, false]) HE91 HS81 rfl (by kernel_rfl) (by kernel_rfl) (by kernel_rfl) (fun _ _ _ h => h) rfl (wtT HE91 rfl rfl rfl (decide_eq_true hc35)) (x_indexAddr ts_37 rfl rfl rfl (by omega) ke36) rfl rfl fun a_92 HE93 => ?_
          obtain ⟨y37, xy37⟩ : ∃ y_, y_ = (rowZ r v)[(v - 1)]'(by first | exact ke36 | (simp only [List.length_set]; exact ke36) | omega | (simp only [List.length_set]; omega) | (simp; omega)) := ⟨_, rfl⟩
          have iy37 : I64 y37 := by rw [xy37]; exact i_ownI HH80 0 rfl _
          have jy37 := iy37; unfold I64 at jy37
          have hyr : y37 = r[v - 1]?.getD 0 := by rw [xy37]; exact rowZ_at (by omega) (by omega) _
          have hyb : 0 ≤ y37 ∧ y37 ≤ (a0.2.1.toNat : Int) - 1 := by rw [hyr, List.getElem?_eq_getElem (by omega), Option.getD_some]; exact p25_1 _ (List.getElem_mem _)
          refine dr_take (i := 6) (ls' := #[true, true, true, true, true, true, true, false, false, false, false, false, false, false]) HE93 HS81 rfl (by kernel_rfl) (by kernel_rfl) (by kernel_rfl) (fun _ _ _ h => h) rfl (wtT HE93 rfl rfl rfl (decide_eq_true hc35)) (x_load1 tv_2 rfl (c_ownV 0 rfl (by first | exact ke36 | (simp only [List.length_set]; exact ke36) | omega | (simp only [List.length_set]; omega) | (simp; omega)) xy37.symm)) rfl rfl fun a_94 HE95 => ?_
          refine dr_take (i := 7) (ls' := #[true, true, true, true, true, true, true, true, false, false, false, false, false, false]) HE95 HS81 rfl (by kernel_rfl) (by kernel_rfl) (by kernel_rfl) (fun _ _ _ h => h) rfl (wtT HE95 rfl rfl rfl (decide_eq_true hc35)) (x_move rfl) rfl rfl fun a_96 HE97 => ?_
          refine dr_take (i := 8) (ls' := #[true, true, true, true, true, true, true, true, true, false, false, false, false, false]) HE97 HS81 rfl (by kernel_rfl) (by kernel_rfl) (by kernel_rfl) (fun _ _ _ h => h) rfl (wtT HE97 rfl rfl rfl (decide_eq_true hc35)) (x_nilCheck rfl) rfl rfl fun a_98 HE99 => ?_
          refine dr_take (i := 9) (ls' := #[true, true, true, true, true, true, true, true, true, true, false, false, false, false]) HE99 HS81 rfl (by kernel_rfl) (by kernel_rfl) (by kernel_rfl) (fun _ _ _ h => h) rfl (wtT HE99 rfl rfl rfl (decide_eq_true hc35)) (x_fieldAddr fa_55_1 rfl) rfl rfl fun a_100 HE101 => ?_
          refine dr_take (i := 10) (ls' := #[true, true, true, true, true, true, true, true, true, true, true, false, false, false]) HE101 HS81 rfl (by kernel_rfl) (by kernel_rfl) (by kernel_rfl) (fun _ _ _ h => h) rfl (wtT HE101 rfl rfl rfl (decide_eq_true hc35)) (x_load1 tv_2 rfl (c_old (hq0 1 _ rfl))) rfl rfl fun a_102 HE103 => ?_
          refine dr_take (i := 11) (ls' := #[true, true, true, true, true, true, true, true, true, true, true, true, false, false]) HE103 HS81 rfl (by kernel_rfl) (by kernel_rfl) (by kernel_rfl) (fun _ _ _ h => h) rfl (wtT HE103 rfl rfl rfl (decide_eq_true hc35)) (x_sub rfl rfl (by exact ⟨by omega, by omega⟩)) rfl rfl fun a_104 HE105 => ?_
          refine dr_take (i := 12) (ls' := #[true, true, true, true, true, true, true, true, true, true, true, true, true, false]) HE105 HS81 rfl (by kernel_rfl) (by kernel_rfl) (by kernel_rfl) (fun _ _ _ h => h) rfl (wtT HE105 rfl rfl rfl (decide_eq_true hc35)) (x_eql rfl rfl) rfl rfl fun a_106 HE107 => ?_
          refine dr_take (i := 13) (ls' := #[true, true, true, true, true, true, true, true, true, true, true, true, true, true]) HE107 HS81 rfl (by kernel_rfl) (by kernel_rfl) (by kernel_rfl) (fun _ _ _ h => h) rfl (wt0 rfl) (x_pickT rfl (decide_eq_true hc35) rfl) rfl rfl fun a_108 HE109 => ?_
          refine dr_done (by kernel_rfl) ?_
          clear a_75 HE76 HH66 HH79 a_77 HE78 a_82 HE83 a_84 HE85 a_86 HE87 a_88 HE89 a_90 HE91 a_92 HE93 a_94 HE95 a_96 HE97 a_98 HE99 a_100 HE101 a_102 HE103 a_104 HE105 a_106 HE107
          refine nrm ?_
          refine cnd_e HE109 rfl (fun hc38 => ?_) (fun hc38 => ?_)
          · refine wp_skip ?_
            refine nrm ?_
            refine wp_block ?_
            refine wp_seq ?_
            refine rg ?_
            refine pl_x HE109 HH80 (wt0 rfl) (x_move rfl) rfl rfl fun a_110 HE111 => ?_
            refine pl_x HE111 HH80 (wt0 rfl) (x_move rfl) rfl rfl fun a_112 HE113 => ?_
            have ke39 : (v - 1) < (List.replicate ((a0.1).toNat) (0 : Int)).length := by omega
            refine pl_x HE113 HH80 (wt0 rfl) (x_indexAddr ts_37 rfl rfl rfl (by omega) ke39) rfl rfl fun a_114 HE115 => ?_
            refine pl fun K_116 hK117 => ?_
            refine st_storeI 0 HE115 HH80 tv_2 rfl rfl rfl (by first | exact ke39 | (simp only [List.length_set]; exact ke39) | omega | (simp only [List.length_set]; omega) | (simp; omega)) (by exact ⟨by omega, by omega⟩) (wt0 rfl) fun w' HH118 => hK117 _ _ ?_
            refine wpList_nil ?_
            clear a_108 HE109 a_110 HE111 a_112 HE113 HH80 hK117 K_116
            refine nrm ?_
            refine rg ?_
            refine pl_x HE115 HH118 (wt0 rfl) (x_move rfl) rfl rfl fun a_119 HE120 => ?_
            refine pl_x HE120 HH118 (wt0 rfl) (x_sub rfl rfl (by exact ⟨by omega, by omega⟩)) rfl rfl fun a_121 HE122 => ?_
            refine pl_x HE122 HH118 (wt0 rfl) (x_assign rfl) rfl rfl fun a_123 HE124 => ?_
            refine wpList_nil ?_
            clear a_114 HE115 a_119 HE120 a_121 HE122
            refine blk_n ?_
            have E40 : rowZ r ((v - 1)) = ((rowZ r v).set (v - 1) 0) := by
              exact rowZ_step (by omega) (by omega)
            exact nrm ⟨0 + ((v - 1)), (by omega), (v - 1), S_6, rfl, HE124.sub ⟨(lkI rfl (by omega)), rfl, rfl, rfl, rfl, trivial⟩, ((HH118.sel [0, 1, 2] (by decide) rfl).to (by first | rfl | (rw [E40]; done) | (rw [E40]; rfl) | (simp only [E40]; done) | (simp only [E40]; rfl) | (rw [E40]; simp only [List.length_set]; done))), (by first | omega | assumption | (simp; done) | simp_all), (by exact up_step (by omega) p34_1 (by rw [← hyr]; omega))⟩
          · refine wp_exit ?_
            refine (thn_exit (thn_exit (blk_hit ?_)))
            refine nrm ?_
            refine wp_seq ?_
            refine wp_seq ?_
            refine rg ?_
            refine pl_x HE109 HH80 (wt0 rfl) (x_move rfl) rfl rfl fun a_125 HE126 => ?_
            refine pl_x HE126 HH80 (wt0 rfl) (x_lss rfl rfl) rfl rfl fun a_127 HE128 => ?_
            refine wpList_nil ?_
            clear a_108 HE109 a_125 HE126
            refine nrm ?_
            refine cndF HE128 rfl (decide_eq_false (by omega)) ?_
            refine wp_skip ?_
            refine nrm ?_
            refine rg ?_
            refine pl_x HE128 HH80 (wt0 rfl) (x_move rfl) rfl rfl fun a_129 HE130 => ?_
            refine pl_x HE130 HH80 (wt0 rfl) (x_move rfl) rfl rfl fun a_131 HE132 => ?_
            have ke41 : (v - 1) < (List.replicate ((a0.1).toNat) (0 : Int)).length := by omega
            refine pl_x HE132 HH80 (wt0 rfl) (x_indexAddr ts_37 rfl rfl rfl (by omega) ke41) rfl rfl fun a_133 HE134 => ?_
            obtain ⟨y42, xy42⟩ : ∃ y_, y_ = (rowZ r v)[(v - 1)]'(by first | exact ke41 | (simp only [List.length_set]; exact ke41) | omega | (simp only [List.length_set]; omega) | (simp; omega)) := ⟨_, rfl⟩
            have iy42 : I64 y42 := by rw [xy42]; exact i_ownI HH80 0 rfl _
            have jy42 := iy42; unfold I64 at jy42
            have hyr : y42 = r[v - 1]?.getD 0 := by rw [xy42]; exact rowZ_at (by omega) (by omega) _
            have hyb : 0 ≤ y42 ∧ y42 ≤ (a0.2.1.toNat : Int) - 1 := by rw [hyr, List.getElem?_eq_getElem (by omega), Option.getD_some]; exact p25_1 _ (List.getElem_mem _)
            refine pl_x HE134 HH80 (wt0 rfl) (x_load1 tv_2 rfl (c_ownV 0 rfl (by first | exact ke41 | (simp only [List.length_set]; exact ke41) | omega | (simp only [List.length_set]; omega) | (simp; omega)) xy42.symm)) rfl rfl fun a_135 HE136 => ?_
            refine pl_x HE136 HH80 (wt0 rfl) (x_add rfl rfl (by exact ⟨by omega, by omega⟩)) rfl rfl fun a_137 HE138 => ?_
            have ke43 : (v - 1) < (List.replicate ((a0.1).toNat) (0 : Int)).length := by omega
            refine pl_x HE138 HH80 (wt0 rfl) (x_indexAddr ts_37 rfl rfl rfl (by omega) ke43) rfl rfl fun a_139 HE140 => ?_
            refine pl fun K_141 hK142 => ?_
            refine st_storeI 0 HE140 HH80 tv_2 rfl rfl rfl (by first | exact ke43 | (simp only [List.length_set]; exact ke43) | omega | (simp only [List.length_set]; omega) | (simp; omega)) (by exact ⟨by omega, by omega⟩) (wt0 rfl) fun w' HH143 => hK142 _ _ ?_
            refine wpList_nil ?_
            clear a_127 HE128 a_129 HE130 a_131 HE132 a_133 HE134 a_135 HE136 a_137 HE138 HH80 hK142 K_141
            refine blk_n ?_
            have E44 : ((o ++ [r])) = (o ++ [r]) := by
              first | rfl | simp
            have E45 : (((rowZ r v).set (v - 1) (y42 + 1))) = ((rowZ r v).set (v - 1) (y42 + 1)) := by
              first | rfl | simp
            exact nrm ⟨(seqF a0.2.1.toNat (((rowZ r v).set (v - 1) (y42 + 1)))).length, (by have q := congrArg List.length (seqF_step (S := a0.2.1.toNat) (v := v) (r := r) (y := y42) (by omega) (by omega) p25_1 hyr (by omega) p34_1).1; simp only [List.length_cons] at q; omega), ((rowZ r v).set (v - 1) (y42 + 1)), (o ++ [r]), A30, c31, S32, S_6, rfl, HE140.sub ⟨(by rw [E44]; rfl), rfl, rfl, rfl, trivial⟩, ((HH143.sel [1, 0] (by decide) rfl).to (by first | rfl | (rw [E44, E45]; done) | (rw [E44, E45]; rfl) | (simp only [E44, E45]; done) | (simp only [E44, E45]; rfl) | (rw [E44, E45]; simp only [List.length_set]; done))), (by rw [List.length_set, rowZ_len _ (by omega)]; assumption), (by exact (seqF_step (S := a0.2.1.toNat) (v := v) (r := r) (y := y42) (by omega) (by omega) p25_1 hyr (by omega) p34_1).2), (by rw [p25_2, (seqF_step (S := a0.2.1.toNat) (v := v) (r := r) (y := y42) (by omega) (by omega) p25_1 hyr (by omega) p34_1).1, goodL_cons]; first | (rw [if_neg (hng.1 (by omega))]; simp [goodL]; done) | (rw [if_pos (Classical.not_not.1 fun h => absurd (hng.2 h) (by omega))]; simp [goodL]; done)), (by have q := congrArg List.length (seqF_step (S := a0.2.1.toNat) (v := v) (r := r) (y := y42) (by omega) (by omega) p25_1 hyr (by omega) p34_1).1; simp only [List.length_cons] at q; first | omega | (simp only [List.length_append, List.length_cons, List.length_nil]; omega))⟩
        · refine dr_takeNo (i := 3) (ls' := #[true, true, true, true, false, false, false, false, false, false, false, false, false, false]) HE87 HS81 rfl (by kernel_rfl) (by kernel_rfl) (by kernel_rfl) (fun _ _ _ h => h) rfl (wtF HE87 rfl rfl rfl (decide_eq_false hc35)) rfl rfl fun a_144 HE145 => ?_
          refine dr_takeNo (i := 4) (ls' := #[true, true, true, true, true, false, false, false, false, false, false, false, false, false]) HE145 HS81 rfl (by kernel_rfl) (by kernel_rfl) (by kernel_rfl) (fun _ _ _ h => h) rfl (wtF HE145 rfl rfl rfl (decide_eq_false hc35)) rfl rfl fun a_146 HE147 => ?_
          refine dr_takeNo (i := 5) (ls' := #[true, true, true, true, true, true, false, false, false, false, false, false, false, false]) HE147 HS81 rfl (by kernel_rfl) (by kernel_rfl) (by kernel_rfl) (fun _ _ _ h => h) rfl (wtF HE147 rfl rfl rfl (decide_eq_false hc35)) rfl rfl fun a_148 HE149 => ?_
          refine dr_takeNo (i := 6) (ls' := #[true, true, true, true, true, true, true, false, false, false, false, false, false, false]) HE149 HS81 rfl (by kernel_rfl) (by kernel_rfl) (by kernel_rfl) (fun _ _ _ h => h) rfl (wtF HE149 rfl rfl rfl (decide_eq_false hc35)) rfl rfl fun a_150 HE151 => ?_
          refine dr_takeNo (i := 7) (ls' := #[true, true, true, true, true, true, true, true, false, false, false, false, false, false]) HE151 HS81 rfl (by kernel_rfl) (by kernel_rfl) (by kernel_rfl) (fun _ _ _ h => h) rfl (wtF HE151 rfl rfl rfl (decide_eq_false hc35)) rfl rfl fun a_152 HE153 => ?_
          refine dr_takeNo (i := 8) (ls' := #[true, true, true, true, true, true, true, true, true, false, false, false, false, false]) HE153 HS81 rfl (by kernel_rfl) (by kernel_rfl) (by kernel_rfl) (fun _ _ _ h => h) rfl (wtF HE153 rfl rfl rfl (decide_eq_false hc35)) rfl rfl fun a_154 HE155 => ?_
          refine dr_takeNo (i := 9) (ls' := #[true, true, true, true, true, true, true, true, true, true, false, false, false, false]) HE155 HS81 rfl (by kernel_rfl) (by kernel_rfl) (by kernel_rfl) (fun _ _ _ h => h) rfl (wtF HE155 rfl rfl rfl (decide_eq_false hc35)) rfl rfl fun a_156 HE157 => ?_
          refine dr_takeNo (i := 10) (ls' := #[true, true, true, true, true, true, true, true, true, true, true, false, false, false]) HE157 HS81 rfl (by kernel_rfl) (by kernel_rfl) (by kernel_rfl) (fun _ _ _ h => h) rfl (wtF HE157 rfl rfl rfl (decide_eq_false hc35)) rfl rfl fun a_158 HE159 => ?_
          refine dr_takeNo (i := 11) (ls' := #[true, true, true, true, true, true, true, true, true, true, true, true, false, false]) HE159 HS81 rfl (by kernel_rfl) (by kernel_rfl) (by kernel_rfl) (fun _ _ _ h => h) rfl (wtF HE159 rfl rfl rfl (decide_eq_false hc35)) rfl rfl fun a_160 HE161 => ?_
          refine dr_takeNo (i := 12) (ls' := #[true, true, true, true, true, true, true, true, true, true, true, true, true, false]) HE161 HS81 rfl (by kernel_rfl) (by kernel_rfl) (by kernel_rfl) (fun _ _ _ h => h) rfl (wtF HE161 rfl rfl rfl (decide_eq_false hc35)) rfl rfl fun a_162 HE163 => ?_
          refine dr_take (i := 13) (ls' := #[true, true, true, true, true, true, true, true, true, true, true, true, true, true]) HE163 HS81 rfl (by kernel_rfl) (by kernel_rfl) (by kernel_rfl) (fun _ _ _ h => h) rfl (wt0 rfl) (x_pickF rfl (decide_eq_false hc35) rfl) rfl rfl fun a_164 HE165 => ?_
          refine dr_done (by kernel_rfl) ?_
          clear a_75 HE76 HH66 HH79 a_77 HE78 a_82 HE83 a_84 HE85 a_86 HE87 a_144 HE145 a_146 HE147 a_148 HE149 a_150 HE151 a_152 HE153 a_154 HE155 a_156 HE157 a_158 HE159 a_160 HE161 a_162 HE163
          refine nrm ?_
          refine cndF HE165 rfl rfl ?_
          refine wp_exit ?_
          refine (thn_exit (thn_exit (blk_hit ?_)))
          refine nrm ?_
          refine wp_seq ?_
          refine wp_seq ?_
          refine rg ?_
          refine pl_x HE165 HH80 (wt0 rfl) (x_move rfl) rfl rfl fun a_166 HE167 => ?_
          refine pl_x HE167 HH80 (wt0 rfl) (x_lss rfl rfl) rfl rfl fun a_168 HE169 => ?_
          refine wpList_nil ?_
          clear a_164 HE165 a_166 HE167
          refine nrm ?_
          refine cndT HE169 rfl (decide_eq_true (by omega)) ?_
          refine wp_seq ?_
          refine rg ?_
          refine pl_x HE169 HH80 (wt0 rfl) (x_move rfl) rfl rfl fun a_170 HE171 => ?_
          refine pl_x HE171 HH80 (wt0 rfl) (x_assign rfl) rfl rfl fun a_172 HE173 => ?_
          refine wpList_nil ?_
          clear a_168 HE169 a_170 HE171
          refine nrm ?_
          refine wp_ret ?_
          refine (thn_ret (blk_ret (thn_ret (blk_ret ?_))))
          refine ret1 HE173 rfl (rv_tmp rfl) ?_
          have hF : (hReads a0 a1) = (o ++ [r]) := by
            rw [p25_2, seqF_stop (by omega) (fun j h1 h2 => p34_1 j (by omega) h2), goodL_cons]; first | (rw [if_neg (hng.1 (by omega))]; simp [goodL]; done) | (rw [if_pos (Classical.not_not.1 fun h => absurd (hng.2 h) (by omega))]; simp [goodL]; done)
          exact ⟨_, _, _, by first | (rw [hF] <;> rfl) | rfl | (rw [hF]; simp only [Ending.returned.injEq, Value.slice.injEq, true_and, and_true]; first | omega | (simp; done)) | (rw [hF]; simp; omega), by rw [hF]; exact HH80.sel [1] (by decide) rfl⟩
    · refine wp_skip ?_
      refine nrm ?_
      refine wp_seq ?_
      refine rg ?_
      refine pl_x HE46 HH42 (wt0 rfl) (x_move rfl) rfl rfl fun a_174 HE175 => ?_
      refine pl_x HE175 HH42 (wt0 rfl) (x_len Try.underlying37 rfl) rfl rfl fun a_176 HE177 => ?_
      refine pl_x HE177 HH42 (wt0 rfl) (x_sub rfl rfl (by exact ⟨by omega, by omega⟩)) rfl rfl fun a_178 HE179 => ?_
      refine pl_x HE179 HH42 (wt0 rfl) (x_assign rfl) rfl rfl fun a_180 HE181 => ?_
      refine wpList_nil ?_
      clear a_45 HE46 a_174 HE175 a_176 HE177 a_178 HE179
      refine nrm ?_
      refine wp_seq ?_
      refine wp_block ?_
      refine lp (fun m a w' => ∃ (v : Nat) (S_6 : Nat → Prop), m = 0 + v ∧ Env 55 [(7, .int .i64 ((v : Int) - 1)), (0, .pointer (some ⟨p0, o0, none⟩)), (1, .int .i64 (a1)), (5, .slice A_5 ((List.length o)) c_5), (6, .slice (some ⟨q22, 0, none⟩) ((List.replicate ((a0.1).toNat) (0 : Int)).length) ((a0.1).toNat))] a ∧ Held Nob w [rSo eInt S_6 (some ⟨q22, 0, none⟩) ((a0.1).toNat) (rowZ r v), rVec (eSl eInt) 37 S_5 A_5 c_5 o] w' ∧ (v ≤ r.length) ∧ (∀ j, v ≤ j → j < r.length → r[j]?.getD 0 = (a0.2.1.toNat : Int) - 1)) (0 + (r.length)) ?_ ?_
      · have E46 : rowZ r (r.length) = r := by
          exact rowZ_all r
        exact ⟨r.length, S_6, rfl, HE181.sub ⟨(lkI rfl (by omega)), rfl, rfl, rfl, rfl, trivial⟩, ((HH42.sel [1, 0] (by decide) rfl).to (by first | rfl | (rw [E46]; done) | (rw [E46]; rfl) | (simp only [E46]; done) | (simp only [E46]; rfl) | (rw [E46]; simp only [List.length_set]; done))), (by first | omega | assumption | (simp; done) | simp_all), (by intro j h1 h2; omega)⟩
      · rintro m a_182 w' ⟨v, S_6, rfl, HE183, HH184, p47_0, p47_1⟩
        have hzl := rowZ_len r (v := v) (by omega)
        refine wp_seq ?_
        refine wp_seq ?_
        refine dr_start (Held Nob w [rSo eInt S_6 (some ⟨q22, 0, none⟩) ((a0.1).toNat) (rowZ r v), rVec (eSl eInt) 37 S_5 A_5 c_5 o]) 14 #[false, false, false, false, false, false, false, false, false, false, false, false, false, false] hmix rfl rfl HH184 (fun _ h => h.sel [0, 1] (by decide) rfl) fun w' HH185 => ?_
        have HS186 := HH185
        refine dr_take (i := 0) (ls' := #[true, false, false, false, false, false, false, false, false, false, false, false, false, false]) HE183 HS186 rfl (by kernel_rfl) (by kernel_rfl) (by kernel_rfl) (fun _ _ _ h => h) rfl (wt0 rfl) (x_move rfl) rfl rfl fun a_187 HE188 => ?_
        refine dr_take (i := 1) (ls' := #[true, true, false, false, false, false, false, false, false, false, false, false, false, false]) HE188 HS186 rfl (by kernel_rfl) (by kernel_rfl) (by kernel_rfl) (fun _ _ _ h => h) rfl (wt0 rfl) (x_geq rfl rfl) rfl rfl fun a_189 HE190 => ?_
        refine dr_take (i := 2) (ls' := #[true, true, true, false, false, false, false, false, false, false, false, false, false, false]) HE190 HS186 rfl (by kernel_rfl) (by kernel_rfl) (by kernel_rfl) (fun _ _ _ h => h) rfl (wt0 rfl) (x_move rfl) rfl rfl fun a_191 HE192 => ?_
        by_cases hc48 : 0 ≤ ((v : Int) - 1)
        · refine dr_take (i := 3) (ls' := #[true, true, true, true, false, false, false, false, false, false, false, false, false, false]) HE192 HS186 rfl (by kernel_rfl) (by kernel_rfl) (by kernel_rfl) (fun _ _ _ h => h) rfl (wtT HE192 rfl rfl rfl (decide_eq_true hc48)) (x_move rfl) rfl rfl fun a_193 HE194 => ?_
          refine dr_take (i := 4) (ls' := #[true, true, true, true, true, false, false, false, false, false, false, false, false, false]) HE194 HS186 rfl (by kernel_rfl) (by kernel_rfl) (by kernel_rfl) (fun _ _ _ h => h) rfl (wtT HE194 rfl rfl rfl (decide_eq_true hc48)) (x_move rfl) rfl rfl fun a_195 HE196 => ?_
          have ke49 : (v - 1) < (List.replicate ((a0.1).toNat) (0 : Int)).length := by omega
          refine dr_take (i := 5) (ls' := #[true, true, true, true, true, true, false, false, false, false, false, false, false, false]) HE196 HS186 rfl (by kernel_rfl) (by kernel_rfl) (by kernel_rfl) (fun _ _ _ h => h) rfl (wtT HE196 rfl rfl rfl (decide_eq_true hc48)) (x_indexAddr ts_37 rfl rfl rfl (by omega) ke49) rfl rfl fun a_197 HE198 => ?_
          obtain ⟨y50, xy50⟩ : ∃ y_, y_ = (rowZ r v)[(v - 1)]'(by first | exact ke49 | (simp only [List.length_set]; exact ke49) | omega | (simp only [List.length_set]; omega) | (simp; omega)) := ⟨_, rfl⟩
          have iy50 : I64 y50 := by rw [xy50]; exact i_ownI HH185 0 rfl _
          have jy50 := iy50; unfold I64 at jy50
          have hyr : y50 = r[v - 1]?.getD 0 := by rw [xy50]; exact rowZ_at (by omega) (by omega) _
          have hyb : 0 ≤ y50 ∧ y50 ≤ (a0.2.1.toNat : Int) - 1 := by rw [hyr, List.getElem?_eq_getElem (by omega), Option.getD_some]; exact p25_1 _ (List.getElem_mem _)
          refine dr_take (i := 6) (ls' := #[true, true, true, true, true, true, true, false, false, false, false, false, false, false]) HE198 HS186 rfl (by kernel_rfl) (by kernel_rfl) (by kernel_rfl) (fun _ _ _ h => h) rfl (wtT HE198 rfl rfl rfl (decide_eq_true hc48)) (x_load1 tv_2 rfl (c_ownV 0 rfl (by first | exact ke49 | (simp only [List.length_set]; exact ke49) | omega | (simp only [List.length_set]; omega) | (simp; omega)) xy50.symm)) rfl rfl fun a_199 HE200 => ?_
          refine dr_take (i := 7) (ls' := #[true, true, true, true, true, true, true, true, false, false, false, false, false, false]) HE200 HS186 rfl (by kernel_rfl) (by kernel_rfl) (by kernel_rfl) (fun _ _ _ h => h) rfl (wtT HE200 rfl rfl rfl (decide_eq_true hc48)) (x_move rfl) rfl rfl fun a_201 HE202 => ?_
          refine dr_take (i := 8) (ls' := #[true, true, true, true, true, true, true, true, true, false, false, false, false, false]) HE202 HS186 rfl (by kernel_rfl) (by kernel_rfl) (by kernel_rfl) (fun _ _ _ h => h) rfl (wtT HE202 rfl rfl rfl (decide_eq_true hc48)) (x_nilCheck rfl) rfl rfl fun a_203 HE204 => ?_
          refine dr_take (i := 9) (ls' := #[true, true, true, true, true, true, true, true, true, true, false, false, false, false]) HE204 HS186 rfl (by kernel_rfl) (by kernel_rfl) (by kernel_rfl) (fun _ _ _ h => h) rfl (wtT HE204 rfl rfl rfl (decide_eq_true hc48)) (x_fieldAddr fa_55_1 rfl) rfl rfl fun a_205 HE206 => ?_
          refine dr_take (i := 10) (ls' := #[true, true, true, true, true, true, true, true, true, true, true, false, false, false]) HE206 HS186 rfl (by kernel_rfl) (by kernel_rfl) (by kernel_rfl) (fun _ _ _ h => h) rfl (wtT HE206 rfl rfl rfl (decide_eq_true hc48)) (x_load1 tv_2 rfl (c_old (hq0 1 _ rfl))) rfl rfl fun a_207 HE208 => ?_
          refine dr_take (i := 11) (ls' := #[true, true, true, true, true, true, true, true, true, true, true, true, false, false]) HE208 HS186 rfl (by kernel_rfl) (by kernel_rfl) (by kernel_rfl) (fun _ _ _ h => h) rfl (wtT HE208 rfl rfl rfl (decide_eq_true hc48)) (x_sub rfl rfl (by exact ⟨by omega, by omega⟩)) rfl rfl fun a_209 HE210 => ?_
          refine dr_take (i := 12) (ls' := #[true, true, true, true, true, true, true, true, true, true, true, true, true, false]) HE210 HS186 rfl (by kernel_rfl) (by kernel_rfl) (by kernel_rfl) (fun _ _ _ h => h) rfl (wtT HE210 rfl rfl rfl (decide_eq_true hc48)) (x_eql rfl rfl) rfl rfl fun a_211 HE212 => ?_
          refine dr_take (i := 13) (ls' := #[true, true, true, true, true, true, true, true, true, true, true, true, true, true]) HE212 HS186 rfl (by kernel_rfl) (by kernel_rfl) (by kernel_rfl) (fun _ _ _ h => h) rfl (wt0 rfl) (x_pickT rfl (decide_eq_true hc48) rfl) rfl rfl fun a_213 HE214 => ?_
          refine dr_done (by kernel_rfl) ?_
          clear a_180 HE181 HH42 HH184 a_182 HE183 a_187 HE188 a_189 HE190 a_191 HE192 a_193 HE194 a_195 HE196 a_197 HE198 a_199 HE200 a_201 HE202 a_203 HE204 a_205 HE206 a_207 HE208 a_209 HE210 a_211 HE212
          refine nrm ?_
          refine cnd_e HE214 rfl (fun hc51 => ?_) (fun hc51 => ?_)
          · refine wp_skip ?_
            refine nrm ?_
            refine wp_block ?_
            refine wp_seq ?_
            refine rg ?_
            refine pl_x HE214 HH185 (wt0 rfl) (x_move rfl) rfl rfl fun a_215 HE216 => ?_
            refine pl_x HE216 HH185 (wt0 rfl) (x_move rfl) rfl rfl fun a_217 HE218 => ?_
            have ke52 : (v - 1) < (List.replicate ((a0.1).toNat) (0 : Int)).length := by omega
            refine pl_x HE218 HH185 (wt0 rfl) (x_indexAddr ts_37 rfl rfl rfl (by omega) ke52) rfl rfl fun a_219 HE220 => ?_
            refine pl fun K_221 hK222 => ?_
            refine st_storeI 0 HE220 HH185 tv_2 rfl rfl rfl (by first | exact ke52 | (simp only [List.length_set]; exact ke52) | omega | (simp only [List.length_set]; omega) | (simp; omega)) (by exact ⟨by omega, by omega⟩) (wt0 rfl) fun w' HH223 => hK222 _ _ ?_
            refine wpList_nil ?_
            clear a_213 HE214 a_215 HE216 a_217 HE218 HH185 hK222 K_221
            refine nrm ?_
            refine rg ?_
            refine pl_x HE220 HH223 (wt0 rfl) (x_move rfl) rfl rfl fun a_224 HE225 => ?_
            refine pl_x HE225 HH223 (wt0 rfl) (x_sub rfl rfl (by exact ⟨by omega, by omega⟩)) rfl rfl fun a_226 HE227 => ?_
            refine pl_x HE227 HH223 (wt0 rfl) (x_assign rfl) rfl rfl fun a_228 HE229 => ?_
            refine wpList_nil ?_
            clear a_219 HE220 a_224 HE225 a_226 HE227
            refine blk_n ?_
            have E53 : rowZ r ((v - 1)) = ((rowZ r v).set (v - 1) 0) := by
              exact rowZ_step (by omega) (by omega)
            exact nrm ⟨0 + ((v - 1)), (by omega), (v - 1), S_6, rfl, HE229.sub ⟨(lkI rfl (by omega)), rfl, rfl, rfl, rfl, trivial⟩, ((HH223.sel [0, 1] (by decide) rfl).to (by first | rfl | (rw [E53]; done) | (rw [E53]; rfl) | (simp only [E53]; done) | (simp only [E53]; rfl) | (rw [E53]; simp only [List.length_set]; done))), (by first | omega | assumption | (simp; done) | simp_all), (by exact up_step (by omega) p47_1 (by rw [← hyr]; omega))⟩
          · refine wp_exit ?_
            refine (thn_exit (thn_exit (blk_hit ?_)))
            refine nrm ?_
            refine wp_seq ?_
            refine wp_seq ?_
            refine rg ?_
            refine pl_x HE214 HH185 (wt0 rfl) (x_move rfl) rfl rfl fun a_230 HE231 => ?_
            refine pl_x HE231 HH185 (wt0 rfl) (x_lss rfl rfl) rfl rfl fun a_232 HE233 => ?_
            refine wpList_nil ?_
            clear a_213 HE214 a_230 HE231
            refine nrm ?_
            refine cndF HE233 rfl (decide_eq_false (by omega)) ?_
            refine wp_skip ?_
            refine nrm ?_
            refine rg ?_
            refine pl_x HE233 HH185 (wt0 rfl) (x_move rfl) rfl rfl fun a_234 HE235 => ?_
            refine pl_x HE235 HH185 (wt0 rfl) (x_move rfl) rfl rfl fun a_236 HE237 => ?_
            have ke54 : (v - 1) < (List.replicate ((a0.1).toNat) (0 : Int)).length := by omega
            refine pl_x HE237 HH185 (wt0 rfl) (x_indexAddr ts_37 rfl rfl rfl (by omega) ke54) rfl rfl fun a_238 HE239 => ?_
            obtain ⟨y55, xy55⟩ : ∃ y_, y_ = (rowZ r v)[(v - 1)]'(by first | exact ke54 | (simp only [List.length_set]; exact ke54) | omega | (simp only [List.length_set]; omega) | (simp; omega)) := ⟨_, rfl⟩
            have iy55 : I64 y55 := by rw [xy55]; exact i_ownI HH185 0 rfl _
            have jy55 := iy55; unfold I64 at jy55
            have hyr : y55 = r[v - 1]?.getD 0 := by rw [xy55]; exact rowZ_at (by omega) (by omega) _
            have hyb : 0 ≤ y55 ∧ y55 ≤ (a0.2.1.toNat : Int) - 1 := by rw [hyr, List.getElem?_eq_getElem (by omega), Option.getD_some]; exact p25_1 _ (List.getElem_mem _)
            refine pl_x HE239 HH185 (wt0 rfl) (x_load1 tv_2 rfl (c_ownV 0 rfl (by first | exact ke54 | (simp only [List.length_set]; exact ke54) | omega | (simp only [List.length_set]; omega) | (simp; omega)) xy55.symm)) rfl rfl fun a_240 HE241 => ?_
            refine pl_x HE241 HH185 (wt0 rfl) (x_add rfl rfl (by exact ⟨by omega, by omega⟩)) rfl rfl fun a_242 HE243 => ?_
            have ke56 : (v - 1) < (List.replicate ((a0.1).toNat) (0 : Int)).length := by omega
            refine pl_x HE243 HH185 (wt0 rfl) (x_indexAddr ts_37 rfl rfl rfl (by omega) ke56) rfl rfl fun a_244 HE245 => ?_
            refine pl fun K_246 hK247 => ?_
            refine st_storeI 0 HE245 HH185 tv_2 rfl rfl rfl (by first | exact ke56 | (simp only [List.length_set]; exact ke56) | omega | (simp only [List.length_set]; omega) | (simp; omega)) (by exact ⟨by omega, by omega⟩) (wt0 rfl) fun w' HH248 => hK247 _ _ ?_
            refine wpList_nil ?_
            clear a_232 HE233 a_234 HE235 a_236 HE237 a_238 HE239 a_240 HE241 a_242 HE243 HH185 hK247 K_246
            refine blk_n ?_
            have E57 : (((rowZ r v).set (v - 1) (y55 + 1))) = ((rowZ r v).set (v - 1) (y55 + 1)) := by
              first | rfl | simp
            exact nrm ⟨(seqF a0.2.1.toNat (((rowZ r v).set (v - 1) (y55 + 1)))).length, (by have q := congrArg List.length (seqF_step (S := a0.2.1.toNat) (v := v) (r := r) (y := y55) (by omega) (by omega) p25_1 hyr (by omega) p47_1).1; simp only [List.length_cons] at q; omega), ((rowZ r v).set (v - 1) (y55 + 1)), o, A_5, c_5, S_5, S_6, rfl, HE245.sub ⟨rfl, rfl, rfl, rfl, trivial⟩, ((HH248.sel [1, 0] (by decide) rfl).to (by first | rfl | (rw [E57]; done) | (rw [E57]; rfl) | (simp only [E57]; done) | (simp only [E57]; rfl) | (rw [E57]; simp only [List.length_set]; done))), (by rw [List.length_set, rowZ_len _ (by omega)]; assumption), (by exact (seqF_step (S := a0.2.1.toNat) (v := v) (r := r) (y := y55) (by omega) (by omega) p25_1 hyr (by omega) p47_1).2), (by rw [p25_2, (seqF_step (S := a0.2.1.toNat) (v := v) (r := r) (y := y55) (by omega) (by omega) p25_1 hyr (by omega) p47_1).1, goodL_cons]; first | (rw [if_neg (hng.1 (by omega))]; simp [goodL]; done) | (rw [if_pos (Classical.not_not.1 fun h => absurd (hng.2 h) (by omega))]; simp [goodL]; done)), (by have q := congrArg List.length (seqF_step (S := a0.2.1.toNat) (v := v) (r := r) (y := y55) (by omega) (by omega) p25_1 hyr (by omega) p47_1).1; simp only [List.length_cons] at q; first | omega | (simp only [List.length_append, List.length_cons, List.length_nil]; omega))⟩
        · refine dr_takeNo (i := 3) (ls' := #[true, true, true, true, false, false, false, false, false, false, false, false, false, false]) HE192 HS186 rfl (by kernel_rfl) (by kernel_rfl) (by kernel_rfl) (fun _ _ _ h => h) rfl (wtF HE192 rfl rfl rfl (decide_eq_false hc48)) rfl rfl fun a_249 HE250 => ?_
          refine dr_takeNo (i := 4) (ls' := #[true, true, true, true, true, false, false, false, false, false, false, false, false, false]) HE250 HS186 rfl (by kernel_rfl) (by kernel_rfl) (by kernel_rfl) (fun _ _ _ h => h) rfl (wtF HE250 rfl rfl rfl (decide_eq_false hc48)) rfl rfl fun a_251 HE252 => ?_
          refine dr_takeNo (i := 5) (ls' := #[true, true, true, true, true, true, false, false, false, false, false, false, false, false]) HE252 HS186 rfl (by kernel_rfl) (by kernel_rfl) (by kernel_rfl) (fun _ _ _ h => h) rfl (wtF HE252 rfl rfl rfl (decide_eq_false hc48)) rfl rfl fun a_253 HE254 => ?_
          refine dr_takeNo (i := 6) (ls' := #[true, true, true, true, true, true, true, false, false, false, false, false, false, false]) HE254 HS186 rfl (by kernel_rfl) (by kernel_rfl) (by kernel_rfl) (fun _ _ _ h => h) rfl (wtF HE254 rfl rfl rfl (decide_eq_false hc48)) rfl rfl fun a_255 HE256 => ?_
          refine dr_takeNo (i := 7) (ls' := #[true, true, true, true, true, true, true, true, false, false, false, false, false, false]) HE256 HS186 rfl (by kernel_rfl) (by kernel_rfl) (by kernel_rfl) (fun _ _ _ h => h) rfl (wtF HE256 rfl rfl rfl (decide_eq_false hc48)) rfl rfl fun a_257 HE258 => ?_
          refine dr_takeNo (i := 8) (ls' := #[true, true, true, true, true, true, true, true, true, false, false, false, false, false]) HE258 HS186 rfl (by kernel_rfl) (by kernel_rfl) (by kernel_rfl) (fun _ _ _ h => h) rfl (wtF HE258 rfl rfl rfl (decide_eq_false hc48)) rfl rfl fun a_259 HE260 => ?_
          refine dr_takeNo (i := 9) (ls' := #[true, true, true, true, true, true, true, true, true, true, false, false, false, false]) HE260 HS186 rfl (by kernel_rfl) (by kernel_rfl) (by kernel_rfl) (fun _ _ _ h => h) rfl (wtF HE260 rfl rfl rfl (decide_eq_false hc48)) rfl rfl fun a_261 HE262 => ?_
          refine dr_takeNo (i := 10) (ls' := #[true, true, true, true, true, true, true, true, true, true, true, false, false, false]) HE262 HS186 rfl (by kernel_rfl) (by kernel_rfl) (by kernel_rfl) (fun _ _ _ h => h) rfl (wtF HE262 rfl rfl rfl (decide_eq_false hc48)) rfl rfl fun a_263 HE264 => ?_
          refine dr_takeNo (i := 11) (ls' := #[true, true, true, true, true, true, true, true, true, true, true, true, false, false]) HE264 HS186 rfl (by kernel_rfl) (by kernel_rfl) (by kernel_rfl) (fun _ _ _ h => h) rfl (wtF HE264 rfl rfl rfl (decide_eq_false hc48)) rfl rfl fun a_265 HE266 => ?_
          refine dr_takeNo (i := 12) (ls' := #[true, true, true, true, true, true, true, true, true, true, true, true, true, false]) HE266 HS186 rfl (by kernel_rfl) (by kernel_rfl) (by kernel_rfl) (fun _ _ _ h => h) rfl (wtF HE266 rfl rfl rfl (decide_eq_false hc48)) rfl rfl fun a_267 HE268 => ?_
          refine dr_take (i := 13) (ls' := #[true, true, true, true, true, true, true, true, true, true, true, true, true, true]) HE268 HS186 rfl (by kernel_rfl) (by kernel_rfl) (by kernel_rfl) (fun _ _ _ h => h) rfl (wt0 rfl) (x_pickF rfl (decide_eq_false hc48) rfl) rfl rfl fun a_269 HE270 => ?_
          refine dr_done (by kernel_rfl) ?_
          clear a_180 HE181 HH42 HH184 a_182 HE183 a_187 HE188 a_189 HE190 a_191 HE192 a_249 HE250 a_251 HE252 a_253 HE254 a_255 HE256 a_257 HE258 a_259 HE260 a_261 HE262 a_263 HE264 a_265 HE266 a_267 HE268
          refine nrm ?_
          refine cndF HE270 rfl rfl ?_
          refine wp_exit ?_
          refine (thn_exit (thn_exit (blk_hit ?_)))
          refine nrm ?_
          refine wp_seq ?_
          refine wp_seq ?_
          refine rg ?_
          refine pl_x HE270 HH185 (wt0 rfl) (x_move rfl) rfl rfl fun a_271 HE272 => ?_
          refine pl_x HE272 HH185 (wt0 rfl) (x_lss rfl rfl) rfl rfl fun a_273 HE274 => ?_
          refine wpList_nil ?_
          clear a_269 HE270 a_271 HE272
          refine nrm ?_
          refine cndT HE274 rfl (decide_eq_true (by omega)) ?_
          refine wp_seq ?_
          refine rg ?_
          refine pl_x HE274 HH185 (wt0 rfl) (x_move rfl) rfl rfl fun a_275 HE276 => ?_
          refine pl_x HE276 HH185 (wt0 rfl) (x_assign rfl) rfl rfl fun a_277 HE278 => ?_
          refine wpList_nil ?_
          clear a_273 HE274 a_275 HE276
          refine nrm ?_
          refine wp_ret ?_
          refine (thn_ret (blk_ret (thn_ret (blk_ret ?_))))
          refine ret1 HE278 rfl (rv_tmp rfl) ?_
          have hF : (hReads a0 a1) = o := by
            rw [p25_2, seqF_stop (by omega) (fun j h1 h2 => p47_1 j (by omega) h2), goodL_cons]; first | (rw [if_neg (hng.1 (by omega))]; simp [goodL]; done) | (rw [if_pos (Classical.not_not.1 fun h => absurd (hng.2 h) (by omega))]; simp [goodL]; done)
          exact ⟨_, _, _, by first | (rw [hF] <;> rfl) | rfl | (rw [hF]; simp only [Ending.returned.injEq, Value.slice.injEq, true_and, and_true]; first | omega | (simp; done)) | (rw [hF]; simp; omega), by rw [hF]; exact HH185.sel [1] (by decide) rfl⟩

set_option maxRecDepth 100000 in
set_option maxHeartbeats 4000000 in
theorem impl_copyMultiRule (es0 : List Value) (a0 : tMultiRule) (w : World) (h0 : eMultiRule.R w (Old w) es0 a0) (s0 : a0.2.1.length ≤ 1000 ∧ a0.2.2.1.length ≤ 1000 ∧ a0.2.2.2.1.length ≤ 1000) :
    Calls Try.prog 71 #[.agg es0.toArray] w fun e w' => ∃ (es0' : List Value), e = .returned (.agg es0'.toArray) ∧ eMultiRule.O w' (Fr w w') es0' a0 ∧ Below w.heap.size w w' := by
  have H0 := h0
  obtain ⟨Az0_1, cz0_1, Az0_2, cz0_2, Az0_3, cz0_3, rfl, gz0_0, gz0_1, gz0_2, gz0_3, gz0_4⟩ := shape_MultiRule h0
  have jz0_0 := gz0_0; unfold I64 at jz0_0
  have lz0_1 := gz0_1.len
  have lz0_2 := gz0_2.len
  have lz0_3 := gz0_3.len
  have jz0_4 := gz0_4; unfold I64 at jz0_4
  have HH1 := Held.start Nob w
  refine enter (n := 17) Try.func71 rfl rfl rfl fun a_2 HE3 => ?_
  refine wp_seq ?_
  refine rg ?_
  refine pl fun K_4 hK5 => ?_
  refine st_box (cs := [.int .i64 (a0.1), .slice Az0_1 (a0.2.1.length) cz0_1, .slice Az0_2 (a0.2.2.1.length) cz0_2, .slice Az0_3 (a0.2.2.2.1.length) cz0_3, .int .i64 (a0.2.2.2.2)]) HE3 HH1 rfl rfl (wt0 rfl) rfl fun q21 a_6 w' HE7 HH8 => hK5 _ _ ?_
  refine pl fun K_9 hK10 => ?_
  refine st_alloc HE7 HH8 tv_104 (wt0 rfl) rfl fun q22 a_11 w' HE12 HH13 => hK10 _ _ ?_
  refine wpList_nil ?_
  clear a_2 HE3 HH1 K_4 hK5 a_6 HE7 HH8 hK10 K_9
  refine nrm ?_
  refine wp_seq ?_
  refine dr_start (Held Nob w [rBlk q21 104 [.int .i64 (a0.1), .slice Az0_1 (a0.2.1.length) cz0_1, .slice Az0_2 (a0.2.2.1.length) cz0_2, .slice Az0_3 (a0.2.2.2.1.length) cz0_3, .int .i64 (a0.2.2.2.2)]]) 15 #[false, false, false, false, false, false, false, false, false, false, false, false, false, false, false] hmix rfl rfl HH13 (fun _ h => h.sel [1] (by decide) rfl) fun w' HH14 => ?_
  have HS15 := HH14.sel [1] (by decide) rfl
  refine dr_take (i := 0) (ls' := #[true, false, false, false, false, false, false, false, false, false, false, false, false, false, false]) HE12 HS15 rfl (by kernel_rfl) (by kernel_rfl) (by kernel_rfl) (fun _ _ _ h => h) rfl (wt0 rfl) (x_fieldAddr fa_104_0 rfl) rfl rfl fun a_16 HE17 => ?_
  refine dr_take (i := 1) (ls' := #[true, true, false, false, false, false, false, false, false, false, false, false, false, false, false]) HE17 HS15 rfl (by kernel_rfl) (by kernel_rfl) (by kernel_rfl) (fun _ _ _ h => h) rfl (wt0 rfl) (x_load1 tv_2 rfl (c_blk 0 rfl rfl)) rfl rfl fun a_18 HE19 => ?_
  refine dr_take (i := 2) (ls' := #[true, true, true, false, false, false, false, false, false, false, false, false, false, false, false]) HE19 HS15 rfl (by kernel_rfl) (by kernel_rfl) (by kernel_rfl) (fun _ _ _ h => h) rfl (wt0 rfl) (x_fieldAddr fa_104_1 rfl) rfl rfl fun a_20 HE21 => ?_
  refine dr_take (i := 3) (ls' := #[true, true, true, true, false, false, false, false, false, false, false, false, false, false, false]) HE21 HS15 rfl (by kernel_rfl) (by kernel_rfl) (by kernel_rfl) (fun _ _ _ h => h) rfl (wt0 rfl) (x_load1 tv_37 rfl (c_blk 0 rfl rfl)) rfl rfl fun a_22 HE23 => ?_
  refine dr_take (i := 5) (ls' := #[true, true, true, true, false, true, false, false, false, false, false, false, false, false, false]) HE23 HS15 rfl (by kernel_rfl) (by kernel_rfl) (by kernel_rfl) (fun _ _ _ h => h) rfl (wt0 rfl) (x_fieldAddr fa_104_2 rfl) rfl rfl fun a_24 HE25 => ?_
  refine dr_take (i := 6) (ls' := #[true, true, true, true, false, true, true, false, false, false, false, false, false, false, false]) HE25 HS15 rfl (by kernel_rfl) (by kernel_rfl) (by kernel_rfl) (fun _ _ _ h => h) rfl (wt0 rfl) (x_load1 tv_37 rfl (c_blk 0 rfl rfl)) rfl rfl fun a_26 HE27 => ?_
  refine dr_take (i := 8) (ls' := #[true, true, true, true, false, true, true, false, true, false, false, false, false, false, false]) HE27 HS15 rfl (by kernel_rfl) (by kernel_rfl) (by kernel_rfl) (fun _ _ _ h => h) rfl (wt0 rfl) (x_fieldAddr fa_104_3 rfl) rfl rfl fun a_28 HE29 => ?_
  refine dr_take (i := 9) (ls' := #[true, true, true, true, false, true, true, false, true, true, false, false, false, false, false]) HE29 HS15 rfl (by kernel_rfl) (by kernel_rfl) (by kernel_rfl) (fun _ _ _ h => h) rfl (wt0 rfl) (x_load1 tv_37 rfl (c_blk 0 rfl rfl)) rfl rfl fun a_30 HE31 => ?_
  refine dr_take (i := 11) (ls' := #[true, true, true, true, false, true, true, false, true, true, false, true, false, false, false]) HE31 HS15 rfl (by kernel_rfl) (by kernel_rfl) (by kernel_rfl) (fun _ _ _ h => h) rfl (wt0 rfl) (x_fieldAddr fa_104_4 rfl) rfl rfl fun a_32 HE33 => ?_
  refine dr_take (i := 12) (ls' := #[true, true, true, true, false, true, true, false, true, true, false, true, true, false, false]) HE33 HS15 rfl (by kernel_rfl) (by kernel_rfl) (by kernel_rfl) (fun _ _ _ h => h) rfl (wt0 rfl) (x_load1 tv_2 rfl (c_blk 0 rfl rfl)) rfl rfl fun a_34 HE35 => ?_
  refine dr_one (i := 4) (ls' := #[true, true, true, true, true, true, true, false, true, true, false, true, true, false, false]) rfl (by kernel_rfl) rfl fun K_36 hK37 => ?_
  refine st_call HE35 (wt0 rfl) rfl rfl rfl en_72 rfl rfl (Clone_Int64 _ _ a0.2.1 _ (HH14.old gz0_1) (by omega)) fun e w' hr => ?_
  obtain ⟨Ar23_0, cr23_0, rfl, hor23_0, hbr23⟩ := hr
  obtain ⟨Sr23, HH38⟩ := HH14.newS hbr23 hor23_0
  refine ⟨_, rfl, fun a_39 HE40 => hK37 _ _ (by exact HH38.sel [2] (by decide) rfl) ?_⟩
  have HS41 := HH38.sel [2] (by decide) rfl
  refine dr_one (i := 7) (ls' := #[true, true, true, true, true, true, true, true, true, true, false, true, true, false, false]) rfl (by kernel_rfl) rfl fun K_42 hK43 => ?_
  refine st_call HE40 (wt0 rfl) rfl rfl rfl en_72 rfl rfl (Clone_Int64 _ _ a0.2.2.1 _ (HH38.old gz0_2) (by omega)) fun e w' hr => ?_
  obtain ⟨Ar24_0, cr24_0, rfl, hor24_0, hbr24⟩ := hr
  obtain ⟨Sr24, HH44⟩ := HH38.newS hbr24 hor24_0
  refine ⟨_, rfl, fun a_45 HE46 => hK43 _ _ (by exact HH44.sel [3] (by decide) rfl) ?_⟩
  have HS47 := HH44.sel [3] (by decide) rfl
  refine dr_one (i := 10) (ls' := #[true, true, true, true, true, true, true, true, true, true, true, true, true, false, false]) rfl (by kernel_rfl) rfl fun K_48 hK49 => ?_
  refine st_call HE46 (wt0 rfl) rfl rfl rfl en_72 rfl rfl (Clone_Int64 _ _ a0.2.2.2.1 _ (HH44.old gz0_3) (by omega)) fun e w' hr => ?_
  obtain ⟨Ar25_0, cr25_0, rfl, hor25_0, hbr25⟩ := hr
  obtain ⟨Sr25, HH50⟩ := HH44.newS hbr25 hor25_0
  refine ⟨_, rfl, fun a_51 HE52 => hK49 _ _ (by exact HH50.sel [4] (by decide) rfl) ?_⟩
  have HS53 := HH50.sel [4] (by decide) rfl
  refine dr_take (i := 13) (ls' := #[true, true, true, true, true, true, true, true, true, true, true, true, true, true, false]) HE52 HS53 rfl (by kernel_rfl) (by kernel_rfl) (by kernel_rfl) (fun _ _ _ h => h) rfl (wt0 rfl) (show XS _ _ _ _ (.agg #[.int .i64 (a0.1), .slice Ar23_0 (a0.2.1.length) cr23_0, .slice Ar24_0 (a0.2.2.1.length) cr24_0, .slice Ar25_0 (a0.2.2.2.1.length) cr25_0, .int .i64 (a0.2.2.2.2)]) from x_build (vs := [(0, .int .i64 (a0.1)), (1, .slice Ar23_0 (a0.2.1.length) cr23_0), (2, .slice Ar24_0 (a0.2.2.1.length) cr24_0), (3, .slice Ar25_0 (a0.2.2.2.1.length) cr25_0), (4, .int .i64 (a0.2.2.2.2))]) tb_104 rfl (by simp [Value.oneCell'])) rfl rfl fun a_54 HE55 => ?_
  refine dr_one (i := 14) (ls' := #[true, true, true, true, true, true, true, true, true, true, true, true, true, true, true]) rfl (by kernel_rfl) rfl fun K_56 hK57 => ?_
  refine st_store (vs := [.int .i64 (a0.1), .slice Ar23_0 (a0.2.1.length) cr23_0, .slice Ar24_0 (a0.2.2.1.length) cr24_0, .slice Ar25_0 (a0.2.2.2.1.length) cr25_0, .int .i64 (a0.2.2.2.2)]) 3 HE55 HH50 tv_104 rfl rfl rfl rfl rfl rfl (by simp [Value.oneCell']) (wt0 rfl) fun w' HH58 => hK57 _ _ (by exact HH58.sel [4] (by decide) rfl) ?_
  have HS59 := HH58.sel [4] (by decide) rfl
  refine dr_done (by kernel_rfl) ?_
  clear HH13 a_11 HE12 a_16 HE17 a_18 HE19 a_20 HE21 a_22 HE23 a_24 HE25 a_26 HE27 a_28 HE29 a_30 HE31 a_32 HE33 HH14 a_34 HE35 HS15 K_36 hK37 HH38 a_39 HE40 HS41 K_42 hK43 HH44 a_45 HE46 HS47 a_51 HE52 K_48 hK49 HH50 HS53 hK57 K_56
  refine nrm ?_
  refine wp_ret ?_
  refine ret1 HE55 rfl (rv_cell rfl (tv_104.loadN (cs := [.int .i64 (a0.1), .slice Ar23_0 (a0.2.1.length) cr23_0, .slice Ar24_0 (a0.2.2.1.length) cr24_0, .slice Ar25_0 (a0.2.2.2.1.length) cr25_0, .int .i64 (a0.2.2.2.2)]) rfl (c_blkN 3 rfl _ HH58))) ?_
  have HH60 := HH58.sel [2, 1, 0, 3, 4] (by decide) rfl
  have HH61 := HH60.sel [2, 0, 1, 3, 4] (by decide) rfl
  have HH62 := HH61.pairB (F := eInt) (c2 := [.int .i64 (a0.2.2.2.2)]) (y := a0.2.2.2.2) (oI (by exact ⟨by omega, by omega⟩))
  have HH63 := HH62.sel [2, 0, 1, 3, 4] (by decide) rfl
  have HH64 := HH63.pair
  have HH65 := HH64.sel [1, 0, 2, 3] (by decide) rfl
  have HH66 := HH65.pair
  have HH67 := HH66.pairF (E := eInt) (c1 := [.int .i64 (a0.1)]) (x := a0.1) (oI (by exact ⟨by omega, by omega⟩))
  obtain ⟨S26, HH68⟩ : ∃ S, Held Nob w (rO eMultiRule S [.int .i64 (a0.1), .slice Ar23_0 (a0.2.1.length) cr23_0, .slice Ar24_0 (a0.2.2.1.length) cr24_0, .slice Ar25_0 (a0.2.2.2.1.length) cr25_0, .int .i64 (a0.2.2.2.2)] a0 :: _) _ := ⟨_, HH67⟩
  exact ⟨_, rfl, (HH68.o (i := 0) rfl), HH68.below⟩

set_option maxRecDepth 100000 in
set_option maxHeartbeats 4000000 in
theorem spec_l06OwnRule (p0 o0 : Nat) (es0 : List Value) (a0 : tMultiRule) (a1 : Int) (w : World) (h0 : eMultiRule.R w (Old w) es0 a0) (hq0 : ∀ j v, es0[j]? = some v → w.cell? ⟨p0, o0 + j, none⟩ = some v) (s0 : a0.2.1.length ≤ 1000 ∧ a0.2.2.1.length ≤ 1000 ∧ a0.2.2.2.1.length ≤ 1000) (s1 : (0 ≤ a0.1 ∧ a0.1 ≤ 1000) ∧ (0 ≤ a0.2.2.2.2 ∧ a0.2.2.2.2 ≤ 1000) ∧ 0 ≤ a1 ∧ a1 ≤ 1000) :
    Calls Try.prog 70 #[.pointer (some ⟨p0, o0, none⟩), .int .i64 a1] w fun e w' => ∃ (es0' : List Value), e = .returned (.agg es0'.toArray) ∧ eMultiRule.O w' (Fr w w') es0' (moveR2 a0 a1) ∧ Below w.heap.size w w' := by
  have H0 := h0
  obtain ⟨Az0_1, cz0_1, Az0_2, cz0_2, Az0_3, cz0_3, rfl, gz0_0, gz0_1, gz0_2, gz0_3, gz0_4⟩ := shape_MultiRule h0
  have jz0_0 := gz0_0; unfold I64 at jz0_0
  have lz0_1 := gz0_1.len
  have lz0_2 := gz0_2.len
  have lz0_3 := gz0_3.len
  have jz0_4 := gz0_4; unfold I64 at jz0_4
  have HH1 := Held.start Nob w
  refine enter (n := 33) Try.func70 rfl rfl rfl fun a_2 HE3 => ?_
  refine wp_seq ?_
  refine rg ?_
  refine pl fun K_4 hK5 => ?_
  refine st_alloc HE3 HH1 tv_104 (wt0 rfl) rfl fun q21 a_6 w' HE7 HH8 => hK5 _ _ ?_
  refine wpList_nil ?_
  clear a_2 HE3 HH1 hK5 K_4
  refine nrm ?_
  refine wp_seq ?_
  refine dr_start (Held Nob w []) 29 #[false, false, false, false, false, false, false, false, false, false, false, false, false, false, false, false, false, false, false, false, false, false, false, false, false, false, false, false, false] hmix rfl rfl HH8 (fun _ h => h.sel [] (by decide) rfl) fun w' HH9 => ?_
  have HS10 := HH9.sel [] (by decide) rfl
  refine dr_take (i := 0) (ls' := #[true, false, false, false, false, false, false, false, false, false, false, false, false, false, false, false, false, false, false, false, false, false, false, false, false, false, false, false, false]) HE7 HS10 rfl (by kernel_rfl) (by kernel_rfl) (by kernel_rfl) (fun _ _ _ h => h) rfl (wt0 rfl) (x_move rfl) rfl rfl fun a_11 HE12 => ?_
  refine dr_take (i := 1) (ls' := #[true, true, false, false, false, false, false, false, false, false, false, false, false, false, false, false, false, false, false, false, false, false, false, false, false, false, false, false, false]) HE12 HS10 rfl (by kernel_rfl) (by kernel_rfl) (by kernel_rfl) (fun _ _ _ h => h) rfl (wt0 rfl) (x_nilCheck rfl) rfl rfl fun a_13 HE14 => ?_
  refine dr_take (i := 2) (ls' := #[true, true, true, false, false, false, false, false, false, false, false, false, false, false, false, false, false, false, false, false, false, false, false, false, false, false, false, false, false]) HE14 HS10 rfl (by kernel_rfl) (by kernel_rfl) (by kernel_rfl) (fun _ _ _ h => h) rfl (wt0 rfl) (x_fieldAddr fa_104_0 rfl) rfl rfl fun a_15 HE16 => ?_
  refine dr_take (i := 3) (ls' := #[true, true, true, true, false, false, false, false, false, false, false, false, false, false, false, false, false, false, false, false, false, false, false, false, false, false, false, false, false]) HE16 HS10 rfl (by kernel_rfl) (by kernel_rfl) (by kernel_rfl) (fun _ _ _ h => h) rfl (wt0 rfl) (x_load1 tv_2 rfl (c_old (hq0 0 _ rfl))) rfl rfl fun a_17 HE18 => ?_
  refine dr_take (i := 4) (ls' := #[true, true, true, true, true, false, false, false, false, false, false, false, false, false, false, false, false, false, false, false, false, false, false, false, false, false, false, false, false]) HE18 HS10 rfl (by kernel_rfl) (by kernel_rfl) (by kernel_rfl) (fun _ _ _ h => h) rfl (wt0 rfl) (x_move rfl) rfl rfl fun a_19 HE20 => ?_
  refine dr_take (i := 5) (ls' := #[true, true, true, true, true, true, false, false, false, false, false, false, false, false, false, false, false, false, false, false, false, false, false, false, false, false, false, false, false]) HE20 HS10 rfl (by kernel_rfl) (by kernel_rfl) (by kernel_rfl) (fun _ _ _ h => h) rfl (wt0 rfl) (x_add rfl rfl (by exact ⟨by omega, by omega⟩)) rfl rfl fun a_21 HE22 => ?_
  refine dr_take (i := 6) (ls' := #[true, true, true, true, true, true, true, false, false, false, false, false, false, false, false, false, false, false, false, false, false, false, false, false, false, false, false, false, false]) HE22 HS10 rfl (by kernel_rfl) (by kernel_rfl) (by kernel_rfl) (fun _ _ _ h => h) rfl (wt0 rfl) (x_move rfl) rfl rfl fun a_23 HE24 => ?_
  refine dr_take (i := 7) (ls' := #[true, true, true, true, true, true, true, true, false, false, false, false, false, false, false, false, false, false, false, false, false, false, false, false, false, false, false, false, false]) HE24 HS10 rfl (by kernel_rfl) (by kernel_rfl) (by kernel_rfl) (fun _ _ _ h => h) rfl (wt0 rfl) (x_nilCheck rfl) rfl rfl fun a_25 HE26 => ?_
  refine dr_take (i := 8) (ls' := #[true, true, true, true, true, true, true, true, true, false, false, false, false, false, false, false, false, false, false, false, false, false, false, false, false, false, false, false, false]) HE26 HS10 rfl (by kernel_rfl) (by kernel_rfl) (by kernel_rfl) (fun _ _ _ h => h) rfl (wt0 rfl) (x_fieldAddr fa_104_1 rfl) rfl rfl fun a_27 HE28 => ?_
  refine dr_take (i := 9) (ls' := #[true, true, true, true, true, true, true, true, true, true, false, false, false, false, false, false, false, false, false, false, false, false, false, false, false, false, false, false, false]) HE28 HS10 rfl (by kernel_rfl) (by kernel_rfl) (by kernel_rfl) (fun _ _ _ h => h) rfl (wt0 rfl) (x_load1 tv_37 rfl (c_old (hq0 1 _ rfl))) rfl rfl fun a_29 HE30 => ?_
  refine dr_take (i := 11) (ls' := #[true, true, true, true, true, true, true, true, true, true, false, true, false, false, false, false, false, false, false, false, false, false, false, false, false, false, false, false, false]) HE30 HS10 rfl (by kernel_rfl) (by kernel_rfl) (by kernel_rfl) (fun _ _ _ h => h) rfl (wt0 rfl) (x_move rfl) rfl rfl fun a_31 HE32 => ?_
  refine dr_take (i := 12) (ls' := #[true, true, true, true, true, true, true, true, true, true, false, true, true, false, false, false, false, false, false, false, false, false, false, false, false, false, false, false, false]) HE32 HS10 rfl (by kernel_rfl) (by kernel_rfl) (by kernel_rfl) (fun _ _ _ h => h) rfl (wt0 rfl) (x_nilCheck rfl) rfl rfl fun a_33 HE34 => ?_
  refine dr_take (i := 13) (ls' := #[true, true, true, true, true, true, true, true, true, true, false, true, true, true, false, false, false, false, false, false, false, false, false, false, false, false, false, false, false]) HE34 HS10 rfl (by kernel_rfl) (by kernel_rfl) (by kernel_rfl) (fun _ _ _ h => h) rfl (wt0 rfl) (x_fieldAddr fa_104_2 rfl) rfl rfl fun a_35 HE36 => ?_
  refine dr_take (i := 14) (ls' := #[true, true, true, true, true, true, true, true, true, true, false, true, true, true, true, false, false, false, false, false, false, false, false, false, false, false, false, false, false]) HE36 HS10 rfl (by kernel_rfl) (by kernel_rfl) (by kernel_rfl) (fun _ _ _ h => h) rfl (wt0 rfl) (x_load1 tv_37 rfl (c_old (hq0 2 _ rfl))) rfl rfl fun a_37 HE38 => ?_
  refine dr_take (i := 16) (ls' := #[true, true, true, true, true, true, true, true, true, true, false, true, true, true, true, false, true, false, false, false, false, false, false, false, false, false, false, false, false]) HE38 HS10 rfl (by kernel_rfl) (by kernel_rfl) (by kernel_rfl) (fun _ _ _ h => h) rfl (wt0 rfl) (x_move rfl) rfl rfl fun a_39 HE40 => ?_
  refine dr_take (i := 17) (ls' := #[true, true, true, true, true, true, true, true, true, true, false, true, true, true, true, false, true, true, false, false, false, false, false, false, false, false, false, false, false]) HE40 HS10 rfl (by kernel_rfl) (by kernel_rfl) (by kernel_rfl) (fun _ _ _ h => h) rfl (wt0 rfl) (x_nilCheck rfl) rfl rfl fun a_41 HE42 => ?_
  refine dr_take (i := 18) (ls' := #[true, true, true, true, true, true, true, true, true, true, false, true, true, true, true, false, true, true, true, false, false, false, false, false, false, false, false, false, false]) HE42 HS10 rfl (by kernel_rfl) (by kernel_rfl) (by kernel_rfl) (fun _ _ _ h => h) rfl (wt0 rfl) (x_fieldAddr fa_104_3 rfl) rfl rfl fun a_43 HE44 => ?_
  refine dr_take (i := 19) (ls' := #[true, true, true, true, true, true, true, true, true, true, false, true, true, true, true, false, true, true, true, true, false, false, false, false, false, false, false, false, false]) HE44 HS10 rfl (by kernel_rfl) (by kernel_rfl) (by kernel_rfl) (fun _ _ _ h => h) rfl (wt0 rfl) (x_load1 tv_37 rfl (c_old (hq0 3 _ rfl))) rfl rfl fun a_45 HE46 => ?_
  refine dr_take (i := 21) (ls' := #[true, true, true, true, true, true, true, true, true, true, false, true, true, true, true, false, true, true, true, true, false, true, false, false, false, false, false, false, false]) HE46 HS10 rfl (by kernel_rfl) (by kernel_rfl) (by kernel_rfl) (fun _ _ _ h => h) rfl (wt0 rfl) (x_move rfl) rfl rfl fun a_47 HE48 => ?_
  refine dr_take (i := 22) (ls' := #[true, true, true, true, true, true, true, true, true, true, false, true, true, true, true, false, true, true, true, true, false, true, true, false, false, false, false, false, false]) HE48 HS10 rfl (by kernel_rfl) (by kernel_rfl) (by kernel_rfl) (fun _ _ _ h => h) rfl (wt0 rfl) (x_nilCheck rfl) rfl rfl fun a_49 HE50 => ?_
  refine dr_take (i := 23) (ls' := #[true, true, true, true, true, true, true, true, true, true, false, true, true, true, true, false, true, true, true, true, false, true, true, true, false, false, false, false, false]) HE50 HS10 rfl (by kernel_rfl) (by kernel_rfl) (by kernel_rfl) (fun _ _ _ h => h) rfl (wt0 rfl) (x_fieldAddr fa_104_4 rfl) rfl rfl fun a_51 HE52 => ?_
  refine dr_take (i := 24) (ls' := #[true, true, true, true, true, true, true, true, true, true, false, true, true, true, true, false, true, true, true, true, false, true, true, true, true, false, false, false, false]) HE52 HS10 rfl (by kernel_rfl) (by kernel_rfl) (by kernel_rfl) (fun _ _ _ h => h) rfl (wt0 rfl) (x_load1 tv_2 rfl (c_old (hq0 4 _ rfl))) rfl rfl fun a_53 HE54 => ?_
  refine dr_take (i := 25) (ls' := #[true, true, true, true, true, true, true, true, true, true, false, true, true, true, true, false, true, true, true, true, false, true, true, true, true, true, false, false, false]) HE54 HS10 rfl (by kernel_rfl) (by kernel_rfl) (by kernel_rfl) (fun _ _ _ h => h) rfl (wt0 rfl) (x_move rfl) rfl rfl fun a_55 HE56 => ?_
  refine dr_take (i := 26) (ls' := #[true, true, true, true, true, true, true, true, true, true, false, true, true, true, true, false, true, true, true, true, false, true, true, true, true, true, true, false, false]) HE56 HS10 rfl (by kernel_rfl) (by kernel_rfl) (by kernel_rfl) (fun _ _ _ h => h) rfl (wt0 rfl) (x_add rfl rfl (by exact ⟨by omega, by omega⟩)) rfl rfl fun a_57 HE58 => ?_
  refine dr_one (i := 10) (ls' := #[true, true, true, true, true, true, true, true, true, true, true, true, true, true, true, false, true, true, true, true, false, true, true, true, true, true, true, false, false]) rfl (by kernel_rfl) rfl fun K_59 hK60 => ?_
  refine st_call HE58 (wt0 rfl) rfl rfl rfl en_42 rfl rfl (spec_l00Own _ _ a0.2.1 _ (HH9.old gz0_1) (by omega)) fun e w' hr => ?_
  obtain ⟨Ar22_0, cr22_0, rfl, hor22_0, hbr22⟩ := hr
  obtain ⟨Sr22, HH61⟩ := HH9.newS hbr22 hor22_0
  refine ⟨_, rfl, fun a_62 HE63 => hK60 _ _ (by exact HH61.sel [] (by decide) rfl) ?_⟩
  have HS64 := HH61.sel [] (by decide) rfl
  refine dr_one (i := 15) (ls' := #[true, true, true, true, true, true, true, true, true, true, true, true, true, true, true, true, true, true, true, true, false, true, true, true, true, true, true, false, false]) rfl (by kernel_rfl) rfl fun K_65 hK66 => ?_
  refine st_call HE63 (wt0 rfl) rfl rfl rfl en_42 rfl rfl (spec_l00Own _ _ a0.2.2.1 _ (HH61.old gz0_2) (by omega)) fun e w' hr => ?_
  obtain ⟨Ar23_0, cr23_0, rfl, hor23_0, hbr23⟩ := hr
  obtain ⟨Sr23, HH67⟩ := HH61.newS hbr23 hor23_0
  refine ⟨_, rfl, fun a_68 HE69 => hK66 _ _ (by exact HH67.sel [] (by decide) rfl) ?_⟩
  have HS70 := HH67.sel [] (by decide) rfl
  refine dr_one (i := 20) (ls' := #[true, true, true, true, true, true, true, true, true, true, true, true, true, true, true, true, true, true, true, true, true, true, true, true, true, true, true, false, false]) rfl (by kernel_rfl) rfl fun K_71 hK72 => ?_
  refine st_call HE69 (wt0 rfl) rfl rfl rfl en_42 rfl rfl (spec_l00Own _ _ a0.2.2.2.1 _ (HH67.old gz0_3) (by omega)) fun e w' hr => ?_
  obtain ⟨Ar24_0, cr24_0, rfl, hor24_0, hbr24⟩ := hr
  obtain ⟨Sr24, HH73⟩ := HH67.newS hbr24 hor24_0
  refine ⟨_, rfl, fun a_74 HE75 => hK72 _ _ (by exact HH73.sel [] (by decide) rfl) ?_⟩
  have HS76 := HH73.sel [] (by decide) rfl
  refine dr_take (i := 27) (ls' := #[true, true, true, true, true, true, true, true, true, true, true, true, true, true, true, true, true, true, true, true, true, true, true, true, true, true, true, true, false]) HE75 HS76 rfl (by kernel_rfl) (by kernel_rfl) (by kernel_rfl) (fun _ _ _ h => h) rfl (wt0 rfl) (show XS _ _ _ _ (.agg #[.int .i64 ((a0.1 + a1)), .slice Ar22_0 (a0.2.1.length) cr22_0, .slice Ar23_0 (a0.2.2.1.length) cr23_0, .slice Ar24_0 (a0.2.2.2.1.length) cr24_0, .int .i64 ((a0.2.2.2.2 + a1))]) from x_build (vs := [(0, .int .i64 ((a0.1 + a1))), (1, .slice Ar22_0 (a0.2.1.length) cr22_0), (2, .slice Ar23_0 (a0.2.2.1.length) cr23_0), (3, .slice Ar24_0 (a0.2.2.2.1.length) cr24_0), (4, .int .i64 ((a0.2.2.2.2 + a1)))]) tb_104 rfl (by simp [Value.oneCell'])) rfl rfl fun a_77 HE78 => ?_
  refine dr_one (i := 28) (ls' := #[true, true, true, true, true, true, true, true, true, true, true, true, true, true, true, true, true, true, true, true, true, true, true, true, true, true, true, true, true]) rfl (by kernel_rfl) rfl fun K_79 hK80 => ?_
  refine st_store (vs := [.int .i64 ((a0.1 + a1)), .slice Ar22_0 (a0.2.1.length) cr22_0, .slice Ar23_0 (a0.2.2.1.length) cr23_0, .slice Ar24_0 (a0.2.2.2.1.length) cr24_0, .int .i64 ((a0.2.2.2.2 + a1))]) 3 HE78 HH73 tv_104 rfl rfl rfl rfl rfl rfl (by simp [Value.oneCell']) (wt0 rfl) fun w' HH81 => hK80 _ _ (by exact HH81.sel [] (by decide) rfl) ?_
  have HS82 := HH81.sel [] (by decide) rfl
  refine dr_done (by kernel_rfl) ?_
  clear HH8 a_6 HE7 a_11 HE12 a_13 HE14 a_15 HE16 a_17 HE18 a_19 HE20 a_21 HE22 a_23 HE24 a_25 HE26 a_27 HE28 a_29 HE30 a_31 HE32 a_33 HE34 a_35 HE36 a_37 HE38 a_39 HE40 a_41 HE42 a_43 HE44 a_45 HE46 a_47 HE48 a_49 HE50 a_51 HE52 a_53 HE54 a_55 HE56 HH9 a_57 HE58 HS10 K_59 hK60 HH61 a_62 HE63 HS64 K_65 hK66 HH67 a_68 HE69 HS70 a_74 HE75 K_71 hK72 HH73 HS76 hK80 K_79
  refine nrm ?_
  refine wp_ret ?_
  refine ret1 HE78 rfl (rv_cell rfl (tv_104.loadN (cs := [.int .i64 ((a0.1 + a1)), .slice Ar22_0 (a0.2.1.length) cr22_0, .slice Ar23_0 (a0.2.2.1.length) cr23_0, .slice Ar24_0 (a0.2.2.2.1.length) cr24_0, .int .i64 ((a0.2.2.2.2 + a1))]) rfl (c_blkN 3 rfl _ HH81))) ?_
  have HH83 := HH81.sel [2, 1, 0, 3] (by decide) rfl
  have HH84 := HH83.sel [2, 0, 1, 3] (by decide) rfl
  have HH85 := HH84.pairB (F := eInt) (c2 := [.int .i64 ((a0.2.2.2.2 + a1))]) (y := (a0.2.2.2.2 + a1)) (oI (by exact ⟨by omega, by omega⟩))
  have HH86 := HH85.sel [2, 0, 1, 3] (by decide) rfl
  have HH87 := HH86.pair
  have HH88 := HH87.sel [1, 0, 2] (by decide) rfl
  have HH89 := HH88.pair
  have HH90 := HH89.pairF (E := eInt) (c1 := [.int .i64 ((a0.1 + a1))]) (x := (a0.1 + a1)) (oI (by exact ⟨by omega, by omega⟩))
  obtain ⟨S25, HH91⟩ : ∃ S, Held Nob w (rO eMultiRule S [.int .i64 ((a0.1 + a1)), .slice Ar22_0 (a0.2.1.length) cr22_0, .slice Ar23_0 (a0.2.2.1.length) cr23_0, .slice Ar24_0 (a0.2.2.2.1.length) cr24_0, .int .i64 ((a0.2.2.2.2 + a1))] ((a0.1 + a1), a0.2.1, a0.2.2.1, a0.2.2.2.1, (a0.2.2.2.2 + a1)) :: _) _ := ⟨_, HH90⟩
  have hF : (moveR2 a0 a1) = ((a0.1 + a1), a0.2.1, a0.2.2.1, a0.2.2.2.1, (a0.2.2.2.2 + a1)) := by
    rfl
  exact ⟨_, rfl, by rw [hF]; exact (HH91.o (i := 0) rfl), HH91.below⟩

end Go.Proofs.Ythfihlfjphiihaa
