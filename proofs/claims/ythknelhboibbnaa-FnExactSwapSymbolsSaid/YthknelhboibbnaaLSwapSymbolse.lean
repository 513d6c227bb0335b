/- What the proof of FnExactSwapSymbols needs: contracts of the functions that it reaches, each once. -/
import Derived.Test.YthknelhboibbnaaProg
import Derived.Test.YthknelhboibbnaaQMem
import Derived.Test.YthknelhboibbnaaQOpen
import Derived.Test.YthknelhboibbnaaLSwapSymbolsa
import Derived.Test.YthknelhboibbnaaLSwapSymbolsb
import Derived.Test.YthknelhboibbnaaLSwapSymbolsc
import Derived.Test.YthknelhboibbnaaLSwapSymbolsd
import Derived.WalkKit
import Derived.WalkSpells
import Derived.Below
import Derived.LoopTactic
import Derived.Outline
import Derived.Deep.QuietTactic
import Derived.BigQuiet
import Derived.Deep.LoopGhost
import Derived.Handy
import Derived.Lib.Hide
import Derived.Shelf.Abstract
import Derived.StillTailTactics
import Derived.OwnWalk
import Derived.Maps.AppendAt
import Derived.RegionTactic
import Derived.Deep.RegionHeld3
import Derived.IntWalk
import Derived.Deep.Upon
import Derived.Laws.OwnMore
import Derived.Maps.AppendAt
import Derived.Lib.FrozenHead
import Derived.Lib.RuneBytes
import Derived.Lib.LaidTab
import Derived.Laws.StructEq
import Derived.Lib.SliceRun
import Derived.Lib.AppendZeros
import Derived.Shelf.SortG.Plain
import Derived.Shelf.SortG.SortNone
import Derived.Shelf.SlicesG.CompactI
import Derived.Shelf.SlicesG.SearchI
import Derived.Sort.OwnSortedInts
import Derived.Lib.RowBridge
import Derived.Lib.ItoaLen
import Derived.Lib.Join
import Derived.Shelf.Strconv.Itoa4
import Derived.Shelf.Strings.OnBuilder
import Derived.Shelf.Strings.BuilderK
import Derived.Shelf.Strings.BuilderRune
import Derived.Shelf.LaysM
import Derived.Ground.NamesProg
namespace Go.Proofs.Ythknelhboibbnaa
open Go.RowKit

set_option maxRecDepth 100000 in
set_option maxHeartbeats 4000000 in
theorem spec_l05Rename (p0 o0 : Nat) (es0 : List Value) (a0 : tMachine) (A1 : Option Addr) (c1 : Nat) (a1 : (List Int)) (A2 : Option Addr) (c2 : Nat) (a2 : (List Int)) (w : World) (h0 : eMachine.R w (Old w) es0 a0) (hq0 : ∀ j v, es0[j]? = some v → w.cell? ⟨p0, o0 + j, none⟩ = some v) (h1 : Sl eInt w (Old w) A1 c1 a1) (h2 : Sl eInt w (Old w) A2 c2 a2) (s0 : validMach a0 = true) (s1 : lkOk a1 a0.2.1) (s2 : lkOk a2 a0.1) :
    Calls Try.prog 57 #[.pointer (some ⟨p0, o0, none⟩), .slice A1 a1.length c1, .slice A2 a2.length c2] w fun e w' => ∃ (es0' : List Value), e = .returned (.agg es0'.toArray) ∧ eMachine.O w' (Fr w w') es0' (renI a0 (lkF a1) (lkF a2)) ∧ Below w.heap.size w w' := by
  have H0 := h0
  obtain ⟨Az0_2, cz0_2, rfl, gz0_0, gz0_1, gz0_2⟩ := shape_Machine h0
  have jz0_0 := gz0_0; unfold I64 at jz0_0
  have jz0_1 := gz0_1; unfold I64 at jz0_1
  have lz0_2 := gz0_2.len
  have l1 := h1.len
  have l2 := h2.len
  obtain ⟨v0, v1, v2, v3⟩ := validMach_facts s0
  have l1 := s1.1
  have l2 := s2.1
  have l3 := mul_bd2 v0 v1
  have HH1 := Held.start Nob w
  refine enter (n := 77) Try.func57 rfl rfl rfl fun a_2 HE3 => ?_
  refine wp_seq ?_
  refine rg ?_
  refine pl fun K_4 hK5 => ?_
  refine st_alloc HE3 HH1 tv_48 (wt0 rfl) rfl fun q21 a_6 w' HE7 HH8 => hK5 _ _ ?_
  refine wpList_nil ?_
  clear a_2 HE3 HH1 hK5 K_4
  refine nrm ?_
  refine wp_seq ?_
  refine rg ?_
  refine pl_x HE7 HH8 (wt0 rfl) (x_move rfl) rfl rfl fun a_9 HE10 => ?_
  refine pl fun K_11 hK12 => ?_
  refine st_call HE10 (wt0 rfl) rfl rfl rfl en_88 rfl rfl (spec_l05Own _ _ _ a0 _ (HH8.oldR H0) (c_oldN hq0 _ HH8) (by omega)) fun e w' hr => ?_
  obtain ⟨esr22_0, rfl, hor22_0, hbr22⟩ := hr
  have hr := eMachine.read hor22_0
  obtain ⟨Sr22, HH13⟩ := HH8.newO hbr22 hor22_0
  obtain ⟨Ar22_0_2, cr22_0_2, rfl, gr22_0_0, gr22_0_1, gr22_0_2⟩ := shape_Machine hr
  have jr22_0_0 := gr22_0_0; unfold I64 at jr22_0_0
  have jr22_0_1 := gr22_0_1; unfold I64 at jr22_0_1
  have HH14 := HH13.unF rfl
  have HH15 := HH14.unF rfl
  refine ⟨_, rfl, fun a_16 HE17 => hK12 _ _ ?_⟩
  refine pl fun K_18 hK19 => ?_
  refine st_alloc HE17 HH15 tv_48 (wt0 rfl) rfl fun q23 a_20 w' HE21 HH22 => hK19 _ _ ?_
  refine pl fun K_23 hK24 => ?_
  refine st_store (vs := [.int .i64 (a0.1), .int .i64 (a0.2.1), .slice Ar22_0_2 (a0.2.2.length) cr22_0_2]) 0 HE21 HH22 tv_48 rfl rfl rfl rfl rfl rfl (by simp [Value.oneCell']) (wt0 rfl) fun w' HH25 => hK24 _ _ ?_
  refine wpList_nil ?_
  clear a_6 HE7 HH8 HH13 HH14 a_9 HE10 K_11 hK12 a_16 HE17 HH15 K_18 hK19 HH22 hK24 K_23
  refine nrm ?_
  refine wp_seq ?_
  refine wp_seq ?_
  refine rg ?_
  refine pl_x HE21 HH25 (wt0 rfl) (x_assign rfl) rfl rfl fun a_26 HE27 => ?_
  refine wpList_nil ?_
  clear a_20 HE21
  refine nrm ?_
  refine wp_block ?_
  refine lp (fun m a w' => ∃ (k : Nat) (S_7_2 : Nat → Prop), m = a0.2.1.toNat - k ∧ Env 77 [(8, .int .i64 (k : Int)), (0, .pointer (some ⟨p0, o0, none⟩)), (1, .slice A1 (a1.length) c1), (2, .slice A2 (a2.length) c2), (6, .pointer (some ⟨q21, 0, none⟩)), (7, .pointer (some ⟨q23, 0, none⟩))] a ∧ Held Nob w [rSo eRule S_7_2 Ar22_0_2 cr22_0_2 (renTo a0 (lkF a1) (lkF a2) (((k : Nat) : Int) * a0.1 + ((0 : Nat) : Int)).toNat), rBlk q23 48 [.int .i64 a0.1, .int .i64 a0.2.1, .slice Ar22_0_2 (List.length (renTo a0 (lkF a1) (lkF a2) (((k : Nat) : Int) * a0.1 + ((0 : Nat) : Int)).toNat)) cr22_0_2], rBlk q21 48 [.int .i64 (0), .int .i64 (0), .slice none (0) 0]] w' ∧ ((k : Int) ≤ a0.2.1)) (a0.2.1.toNat - (0)) ?_ ?_
  · have E24 : renTo a0 (lkF a1) (lkF a2) (((0 : Nat) : Int) * a0.1 + ((0 : Nat) : Int)).toNat = a0.2.2 := by
      simp [renTo_zero]
    exact ⟨0, Sr22, rfl, HE27.sub ⟨(lkI rfl (by first | rfl | omega | (simp []; done))), rfl, rfl, rfl, rfl, rfl, trivial⟩, ((HH25.sel [1, 0, 2] (by decide) rfl).to (by first | rfl | (rw [E24]; done) | (rw [E24]; rfl) | (simp only [E24]; done) | (simp only [E24]; rfl) | (rw [E24]; simp only [List.length_set]; done))), (by first | omega | assumption | (simp; done) | simp_all)⟩
  · rintro m a_28 w' ⟨k, S_7_2, rfl, HE29, HH30, p25_0⟩
    refine wp_seq ?_
    refine wp_seq ?_
    refine rg ?_
    refine pl_x HE29 HH30 (wt0 rfl) (x_move rfl) rfl rfl fun a_31 HE32 => ?_
    refine pl_x HE32 HH30 (wt0 rfl) (x_move rfl) rfl rfl fun a_33 HE34 => ?_
    refine pl_x HE34 HH30 (wt0 rfl) (x_nilCheck rfl) rfl rfl fun a_35 HE36 => ?_
    refine pl_x HE36 HH30 (wt0 rfl) (x_fieldAddr fa_48_1 rfl) rfl rfl fun a_37 HE38 => ?_
    refine pl_x HE38 HH30 (wt0 rfl) (x_load1 tv_2 rfl (c_old (hq0 1 _ rfl))) rfl rfl fun a_39 HE40 => ?_
    refine pl_x HE40 HH30 (wt0 rfl) (x_lss rfl rfl) rfl rfl fun a_41 HE42 => ?_
    refine wpList_nil ?_
    clear a_26 HE27 HH25 a_28 HE29 a_31 HE32 a_33 HE34 a_35 HE36 a_37 HE38 a_39 HE40
    refine nrm ?_
    refine cnd_d HE42 rfl (fun hc26 => ?_) (fun hc26 => ?_)
    · have d0 := at_bd v0 v1 (a := (k : Int)) (b := 0) (by omega) (by omega)
      refine wp_skip ?_
      refine nrm ?_
      refine wp_seq ?_
      refine wp_block ?_
      refine wp_seq ?_
      refine rg ?_
      refine pl_x HE42 HH30 (wt0 rfl) (x_assign rfl) rfl rfl fun a_43 HE44 => ?_
      refine wpList_nil ?_
      clear a_41 HE42
      refine nrm ?_
      refine wp_block ?_
      refine lp (fun m a w' => ∃ (x : Nat) (S_7_2 : Nat → Prop), m = a0.1.toNat - x ∧ Env 77 [(9, .int .i64 (x : Int)), (0, .pointer (some ⟨p0, o0, none⟩)), (1, .slice A1 (a1.length) c1), (2, .slice A2 (a2.length) c2), (6, .pointer (some ⟨q21, 0, none⟩)), (7, .pointer (some ⟨q23, 0, none⟩)), (8, .int .i64 ((k : Int)))] a ∧ Held Nob w [rSo eRule S_7_2 Ar22_0_2 cr22_0_2 (renTo a0 (lkF a1) (lkF a2) (((k : Nat) : Int) * a0.1 + ((x : Nat) : Int)).toNat), rBlk q23 48 [.int .i64 a0.1, .int .i64 a0.2.1, .slice Ar22_0_2 (List.length (renTo a0 (lkF a1) (lkF a2) (((k : Nat) : Int) * a0.1 + ((x : Nat) : Int)).toNat)) cr22_0_2], rBlk q21 48 [.int .i64 (0), .int .i64 (0), .slice none (0) 0]] w' ∧ ((x : Int) ≤ a0.1)) (a0.1.toNat - (0)) ?_ ?_
      · exact ⟨0, S_7_2, rfl, HE44.sub ⟨(lkI rfl (by first | rfl | omega | (simp [p25_0, hc26]; done))), rfl, rfl, rfl, rfl, rfl, rfl, trivial⟩, (HH30.sel [0, 1, 2] (by decide) rfl), (by first | omega | assumption | (simp; done) | simp_all)⟩
      · rintro m a_45 w' ⟨x, S_7_2, rfl, HE46, HH47, p27_0⟩
        have hl0 := renTo_len a0 (lkF a1) (lkF a2) (((k : Nat) : Int) * a0.1 + ((x : Nat) : Int)).toNat
        refine wp_seq ?_
        refine wp_seq ?_
        refine rg ?_
        refine pl_x HE46 HH47 (wt0 rfl) (x_move rfl) rfl rfl fun a_48 HE49 => ?_
        refine pl_x HE49 HH47 (wt0 rfl) (x_move rfl) rfl rfl fun a_50 HE51 => ?_
        refine pl_x HE51 HH47 (wt0 rfl) (x_nilCheck rfl) rfl rfl fun a_52 HE53 => ?_
        refine pl_x HE53 HH47 (wt0 rfl) (x_fieldAddr fa_48_0 rfl) rfl rfl fun a_54 HE55 => ?_
        refine pl_x HE55 HH47 (wt0 rfl) (x_load1 tv_2 rfl (c_old (hq0 0 _ rfl))) rfl rfl fun a_56 HE57 => ?_
        refine pl_x HE57 HH47 (wt0 rfl) (x_lss rfl rfl) rfl rfl fun a_58 HE59 => ?_
        refine wpList_nil ?_
        clear a_43 HE44 HH30 a_45 HE46 a_48 HE49 a_50 HE51 a_52 HE53 a_54 HE55 a_56 HE57
        refine nrm ?_
        refine cnd_d HE59 rfl (fun hc28 => ?_) (fun hc28 => ?_)
        · have d1 := at_bd v0 v1 (a := (k : Int)) (b := (x : Int)) (by omega) (by omega)
          refine wp_skip ?_
          refine nrm ?_
          refine wp_seq ?_
          refine wp_block ?_
          refine wp_seq ?_
          refine dr_start (Held Nob w [rSo eRule S_7_2 Ar22_0_2 cr22_0_2 (renTo a0 (lkF a1) (lkF a2) (((k : Nat) : Int) * a0.1 + ((x : Nat) : Int)).toNat), rBlk q23 48 [.int .i64 (a0.1), .int .i64 (a0.2.1), .slice Ar22_0_2 ((List.length (renTo a0 (lkF a1) (lkF a2) (((k : Nat) : Int) * a0.1 + ((x : Nat) : Int)).toNat))) cr22_0_2], rBlk q21 48 [.int .i64 (0), .int .i64 (0), .slice none (0) 0]]) 16 #[false, false, false, false, false, false, false, false, false, false, false, false, false, false, false, false] hmix rfl rfl HH47 (fun _ h => h.sel [0, 1, 2] (by decide) rfl) fun w' HH60 => ?_
          have HS61 := HH60
          refine dr_take (i := 0) (ls' := #[true, false, false, false, false, false, false, false, false, false, false, false, false, false, false, false]) HE59 HS61 rfl (by kernel_rfl) (by kernel_rfl) (by kernel_rfl) (fun _ _ _ h => h) rfl (wt0 rfl) (x_move rfl) rfl rfl fun a_62 HE63 => ?_
          refine dr_take (i := 1) (ls' := #[true, true, false, false, false, false, false, false, false, false, false, false, false, false, false, false]) HE63 HS61 rfl (by kernel_rfl) (by kernel_rfl) (by kernel_rfl) (fun _ _ _ h => h) rfl (wt0 rfl) (x_nilCheck rfl) rfl rfl fun a_64 HE65 => ?_
          refine dr_take (i := 2) (ls' := #[true, true, true, false, false, false, false, false, false, false, false, false, false, false, false, false]) HE65 HS61 rfl (by kernel_rfl) (by kernel_rfl) (by kernel_rfl) (fun _ _ _ h => h) rfl (wt0 rfl) (x_fieldAddr fa_48_2 rfl) rfl rfl fun a_66 HE67 => ?_
          refine dr_take (i := 3) (ls' := #[true, true, true, true, false, false, false, false, false, false, false, false, false, false, false, false]) HE67 HS61 rfl (by kernel_rfl) (by kernel_rfl) (by kernel_rfl) (fun _ _ _ h => h) rfl (wt0 rfl) (x_load1 tv_46 rfl (c_old (hq0 2 _ rfl))) rfl rfl fun a_68 HE69 => ?_
          refine dr_take (i := 4) (ls' := #[true, true, true, true, true, false, false, false, false, false, false, false, false, false, false, false]) HE69 HS61 rfl (by kernel_rfl) (by kernel_rfl) (by kernel_rfl) (fun _ _ _ h => h) rfl (wt0 rfl) (x_move rfl) rfl rfl fun a_70 HE71 => ?_
          refine dr_take (i := 5) (ls' := #[true, true, true, true, true, true, false, false, false, false, false, false, false, false, false, false]) HE71 HS61 rfl (by kernel_rfl) (by kernel_rfl) (by kernel_rfl) (fun _ _ _ h => h) rfl (wt0 rfl) (x_move rfl) rfl rfl fun a_72 HE73 => ?_
          refine dr_take (i := 6) (ls' := #[true, true, true, true, true, true, true, false, false, false, false, false, false, false, false, false]) HE73 HS61 rfl (by kernel_rfl) (by kernel_rfl) (by kernel_rfl) (fun _ _ _ h => h) rfl (wt0 rfl) (x_nilCheck rfl) rfl rfl fun a_74 HE75 => ?_
          refine dr_take (i := 7) (ls' := #[true, true, true, true, true, true, true, true, false, false, false, false, false, false, false, false]) HE75 HS61 rfl (by kernel_rfl) (by kernel_rfl) (by kernel_rfl) (fun _ _ _ h => h) rfl (wt0 rfl) (x_fieldAddr fa_48_0 rfl) rfl rfl fun a_76 HE77 => ?_
          refine dr_take (i := 8) (ls' := #[true, true, true, true, true, true, true, true, true, false, false, false, false, false, false, false]) HE77 HS61 rfl (by kernel_rfl) (by kernel_rfl) (by kernel_rfl) (fun _ _ _ h => h) rfl (wt0 rfl) (x_load1 tv_2 rfl (c_old (hq0 0 _ rfl))) rfl rfl fun a_78 HE79 => ?_
          refine dr_take (i := 9) (ls' := #[true, true, true, true, true, true, true, true, true, true, false, false, false, false, false, false]) HE79 HS61 rfl (by kernel_rfl) (by kernel_rfl) (by kernel_rfl) (fun _ _ _ h => h) rfl (wt0 rfl) (x_mul rfl rfl (by exact ⟨by omega, by omega⟩)) rfl rfl fun a_80 HE81 => ?_
          refine dr_take (i := 10) (ls' := #[true, true, true, true, true, true, true, true, true, true, true, false, false, false, false, false]) HE81 HS61 rfl (by kernel_rfl) (by kernel_rfl) (by kernel_rfl) (fun _ _ _ h => h) rfl (wt0 rfl) (x_move rfl) rfl rfl fun a_82 HE83 => ?_
          refine dr_take (i := 11) (ls' := #[true, true, true, true, true, true, true, true, true, true, true, true, false, false, false, false]) HE83 HS61 rfl (by kernel_rfl) (by kernel_rfl) (by kernel_rfl) (fun _ _ _ h => h) rfl (wt0 rfl) (x_add rfl rfl (by exact ⟨by omega, by omega⟩)) rfl rfl fun a_84 HE85 => ?_
          have ke29 : ((((k : Int) * a0.1) + (x : Int))).toNat < a0.2.2.length := by omega
          obtain ⟨be29, fe29, ese29, Ae29, Re29, De29⟩ := el_old gz0_2 ke29
          obtain ⟨e29, xe29⟩ : ∃ x_, x_ = a0.2.2[((((k : Int) * a0.1) + (x : Int))).toNat] := ⟨_, rfl⟩
          rw [← xe29] at Re29
          have Qe29 := Re29
          obtain ⟨rfl, ge29_0, ge29_1, ge29_2⟩ := shape_Rule Re29
          have je29_0 := ge29_0; unfold I64 at je29_0
          have je29_1 := ge29_1; unfold I64 at je29_1
          have je29_2 := ge29_2; unfold I64 at je29_2
          have hx0 : e29 = a0.2.2[((((k : Int) * a0.1) + (x : Int))).toNat] := xe29
          have hy0 : ((((k : Int) * a0.1) + (x : Int))).toNat < a0.2.2.length := by omega
          have be29 := validMach_rule s0 e29 (by rw [xe29]; exact List.getElem_mem _)
          refine dr_take (i := 12) (ls' := #[true, true, true, true, true, true, true, true, true, true, true, true, true, false, false, false]) HE85 HS61 rfl (by kernel_rfl) (by kernel_rfl) (by kernel_rfl) (fun _ _ _ h => h) rfl (wt0 rfl) (x_indexAddr ts_46 rfl rfl Ae29 (by omega) ke29) rfl rfl fun a_86 HE87 => ?_
          refine dr_take (i := 13) (ls' := #[true, true, true, true, true, true, true, true, true, true, true, true, true, true, false, false]) HE87 HS61 rfl (by kernel_rfl) (by kernel_rfl) (by kernel_rfl) (fun _ _ _ h => h) rfl (wt0 rfl) (x_loadN (cs := [.int .i64 (e29.1), .int .i64 (e29.2.1), .int .i64 (e29.2.2)]) tv_114 rfl rfl (c_oldN De29)) rfl rfl fun a_88 HE89 => ?_
          refine dr_one (i := 14) (ls' := #[true, true, true, true, true, true, true, true, true, true, true, true, true, true, true, false]) rfl (by kernel_rfl) rfl fun K_90 hK91 => ?_
          refine st_alloc HE89 HH60 tv_114 (wt0 rfl) rfl fun q30 a_92 w' HE93 HH94 => hK91 _ _ (by exact HH94.sel [1, 2, 3] (by decide) rfl) ?_
          have HS95 := HH94.sel [1, 2, 3] (by decide) rfl
          refine dr_one (i := 15) (ls' := #[true, true, true, true, true, true, true, true, true, true, true, true, true, true, true, true]) rfl (by kernel_rfl) rfl fun K_96 hK97 => ?_
          refine st_store (vs := [.int .i64 (e29.1), .int .i64 (e29.2.1), .int .i64 (e29.2.2)]) 0 HE93 HH94 tv_114 rfl rfl rfl rfl rfl rfl (by simp [Value.oneCell']) (wt0 rfl) fun w' HH98 => hK97 _ _ (by exact HH98.sel [1, 2, 3] (by decide) rfl) ?_
          have HS99 := HH98.sel [1, 2, 3] (by decide) rfl
          refine dr_done (by kernel_rfl) ?_
          clear HH47 a_58 HE59 a_62 HE63 a_64 HE65 a_66 HE67 a_68 HE69 a_70 HE71 a_72 HE73 a_74 HE75 a_76 HE77 a_78 HE79 a_80 HE81 a_82 HE83 a_84 HE85 a_86 HE87 a_88 HE89 HH60 HS61 K_90 hK91 HH94 HS95 hK97 K_96
          refine nrm ?_
          refine wp_seq ?_
          refine wp_seq ?_
          refine dr_start (Held Nob w [rBlk q30 114 [.int .i64 (e29.1), .int .i64 (e29.2.1), .int .i64 (e29.2.2)], rSo eRule S_7_2 Ar22_0_2 cr22_0_2 (renTo a0 (lkF a1) (lkF a2) (((k : Nat) : Int) * a0.1 + ((x : Nat) : Int)).toNat), rBlk q23 48 [.int .i64 (a0.1), .int .i64 (a0.2.1), .slice Ar22_0_2 ((List.length (renTo a0 (lkF a1) (lkF a2) (((k : Nat) : Int) * a0.1 + ((x : Nat) : Int)).toNat))) cr22_0_2], rBlk q21 48 [.int .i64 (0), .int .i64 (0), .slice none (0) 0]]) 3 #[false, false, false] hmix rfl rfl HH98 (fun _ h => h.sel [0, 1, 2, 3] (by decide) rfl) fun w' HH100 => ?_
          have HS101 := HH100
          refine dr_take (i := 0) (ls' := #[true, false, false]) HE93 HS101 rfl (by kernel_rfl) (by kernel_rfl) (by kernel_rfl) (fun _ _ _ h => h) rfl (wt0 rfl) (x_loadN (cs := [.int .i64 (e29.1), .int .i64 (e29.2.1), .int .i64 (e29.2.2)]) tv_114 rfl rfl (c_blkN 0 rfl)) rfl rfl fun a_102 HE103 => ?_
          refine dr_one (i := 1) (ls' := #[true, true, false]) rfl (by kernel_rfl) rfl fun K_104 hK105 => ?_
          refine st_call HE103 (wt0 rfl) rfl rfl rfl en_89 rfl rfl (spec_l05None  _ ) fun e w' hr => ?_
          obtain ⟨esr31_0, rfl, hor31_0, hbr31⟩ := hr
          have hr := eRule.read hor31_0
          obtain ⟨Sr31, HH106⟩ := HH100.newO hbr31 hor31_0
          obtain ⟨rfl, gr31_0_0, gr31_0_1, gr31_0_2⟩ := shape_Rule hr
          have jr31_0_0 := gr31_0_0; unfold I64 at jr31_0_0
          have jr31_0_1 := gr31_0_1; unfold I64 at jr31_0_1
          have jr31_0_2 := gr31_0_2; unfold I64 at jr31_0_2
          have HH107 := HH106.sel [1, 2, 3, 4] (by decide) rfl
          refine ⟨_, rfl, fun a_108 HE109 => hK105 _ _ (by exact HH107.sel [0, 1, 2, 3] (by decide) rfl) ?_⟩
          have HS110 := HH107.sel [0, 1, 2, 3] (by decide) rfl
          refine dr_take (i := 2) (ls' := #[true, true, true]) HE109 HS110 rfl (by kernel_rfl) (by kernel_rfl) (by kernel_rfl) (fun _ _ _ h => h) rfl (wt0 rfl) (x_aneq eqg_Rule (fun w => eqr_Rule w _ _ _ _ _ _) rfl rfl) rfl rfl fun a_111 HE112 => ?_
          refine dr_done (by kernel_rfl) ?_
          clear HH98 HS99 a_92 HE93 HH100 HH106 a_102 HE103 HS101 a_108 HE109 hK105 K_104
          refine nrm ?_
          refine cnd_nb HE112 rfl (fun hc32 => ?_) (fun hc32 => ?_)
          · have hr0 : isRl e29 = true := by unfold isRl; rw [hc32]; rfl
            obtain ⟨r0, r1⟩ := be29 hr0
            refine wp_seq ?_
            refine rg ?_
            refine pl_x HE112 HH107 (wt0 rfl) (x_move rfl) rfl rfl fun a_113 HE114 => ?_
            refine pl_x HE114 HH107 (wt0 rfl) (x_fieldAddr fa_114_0 rfl) rfl rfl fun a_115 HE116 => ?_
            refine pl_x HE116 HH107 (wt0 rfl) (x_load1 tv_2 rfl (c_blk 0 rfl rfl)) rfl rfl fun a_117 HE118 => ?_
            have ke33 : (e29.1).toNat < a2.length := by omega
            obtain ⟨be33, fe33, ese33, Ae33, Re33, De33⟩ := el_old h2 ke33
            obtain ⟨e33, xe33⟩ : ∃ x_, x_ = a2[(e29.1).toNat] := ⟨_, rfl⟩
            rw [← xe33] at Re33
            have Qe33 := Re33
            obtain ⟨rfl, ie33⟩ := Re33
            have je33 := ie33; unfold I64 at je33
            have le33 : lkF a2 (((e29.1).toNat : Nat) : Int) = e33 := by unfold lkF lkX; rw [Int.toNat_natCast, List.getElem?_eq_getElem (by omega), ← xe33]; rfl
            try rw [Int.toNat_of_nonneg (by omega)] at le33
            have ze33 : 0 ≤ e33 ∧ e33 < a0.1 := by rw [← le33]; exact s2.2 _ (by omega)
            try have zxe33 := zz0 _ ze33
            refine pl_x HE118 HH107 (wt0 rfl) (x_indexAddr ts_44 rfl rfl Ae33 (by omega) ke33) rfl rfl fun a_119 HE120 => ?_
            refine pl_x HE120 HH107 (wt0 rfl) (x_load1 tv_2 rfl (c_old (De33 0 _ rfl))) rfl rfl fun a_121 HE122 => ?_
            refine pl_x HE122 HH107 (wt0 rfl) (x_fieldAddr fa_114_0 rfl) rfl rfl fun a_123 HE124 => ?_
            refine pl fun K_125 hK126 => ?_
            refine st_store (vs := [.int .i64 (e33)]) 0 HE124 HH107 tv_2 rfl rfl rfl rfl rfl rfl (by simp [Value.oneCell']) (wt0 rfl) fun w' HH127 => hK126 _ _ ?_
            refine wpList_nil ?_
            clear a_111 HE112 a_113 HE114 a_115 HE116 a_117 HE118 a_119 HE120 a_121 HE122 HH107 hK126 K_125
            refine nrm ?_
            refine rg ?_
            refine pl_x HE124 HH127 (wt0 rfl) (x_move rfl) rfl rfl fun a_128 HE129 => ?_
            refine pl_x HE129 HH127 (wt0 rfl) (x_fieldAddr fa_114_2 rfl) rfl rfl fun a_130 HE131 => ?_
            refine pl_x HE131 HH127 (wt0 rfl) (x_load1 tv_2 rfl (c_blk 0 rfl rfl)) rfl rfl fun a_132 HE133 => ?_
            have ke34 : (e29.2.2).toNat < a1.length := by omega
            obtain ⟨be34, fe34, ese34, Ae34, Re34, De34⟩ := el_old h1 ke34
            obtain ⟨e34, xe34⟩ : ∃ x_, x_ = a1[(e29.2.2).toNat] := ⟨_, rfl⟩
            rw [← xe34] at Re34
            have Qe34 := Re34
            obtain ⟨rfl, ie34⟩ := Re34
            have je34 := ie34; unfold I64 at je34
            have le34 : lkF a1 (((e29.2.2).toNat : Nat) : Int) = e34 := by unfold lkF lkX; rw [Int.toNat_natCast, List.getElem?_eq_getElem (by omega), ← xe34]; rfl
            try rw [Int.toNat_of_nonneg (by omega)] at le34
            have ze34 : 0 ≤ e34 ∧ e34 < a0.2.1 := by rw [← le34]; exact s1.2 _ (by omega)
            have zz0 := fun (b : Int) (hb : 0 ≤ b ∧ b < a0.1) => at_bd v0 v1 ze34 hb
            have zye34 := zz0 0 (by omega)
            refine pl_x HE133 HH127 (wt0 rfl) (x_indexAddr ts_44 rfl rfl Ae34 (by omega) ke34) rfl rfl fun a_134 HE135 => ?_
            refine pl_x HE135 HH127 (wt0 rfl) (x_load1 tv_2 rfl (c_old (De34 0 _ rfl))) rfl rfl fun a_136 HE137 => ?_
            refine pl_x HE137 HH127 (wt0 rfl) (x_fieldAddr fa_114_2 rfl) rfl rfl fun a_138 HE139 => ?_
            refine pl fun K_140 hK141 => ?_
            refine st_store (vs := [.int .i64 (e34)]) 0 HE139 HH127 tv_2 rfl rfl rfl rfl rfl rfl (by simp [Value.oneCell']) (wt0 rfl) fun w' HH142 => hK141 _ _ ?_
            refine wpList_nil ?_
            clear a_123 HE124 a_128 HE129 a_130 HE131 a_132 HE133 a_134 HE135 a_136 HE137 HH127 hK141 K_140
            refine nrm ?_
            refine dr_start (Held Nob w [rBlk q30 114 [.int .i64 (e33), .int .i64 (e29.2.1), .int .i64 (e34)], rBlk q23 48 [.int .i64 (a0.1), .int .i64 (a0.2.1), .slice Ar22_0_2 ((List.length (renTo a0 (lkF a1) (lkF a2) (((k : Nat) : Int) * a0.1 + ((x : Nat) : Int)).toNat))) cr22_0_2], rBlk q21 48 [.int .i64 (0), .int .i64 (0), .slice none (0) 0]]) 19 #[false, false, false, false, false, false, false, false, false, false, false, false, false, false, false, false, false, false, false] hmix rfl rfl HH142 (fun _ h => h.sel [0, 2, 3] (by decide) rfl) fun w' HH143 => ?_
            have HS144 := HH143.sel [0, 2, 3] (by decide) rfl
            refine dr_take (i := 0) (ls' := #[true, false, false, false, false, false, false, false, false, false, false, false, false, false, false, false, false, false, false]) HE139 HS144 rfl (by kernel_rfl) (by kernel_rfl) (by kernel_rfl) (fun _ _ _ h => h) rfl (wt0 rfl) (x_fieldAddr fa_48_2 rfl) rfl rfl fun a_145 HE146 => ?_
            refine dr_take (i := 1) (ls' := #[true, true, false, false, false, false, false, false, false, false, false, false, false, false, false, false, false, false, false]) HE146 HS144 rfl (by kernel_rfl) (by kernel_rfl) (by kernel_rfl) (fun _ _ _ h => h) rfl (wt0 rfl) (x_load1 tv_46 rfl (c_blk 1 rfl rfl)) rfl rfl fun a_147 HE148 => ?_
            refine dr_take (i := 2) (ls' := #[true, true, true, false, false, false, false, false, false, false, false, false, false, false, false, false, false, false, false]) HE148 HS144 rfl (by kernel_rfl) (by kernel_rfl) (by kernel_rfl) (fun _ _ _ h => h) rfl (wt0 rfl) (x_move rfl) rfl rfl fun a_149 HE150 => ?_
            refine dr_take (i := 3) (ls' := #[true, true, true, true, false, false, false, false, false, false, false, false, false, false, false, false, false, false, false]) HE150 HS144 rfl (by kernel_rfl) (by kernel_rfl) (by kernel_rfl) (fun _ _ _ h => h) rfl (wt0 rfl) (x_move rfl) rfl rfl fun a_151 HE152 => ?_
            have ke35 : k < a1.length := by omega
            obtain ⟨be35, fe35, ese35, Ae35, Re35, De35⟩ := el_old h1 ke35
            obtain ⟨e35, xe35⟩ : ∃ x_, x_ = a1[k] := ⟨_, rfl⟩
            rw [← xe35] at Re35
            have Qe35 := Re35
            obtain ⟨rfl, ie35⟩ := Re35
            have je35 := ie35; unfold I64 at je35
            have le35 : lkF a1 ((k : Nat) : Int) = e35 := by unfold lkF lkX; rw [Int.toNat_natCast, List.getElem?_eq_getElem (by omega), ← xe35]; rfl
            try rw [Int.toNat_of_nonneg (by omega)] at le35
            have ze35 : 0 ≤ e35 ∧ e35 < a0.2.1 := by rw [← le35]; exact s1.2 _ (by omega)
            have zz0 := fun (b : Int) (hb : 0 ≤ b ∧ b < a0.1) => at_bd v0 v1 ze35 hb
            have zye35 := zz0 0 (by omega)
            refine dr_take (i := 4) (ls' := #[true, true, true, true, true, false, false, false, false, false, false, false, false, false, false, false, false, false, false]) HE152 HS144 rfl (by kernel_rfl) (by kernel_rfl) (by kernel_rfl) (fun _ _ _ h => h) rfl (wt0 rfl) (x_indexAddr ts_44 rfl rfl Ae35 rfl ke35) rfl rfl fun a_153 HE154 => ?_
            refine dr_take (i := 5) (ls' := #[true, true, true, true, true, true, false, false, false, false, false, false, false, false, false, false, false, false, false]) HE154 HS144 rfl (by kernel_rfl) (by kernel_rfl) (by kernel_rfl) (fun _ _ _ h => h) rfl (wt0 rfl) (x_load1 tv_2 rfl (c_old (De35 0 _ rfl))) rfl rfl fun a_155 HE156 => ?_
            refine dr_take (i := 6) (ls' := #[true, true, true, true, true, true, true, false, false, false, false, false, false, false, false, false, false, false, false]) HE156 HS144 rfl (by kernel_rfl) (by kernel_rfl) (by kernel_rfl) (fun _ _ _ h => h) rfl (wt0 rfl) (x_move rfl) rfl rfl fun a_157 HE158 => ?_
            refine dr_take (i := 7) (ls' := #[true, true, true, true, true, true, true, true, false, false, false, false, false, false, false, false, false, false, false]) HE158 HS144 rfl (by kernel_rfl) (by kernel_rfl) (by kernel_rfl) (fun _ _ _ h => h) rfl (wt0 rfl) (x_nilCheck rfl) rfl rfl fun a_159 HE160 => ?_
            refine dr_take (i := 8) (ls' := #[true, true, true, true, true, true, true, true, true, false, false, false, false, false, false, false, false, false, false]) HE160 HS144 rfl (by kernel_rfl) (by kernel_rfl) (by kernel_rfl) (fun _ _ _ h => h) rfl (wt0 rfl) (x_fieldAddr fa_48_0 rfl) rfl rfl fun a_161 HE162 => ?_
            refine dr_take (i := 9) (ls' := #[true, true, true, true, true, true, true, true, true, true, false, false, false, false, false, false, false, false, false]) HE162 HS144 rfl (by kernel_rfl) (by kernel_rfl) (by kernel_rfl) (fun _ _ _ h => h) rfl (wt0 rfl) (x_load1 tv_2 rfl (c_old (hq0 0 _ rfl))) rfl rfl fun a_163 HE164 => ?_
            refine dr_take (i := 10) (ls' := #[true, true, true, true, true, true, true, true, true, true, true, false, false, false, false, false, false, false, false]) HE164 HS144 rfl (by kernel_rfl) (by kernel_rfl) (by kernel_rfl) (fun _ _ _ h => h) rfl (wt0 rfl) (x_mul rfl rfl (by exact ⟨by omega, by omega⟩)) rfl rfl fun a_165 HE166 => ?_
            refine dr_take (i := 11) (ls' := #[true, true, true, true, true, true, true, true, true, true, true, true, false, false, false, false, false, false, false]) HE166 HS144 rfl (by kernel_rfl) (by kernel_rfl) (by kernel_rfl) (fun _ _ _ h => h) rfl (wt0 rfl) (x_move rfl) rfl rfl fun a_167 HE168 => ?_
            refine dr_take (i := 12) (ls' := #[true, true, true, true, true, true, true, true, true, true, true, true, true, false, false, false, false, false, false]) HE168 HS144 rfl (by kernel_rfl) (by kernel_rfl) (by kernel_rfl) (fun _ _ _ h => h) rfl (wt0 rfl) (x_move rfl) rfl rfl fun a_169 HE170 => ?_
            have ke36 : x < a2.length := by omega
            obtain ⟨be36, fe36, ese36, Ae36, Re36, De36⟩ := el_old h2 ke36
            obtain ⟨e36, xe36⟩ : ∃ x_, x_ = a2[x] := ⟨_, rfl⟩
            rw [← xe36] at Re36
            have Qe36 := Re36
            obtain ⟨rfl, ie36⟩ := Re36
            have je36 := ie36; unfold I64 at je36
            have le36 : lkF a2 ((x : Nat) : Int) = e36 := by unfold lkF lkX; rw [Int.toNat_natCast, List.getElem?_eq_getElem (by omega), ← xe36]; rfl
            try rw [Int.toNat_of_nonneg (by omega)] at le36
            have ze36 : 0 ≤ e36 ∧ e36 < a0.1 := by rw [← le36]; exact s2.2 _ (by omega)
            try have zxe36 := zz0 _ ze36
            refine dr_take (i := 13) (ls' := #[true, true, true, true, true, true, true, true, true, true, true, true, true, true, false, false, false, false, false]) HE170 HS144 rfl (by kernel_rfl) (by kernel_rfl) (by kernel_rfl) (fun _ _ _ h => h) rfl (wt0 rfl) (x_indexAddr ts_44 rfl rfl Ae36 rfl ke36) rfl rfl fun a_171 HE172 => ?_
            refine dr_take (i := 14) (ls' := #[true, true, true, true, true, true, true, true, true, true, true, true, true, true, true, false, false, false, false]) HE172 HS144 rfl (by kernel_rfl) (by kernel_rfl) (by kernel_rfl) (fun _ _ _ h => h) rfl (wt0 rfl) (x_load1 tv_2 rfl (c_old (De36 0 _ rfl))) rfl rfl fun a_173 HE174 => ?_
            refine dr_take (i := 15) (ls' := #[true, true, true, true, true, true, true, true, true, true, true, true, true, true, true, true, false, false, false]) HE174 HS144 rfl (by kernel_rfl) (by kernel_rfl) (by kernel_rfl) (fun _ _ _ h => h) rfl (wt0 rfl) (x_add rfl rfl (by exact ⟨by omega, by omega⟩)) rfl rfl fun a_175 HE176 => ?_
            refine dr_take (i := 16) (ls' := #[true, true, true, true, true, true, true, true, true, true, true, true, true, true, true, true, true, false, false]) HE176 HS144 rfl (by kernel_rfl) (by kernel_rfl) (by kernel_rfl) (fun _ _ _ h => h) rfl (wt0 rfl) (x_loadN (cs := [.int .i64 (e33), .int .i64 (e29.2.1), .int .i64 (e34)]) tv_114 rfl rfl (c_blkN 0 rfl)) rfl rfl fun a_177 HE178 => ?_
            refine dr_one (i := 17) (ls' := #[true, true, true, true, true, true, true, true, true, true, true, true, true, true, true, true, true, true, false]) rfl (by kernel_rfl) rfl fun K_179 hK180 => ?_
            have HH181 := HH143.sel [1, 0, 2, 3] (by decide) rfl
            have ke37 : (((e35 * a0.1) + e36)).toNat < List.length (renTo a0 (lkF a1) (lkF a2) (((k : Nat) : Int) * a0.1 + ((x : Nat) : Int)).toNat) := by omega
            have ne37 : (((e35 * a0.1) + e36)).toNat < (List.length (renTo a0 (lkF a1) (lkF a2) (((k : Nat) : Int) * a0.1 + ((x : Nat) : Int)).toNat)) := by omega
            obtain ⟨be37, fe37, ese37, Te37, rfl, Re37, Ze37, HH182⟩ := HH181.open ke37
            obtain ⟨e37, xe37⟩ : ∃ x_, x_ = (renTo a0 (lkF a1) (lkF a2) (((k : Nat) : Int) * a0.1 + ((x : Nat) : Int)).toNat)[(((e35 * a0.1) + e36)).toNat] := ⟨_, rfl⟩
            rw [← xe37] at Re37
            rw [← xe37] at HH182
            obtain ⟨rfl, ge37_0, ge37_1, ge37_2⟩ := shape_Rule Re37
            clear Re37
            have je37_0 := ge37_0; unfold I64 at je37_0
            have je37_1 := ge37_1; unfold I64 at je37_1
            have je37_2 := ge37_2; unfold I64 at je37_2
            refine st_x HE178 HH182 (wt0 rfl) (x_indexAddr ts_46 rfl rfl rfl (by omega) ne37) rfl rfl fun a_183 HE184 => hK180 _ _ HS144 ?_
            refine dr_one (i := 18) (ls' := #[true, true, true, true, true, true, true, true, true, true, true, true, true, true, true, true, true, true, true]) rfl (by kernel_rfl) rfl fun K_185 hK186 => ?_
            refine st_storeFN (vs := [.int .i64 (e33), .int .i64 (e29.2.1), .int .i64 (e34)]) 0 HE184 HH182 tv_114 rfl rfl rfl rfl rfl rfl rfl (by simp [Value.oneCell']) (wt0 rfl) fun w' HH187 => hK186 _ _ (by exact HH187.sel [2, 3, 4] (by decide) rfl) ?_
            have HS188 := HH187.sel [2, 3, 4] (by decide) rfl
            refine dr_done (by kernel_rfl) ?_
            clear HH142 HS110 a_138 HE139 a_145 HE146 a_147 HE148 a_149 HE150 a_151 HE152 a_153 HE154 a_155 HE156 a_157 HE158 a_159 HE160 a_161 HE162 a_163 HE164 a_165 HE166 a_167 HE168 a_169 HE170 a_171 HE172 a_173 HE174 a_175 HE176 HH143 HH181 a_177 HE178 K_179 hK180 HH182 HS144 hK186 K_185
            refine blk_n ?_
            refine nrm ?_
            refine rg ?_
            refine pl_x HE184 HH187 (wt0 rfl) (x_move rfl) rfl rfl fun a_189 HE190 => ?_
            refine pl_x HE190 HH187 (wt0 rfl) (x_add rfl rfl (by exact ⟨by omega, by omega⟩)) rfl rfl fun a_191 HE192 => ?_
            refine pl_x HE192 HH187 (wt0 rfl) (x_assign rfl) rfl rfl fun a_193 HE194 => ?_
            refine wpList_nil ?_
            clear a_183 HE184 a_189 HE190 a_191 HE192
            have HH195 := HH187.flatO (E := eRule) (cs := [.int .i64 (e33), .int .i64 (e29.2.1), .int .i64 (e34)]) (x := (e33, e29.2.1, e34)) (fun _ => (oPrN (oI (by exact ⟨by omega, by omega⟩)) (oPrN (oI (by exact ⟨by omega, by omega⟩)) (oI (by exact ⟨by omega, by omega⟩)))))
            have HH196 := HH195.sel [1, 0, 2, 3, 4, 5] (by decide) rfl
            have HH197 := HH196.shut
            obtain ⟨S38, HH198⟩ : ∃ S, Held Nob w (rSo eRule S (some ⟨be37, fe37, none⟩) cr22_0_2 ((renTo a0 (lkF a1) (lkF a2) (((k : Nat) : Int) * a0.1 + ((x : Nat) : Int)).toNat).set ((((e35 * a0.1) + e36)).toNat) (e33, e29.2.1, e34)) :: _) _ := ⟨_, HH197⟩
            have E39 : renTo a0 (lkF a1) (lkF a2) (((k : Nat) : Int) * a0.1 + (((x + 1) : Nat) : Int)).toNat = ((renTo a0 (lkF a1) (lkF a2) (((k : Nat) : Int) * a0.1 + ((x : Nat) : Int)).toNat).set ((((e35 * a0.1) + e36)).toNat) (e33, e29.2.1, e34)) := by
              rw [renTo_row (by omega) (by omega) hy0 (by rfl) hx0]; unfold rulR; rw [hr0]; grind
            exact nrm ⟨a0.1.toNat - (x + 1), (by omega), x + 1, S38, rfl, HE194.sub ⟨(lkI rfl (by first | rfl | omega | (simp [p25_0, hc26, p27_0, hc28, xe29, hc32, xe33, xe34, xe35, xe36, xe37]; done))), rfl, rfl, rfl, rfl, rfl, rfl, trivial⟩, ((HH198.sel [0, 3, 4] (by decide) rfl).to (by first | rfl | (rw [E39]; done) | (rw [E39]; rfl) | (simp only [E39]; done) | (simp only [E39]; rfl) | (rw [E39]; simp only [List.length_set]; done))), (by first | omega | assumption | (simp; done) | simp_all)⟩
          · have hr0 : isRl e29 = false := by unfold isRl; rw [hc32]; rfl
            refine wp_skip ?_
            refine nrm ?_
            refine dr_start (Held Nob w [rBlk q30 114 [.int .i64 (e29.1), .int .i64 (e29.2.1), .int .i64 (e29.2.2)], rBlk q23 48 [.int .i64 (a0.1), .int .i64 (a0.2.1), .slice Ar22_0_2 ((List.length (renTo a0 (lkF a1) (lkF a2) (((k : Nat) : Int) * a0.1 + ((x : Nat) : Int)).toNat))) cr22_0_2], rBlk q21 48 [.int .i64 (0), .int .i64 (0), .slice none (0) 0]]) 19 #[false, false, false, false, false, false, false, false, false, false, false, false, false, false, false, false, false, false, false] hmix rfl rfl HH107 (fun _ h => h.sel [0, 2, 3] (by decide) rfl) fun w' HH199 => ?_
            have HS200 := HH199.sel [0, 2, 3] (by decide) rfl
            refine dr_take (i := 0) (ls' := #[true, false, false, false, false, false, false, false, false, false, false, false, false, false, false, false, false, false, false]) HE112 HS200 rfl (by kernel_rfl) (by kernel_rfl) (by kernel_rfl) (fun _ _ _ h => h) rfl (wt0 rfl) (x_fieldAddr fa_48_2 rfl) rfl rfl fun a_201 HE202 => ?_
            refine dr_take (i := 1) (ls' := #[true, true, false, false, false, false, false, false, false, false, false, false, false, false, false, false, false, false, false]) HE202 HS200 rfl (by kernel_rfl) (by kernel_rfl) (by kernel_rfl) (fun _ _ _ h => h) rfl (wt0 rfl) (x_load1 tv_46 rfl (c_blk 1 rfl rfl)) rfl rfl fun a_203 HE204 => ?_
            refine dr_take (i := 2) (ls' := #[true, true, true, false, false, false, false, false, false, false, false, false, false, false, false, false, false, false, false]) HE204 HS200 rfl (by kernel_rfl) (by kernel_rfl) (by kernel_rfl) (fun _ _ _ h => h) rfl (wt0 rfl) (x_move rfl) rfl rfl fun a_205 HE206 => ?_
            refine dr_take (i := 3) (ls' := #[true, true, true, true, false, false, false, false, false, false, false, false, false, false, false, false, false, false, false]) HE206 HS200 rfl (by kernel_rfl) (by kernel_rfl) (by kernel_rfl) (fun _ _ _ h => h) rfl (wt0 rfl) (x_move rfl) rfl rfl fun a_207 HE208 => ?_
            have ke40 : k < a1.length := by omega
            obtain ⟨be40, fe40, ese40, Ae40, Re40, De40⟩ := el_old h1 ke40
            obtain ⟨e40, xe40⟩ : ∃ x_, x_ = a1[k] := ⟨_, rfl⟩
            rw [← xe40] at Re40
            have Qe40 := Re40
            obtain ⟨rfl, ie40⟩ := Re40
            have je40 := ie40; unfold I64 at je40
            have le40 : lkF a1 ((k : Nat) : Int) = e40 := by unfold lkF lkX; rw [Int.toNat_natCast, List.getElem?_eq_getElem (by omega), ← xe40]; rfl
            try rw [Int.toNat_of_nonneg (by omega)] at le40
            have ze40 : 0 ≤ e40 ∧ e40 < a0.2.1 := by rw [← le40]; exact s1.2 _ (by omega)
            have zz0 := fun (b : Int) (hb : 0 ≤ b ∧ b < a0.1) => at_bd v0 v1 ze40 hb
            have zye40 := zz0 0 (by omega)
            refine dr_take (i := 4) (ls' := #[true, true, true, true, true, false, false, false, false, false, false, false, false, false, false, false, false, false, false]) HE208 HS200 rfl (by kernel_rfl) (by kernel_rfl) (by kernel_rfl) (fun _ _ _ h => h) rfl (wt0 rfl) (x_indexAddr ts_44 rfl rfl Ae40 rfl ke40) rfl rfl fun a_209 HE210 => ?_
            refine dr_take (i := 5) (ls' := #[true, true, true, true, true, true, false, false, false, false, false, false, false, false, false, false, false, false, false]) HE210 HS200 rfl (by kernel_rfl) (by kernel_rfl) (by kernel_rfl) (fun _ _ _ h => h) rfl (wt0 rfl) (x_load1 tv_2 rfl (c_old (De40 0 _ rfl))) rfl rfl fun a_211 HE212 => ?_
            refine dr_take (i := 6) (ls' := #[true, true, true, true, true, true, true, false, false, false, false, false, false, false, false, false, false, false, false]) HE212 HS200 rfl (by kernel_rfl) (by kernel_rfl) (by kernel_rfl) (fun _ _ _ h => h) rfl (wt0 rfl) (x_move rfl) rfl rfl fun a_213 HE214 => ?_
            refine dr_take (i := 7) (ls' := #[true, true, true, true, true, true, true, true, false, false, false, false, false, false, false, false, false, false, false]) HE214 HS200 rfl (by kernel_rfl) (by kernel_rfl) (by kernel_rfl) (fun _ _ _ h => h) rfl (wt0 rfl) (x_nilCheck rfl) rfl rfl fun a_215 HE216 => ?_
            refine dr_take (i := 8) (ls' := #[true, true, true, true, true, true, true, true, true, false, false, false, false, false, false, false, false, false, false]) HE216 HS200 rfl (by kernel_rfl) (by kernel_rfl) (by kernel_rfl) (fun _ _ _ h => h) rfl (wt0 rfl) (x_fieldAddr fa_48_0 rfl) rfl rfl fun a_217 HE218 => ?_
            refine dr_take (i := 9) (ls' := #[true, true, true, true, true, true, true, true, true, true, false, false, false, false, false, false, false, false, false]) HE218 HS200 rfl (by kernel_rfl) (by kernel_rfl) (by kernel_rfl) (fun _ _ _ h => h) rfl (wt0 rfl) (x_load1 tv_2 rfl (c_old (hq0 0 _ rfl))) rfl rfl fun a_219 HE220 => ?_
            refine dr_take (i := 10) (ls' := #[true, true, true, true, true, true, true, true, true, true, true, false, false, false, false, false, false, false, false]) HE220 HS200 rfl (by kernel_rfl) (by kernel_rfl) (by kernel_rfl) (fun _ _ _ h => h) rfl (wt0 rfl) (x_mul rfl rfl (by exact ⟨by omega, by omega⟩)) rfl rfl fun a_221 HE222 => ?_
            refine dr_take (i := 11) (ls' := #[true, true, true, true, true, true, true, true, true, true, true, true, false, false, false, false, false, false, false]) HE222 HS200 rfl (by kernel_rfl) (by kernel_rfl) (by kernel_rfl) (fun _ _ _ h => h) rfl (wt0 rfl) (x_move rfl) rfl rfl fun a_223 HE224 => ?_
            refine dr_take (i := 12) (ls' := #[true, true, true, true, true, true, true, true, true, true, true, true, true, false, false, false, false, false, false]) HE224 HS200 rfl (by kernel_rfl) (by kernel_rfl) (by kernel_rfl) (fun _ _ _ h => h) rfl (wt0 rfl) (x_move rfl) rfl rfl fun a_225 HE226 => ?_
            have ke41 : x < a2.length := by omega
            obtain ⟨be41, fe41, ese41, Ae41, Re41, De41⟩ := el_old h2 ke41
            obtain ⟨e41, xe41⟩ : ∃ x_, x_ = a2[x] := ⟨_, rfl⟩
            rw [← xe41] at Re41
            have Qe41 := Re41
            obtain ⟨rfl, ie41⟩ := Re41
            have je41 := ie41; unfold I64 at je41
            have le41 : lkF a2 ((x : Nat) : Int) = e41 := by unfold lkF lkX; rw [Int.toNat_natCast, List.getElem?_eq_getElem (by omega), ← xe41]; rfl
            try rw [Int.toNat_of_nonneg (by omega)] at le41
            have ze41 : 0 ≤ e41 ∧ e41 < a0.1 := by rw [← le41]; exact s2.2 _ (by omega)
            try have zxe41 := zz0 _ ze41
            refine dr_take (i := 13) (ls' := #[true, true, true, true, true, true, true, true, true, true, true, true, true, true, false, false, false, false, false]) HE226 HS200 rfl (by kernel_rfl) (by kernel_rfl) (by kernel_rfl) (fun _ _ _ h => h) rfl (wt0 rfl) (x_indexAddr ts_44 rfl rfl Ae41 rfl ke41) rfl rfl fun a_227 HE228 => ?_
            refine dr_take (i := 14) (ls' := #[true, true, true, true, true, true, true, true, true, true, true, true, true, true, true, false, false, false, false]) HE228 HS200 rfl (by kernel_rfl) (by kernel_rfl) (by kernel_rfl) (fun _ _ _ h => h) rfl (wt0 rfl) (x_load1 tv_2 rfl (c_old (De41 0 _ rfl))) rfl rfl fun a_229 HE230 => ?_
            refine dr_take (i := 15) (ls' := #[true, true, true, true, true, true, true, true, true, true, true, true, true, true, true, true, false, false, false]) HE230 HS200 rfl (by kernel_rfl) (by kernel_rfl) (by kernel_rfl) (fun _ _ _ h => h) rfl (wt0 rfl) (x_add rfl rfl (by exact ⟨by omega, by omega⟩)) rfl rfl fun a_231 HE232 => ?_
            refine dr_take (i := 16) (ls' := #[true, true, true, true, true, true, true, true, true, true, true, true, true, true, true, true, true, false, false]) HE232 HS200 rfl (by kernel_rfl) (by kernel_rfl) (by kernel_rfl) (fun _ _ _ h => h) rfl (wt0 rfl) (x_loadN (cs := [.int .i64 (e29.1), .int .i64 (e29.2.1), .int .i64 (e29.2.2)]) tv_114 rfl rfl (c_blkN 0 rfl)) rfl rfl fun a_233 HE234 => ?_
            refine dr_one (i := 17) (ls' := #[true, true, true, true, true, true, true, true, true, true, true, true, true, true, true, true, true, true, false]) rfl (by kernel_rfl) rfl fun K_235 hK236 => ?_
            have HH237 := HH199.sel [1, 0, 2, 3] (by decide) rfl
            have ke42 : (((e40 * a0.1) + e41)).toNat < List.length (renTo a0 (lkF a1) (lkF a2) (((k : Nat) : Int) * a0.1 + ((x : Nat) : Int)).toNat) := by omega
            have ne42 : (((e40 * a0.1) + e41)).toNat < (List.length (renTo a0 (lkF a1) (lkF a2) (((k : Nat) : Int) * a0.1 + ((x : Nat) : Int)).toNat)) := by omega
            obtain ⟨be42, fe42, ese42, Te42, rfl, Re42, Ze42, HH238⟩ := HH237.open ke42
            obtain ⟨e42, xe42⟩ : ∃ x_, x_ = (renTo a0 (lkF a1) (lkF a2) (((k : Nat) : Int) * a0.1 + ((x : Nat) : Int)).toNat)[(((e40 * a0.1) + e41)).toNat] := ⟨_, rfl⟩
            rw [← xe42] at Re42
            rw [← xe42] at HH238
            obtain ⟨rfl, ge42_0, ge42_1, ge42_2⟩ := shape_Rule Re42
            clear Re42
            have je42_0 := ge42_0; unfold I64 at je42_0
            have je42_1 := ge42_1; unfold I64 at je42_1
            have je42_2 := ge42_2; unfold I64 at je42_2
            refine st_x HE234 HH238 (wt0 rfl) (x_indexAddr ts_46 rfl rfl rfl (by omega) ne42) rfl rfl fun a_239 HE240 => hK236 _ _ HS200 ?_
            refine dr_one (i := 18) (ls' := #[true, true, true, true, true, true, true, true, true, true, true, true, true, true, true, true, true, true, true]) rfl (by kernel_rfl) rfl fun K_241 hK242 => ?_
            refine st_storeFN (vs := [.int .i64 (e29.1), .int .i64 (e29.2.1), .int .i64 (e29.2.2)]) 0 HE240 HH238 tv_114 rfl rfl rfl rfl rfl rfl rfl (by simp [Value.oneCell']) (wt0 rfl) fun w' HH243 => hK242 _ _ (by exact HH243.sel [2, 3, 4] (by decide) rfl) ?_
            have HS244 := HH243.sel [2, 3, 4] (by decide) rfl
            refine dr_done (by kernel_rfl) ?_
            clear HH107 HS110 a_111 HE112 a_201 HE202 a_203 HE204 a_205 HE206 a_207 HE208 a_209 HE210 a_211 HE212 a_213 HE214 a_215 HE216 a_217 HE218 a_219 HE220 a_221 HE222 a_223 HE224 a_225 HE226 a_227 HE228 a_229 HE230 a_231 HE232 HH199 HH237 a_233 HE234 K_235 hK236 HH238 HS200 hK242 K_241
            refine blk_n ?_
            refine nrm ?_
            refine rg ?_
            refine pl_x HE240 HH243 (wt0 rfl) (x_move rfl) rfl rfl fun a_245 HE246 => ?_
            refine pl_x HE246 HH243 (wt0 rfl) (x_add rfl rfl (by exact ⟨by omega, by omega⟩)) rfl rfl fun a_247 HE248 => ?_
            refine pl_x HE248 HH243 (wt0 rfl) (x_assign rfl) rfl rfl fun a_249 HE250 => ?_
            refine wpList_nil ?_
            clear a_239 HE240 a_245 HE246 a_247 HE248
            have HH251 := HH243.flatO (E := eRule) (cs := [.int .i64 (e29.1), .int .i64 (e29.2.1), .int .i64 (e29.2.2)]) (x := e29) (fun _ => (oPrN (oI (by exact ⟨by omega, by omega⟩)) (oPrN (oI (by exact ⟨by omega, by omega⟩)) (oI (by exact ⟨by omega, by omega⟩)))))
            have HH252 := HH251.sel [1, 0, 2, 3, 4, 5] (by decide) rfl
            have HH253 := HH252.shut
            obtain ⟨S43, HH254⟩ : ∃ S, Held Nob w (rSo eRule S (some ⟨be42, fe42, none⟩) cr22_0_2 ((renTo a0 (lkF a1) (lkF a2) (((k : Nat) : Int) * a0.1 + ((x : Nat) : Int)).toNat).set ((((e40 * a0.1) + e41)).toNat) e29) :: _) _ := ⟨_, HH253⟩
            have E44 : renTo a0 (lkF a1) (lkF a2) (((k : Nat) : Int) * a0.1 + (((x + 1) : Nat) : Int)).toNat = ((renTo a0 (lkF a1) (lkF a2) (((k : Nat) : Int) * a0.1 + ((x : Nat) : Int)).toNat).set ((((e40 * a0.1) + e41)).toNat) e29) := by
              rw [renTo_row (by omega) (by omega) hy0 (by rfl) hx0]; unfold rulR; rw [hr0]; grind
            exact nrm ⟨a0.1.toNat - (x + 1), (by omega), x + 1, S43, rfl, HE250.sub ⟨(lkI rfl (by first | rfl | omega | (simp [p25_0, hc26, p27_0, hc28, xe29, hc32, xe40, xe41, xe42]; done))), rfl, rfl, rfl, rfl, rfl, rfl, trivial⟩, ((HH254.sel [0, 3, 4] (by decide) rfl).to (by first | rfl | (rw [E44]; done) | (rw [E44]; rfl) | (simp only [E44]; done) | (simp only [E44]; rfl) | (rw [E44]; simp only [List.length_set]; done))), (by first | omega | assumption | (simp; done) | simp_all)⟩
        · refine wp_exit ?_
          refine (thn_exit (thn_exit (blk_hit ?_)))
          refine blk_n ?_
          refine nrm ?_
          refine rg ?_
          refine pl_x HE59 HH47 (wt0 rfl) (x_move rfl) rfl rfl fun a_255 HE256 => ?_
          refine pl_x HE256 HH47 (wt0 rfl) (x_add rfl rfl (by exact ⟨by omega, by omega⟩)) rfl rfl fun a_257 HE258 => ?_
          refine pl_x HE258 HH47 (wt0 rfl) (x_assign rfl) rfl rfl fun a_259 HE260 => ?_
          refine wpList_nil ?_
          clear a_58 HE59 a_255 HE256 a_257 HE258
          have E45 : renTo a0 (lkF a1) (lkF a2) ((((k + 1) : Nat) : Int) * a0.1 + ((0 : Nat) : Int)).toNat = renTo a0 (lkF a1) (lkF a2) (((k : Nat) : Int) * a0.1 + ((x : Nat) : Int)).toNat := by
            rw [← row_end _ _ (by omega), show x = a0.1.toNat from by omega]
          exact nrm ⟨a0.2.1.toNat - (k + 1), (by omega), k + 1, S_7_2, rfl, HE260.sub ⟨(lkI rfl (by first | rfl | omega | (simp [p25_0, hc26, p27_0, hc28]; done))), rfl, rfl, rfl, rfl, rfl, trivial⟩, ((HH47.sel [0, 1, 2] (by decide) rfl).to (by first | rfl | (rw [E45]; done) | (rw [E45]; rfl) | (simp only [E45]; done) | (simp only [E45]; rfl) | (rw [E45]; simp only [List.length_set]; done))), (by first | omega | assumption | (simp; done) | simp_all)⟩
    · refine wp_exit ?_
      refine (thn_exit (thn_exit (blk_hit ?_)))
      refine nrm ?_
      refine wp_seq ?_
      refine rg ?_
      refine pl_x HE42 HH30 (wt0 rfl) (x_loadN (cs := [.int .i64 (a0.1), .int .i64 (a0.2.1), .slice Ar22_0_2 ((List.length (renTo a0 (lkF a1) (lkF a2) (((k : Nat) : Int) * a0.1 + ((0 : Nat) : Int)).toNat))) cr22_0_2]) tv_48 rfl rfl (c_blkN 1 rfl)) rfl rfl fun a_261 HE262 => ?_
      refine pl fun K_263 hK264 => ?_
      refine st_store (vs := [.int .i64 (a0.1), .int .i64 (a0.2.1), .slice Ar22_0_2 ((List.length (renTo a0 (lkF a1) (lkF a2) (((k : Nat) : Int) * a0.1 + ((0 : Nat) : Int)).toNat))) cr22_0_2]) 2 HE262 HH30 tv_48 rfl rfl rfl rfl rfl rfl (by simp [Value.oneCell']) (wt0 rfl) fun w' HH265 => hK264 _ _ ?_
      refine wpList_nil ?_
      clear a_41 HE42 HH30 hK264 K_263
      refine nrm ?_
      refine wp_ret ?_
      refine ret1 HE262 rfl (rv_cell rfl (tv_48.loadN (cs := [.int .i64 (a0.1), .int .i64 (a0.2.1), .slice Ar22_0_2 ((List.length (renTo a0 (lkF a1) (lkF a2) (((k : Nat) : Int) * a0.1 + ((0 : Nat) : Int)).toNat))) cr22_0_2]) rfl (c_blkN 2 rfl _ HH265))) ?_
      have HH266 := HH265.pairF (E := eInt) (c1 := [.int .i64 (a0.2.1)]) (x := a0.2.1) (oI (by exact ⟨by omega, by omega⟩))
      have HH267 := HH266.pairF (E := eInt) (c1 := [.int .i64 (a0.1)]) (x := a0.1) (oI (by exact ⟨by omega, by omega⟩))
      obtain ⟨S46, HH268⟩ : ∃ S, Held Nob w (rO eMachine S [.int .i64 (a0.1), .int .i64 (a0.2.1), .slice Ar22_0_2 ((List.length (renTo a0 (lkF a1) (lkF a2) (((k : Nat) : Int) * a0.1 + ((0 : Nat) : Int)).toNat))) cr22_0_2] (a0.1, a0.2.1, renTo a0 (lkF a1) (lkF a2) (((k : Nat) : Int) * a0.1 + ((0 : Nat) : Int)).toNat) :: _) _ := ⟨_, HH267⟩
      have hF : (renI a0 (lkF a1) (lkF a2)) = (a0.1, a0.2.1, renTo a0 (lkF a1) (lkF a2) (((k : Nat) : Int) * a0.1 + ((0 : Nat) : Int)).toNat) := by
        show (a0.1, a0.2.1, renTo a0 (lkF a1) (lkF a2) a0.2.2.length) = _; have hq : a0.2.2.length = (((k : Nat) : Int) * a0.1 + ((0 : Nat) : Int)).toNat := by rw [show ((k : Nat) : Int) = a0.2.1 from by omega]; omega
        rw [hq]
      exact ⟨_, rfl, by rw [hF]; exact (HH268.o (i := 0) rfl), HH268.below⟩

set_option maxRecDepth 100000 in
set_option maxHeartbeats 4000000 in
theorem impl_SwapSymbols (es0 : List Value) (a0 : tMachine) (A1 : Option Addr) (c1 : Nat) (a1 : (List Int)) (w : World) (h0 : eMachine.R w (Old w) es0 a0) (h1 : Sl eInt w (Old w) A1 c1 a1) :
    Calls Try.prog 32 #[.agg es0.toArray, .slice A1 a1.length c1] w fun e w' => ∃ (es0' : List Value), e = .returned (.tuple #[.agg es0'.toArray, .int .i64 (swpSy a0 a1).2]) ∧ eMachine.O w' (Fr w w') es0' (swpSy a0 a1).1 ∧ Below w.heap.size w w' := by
  have H0 := h0
  obtain ⟨Az0_2, cz0_2, rfl, gz0_0, gz0_1, gz0_2⟩ := shape_Machine h0
  have jz0_0 := gz0_0; unfold I64 at jz0_0
  have jz0_1 := gz0_1; unfold I64 at jz0_1
  have lz0_2 := gz0_2.len
  have l1 := h1.len
  have HH1 := Held.start Nob w
  refine enter (n := 25) Try.func32 rfl rfl rfl fun a_2 HE3 => ?_
  refine wp_seq ?_
  refine rg ?_
  refine pl fun K_4 hK5 => ?_
  refine st_box (cs := [.int .i64 (a0.1), .int .i64 (a0.2.1), .slice Az0_2 (a0.2.2.length) cz0_2]) HE3 HH1 rfl rfl (wt0 rfl) rfl fun q21 a_6 w' HE7 HH8 => hK5 _ _ ?_
  refine pl fun K_9 hK10 => ?_
  refine st_box (cs := [.slice A1 (a1.length) c1]) HE7 HH8 rfl rfl (wt0 rfl) rfl fun q22 a_11 w' HE12 HH13 => hK10 _ _ ?_
  refine pl fun K_14 hK15 => ?_
  refine st_alloc HE12 HH13 tv_48 (wt0 rfl) rfl fun q23 a_16 w' HE17 HH18 => hK15 _ _ ?_
  refine pl_x HE17 HH18 (wt0 rfl) (x_assign rfl) rfl rfl fun a_19 HE20 => ?_
  refine wpList_nil ?_
  clear a_2 HE3 HH1 K_4 hK5 a_6 HE7 HH8 K_9 hK10 a_11 HE12 HH13 a_16 HE17 hK15 K_14
  refine nrm ?_
  refine wp_seq ?_
  refine wp_seq ?_
  refine rg ?_
  refine pl_x HE20 HH18 (wt0 rfl) (x_loadN (cs := [.int .i64 (a0.1), .int .i64 (a0.2.1), .slice Az0_2 (a0.2.2.length) cz0_2]) tv_48 rfl rfl (c_blkN 2 rfl)) rfl rfl fun a_21 HE22 => ?_
  refine pl fun K_23 hK24 => ?_
  refine st_call HE22 (wt0 rfl) rfl rfl rfl en_60 rfl rfl (impl_ValidMachine [.int .i64 (a0.1), .int .i64 (a0.2.1), .slice Az0_2 (a0.2.2.length) cz0_2] a0 _ (HH18.oldR H0)) fun e w' hr => ?_
  obtain ⟨rfl, hbr24⟩ := hr
  have HH25 := HH18.on hbr24
  refine ⟨_, rfl, fun a_26 HE27 => hK24 _ _ ?_⟩
  refine pl_x HE27 HH25 (wt0 rfl) (x_not rfl) rfl rfl fun a_28 HE29 => ?_
  refine wpList_nil ?_
  clear a_19 HE20 HH18 a_21 HE22 a_26 HE27 hK24 K_23
  refine nrm ?_
  refine cnd_nb HE29 rfl (fun hc25 => ?_) (fun hc25 => ?_)
  · refine wp_seq ?_
    refine rg ?_
    refine pl_x HE29 HH25 (wt0 rfl) (show XS _ _ _ _ (.agg #[.int .i64 (0), .int .i64 (0), .slice none (0) 0]) from x_build (vs := []) tb_48 rfl (by simp [Value.oneCell'])) rfl rfl fun a_30 HE31 => ?_
    refine pl fun K_32 hK33 => ?_
    refine st_store (vs := [.int .i64 (0), .int .i64 (0), .slice none (0) 0]) 0 HE31 HH25 tv_48 rfl rfl rfl rfl rfl rfl (by simp [Value.oneCell']) (wt0 rfl) fun w' HH34 => hK33 _ _ ?_
    refine pl_x HE31 HH34 (wt0 rfl) (x_assign rfl) rfl rfl fun a_35 HE36 => ?_
    refine wpList_nil ?_
    clear a_28 HE29 HH25 a_30 HE31 hK33 K_32
    refine nrm ?_
    refine wp_ret ?_
    refine (thn_ret ?_)
    refine ret2 HE36 rfl (rv_cell rfl (tv_48.loadN (cs := [.int .i64 (0), .int .i64 (0), .slice none (0) 0]) rfl (c_blkN 0 rfl _ HH34))) (rv_tmp rfl) ?_
    have HH37 := HH34.flatO (E := eMachine) (cs := [.int .i64 (0), .int .i64 (0), .slice none (0) 0]) (x := (0, 0, [])) (fun _ => (oPrN (oI (by exact ⟨by omega, by omega⟩)) (oPrN (oI (by exact ⟨by omega, by omega⟩)) (oSl (So.nil (Nat.zero_le _))))))
    have hF : (swpSy a0 a1) = ((0, 0, []), 1) := by
      first | (simp [swpSy, hc25]; done) | (unfold swpSy; simp [hc25]; done) | (unfold swpSy; grind)
    exact ⟨_, by first | (rw [hF] <;> rfl) | rfl | (rw [hF]; simp only [Ending.returned.injEq, Value.slice.injEq, true_and, and_true]; first | omega | (simp; done)) | (rw [hF]; simp; omega), by rw [hF]; exact (HH37.o (i := 0) rfl), HH37.below⟩
  · obtain ⟨v0, v1, v2, v3⟩ := validMach_facts hc25
    refine wp_skip ?_
    refine nrm ?_
    refine wp_seq ?_
    refine wp_seq ?_
    refine rg ?_
    refine pl_x HE29 HH25 (wt0 rfl) (x_load1 tv_44 rfl (c_blk 1 rfl rfl)) rfl rfl fun a_38 HE39 => ?_
    refine pl_x HE39 HH25 (wt0 rfl) (x_fieldAddr fa_48_0 rfl) rfl rfl fun a_40 HE41 => ?_
    refine pl_x HE41 HH25 (wt0 rfl) (x_load1 tv_2 rfl (c_blk 2 rfl rfl)) rfl rfl fun a_42 HE43 => ?_
    refine pl fun K_44 hK45 => ?_
    refine st_call HE43 (wt0 rfl) rfl rfl rfl en_61 rfl rfl (impl_isOrder _ _ a1 a0.1 _ (HH25.old h1) (by omega)) fun e w' hr => ?_
    obtain ⟨rfl, hbr26⟩ := hr
    have HH46 := HH25.on hbr26
    refine ⟨_, rfl, fun a_47 HE48 => hK45 _ _ ?_⟩
    refine pl_x HE48 HH46 (wt0 rfl) (x_not rfl) rfl rfl fun a_49 HE50 => ?_
    refine pl_x HE50 HH46 (wt0 rfl) (x_move rfl) rfl rfl fun a_51 HE52 => ?_
    rcases Bool.eq_false_or_eq_true ((orderB a1 a0.1)) with hc27 | hc27
    · have w0 := (order_iff _ _).1 hc27
      have w1 := lkX_of (k := 0) (xs := a1) (by omega)
      refine pl_x HE52 HH46 (wtT HE52 rfl rfl rfl (not_f hc27)) (x_load1 tv_44 rfl (c_blk 1 rfl rfl)) rfl rfl fun a_53 HE54 => ?_
      have ke28 : 0 < a1.length := by omega
      obtain ⟨be28, fe28, ese28, Ae28, Re28, De28⟩ := el_old h1 ke28
      obtain ⟨e28, xe28⟩ : ∃ x_, x_ = a1[0] := ⟨_, rfl⟩
      rw [← xe28] at Re28
      have Qe28 := Re28
      obtain ⟨rfl, ie28⟩ := Re28
      have je28 := ie28; unfold I64 at je28
      refine pl_x HE54 HH46 (wtT HE54 rfl rfl rfl (not_f hc27)) (x_indexAddr ts_44 rfl rfl Ae28 rfl ke28) rfl rfl fun a_55 HE56 => ?_
      refine pl_x HE56 HH46 (wtT HE56 rfl rfl rfl (not_f hc27)) (x_load1 tv_2 rfl (c_old (De28 0 _ rfl))) rfl rfl fun a_57 HE58 => ?_
      refine pl_x HE58 HH46 (wtT HE58 rfl rfl rfl (not_f hc27)) (x_neq rfl rfl) rfl rfl fun a_59 HE60 => ?_
      refine pl_x HE60 HH46 (wt0 rfl) (x_pickF rfl (not_f hc27) rfl) rfl rfl fun a_61 HE62 => ?_
      refine wpList_nil ?_
      clear a_28 HE29 a_38 HE39 a_40 HE41 HH25 a_42 HE43 a_47 HE48 a_49 HE50 a_51 HE52 a_53 HE54 a_55 HE56 a_57 HE58 a_59 HE60 hK45 K_44
      refine nrm ?_
      refine cnd_ne HE62 rfl (fun hc29 => ?_) (fun hc29 => ?_)
      · refine wp_seq ?_
        refine rg ?_
        refine pl_x HE62 HH46 (wt0 rfl) (show XS _ _ _ _ (.agg #[.int .i64 (0), .int .i64 (0), .slice none (0) 0]) from x_build (vs := []) tb_48 rfl (by simp [Value.oneCell'])) rfl rfl fun a_63 HE64 => ?_
        refine pl fun K_65 hK66 => ?_
        refine st_store (vs := [.int .i64 (0), .int .i64 (0), .slice none (0) 0]) 0 HE64 HH46 tv_48 rfl rfl rfl rfl rfl rfl (by simp [Value.oneCell']) (wt0 rfl) fun w' HH67 => hK66 _ _ ?_
        refine pl_x HE64 HH67 (wt0 rfl) (x_assign rfl) rfl rfl fun a_68 HE69 => ?_
        refine wpList_nil ?_
        clear a_61 HE62 HH46 a_63 HE64 hK66 K_65
        refine nrm ?_
        refine wp_ret ?_
        refine (thn_ret ?_)
        refine ret2 HE69 rfl (rv_cell rfl (tv_48.loadN (cs := [.int .i64 (0), .int .i64 (0), .slice none (0) 0]) rfl (c_blkN 0 rfl _ HH67))) (rv_tmp rfl) ?_
        have HH70 := HH67.flatO (E := eMachine) (cs := [.int .i64 (0), .int .i64 (0), .slice none (0) 0]) (x := (0, 0, [])) (fun _ => (oPrN (oI (by exact ⟨by omega, by omega⟩)) (oPrN (oI (by exact ⟨by omega, by omega⟩)) (oSl (So.nil (Nat.zero_le _))))))
        have hF : (swpSy a0 a1) = ((0, 0, []), 2) := by
          first | (simp [swpSy, hc25, hc27, xe28, hc29]; done) | (unfold swpSy; simp [hc25, hc27, xe28, hc29]; done) | (unfold swpSy; grind)
        exact ⟨_, by first | (rw [hF] <;> rfl) | rfl | (rw [hF]; simp only [Ending.returned.injEq, Value.slice.injEq, true_and, and_true]; first | omega | (simp; done)) | (rw [hF]; simp; omega), by rw [hF]; exact (HH70.o (i := 0) rfl), HH70.below⟩
      · refine wp_skip ?_
        refine nrm ?_
        refine wp_seq ?_
        refine rg ?_
        refine pl_x HE62 HH46 (wt0 rfl) (x_loadN (cs := [.int .i64 (a0.1), .int .i64 (a0.2.1), .slice Az0_2 (a0.2.2.length) cz0_2]) tv_48 rfl rfl (c_blkN 2 rfl)) rfl rfl fun a_71 HE72 => ?_
        refine pl_x HE72 HH46 (wt0 rfl) (x_makeFunc rfl rfl) rfl rfl fun a_73 HE74 => ?_
        refine pl fun K_75 hK76 => ?_
        refine st_call HE74 (wt0 rfl) rfl rfl rfl en_62 rfl rfl (impl_renumberedS [.int .i64 (a0.1), .int .i64 (a0.2.1), .slice Az0_2 (a0.2.2.length) cz0_2] a0 _ [.slice A1 (a1.length) c1] a1 _ (HH46.oldR H0) ⟨_, _, rfl, (HH46.old h1)⟩ (c_blkN 1 rfl _ HH46) (by assumption) (by assumption)) fun e w' hr => ?_
        obtain ⟨esr30_0, rfl, hor30_0, hbr30⟩ := hr
        have hr := eMachine.read hor30_0
        obtain ⟨Sr30, HH77⟩ := HH46.newO hbr30 hor30_0
        obtain ⟨Ar30_0_2, cr30_0_2, rfl, gr30_0_0, gr30_0_1, gr30_0_2⟩ := shape_Machine hr
        have jr30_0_0 := gr30_0_0; unfold I64 at jr30_0_0
        have jr30_0_1 := gr30_0_1; unfold I64 at jr30_0_1
        have HH78 := HH77.unF rfl
        have HH79 := HH78.unF rfl
        refine ⟨_, rfl, fun a_80 HE81 => hK76 _ _ ?_⟩
        refine pl fun K_82 hK83 => ?_
        refine st_store (vs := [.int .i64 ((renI a0 (id) (lkF a1)).1), .int .i64 ((renI a0 (id) (lkF a1)).2.1), .slice Ar30_0_2 ((renI a0 (id) (lkF a1)).2.2.length) cr30_0_2]) 1 HE81 HH79 tv_48 rfl rfl rfl rfl rfl rfl (by simp [Value.oneCell']) (wt0 rfl) fun w' HH84 => hK83 _ _ ?_
        refine pl_x HE81 HH84 (wt0 rfl) (x_assign rfl) rfl rfl fun a_85 HE86 => ?_
        refine wpList_nil ?_
        clear a_61 HE62 a_71 HE72 HH46 HH77 HH78 a_73 HE74 K_75 hK76 HH79 a_80 HE81 hK83 K_82
        refine nrm ?_
        refine wp_ret ?_
        refine ret2 HE86 rfl (rv_cell rfl (tv_48.loadN (cs := [.int .i64 ((renI a0 (id) (lkF a1)).1), .int .i64 ((renI a0 (id) (lkF a1)).2.1), .slice Ar30_0_2 ((renI a0 (id) (lkF a1)).2.2.length) cr30_0_2]) rfl (c_blkN 1 rfl _ HH84))) (rv_tmp rfl) ?_
        have HH87 := HH84.pairF (E := eInt) (c1 := [.int .i64 ((renI a0 (id) (lkF a1)).2.1)]) (x := (renI a0 (id) (lkF a1)).2.1) (oI (by exact ⟨by omega, by omega⟩))
        have HH88 := HH87.pairF (E := eInt) (c1 := [.int .i64 ((renI a0 (id) (lkF a1)).1)]) (x := (renI a0 (id) (lkF a1)).1) (oI (by exact ⟨by omega, by omega⟩))
        obtain ⟨S31, HH89⟩ : ∃ S, Held Nob w (rO eMachine S [.int .i64 ((renI a0 (id) (lkF a1)).1), .int .i64 ((renI a0 (id) (lkF a1)).2.1), .slice Ar30_0_2 ((renI a0 (id) (lkF a1)).2.2.length) cr30_0_2] (renI a0 (id) (lkF a1)) :: _) _ := ⟨_, HH88⟩
        have hF : (swpSy a0 a1) = ((renI a0 (id) (lkF a1)), 0) := by
          first | (simp [swpSy, hc25, hc27, xe28, hc29]; done) | (unfold swpSy; simp [hc25, hc27, xe28, hc29]; done) | (unfold swpSy; grind)
        exact ⟨_, by first | (rw [hF] <;> rfl) | rfl | (rw [hF]; simp only [Ending.returned.injEq, Value.slice.injEq, true_and, and_true]; first | omega | (simp; done)) | (rw [hF]; simp; omega), by rw [hF]; exact (HH89.o (i := 0) rfl), HH89.below⟩
    · refine pl_no HE52 (wtF HE52 rfl rfl rfl (not_t hc27)) rfl rfl fun a_90 HE91 => ?_
      refine pl_no HE91 (wtF HE91 rfl rfl rfl (not_t hc27)) rfl rfl fun a_92 HE93 => ?_
      refine pl_no HE93 (wtF HE93 rfl rfl rfl (not_t hc27)) rfl rfl fun a_94 HE95 => ?_
      refine pl_no HE95 (wtF HE95 rfl rfl rfl (not_t hc27)) rfl rfl fun a_96 HE97 => ?_
      refine pl_x HE97 HH46 (wt0 rfl) (x_pickT rfl (not_t hc27) rfl) rfl rfl fun a_98 HE99 => ?_
      refine wpList_nil ?_
      clear a_28 HE29 a_38 HE39 a_40 HE41 HH25 a_42 HE43 a_47 HE48 a_49 HE50 a_51 HE52 a_90 HE91 a_92 HE93 a_94 HE95 a_96 HE97 hK45 K_44
      refine nrm ?_
      refine cndT HE99 rfl rfl ?_
      refine wp_seq ?_
      refine rg ?_
      refine pl_x HE99 HH46 (wt0 rfl) (show XS _ _ _ _ (.agg #[.int .i64 (0), .int .i64 (0), .slice none (0) 0]) from x_build (vs := []) tb_48 rfl (by simp [Value.oneCell'])) rfl rfl fun a_100 HE101 => ?_
      refine pl fun K_102 hK103 => ?_
      refine st_store (vs := [.int .i64 (0), .int .i64 (0), .slice none (0) 0]) 0 HE101 HH46 tv_48 rfl rfl rfl rfl rfl rfl (by simp [Value.oneCell']) (wt0 rfl) fun w' HH104 => hK103 _ _ ?_
      refine pl_x HE101 HH104 (wt0 rfl) (x_assign rfl) rfl rfl fun a_105 HE106 => ?_
      refine wpList_nil ?_
      clear a_98 HE99 HH46 a_100 HE101 hK103 K_102
      refine nrm ?_
      refine wp_ret ?_
      refine (thn_ret ?_)
      refine ret2 HE106 rfl (rv_cell rfl (tv_48.loadN (cs := [.int .i64 (0), .int .i64 (0), .slice none (0) 0]) rfl (c_blkN 0 rfl _ HH104))) (rv_tmp rfl) ?_
      have HH107 := HH104.flatO (E := eMachine) (cs := [.int .i64 (0), .int .i64 (0), .slice none (0) 0]) (x := (0, 0, [])) (fun _ => (oPrN (oI (by exact ⟨by omega, by omega⟩)) (oPrN (oI (by exact ⟨by omega, by omega⟩)) (oSl (So.nil (Nat.zero_le _))))))
      have hF : (swpSy a0 a1) = ((0, 0, []), 2) := by
        first | (simp [swpSy, hc25, hc27]; done) | (unfold swpSy; simp [hc25, hc27]; done) | (unfold swpSy; grind)
      exact ⟨_, by first | (rw [hF] <;> rfl) | rfl | (rw [hF]; simp only [Ending.returned.injEq, Value.slice.injEq, true_and, and_true]; first | omega | (simp; done)) | (rw [hF]; simp; omega), by rw [hF]; exact (HH107.o (i := 0) rfl), HH107.below⟩

set_option maxRecDepth 100000 in
set_option maxHeartbeats 4000000 in
theorem spec_SwapSymbols (es0 : List Value) (a0 : tMachine) (A1 : Option Addr) (c1 : Nat) (a1 : (List Int)) (w : World) (h0 : eMachine.R w (Old w) es0 a0) (h1 : Sl eInt w (Old w) A1 c1 a1) :
    Calls Try.prog 31 #[.agg es0.toArray, .slice A1 a1.length c1] w fun e w' => ∃ (es0' : List Value), e = .returned (.tuple #[.agg es0'.toArray, .int .i64 (swpSy a0 a1).2]) ∧ eMachine.O w' (Fr w w') es0' (swpSy a0 a1).1 ∧ Below w.heap.size w w' := by
  have H0 := h0
  obtain ⟨Az0_2, cz0_2, rfl, gz0_0, gz0_1, gz0_2⟩ := shape_Machine h0
  have jz0_0 := gz0_0; unfold I64 at jz0_0
  have jz0_1 := gz0_1; unfold I64 at jz0_1
  have lz0_2 := gz0_2.len
  have l1 := h1.len
  have HH1 := Held.start Nob w
  refine enter (n := 26) Try.func31 rfl rfl rfl fun a_2 HE3 => ?_
  refine wp_seq ?_
  refine rg ?_
  refine pl fun K_4 hK5 => ?_
  refine st_box (cs := [.int .i64 (a0.1), .int .i64 (a0.2.1), .slice Az0_2 (a0.2.2.length) cz0_2]) HE3 HH1 rfl rfl (wt0 rfl) rfl fun q21 a_6 w' HE7 HH8 => hK5 _ _ ?_
  refine pl fun K_9 hK10 => ?_
  refine st_alloc HE7 HH8 tv_48 (wt0 rfl) rfl fun q22 a_11 w' HE12 HH13 => hK10 _ _ ?_
  refine pl_x HE12 HH13 (wt0 rfl) (x_assign rfl) rfl rfl fun a_14 HE15 => ?_
  refine wpList_nil ?_
  clear a_2 HE3 HH1 K_4 hK5 a_6 HE7 HH8 a_11 HE12 hK10 K_9
  refine nrm ?_
  refine wp_seq ?_
  refine wp_seq ?_
  refine rg ?_
  refine pl fun K_16 hK17 => ?_
  refine st_call HE15 (wt0 rfl) rfl rfl rfl en_55 rfl rfl (spec_l05Is _ _ _ a0 _ (HH13.oldR H0) (c_blkN 1 rfl _ HH13)) fun e w' hr => ?_
  obtain ⟨rfl, hbr23⟩ := hr
  have HH18 := HH13.on hbr23
  refine ⟨_, rfl, fun a_19 HE20 => hK17 _ _ ?_⟩
  refine pl_x HE20 HH18 (wt0 rfl) (x_not rfl) rfl rfl fun a_21 HE22 => ?_
  refine wpList_nil ?_
  clear HH13 a_14 HE15 a_19 HE20 hK17 K_16
  refine nrm ?_
  refine cnd_nb HE22 rfl (fun hc24 => ?_) (fun hc24 => ?_)
  · refine wp_seq ?_
    refine rg ?_
    refine pl_x HE22 HH18 (wt0 rfl) (show XS _ _ _ _ (.agg #[.int .i64 (0), .int .i64 (0), .slice none (0) 0]) from x_build (vs := []) tb_48 rfl (by simp [Value.oneCell'])) rfl rfl fun a_23 HE24 => ?_
    refine pl fun K_25 hK26 => ?_
    refine st_store (vs := [.int .i64 (0), .int .i64 (0), .slice none (0) 0]) 0 HE24 HH18 tv_48 rfl rfl rfl rfl rfl rfl (by simp [Value.oneCell']) (wt0 rfl) fun w' HH27 => hK26 _ _ ?_
    refine pl_x HE24 HH27 (wt0 rfl) (x_assign rfl) rfl rfl fun a_28 HE29 => ?_
    refine wpList_nil ?_
    clear a_21 HE22 HH18 a_23 HE24 hK26 K_25
    refine nrm ?_
    refine wp_ret ?_
    refine (thn_ret ?_)
    refine ret2 HE29 rfl (rv_cell rfl (tv_48.loadN (cs := [.int .i64 (0), .int .i64 (0), .slice none (0) 0]) rfl (c_blkN 0 rfl _ HH27))) (rv_tmp rfl) ?_
    have HH30 := HH27.flatO (E := eMachine) (cs := [.int .i64 (0), .int .i64 (0), .slice none (0) 0]) (x := (0, 0, [])) (fun _ => (oPrN (oI (by exact ⟨by omega, by omega⟩)) (oPrN (oI (by exact ⟨by omega, by omega⟩)) (oSl (So.nil (Nat.zero_le _))))))
    have hF : (swpSy a0 a1) = ((0, 0, []), 1) := by
      first | exact swpSy_spec ‹_› ‹_› (by rw [w1]; grind) | (simp [swpSy, hc24]; done) | (unfold swpSy; simp [hc24]; done) | (unfold swpSy; grind)
    exact ⟨_, by first | (rw [hF] <;> rfl) | rfl | (rw [hF]; simp only [Ending.returned.injEq, Value.slice.injEq, true_and, and_true]; first | omega | (simp; done)) | (rw [hF]; simp; omega), by rw [hF]; exact (HH30.o (i := 0) rfl), HH30.below⟩
  · obtain ⟨v0, v1, v2, v3⟩ := validMach_facts hc24
    refine wp_skip ?_
    refine nrm ?_
    refine wp_seq ?_
    refine wp_seq ?_
    refine rg ?_
    refine pl_x HE22 HH18 (wt0 rfl) (x_move rfl) rfl rfl fun a_31 HE32 => ?_
    refine pl_x HE32 HH18 (wt0 rfl) (x_fieldAddr fa_48_0 rfl) rfl rfl fun a_33 HE34 => ?_
    refine pl_x HE34 HH18 (wt0 rfl) (x_load1 tv_2 rfl (c_blk 1 rfl rfl)) rfl rfl fun a_35 HE36 => ?_
    refine pl fun K_37 hK38 => ?_
    refine st_call HE36 (wt0 rfl) rfl rfl rfl en_56 rfl rfl (spec_l05Order _ _ a1 a0.1 _ (HH18.old h1) (by omega)) fun e w' hr => ?_
    obtain ⟨rfl, hbr25⟩ := hr
    have HH39 := HH18.on hbr25
    refine ⟨_, rfl, fun a_40 HE41 => hK38 _ _ ?_⟩
    refine pl_x HE41 HH39 (wt0 rfl) (x_not rfl) rfl rfl fun a_42 HE43 => ?_
    refine pl_x HE43 HH39 (wt0 rfl) (x_move rfl) rfl rfl fun a_44 HE45 => ?_
    rcases Bool.eq_false_or_eq_true ((orderB a1 a0.1)) with hc26 | hc26
    · have w0 := (order_iff _ _).1 hc26
      have w1 := lkX_of (k := 0) (xs := a1) (by omega)
      refine pl_x HE45 HH39 (wtT HE45 rfl rfl rfl (not_f hc26)) (x_move rfl) rfl rfl fun a_46 HE47 => ?_
      have ke27 : 0 < a1.length := by omega
      obtain ⟨be27, fe27, ese27, Ae27, Re27, De27⟩ := el_old h1 ke27
      obtain ⟨e27, xe27⟩ : ∃ x_, x_ = a1[0] := ⟨_, rfl⟩
      rw [← xe27] at Re27
      have Qe27 := Re27
      obtain ⟨rfl, ie27⟩ := Re27
      have je27 := ie27; unfold I64 at je27
      refine pl_x HE47 HH39 (wtT HE47 rfl rfl rfl (not_f hc26)) (x_indexAddr ts_44 rfl rfl Ae27 rfl ke27) rfl rfl fun a_48 HE49 => ?_
      refine pl_x HE49 HH39 (wtT HE49 rfl rfl rfl (not_f hc26)) (x_load1 tv_2 rfl (c_old (De27 0 _ rfl))) rfl rfl fun a_50 HE51 => ?_
      refine pl_x HE51 HH39 (wtT HE51 rfl rfl rfl (not_f hc26)) (x_neq rfl rfl) rfl rfl fun a_52 HE53 => ?_
      refine pl_x HE53 HH39 (wt0 rfl) (x_pickF rfl (not_f hc26) rfl) rfl rfl fun a_54 HE55 => ?_
      refine wpList_nil ?_
      clear a_21 HE22 a_31 HE32 a_33 HE34 HH18 a_35 HE36 a_40 HE41 a_42 HE43 a_44 HE45 a_46 HE47 a_48 HE49 a_50 HE51 a_52 HE53 hK38 K_37
      refine nrm ?_
      refine cnd_ne HE55 rfl (fun hc28 => ?_) (fun hc28 => ?_)
      · refine wp_seq ?_
        refine rg ?_
        refine pl_x HE55 HH39 (wt0 rfl) (show XS _ _ _ _ (.agg #[.int .i64 (0), .int .i64 (0), .slice none (0) 0]) from x_build (vs := []) tb_48 rfl (by simp [Value.oneCell'])) rfl rfl fun a_56 HE57 => ?_
        refine pl fun K_58 hK59 => ?_
        refine st_store (vs := [.int .i64 (0), .int .i64 (0), .slice none (0) 0]) 0 HE57 HH39 tv_48 rfl rfl rfl rfl rfl rfl (by simp [Value.oneCell']) (wt0 rfl) fun w' HH60 => hK59 _ _ ?_
        refine pl_x HE57 HH60 (wt0 rfl) (x_assign rfl) rfl rfl fun a_61 HE62 => ?_
        refine wpList_nil ?_
        clear a_54 HE55 HH39 a_56 HE57 hK59 K_58
        refine nrm ?_
        refine wp_ret ?_
        refine (thn_ret ?_)
        refine ret2 HE62 rfl (rv_cell rfl (tv_48.loadN (cs := [.int .i64 (0), .int .i64 (0), .slice none (0) 0]) rfl (c_blkN 0 rfl _ HH60))) (rv_tmp rfl) ?_
        have HH63 := HH60.flatO (E := eMachine) (cs := [.int .i64 (0), .int .i64 (0), .slice none (0) 0]) (x := (0, 0, [])) (fun _ => (oPrN (oI (by exact ⟨by omega, by omega⟩)) (oPrN (oI (by exact ⟨by omega, by omega⟩)) (oSl (So.nil (Nat.zero_le _))))))
        have hF : (swpSy a0 a1) = ((0, 0, []), 2) := by
          first | exact swpSy_spec ‹_› ‹_› (by rw [w1]; grind) | (simp [swpSy, hc24, hc26, xe27, hc28]; done) | (unfold swpSy; simp [hc24, hc26, xe27, hc28]; done) | (unfold swpSy; grind)
        exact ⟨_, by first | (rw [hF] <;> rfl) | rfl | (rw [hF]; simp only [Ending.returned.injEq, Value.slice.injEq, true_and, and_true]; first | omega | (simp; done)) | (rw [hF]; simp; omega), by rw [hF]; exact (HH63.o (i := 0) rfl), HH63.below⟩
      · refine wp_skip ?_
        refine nrm ?_
        refine wp_seq ?_
        refine rg ?_
        refine pl_x HE55 HH39 (wt0 rfl) (x_fieldAddr fa_48_1 rfl) rfl rfl fun a_64 HE65 => ?_
        refine pl_x HE65 HH39 (wt0 rfl) (x_load1 tv_2 rfl (c_blk 1 rfl rfl)) rfl rfl fun a_66 HE67 => ?_
        refine pl fun K_68 hK69 => ?_
        refine st_call HE67 (wt0 rfl) rfl rfl rfl en_58 rfl rfl (spec_l05First a0.2.1 _ (by omega)) fun e w' hr => ?_
        obtain ⟨Ar29_0, cr29_0, rfl, hor29_0, hbr29⟩ := hr
        obtain ⟨Sr29, HH70⟩ := HH39.newS hbr29 hor29_0
        refine ⟨_, rfl, fun a_71 HE72 => hK69 _ _ ?_⟩
        refine pl_x HE72 HH70 (wt0 rfl) (x_move rfl) rfl rfl fun a_73 HE74 => ?_
        refine pl fun K_75 hK76 => ?_
        refine st_call HE74 (wt0 rfl) rfl rfl rfl en_57 rfl rfl (spec_l05Rename _ _ _ a0 _ _ (firstK a0.2.1.toNat) _ _ a1 _ (HH70.oldR H0) (c_blkN 2 rfl _ HH70) (HH70.sl (i := 0) rfl) (HH70.old h1) (by assumption) (by first | exact order_lkOk ‹_› | exact firstK_lkOk (by omega)) (by first | exact order_lkOk ‹_› | exact firstK_lkOk (by omega))) fun e w' hr => ?_
        obtain ⟨esr30_0, rfl, hor30_0, hbr30⟩ := hr
        have hr := eMachine.read hor30_0
        obtain ⟨Sr30, HH77⟩ := HH70.newO hbr30 hor30_0
        obtain ⟨Ar30_0_2, cr30_0_2, rfl, gr30_0_0, gr30_0_1, gr30_0_2⟩ := shape_Machine hr
        have jr30_0_0 := gr30_0_0; unfold I64 at jr30_0_0
        have jr30_0_1 := gr30_0_1; unfold I64 at jr30_0_1
        have HH78 := HH77.unF rfl
        have HH79 := HH78.unF rfl
        refine ⟨_, rfl, fun a_80 HE81 => hK76 _ _ ?_⟩
        refine pl fun K_82 hK83 => ?_
        refine st_store (vs := [.int .i64 ((renI a0 (lkF (firstK a0.2.1.toNat)) (lkF a1)).1), .int .i64 ((renI a0 (lkF (firstK a0.2.1.toNat)) (lkF a1)).2.1), .slice Ar30_0_2 ((renI a0 (lkF (firstK a0.2.1.toNat)) (lkF a1)).2.2.length) cr30_0_2]) 2 HE81 HH79 tv_48 rfl rfl rfl rfl rfl rfl (by simp [Value.oneCell']) (wt0 rfl) fun w' HH84 => hK83 _ _ ?_
        refine pl_x HE81 HH84 (wt0 rfl) (x_assign rfl) rfl rfl fun a_85 HE86 => ?_
        refine wpList_nil ?_
        clear a_54 HE55 a_64 HE65 HH39 a_66 HE67 a_71 HE72 K_68 hK69 HH70 HH77 HH78 a_73 HE74 K_75 hK76 HH79 a_80 HE81 hK83 K_82
        refine nrm ?_
        refine wp_ret ?_
        refine ret2 HE86 rfl (rv_cell rfl (tv_48.loadN (cs := [.int .i64 ((renI a0 (lkF (firstK a0.2.1.toNat)) (lkF a1)).1), .int .i64 ((renI a0 (lkF (firstK a0.2.1.toNat)) (lkF a1)).2.1), .slice Ar30_0_2 ((renI a0 (lkF (firstK a0.2.1.toNat)) (lkF a1)).2.2.length) cr30_0_2]) rfl (c_blkN 2 rfl _ HH84))) (rv_tmp rfl) ?_
        have HH87 := HH84.pairF (E := eInt) (c1 := [.int .i64 ((renI a0 (lkF (firstK a0.2.1.toNat)) (lkF a1)).2.1)]) (x := (renI a0 (lkF (firstK a0.2.1.toNat)) (lkF a1)).2.1) (oI (by exact ⟨by omega, by omega⟩))
        have HH88 := HH87.pairF (E := eInt) (c1 := [.int .i64 ((renI a0 (lkF (firstK a0.2.1.toNat)) (lkF a1)).1)]) (x := (renI a0 (lkF (firstK a0.2.1.toNat)) (lkF a1)).1) (oI (by exact ⟨by omega, by omega⟩))
        obtain ⟨S31, HH89⟩ : ∃ S, Held Nob w (rO eMachine S [.int .i64 ((renI a0 (lkF (firstK a0.2.1.toNat)) (lkF a1)).1), .int .i64 ((renI a0 (lkF (firstK a0.2.1.toNat)) (lkF a1)).2.1), .slice Ar30_0_2 ((renI a0 (lkF (firstK a0.2.1.toNat)) (lkF a1)).2.2.length) cr30_0_2] (renI a0 (lkF (firstK a0.2.1.toNat)) (lkF a1)) :: _) _ := ⟨_, HH88⟩
        have hF : (swpSy a0 a1) = ((renI a0 (lkF (firstK a0.2.1.toNat)) (lkF a1)), 0) := by
          first | exact swpSy_spec ‹_› ‹_› (by rw [w1]; grind) | (simp [swpSy, hc24, hc26, xe27, hc28]; done) | (unfold swpSy; simp [hc24, hc26, xe27, hc28]; done) | (unfold swpSy; grind)
        exact ⟨_, by first | (rw [hF] <;> rfl) | rfl | (rw [hF]; simp only [Ending.returned.injEq, Value.slice.injEq, true_and, and_true]; first | omega | (simp; done)) | (rw [hF]; simp; omega), by rw [hF]; exact (HH89.o (i := 0) rfl), HH89.below⟩
    · refine pl_no HE45 (wtF HE45 rfl rfl rfl (not_t hc26)) rfl rfl fun a_90 HE91 => ?_
      refine pl_no HE91 (wtF HE91 rfl rfl rfl (not_t hc26)) rfl rfl fun a_92 HE93 => ?_
      refine pl_no HE93 (wtF HE93 rfl rfl rfl (not_t hc26)) rfl rfl fun a_94 HE95 => ?_
      refine pl_no HE95 (wtF HE95 rfl rfl rfl (not_t hc26)) rfl rfl fun a_96 HE97 => ?_
      refine pl_x HE97 HH39 (wt0 rfl) (x_pickT rfl (not_t hc26) rfl) rfl rfl fun a_98 HE99 => ?_
      refine wpList_nil ?_
      clear a_21 HE22 a_31 HE32 a_33 HE34 HH18 a_35 HE36 a_40 HE41 a_42 HE43 a_44 HE45 a_90 HE91 a_92 HE93 a_94 HE95 a_96 HE97 hK38 K_37
      refine nrm ?_
      refine cndT HE99 rfl rfl ?_
      refine wp_seq ?_
      refine rg ?_
      refine pl_x HE99 HH39 (wt0 rfl) (show XS _ _ _ _ (.agg #[.int .i64 (0), .int .i64 (0), .slice none (0) 0]) from x_build (vs := []) tb_48 rfl (by simp [Value.oneCell'])) rfl rfl fun a_100 HE101 => ?_
      refine pl fun K_102 hK103 => ?_
      refine st_store (vs := [.int .i64 (0), .int .i64 (0), .slice none (0) 0]) 0 HE101 HH39 tv_48 rfl rfl rfl rfl rfl rfl (by simp [Value.oneCell']) (wt0 rfl) fun w' HH104 => hK103 _ _ ?_
      refine pl_x HE101 HH104 (wt0 rfl) (x_assign rfl) rfl rfl fun a_105 HE106 => ?_
      refine wpList_nil ?_
      clear a_98 HE99 HH39 a_100 HE101 hK103 K_102
      refine nrm ?_
      refine wp_ret ?_
      refine (thn_ret ?_)
      refine ret2 HE106 rfl (rv_cell rfl (tv_48.loadN (cs := [.int .i64 (0), .int .i64 (0), .slice none (0) 0]) rfl (c_blkN 0 rfl _ HH104))) (rv_tmp rfl) ?_
      have HH107 := HH104.flatO (E := eMachine) (cs := [.int .i64 (0), .int .i64 (0), .slice none (0) 0]) (x := (0, 0, [])) (fun _ => (oPrN (oI (by exact ⟨by omega, by omega⟩)) (oPrN (oI (by exact ⟨by omega, by omega⟩)) (oSl (So.nil (Nat.zero_le _))))))
      have hF : (swpSy a0 a1) = ((0, 0, []), 2) := by
        first | exact swpSy_spec ‹_› ‹_› (by rw [w1]; grind) | (simp [swpSy, hc24, hc26]; done) | (unfold swpSy; simp [hc24, hc26]; done) | (unfold swpSy; grind)
      exact ⟨_, by first | (rw [hF] <;> rfl) | rfl | (rw [hF]; simp only [Ending.returned.injEq, Value.slice.injEq, true_and, and_true]; first | omega | (simp; done)) | (rw [hF]; simp; omega), by rw [hF]; exact (HH107.o (i := 0) rfl), HH107.below⟩

theorem ct_cost_SRule (xs : List tRule) : ct_SRule xs ≤ 4 * cost_SRule xs := by
  have := cntL_const ct_Rule 3 xs fun _ => rfl
  unfold ct_SRule cost_SRule; omega

theorem cv_cost_Machine (x : tMachine) : cv_Machine x ≤ 4 * cost_Machine x := ct_cost_SRule x.2.2

theorem renI_cv {m : tMachine} (h : validMach m = true) (f g : Int → Int) : (cv_Machine (renI m f g) : Int) ≤ 1000000000 := by
  have h1 := cntL_const ct_Rule 3 (renI m f g).2.2 fun _ => rfl
  have h2 : (renI m f g).2.2.length = m.2.2.length := renTo_len _ _ _ _
  have h3 := (validMach_facts h).2.2.2
  unfold cv_Machine ct_SRule
  omega

theorem swpSy_ct (m : tMachine) (o : List Int) : (cv_Machine (swpSy m o).1 : Int) ≤ 1000000000 := by
  unfold swpSy
  split
  · rename_i h
    split
    · split
      · exact renI_cv h _ _
      · decide
    · decide
  · decide

set_option maxRecDepth 100000 in
set_option maxHeartbeats 4000000 in
theorem law_SwapSymbols (es0 : List Value) (a0 : tMachine) (A1 : Option Addr) (c1 : Nat) (a1 : (List Int)) (w : World) (h0 : eMachine.R w (Old w) es0 a0) (h1 : Sl eInt w (Old w) A1 c1 a1) :
    Calls Try.prog 6 #[.agg es0.toArray, .slice A1 a1.length c1] w fun e w' => e = .returned (.bool true) ∧ Below w.heap.size w w' := by
  have H0 := h0
  obtain ⟨Az0_2, cz0_2, rfl, gz0_0, gz0_1, gz0_2⟩ := shape_Machine h0
  have jz0_0 := gz0_0; unfold I64 at jz0_0
  have jz0_1 := gz0_1; unfold I64 at jz0_1
  have lz0_2 := gz0_2.len
  have l1 := h1.len
  have m0 := cv_cost_Machine a0
  have cl1 : cost_L a1 = a1.length := rfl
  have m1 := ct_cost_L a1
  have n0 : (cv_Machine (swpSy a0 a1).1 : Int) ≤ 1000000000 := swpSy_ct a0 a1
  have HH1 := Held.start Nob w
  refine enter (n := 117) Try.func6 rfl rfl rfl fun a_2 HE3 => ?_
  refine wp_seq ?_
  refine rg ?_
  refine pl fun K_4 hK5 => ?_
  refine st_box (cs := [.int .i64 (a0.1), .int .i64 (a0.2.1), .slice Az0_2 (a0.2.2.length) cz0_2]) HE3 HH1 rfl rfl (wt0 rfl) rfl fun q21 a_6 w' HE7 HH8 => hK5 _ _ ?_
  refine pl_x HE7 HH8 (wt0 rfl) (x_assign rfl) rfl rfl fun a_9 HE10 => ?_
  refine wpList_nil ?_
  clear a_2 HE3 HH1 a_6 HE7 hK5 K_4
  refine nrm ?_
  refine wp_seq ?_
  refine wp_seq ?_
  refine rg ?_
  refine pl_x HE10 HH8 (wt0 rfl) (x_move rfl) rfl rfl fun a_11 HE12 => ?_
  refine pl_x HE12 HH8 (wt0 rfl) (x_len Try.underlying44 rfl) rfl rfl fun a_13 HE14 => ?_
  refine pl_x HE14 HH8 (wt0 rfl) (x_gtr rfl rfl) rfl rfl fun a_15 HE16 => ?_
  refine wpList_nil ?_
  clear a_9 HE10 a_11 HE12 a_13 HE14
  refine nrm ?_
  refine cnd_d HE16 rfl (fun hc22 => ?_) (fun hc22 => ?_)
  · refine wp_seq ?_
    refine rg ?_
    refine pl_x HE16 HH8 (wt0 rfl) (x_assign rfl) rfl rfl fun a_17 HE18 => ?_
    refine wpList_nil ?_
    clear a_15 HE16
    refine nrm ?_
    refine wp_ret ?_
    refine (thn_ret ?_)
    refine ret1 HE18 rfl (rv_tmp rfl) ?_
    have hF : true = true := by
      first | rfl | (exfalso; omega)
    exact ⟨by first | (rw [hF] <;> rfl) | rfl | (rw [hF]; simp only [Ending.returned.injEq, Value.slice.injEq, true_and, and_true]; first | omega | (simp; done)) | (rw [hF]; simp; omega), HH8.below⟩
  · refine wp_skip ?_
    refine nrm ?_
    refine wp_seq ?_
    refine rg ?_
    refine pl_x HE16 HH8 (wt0 rfl) (x_assign rfl) rfl rfl fun a_19 HE20 => ?_
    refine wpList_nil ?_
    clear a_15 HE16
    refine nrm ?_
    refine wp_seq ?_
    refine rg ?_
    refine pl_x HE20 HH8 (wt0 rfl) (x_loadN (cs := [.int .i64 (a0.1), .int .i64 (a0.2.1), .slice Az0_2 (a0.2.2.length) cz0_2]) tv_43 rfl rfl (c_blkN 0 rfl)) rfl rfl fun a_21 HE22 => ?_
    refine pl_x HE22 HH8 (wt0 rfl) (x_move rfl) rfl rfl fun a_23 HE24 => ?_
    refine pl fun K_25 hK26 => ?_
    refine st_call HE24 (wt0 rfl) rfl rfl rfl en_21 rfl rfl (sz_Machine [.int .i64 (a0.1), .int .i64 (a0.2.1), .slice Az0_2 (a0.2.2.length) cz0_2] a0 1048576 _ (HH8.oldR H0) (by omega) (by omega)) fun e w' hr => ?_
    obtain ⟨rfl, hbr23⟩ := hr
    have HH27 := HH8.on hbr23
    clear hbr23
    refine ⟨_, rfl, fun a_28 HE29 => hK26 _ _ ?_⟩
    refine pl_x HE29 HH27 (wt0 rfl) (x_assign rfl) rfl rfl fun a_30 HE31 => ?_
    refine wpList_nil ?_
    clear a_19 HE20 a_21 HE22 HH8 a_23 HE24 a_28 HE29 hK26 K_25
    refine nrm ?_
    refine wp_seq ?_
    refine wp_seq ?_
    refine rg ?_
    refine pl_x HE31 HH27 (wt0 rfl) (x_move rfl) rfl rfl fun a_32 HE33 => ?_
    refine pl_x HE33 HH27 (wt0 rfl) (x_lss rfl rfl) rfl rfl fun a_34 HE35 => ?_
    refine wpList_nil ?_
    clear a_30 HE31 a_32 HE33
    refine nrm ?_
    refine cnd_d HE35 rfl (fun hc24 => ?_) (fun hc24 => ?_)
    · refine wp_seq ?_
      refine rg ?_
      refine pl_x HE35 HH27 (wt0 rfl) (x_assign rfl) rfl rfl fun a_36 HE37 => ?_
      refine wpList_nil ?_
      clear a_34 HE35
      refine nrm ?_
      refine wp_ret ?_
      refine (thn_ret ?_)
      refine ret1 HE37 rfl (rv_tmp rfl) ?_
      have hF : true = true := by
        first | rfl | (exfalso; omega)
      exact ⟨by first | (rw [hF] <;> rfl) | rfl | (rw [hF]; simp only [Ending.returned.injEq, Value.slice.injEq, true_and, and_true]; first | omega | (simp; done)) | (rw [hF]; simp; omega), HH27.below⟩
    · have zr23 := left_ok hc24
      refine wp_skip ?_
      refine nrm ?_
      refine wp_seq ?_
      refine rg ?_
      refine pl_x HE35 HH27 (wt0 rfl) (x_loadN (cs := [.int .i64 (a0.1), .int .i64 (a0.2.1), .slice Az0_2 (a0.2.2.length) cz0_2]) tv_43 rfl rfl (c_blkN 0 rfl)) rfl rfl fun a_38 HE39 => ?_
      refine pl fun K_40 hK41 => ?_
      refine st_call HE39 (wt0 rfl) rfl rfl rfl en_23 rfl rfl (to_Machine [.int .i64 (a0.1), .int .i64 (a0.2.1), .slice Az0_2 (a0.2.2.length) cz0_2] a0 _ (HH27.oldR H0) (by omega)) fun e w' hr => ?_
      obtain ⟨esr25, rfl, hor25, hbr25⟩ := hr
      have hr := eMachine.read hor25
      obtain ⟨Sr25, HH42⟩ := HH27.newO hbr25 hor25
      obtain ⟨Ar25_2, cr25_2, rfl, gr25_0, gr25_1, gr25_2⟩ := shape_Machine hr
      clear hbr25 hor25 gr25_0 gr25_1 gr25_2
      refine ⟨_, rfl, fun a_43 HE44 => hK41 _ _ ?_⟩
      refine pl_x HE44 HH42 (wt0 rfl) (x_move rfl) rfl rfl fun a_45 HE46 => ?_
      refine pl fun K_47 hK48 => ?_
      refine st_call HE46 (wt0 rfl) rfl rfl rfl en_24 rfl rfl (to_Int64S _ _ a1 _ (HH42.old h1) (by omega)) fun e w' hr => ?_
      obtain ⟨Ar26, cr26, rfl, hor26, hbr26⟩ := hr
      obtain ⟨Sr26, HH49⟩ := HH42.newS hbr26 hor26
      clear hbr26 hor26
      refine ⟨_, rfl, fun a_50 HE51 => hK48 _ _ ?_⟩
      refine pl fun K_52 hK53 => ?_
      refine st_call HE51 (wt0 rfl) rfl rfl rfl en_31 rfl rfl (spec_SwapSymbols [.int .i64 (a0.1), .int .i64 (a0.2.1), .slice Ar25_2 (a0.2.2.length) cr25_2] a0 _ _ a1 _ (HH49.rd (i := 1) rfl) (HH49.sl (i := 0) rfl)) fun e w' hr => ?_
      obtain ⟨esr27_0, rfl, hor27_0, hbr27⟩ := hr
      have hr := eMachine.read hor27_0
      obtain ⟨Sr27, HH54⟩ := HH49.newO hbr27 hor27_0
      obtain ⟨Ar27_0_2, cr27_0_2, rfl, gr27_0_0, gr27_0_1, gr27_0_2⟩ := shape_Machine hr
      have jr27_0_0 := gr27_0_0; unfold I64 at jr27_0_0
      have jr27_0_1 := gr27_0_1; unfold I64 at jr27_0_1
      refine ⟨_, rfl, fun a_55 HE56 => hK53 _ _ ?_⟩
      refine pl_x HE56 HH54 (wt0 rfl) (x_move rfl) rfl rfl fun a_57 HE58 => ?_
      refine pl_x HE58 HH54 (wt0 rfl) (x_extract rfl rfl) rfl rfl fun a_59 HE60 => ?_
      refine pl_x HE60 HH54 (wt0 rfl) (x_extract rfl rfl) rfl rfl fun a_61 HE62 => ?_
      refine pl fun K_63 hK64 => ?_
      refine st_alloc HE62 HH54 tv_48 (wt0 rfl) rfl fun q28 a_65 w' HE66 HH67 => hK64 _ _ ?_
      refine pl fun K_68 hK69 => ?_
      refine st_store (vs := [.int .i64 ((swpSy a0 a1).1.1), .int .i64 ((swpSy a0 a1).1.2.1), .slice Ar27_0_2 ((swpSy a0 a1).1.2.2.length) cr27_0_2]) 0 HE66 HH67 tv_48 rfl rfl rfl rfl rfl rfl (by simp [Value.oneCell']) (wt0 rfl) fun w' HH70 => hK69 _ _ ?_
      refine pl_x HE66 HH70 (wt0 rfl) (x_assign rfl) rfl rfl fun a_71 HE72 => ?_
      refine wpList_nil ?_
      clear a_34 HE35 HH27 a_38 HE39 a_43 HE44 K_40 hK41 HH42 a_45 HE46 K_47 hK48 HH49 a_50 HE51 a_55 HE56 a_57 HE58 a_59 HE60 K_52 hK53 a_61 HE62 HH54 K_63 hK64 HH67 a_65 HE66 hK69 K_68
      refine nrm ?_
      refine wp_seq ?_
      refine rg ?_
      refine pl_x HE72 HH70 (wt0 rfl) (x_loadN (cs := [.int .i64 (a0.1), .int .i64 (a0.2.1), .slice Az0_2 (a0.2.2.length) cz0_2]) tv_43 rfl rfl (c_blkN 4 rfl)) rfl rfl fun a_73 HE74 => ?_
      refine pl fun K_75 hK76 => ?_
      refine st_call HE74 (wt0 rfl) rfl rfl rfl en_23 rfl rfl (to_Machine [.int .i64 (a0.1), .int .i64 (a0.2.1), .slice Az0_2 (a0.2.2.length) cz0_2] a0 _ (HH70.oldR H0) (by omega)) fun e w' hr => ?_
      obtain ⟨esr29, rfl, hor29, hbr29⟩ := hr
      have hr := eMachine.read hor29
      obtain ⟨Sr29, HH77⟩ := HH70.newO hbr29 hor29
      obtain ⟨Ar29_2, cr29_2, rfl, gr29_0, gr29_1, gr29_2⟩ := shape_Machine hr
      clear hbr29 hor29 gr29_0 gr29_1 gr29_2
      refine ⟨_, rfl, fun a_78 HE79 => hK76 _ _ ?_⟩
      refine pl fun K_80 hK81 => ?_
      refine st_alloc HE79 HH77 tv_48 (wt0 rfl) rfl fun q30 a_82 w' HE83 HH84 => hK81 _ _ ?_
      refine pl fun K_85 hK86 => ?_
      refine st_store (vs := [.int .i64 (a0.1), .int .i64 (a0.2.1), .slice Ar29_2 (a0.2.2.length) cr29_2]) 0 HE83 HH84 tv_48 rfl rfl rfl rfl rfl rfl (by simp [Value.oneCell']) (wt0 rfl) fun w' HH87 => hK86 _ _ ?_
      refine wpList_nil ?_
      clear a_71 HE72 HH70 a_73 HE74 K_75 hK76 a_78 HE79 HH77 K_80 hK81 HH84 hK86 K_85
      refine nrm ?_
      refine wp_seq ?_
      refine rg ?_
      refine pl_x HE83 HH87 (wt0 rfl) (x_move rfl) rfl rfl fun a_88 HE89 => ?_
      refine pl fun K_90 hK91 => ?_
      refine st_call HE89 (wt0 rfl) rfl rfl rfl en_24 rfl rfl (to_Int64S _ _ a1 _ (HH87.old h1) (by omega)) fun e w' hr => ?_
      obtain ⟨Ar31, cr31, rfl, hor31, hbr31⟩ := hr
      obtain ⟨Sr31, HH92⟩ := HH87.newS hbr31 hor31
      clear hbr31 hor31
      refine ⟨_, rfl, fun a_93 HE94 => hK91 _ _ ?_⟩
      refine pl_x HE94 HH92 (wt0 rfl) (x_assign rfl) rfl rfl fun a_95 HE96 => ?_
      refine wpList_nil ?_
      clear a_82 HE83 HH87 a_88 HE89 a_93 HE94 hK91 K_90
      refine nrm ?_
      refine wp_seq ?_
      refine rg ?_
      refine pl_x HE96 HH92 (wt0 rfl) (x_loadN (cs := [.int .i64 (a0.1), .int .i64 (a0.2.1), .slice Ar29_2 (a0.2.2.length) cr29_2]) tv_48 rfl rfl (c_blkN 1 rfl)) rfl rfl fun a_97 HE98 => ?_
      refine pl_x HE98 HH92 (wt0 rfl) (x_move rfl) rfl rfl fun a_99 HE100 => ?_
      refine pl fun K_101 hK102 => ?_
      refine st_call HE100 (wt0 rfl) rfl rfl rfl en_32 rfl rfl (impl_SwapSymbols [.int .i64 (a0.1), .int .i64 (a0.2.1), .slice Ar29_2 (a0.2.2.length) cr29_2] a0 _ _ a1 _ (HH92.rd (i := 2) rfl) (HH92.sl (i := 0) rfl)) fun e w' hr => ?_
      obtain ⟨esr32_0, rfl, hor32_0, hbr32⟩ := hr
      have hr := eMachine.read hor32_0
      obtain ⟨Sr32, HH103⟩ := HH92.newO hbr32 hor32_0
      obtain ⟨Ar32_0_2, cr32_0_2, rfl, gr32_0_0, gr32_0_1, gr32_0_2⟩ := shape_Machine hr
      have jr32_0_0 := gr32_0_0; unfold I64 at jr32_0_0
      have jr32_0_1 := gr32_0_1; unfold I64 at jr32_0_1
      refine ⟨_, rfl, fun a_104 HE105 => hK102 _ _ ?_⟩
      refine pl_x HE105 HH103 (wt0 rfl) (x_move rfl) rfl rfl fun a_106 HE107 => ?_
      refine pl_x HE107 HH103 (wt0 rfl) (x_extract rfl rfl) rfl rfl fun a_108 HE109 => ?_
      refine pl_x HE109 HH103 (wt0 rfl) (x_extract rfl rfl) rfl rfl fun a_110 HE111 => ?_
      refine pl fun K_112 hK113 => ?_
      refine st_alloc HE111 HH103 tv_48 (wt0 rfl) rfl fun q33 a_114 w' HE115 HH116 => hK113 _ _ ?_
      refine pl fun K_117 hK118 => ?_
      refine st_store (vs := [.int .i64 ((swpSy a0 a1).1.1), .int .i64 ((swpSy a0 a1).1.2.1), .slice Ar32_0_2 ((swpSy a0 a1).1.2.2.length) cr32_0_2]) 0 HE115 HH116 tv_48 rfl rfl rfl rfl rfl rfl (by simp [Value.oneCell']) (wt0 rfl) fun w' HH119 => hK118 _ _ ?_
      refine pl_x HE115 HH119 (wt0 rfl) (x_assign rfl) rfl rfl fun a_120 HE121 => ?_
      refine wpList_nil ?_
      clear a_95 HE96 a_97 HE98 HH92 a_99 HE100 a_104 HE105 a_106 HE107 a_108 HE109 K_101 hK102 a_110 HE111 HH103 K_112 hK113 HH116 a_114 HE115 hK118 K_117
      refine nrm ?_
      refine wp_seq ?_
      refine wp_seq ?_
      refine rg ?_
      refine pl_x HE121 HH119 (wt0 rfl) (x_loadN (cs := [.int .i64 ((swpSy a0 a1).1.1), .int .i64 ((swpSy a0 a1).1.2.1), .slice Ar32_0_2 ((swpSy a0 a1).1.2.2.length) cr32_0_2]) tv_48 rfl rfl (c_blkN 0 rfl)) rfl rfl fun a_122 HE123 => ?_
      refine pl_x HE123 HH119 (wt0 rfl) (x_loadN (cs := [.int .i64 ((swpSy a0 a1).1.1), .int .i64 ((swpSy a0 a1).1.2.1), .slice Ar27_0_2 ((swpSy a0 a1).1.2.2.length) cr27_0_2]) tv_48 rfl rfl (c_blkN 5 rfl)) rfl rfl fun a_124 HE125 => ?_
      refine pl fun K_126 hK127 => ?_
      refine st_call HE125 (wt0 rfl) rfl rfl rfl en_26 rfl rfl (eq_Machine_c [.int .i64 ((swpSy a0 a1).1.1), .int .i64 ((swpSy a0 a1).1.2.1), .slice Ar32_0_2 ((swpSy a0 a1).1.2.2.length) cr32_0_2] [.int .i64 ((swpSy a0 a1).1.1), .int .i64 ((swpSy a0 a1).1.2.1), .slice Ar27_0_2 ((swpSy a0 a1).1.2.2.length) cr27_0_2] ((swpSy a0 a1).1) ((swpSy a0 a1).1) _ (HH119.rd (i := 1) rfl) (HH119.rd (i := 6) rfl)) fun e w' hr => ?_
      obtain ⟨rfl, hbr34⟩ := hr
      have HH128 := HH119.on hbr34
      clear hbr34
      refine ⟨_, rfl, fun a_129 HE130 => hK127 _ _ ?_⟩
      refine pl_x HE130 HH128 (wt0 rfl) (x_not rfl) rfl rfl fun a_131 HE132 => ?_
      refine pl_x HE132 HH128 (wt0 rfl) (x_move rfl) rfl rfl fun a_133 HE134 => ?_
      refine pl_x HE134 HH128 (wtT HE134 rfl rfl rfl (not_f (eq_Machine_refl _))) (x_move rfl) rfl rfl fun a_135 HE136 => ?_
      refine pl_x HE136 HH128 (wtT HE136 rfl rfl rfl (not_f (eq_Machine_refl _))) (x_move rfl) rfl rfl fun a_137 HE138 => ?_
      refine pl_x HE138 HH128 (wtT HE138 rfl rfl rfl (not_f (eq_Machine_refl _))) (x_neq rfl rfl) rfl rfl fun a_139 HE140 => ?_
      refine pl_x HE140 HH128 (wt0 rfl) (x_pickF rfl (not_f (eq_Machine_refl _)) rfl) rfl rfl fun a_141 HE142 => ?_
      refine wpList_nil ?_
      clear a_120 HE121 a_122 HE123 HH119 a_124 HE125 a_129 HE130 a_131 HE132 a_133 HE134 a_135 HE136 a_137 HE138 a_139 HE140 hK127 K_126
      refine nrm ?_
      refine cndF HE142 rfl (bne_f rfl) ?_
      refine wp_skip ?_
      refine nrm ?_
      refine wp_seq ?_
      refine wp_seq ?_
      refine dr_start (Held Nob w [rBlk q33 48 [.int .i64 ((swpSy a0 a1).1.1), .int .i64 ((swpSy a0 a1).1.2.1), .slice Ar32_0_2 ((swpSy a0 a1).1.2.2.length) cr32_0_2], rO eMachine Sr32 [.int .i64 ((swpSy a0 a1).1.1), .int .i64 ((swpSy a0 a1).1.2.1), .slice Ar32_0_2 ((swpSy a0 a1).1.2.2.length) cr32_0_2] ((swpSy a0 a1).1), rSo eInt Sr31 Ar31 cr31 a1, rBlk q30 48 [.int .i64 (a0.1), .int .i64 (a0.2.1), .slice Ar29_2 (a0.2.2.length) cr29_2], rO eMachine Sr29 [.int .i64 (a0.1), .int .i64 (a0.2.1), .slice Ar29_2 (a0.2.2.length) cr29_2] a0, rBlk q28 48 [.int .i64 ((swpSy a0 a1).1.1), .int .i64 ((swpSy a0 a1).1.2.1), .slice Ar27_0_2 ((swpSy a0 a1).1.2.2.length) cr27_0_2], rO eMachine Sr27 [.int .i64 ((swpSy a0 a1).1.1), .int .i64 ((swpSy a0 a1).1.2.1), .slice Ar27_0_2 ((swpSy a0 a1).1.2.2.length) cr27_0_2] ((swpSy a0 a1).1), rSo eInt Sr26 Ar26 cr26 a1, rO eMachine Sr25 [.int .i64 (a0.1), .int .i64 (a0.2.1), .slice Ar25_2 (a0.2.2.length) cr25_2] a0, rBlk q21 43 [.int .i64 (a0.1), .int .i64 (a0.2.1), .slice Az0_2 (a0.2.2.length) cz0_2]]) 5 #[false, false, false, false, false] hmix rfl rfl HH128 (fun _ h => h.sel [0, 1, 2, 3, 4, 5, 6, 7, 8, 9] (by decide) rfl) fun w' HH143 => ?_
      have HS144 := HH143
      refine dr_take (i := 0) (ls' := #[true, false, false, false, false]) HE142 HS144 rfl (by kernel_rfl) (by kernel_rfl) (by kernel_rfl) (fun _ _ _ h => h) rfl (wt0 rfl) (x_loadN (cs := [.int .i64 (a0.1), .int .i64 (a0.2.1), .slice Ar29_2 (a0.2.2.length) cr29_2]) tv_48 rfl rfl (c_blkN 3 rfl)) rfl rfl fun a_145 HE146 => ?_
      refine dr_take (i := 1) (ls' := #[true, true, false, false, false]) HE146 HS144 rfl (by kernel_rfl) (by kernel_rfl) (by kernel_rfl) (fun _ _ _ h => h) rfl (wt0 rfl) (x_loadN (cs := [.int .i64 (a0.1), .int .i64 (a0.2.1), .slice Az0_2 (a0.2.2.length) cz0_2]) tv_43 rfl rfl (c_blkN 9 rfl)) rfl rfl fun a_147 HE148 => ?_
      refine dr_one (i := 2) (ls' := #[true, true, true, false, false]) rfl (by kernel_rfl) rfl fun K_149 hK150 => ?_
      refine st_call HE148 (wt0 rfl) rfl rfl rfl en_23 rfl rfl (to_Machine [.int .i64 (a0.1), .int .i64 (a0.2.1), .slice Az0_2 (a0.2.2.length) cz0_2] a0 _ (HH143.oldR H0) (by omega)) fun e w' hr => ?_
      obtain ⟨esr35, rfl, hor35, hbr35⟩ := hr
      have hr := eMachine.read hor35
      obtain ⟨Sr35, HH151⟩ := HH143.newO hbr35 hor35
      obtain ⟨Ar35_2, cr35_2, rfl, gr35_0, gr35_1, gr35_2⟩ := shape_Machine hr
      clear hbr35 hor35 gr35_0 gr35_1 gr35_2
      refine ⟨_, rfl, fun a_152 HE153 => hK150 _ _ (by exact HH151.sel [1, 2, 3, 4, 5, 6, 7, 8, 9, 10] (by decide) rfl) ?_⟩
      have HS154 := HH151.sel [1, 2, 3, 4, 5, 6, 7, 8, 9, 10] (by decide) rfl
      refine dr_one (i := 3) (ls' := #[true, true, true, true, false]) rfl (by kernel_rfl) rfl fun K_155 hK156 => ?_
      refine st_call HE153 (wt0 rfl) rfl rfl rfl en_26 rfl rfl (eq_Machine_c [.int .i64 (a0.1), .int .i64 (a0.2.1), .slice Ar29_2 (a0.2.2.length) cr29_2] [.int .i64 (a0.1), .int .i64 (a0.2.1), .slice Ar35_2 (a0.2.2.length) cr35_2] a0 a0 _ (HH151.rd (i := 5) rfl) (HH151.rd (i := 0) rfl)) fun e w' hr => ?_
      obtain ⟨rfl, hbr36⟩ := hr
      have HH157 := HH151.on hbr36
      clear hbr36
      refine ⟨_, rfl, fun a_158 HE159 => hK156 _ _ (by exact HH157.sel [1, 2, 3, 4, 5, 6, 7, 8, 9, 10] (by decide) rfl) ?_⟩
      have HS160 := HH157.sel [1, 2, 3, 4, 5, 6, 7, 8, 9, 10] (by decide) rfl
      refine dr_take (i := 4) (ls' := #[true, true, true, true, true]) HE159 HS160 rfl (by kernel_rfl) (by kernel_rfl) (by kernel_rfl) (fun _ _ _ h => h) rfl (wt0 rfl) (x_not rfl) rfl rfl fun a_161 HE162 => ?_
      refine dr_done (by kernel_rfl) ?_
      clear HH128 a_141 HE142 a_145 HE146 HH143 a_147 HE148 HS144 K_149 hK150 HH151 a_152 HE153 HS154 a_158 HE159 hK156 K_155
      refine nrm ?_
      refine cndF HE162 rfl (not_f (eq_Machine_refl _)) ?_
      refine wp_skip ?_
      refine nrm ?_
      refine wp_seq ?_
      refine wp_seq ?_
      refine rg ?_
      refine pl_x HE162 HH157 (wt0 rfl) (x_move rfl) rfl rfl fun a_163 HE164 => ?_
      refine pl_x HE164 HH157 (wt0 rfl) (x_move rfl) rfl rfl fun a_165 HE166 => ?_
      refine pl fun K_167 hK168 => ?_
      refine st_call HE166 (wt0 rfl) rfl rfl rfl en_24 rfl rfl (to_Int64S _ _ a1 _ (HH157.old h1) (by omega)) fun e w' hr => ?_
      obtain ⟨Ar37, cr37, rfl, hor37, hbr37⟩ := hr
      obtain ⟨Sr37, HH169⟩ := HH157.newS hbr37 hor37
      clear hbr37 hor37
      refine ⟨_, rfl, fun a_170 HE171 => hK168 _ _ ?_⟩
      refine pl fun K_172 hK173 => ?_
      refine st_call HE171 (wt0 rfl) rfl rfl rfl en_27 rfl rfl (eq_L_c _ _ _ _ a1 a1 _ (HH169.sl (i := 4) rfl) (HH169.sl (i := 0) rfl)) fun e w' hr => ?_
      obtain ⟨rfl, hbr38⟩ := hr
      have HH174 := HH169.on hbr38
      clear hbr38
      refine ⟨_, rfl, fun a_175 HE176 => hK173 _ _ ?_⟩
      refine pl_x HE176 HH174 (wt0 rfl) (x_not rfl) rfl rfl fun a_177 HE178 => ?_
      refine wpList_nil ?_
      clear a_161 HE162 a_163 HE164 HH157 a_165 HE166 K_167 hK168 HH169 a_170 HE171 a_175 HE176 hK173 K_172
      refine nrm ?_
      refine cndF HE178 rfl (not_f (eq_L_refl _)) ?_
      refine wp_skip ?_
      refine nrm ?_
      refine wp_seq ?_
      refine rg ?_
      refine pl_x HE178 HH174 (wt0 rfl) (x_assign rfl) rfl rfl fun a_179 HE180 => ?_
      refine wpList_nil ?_
      clear a_177 HE178
      refine nrm ?_
      refine wp_seq ?_
      refine rg ?_
      refine pl_x HE180 HH174 (wt0 rfl) (x_loadN (cs := [.int .i64 (a0.1), .int .i64 (a0.2.1), .slice Ar29_2 (a0.2.2.length) cr29_2]) tv_48 rfl rfl (c_blkN 5 rfl)) rfl rfl fun a_181 HE182 => ?_
      refine pl_x HE182 HH174 (wt0 rfl) (x_move rfl) rfl rfl fun a_183 HE184 => ?_
      refine pl fun K_185 hK186 => ?_
      refine st_call HE184 (wt0 rfl) rfl rfl rfl en_28 rfl rfl (mark_Machine_c [.int .i64 (a0.1), .int .i64 (a0.2.1), .slice Ar29_2 (a0.2.2.length) cr29_2] a0 1 _ _ (HH174.get (i := 6) rfl) (HH174.lt (i := 6) rfl) (by omega) (by omega)) fun e w' hr => ?_
      obtain ⟨rfl, hsr39, hcr39⟩ := hr
      have HH187 := HH174.mut (i := 6) rfl hcr39 (rO eMachine Sr29 [.int .i64 (a0.1), .int .i64 (a0.2.1), .slice Ar29_2 (a0.2.2.length) cr29_2] (mv_Machine a0 1)) hsr39 (fun b hb => .inl hb)
      clear hsr39 hcr39
      refine ⟨_, rfl, fun a_188 HE189 => hK186 _ _ ?_⟩
      refine pl_x HE189 HH187 (wt0 rfl) (x_assign rfl) rfl rfl fun a_190 HE191 => ?_
      refine wpList_nil ?_
      clear a_179 HE180 a_181 HE182 HH174 a_183 HE184 a_188 HE189 hK186 K_185
      refine nrm ?_
      refine wp_seq ?_
      refine rg ?_
      refine pl_x HE191 HH187 (wt0 rfl) (x_move rfl) rfl rfl fun a_192 HE193 => ?_
      refine pl_x HE193 HH187 (wt0 rfl) (x_move rfl) rfl rfl fun a_194 HE195 => ?_
      refine pl fun K_196 hK197 => ?_
      refine st_call HE195 (wt0 rfl) rfl rfl rfl en_29 rfl rfl (mark_L_c _ _ a1 (1 + (cv_Machine a0 : Int)) _ _ (so_of_o (HH187.get (i := 4) rfl)) (HH187.lt (i := 4) rfl) (by omega) (by omega)) fun e w' hr => ?_
      obtain ⟨rfl, hsr40, hcr40⟩ := hr
      have HH198 := HH187.mut (i := 4) rfl hcr40 (rSo eInt Sr31 Ar31 cr31 (mk_L a1 (1 + (cv_Machine a0 : Int)))) (oSl hsr40) (fun b hb => .inl hb)
      clear hsr40 hcr40
      refine ⟨_, rfl, fun a_199 HE200 => hK197 _ _ ?_⟩
      refine pl_x HE200 HH198 (wt0 rfl) (x_assign rfl) rfl rfl fun a_201 HE202 => ?_
      refine wpList_nil ?_
      clear a_190 HE191 a_192 HE193 HH187 a_194 HE195 a_199 HE200 hK197 K_196
      refine nrm ?_
      refine wp_seq ?_
      refine wp_seq ?_
      refine rg ?_
      refine pl_x HE202 HH198 (wt0 rfl) (x_move rfl) rfl rfl fun a_203 HE204 => ?_
      refine pl_x HE204 HH198 (wt0 rfl) (x_lss rfl rfl) rfl rfl fun a_205 HE206 => ?_
      refine pl_x HE206 HH198 (wt0 rfl) (x_move rfl) rfl rfl fun a_207 HE208 => ?_
      by_cases hc41 : ((1 + (cv_Machine a0 : Int)) + (ct_L a1 : Int)) < 0
      · refine pl_no HE208 (wtF HE208 rfl rfl rfl (decide_eq_true hc41)) rfl rfl fun a_209 HE210 => ?_
        refine pl_no HE210 (wtF HE210 rfl rfl rfl (decide_eq_true hc41)) rfl rfl fun a_211 HE212 => ?_
        refine pl_no HE212 (wtF HE212 rfl rfl rfl (decide_eq_true hc41)) rfl rfl fun a_213 HE214 => ?_
        refine pl_no HE214 (wtF HE214 rfl rfl rfl (decide_eq_true hc41)) rfl rfl fun a_215 HE216 => ?_
        refine pl_x HE216 HH198 (wt0 rfl) (x_pickT rfl (decide_eq_true hc41) rfl) rfl rfl fun a_217 HE218 => ?_
        refine pl_x HE218 HH198 (wt0 rfl) (x_move rfl) rfl rfl fun a_219 HE220 => ?_
        refine pl_no HE220 (wtF HE220 rfl rfl rfl rfl) rfl rfl fun a_221 HE222 => ?_
        refine pl_no HE222 (wtF HE222 rfl rfl rfl rfl) rfl rfl fun a_223 HE224 => ?_
        refine pl_no HE224 (wtF HE224 rfl rfl rfl rfl) rfl rfl fun a_225 HE226 => ?_
        refine pl_x HE226 HH198 (wt0 rfl) (x_pickT rfl rfl rfl) rfl rfl fun a_227 HE228 => ?_
        refine wpList_nil ?_
        clear a_201 HE202 a_203 HE204 a_205 HE206 a_207 HE208 a_209 HE210 a_211 HE212 a_213 HE214 a_215 HE216 a_217 HE218 a_219 HE220 a_221 HE222 a_223 HE224 a_225 HE226
        refine nrm ?_
        refine cndT HE228 rfl rfl ?_
        refine wp_seq ?_
        refine rg ?_
        refine pl_x HE228 HH198 (wt0 rfl) (x_assign rfl) rfl rfl fun a_229 HE230 => ?_
        refine wpList_nil ?_
        clear a_227 HE228
        refine nrm ?_
        refine wp_ret ?_
        refine (thn_ret ?_)
        refine ret1 HE230 rfl (rv_tmp rfl) ?_
        have hF : true = false := by
          first | rfl | (exfalso; omega)
        exact ⟨by first | (rw [hF] <;> rfl) | rfl | (rw [hF]; simp only [Ending.returned.injEq, Value.slice.injEq, true_and, and_true]; first | omega | (simp; done)) | (rw [hF]; simp; omega), HH198.below⟩
      · refine pl_x HE208 HH198 (wtT HE208 rfl rfl rfl (decide_eq_false hc41)) (x_loadN (cs := [.int .i64 ((swpSy a0 a1).1.1), .int .i64 ((swpSy a0 a1).1.2.1), .slice Ar32_0_2 ((swpSy a0 a1).1.2.2.length) cr32_0_2]) tv_48 rfl rfl (c_blkN 2 rfl)) rfl rfl fun a_231 HE232 => ?_
        refine pl_x HE232 HH198 (wtT HE232 rfl rfl rfl (decide_eq_false hc41)) (x_loadN (cs := [.int .i64 ((swpSy a0 a1).1.1), .int .i64 ((swpSy a0 a1).1.2.1), .slice Ar27_0_2 ((swpSy a0 a1).1.2.2.length) cr27_0_2]) tv_48 rfl rfl (c_blkN 7 rfl)) rfl rfl fun a_233 HE234 => ?_
        refine pl fun K_235 hK236 => ?_
        refine st_call HE234 (wtT HE234 rfl rfl rfl (decide_eq_false hc41)) rfl rfl rfl en_26 rfl rfl (eq_Machine_c [.int .i64 ((swpSy a0 a1).1.1), .int .i64 ((swpSy a0 a1).1.2.1), .slice Ar32_0_2 ((swpSy a0 a1).1.2.2.length) cr32_0_2] [.int .i64 ((swpSy a0 a1).1.1), .int .i64 ((swpSy a0 a1).1.2.1), .slice Ar27_0_2 ((swpSy a0 a1).1.2.2.length) cr27_0_2] ((swpSy a0 a1).1) ((swpSy a0 a1).1) _ (HH198.rd (i := 3) rfl) (HH198.rd (i := 8) rfl)) fun e w' hr => ?_
        obtain ⟨rfl, hbr42⟩ := hr
        have HH237 := HH198.on hbr42
        clear hbr42
        refine ⟨_, rfl, fun a_238 HE239 => hK236 _ _ ?_⟩
        refine pl_x HE239 HH237 (wtT HE239 rfl rfl rfl (decide_eq_false hc41)) (x_not rfl) rfl rfl fun a_240 HE241 => ?_
        refine pl_x HE241 HH237 (wt0 rfl) (x_pickF rfl (decide_eq_false hc41) rfl) rfl rfl fun a_242 HE243 => ?_
        refine pl_x HE243 HH237 (wt0 rfl) (x_move rfl) rfl rfl fun a_244 HE245 => ?_
        refine pl_x HE245 HH237 (wtT HE245 rfl rfl rfl (not_f (eq_Machine_refl _))) (x_move rfl) rfl rfl fun a_246 HE247 => ?_
        refine pl_x HE247 HH237 (wtT HE247 rfl rfl rfl (not_f (eq_Machine_refl _))) (x_move rfl) rfl rfl fun a_248 HE249 => ?_
        refine pl_x HE249 HH237 (wtT HE249 rfl rfl rfl (not_f (eq_Machine_refl _))) (x_neq rfl rfl) rfl rfl fun a_250 HE251 => ?_
        refine pl_x HE251 HH237 (wt0 rfl) (x_pickF rfl (not_f (eq_Machine_refl _)) rfl) rfl rfl fun a_252 HE253 => ?_
        refine wpList_nil ?_
        clear a_201 HE202 a_203 HE204 a_205 HE206 a_207 HE208 a_231 HE232 HH198 a_233 HE234 a_238 HE239 a_240 HE241 a_242 HE243 a_244 HE245 a_246 HE247 a_248 HE249 a_250 HE251 hK236 K_235
        refine nrm ?_
        refine cndF HE253 rfl (bne_f rfl) ?_
        refine wp_skip ?_
        refine nrm ?_
        refine wp_seq ?_
        refine rg ?_
        refine pl_x HE253 HH237 (wt0 rfl) (x_assign rfl) rfl rfl fun a_254 HE255 => ?_
        refine wpList_nil ?_
        clear a_252 HE253
        refine nrm ?_
        refine wp_seq ?_
        refine rg ?_
        refine pl_x HE255 HH237 (wt0 rfl) (x_loadN (cs := [.int .i64 ((swpSy a0 a1).1.1), .int .i64 ((swpSy a0 a1).1.2.1), .slice Ar32_0_2 ((swpSy a0 a1).1.2.2.length) cr32_0_2]) tv_48 rfl rfl (c_blkN 2 rfl)) rfl rfl fun a_256 HE257 => ?_
        refine pl_x HE257 HH237 (wt0 rfl) (x_move rfl) rfl rfl fun a_258 HE259 => ?_
        refine pl fun K_260 hK261 => ?_
        refine st_call HE259 (wt0 rfl) rfl rfl rfl en_28 rfl rfl (mark_Machine_c [.int .i64 ((swpSy a0 a1).1.1), .int .i64 ((swpSy a0 a1).1.2.1), .slice Ar32_0_2 ((swpSy a0 a1).1.2.2.length) cr32_0_2] ((swpSy a0 a1).1) 1 _ _ (HH237.get (i := 3) rfl) (HH237.lt (i := 3) rfl) (by omega) (by omega)) fun e w' hr => ?_
        obtain ⟨rfl, hsr43, hcr43⟩ := hr
        have HH262 := HH237.mut (i := 3) rfl hcr43 (rO eMachine Sr32 [.int .i64 ((swpSy a0 a1).1.1), .int .i64 ((swpSy a0 a1).1.2.1), .slice Ar32_0_2 ((swpSy a0 a1).1.2.2.length) cr32_0_2] (mv_Machine ((swpSy a0 a1).1) 1)) hsr43 (fun b hb => .inl hb)
        clear hsr43 hcr43
        refine ⟨_, rfl, fun a_263 HE264 => hK261 _ _ ?_⟩
        refine pl_x HE264 HH262 (wt0 rfl) (x_assign rfl) rfl rfl fun a_265 HE266 => ?_
        refine wpList_nil ?_
        clear a_254 HE255 a_256 HE257 HH237 a_258 HE259 a_263 HE264 hK261 K_260
        refine nrm ?_
        refine wp_seq ?_
        refine rg ?_
        refine pl_x HE266 HH262 (wt0 rfl) (x_assign rfl) rfl rfl fun a_267 HE268 => ?_
        refine wpList_nil ?_
        clear a_265 HE266
        refine nrm ?_
        refine wp_seq ?_
        refine rg ?_
        refine pl_x HE268 HH262 (wt0 rfl) (x_loadN (cs := [.int .i64 ((swpSy a0 a1).1.1), .int .i64 ((swpSy a0 a1).1.2.1), .slice Ar32_0_2 ((swpSy a0 a1).1.2.2.length) cr32_0_2]) tv_48 rfl rfl (c_blkN 2 rfl)) rfl rfl fun a_269 HE270 => ?_
        refine pl_x HE270 HH262 (wt0 rfl) (x_move rfl) rfl rfl fun a_271 HE272 => ?_
        refine pl fun K_273 hK274 => ?_
        refine st_call HE272 (wt0 rfl) rfl rfl rfl en_30 rfl rfl (held_Machine_c [.int .i64 ((swpSy a0 a1).1.1), .int .i64 ((swpSy a0 a1).1.2.1), .slice Ar32_0_2 ((swpSy a0 a1).1.2.2.length) cr32_0_2] ((swpSy a0 a1).1) 1 _ (HH262.rd (i := 3) rfl) (by omega) (by omega)) fun e w' hr => ?_
        obtain ⟨rfl, hbr44⟩ := hr
        have HH275 := HH262.on hbr44
        clear hbr44
        refine ⟨_, rfl, fun a_276 HE277 => hK274 _ _ ?_⟩
        refine pl_x HE277 HH275 (wt0 rfl) (x_assign rfl) rfl rfl fun a_278 HE279 => ?_
        refine wpList_nil ?_
        clear a_267 HE268 a_269 HE270 HH262 a_271 HE272 a_276 HE277 hK274 K_273
        refine nrm ?_
        refine wp_seq ?_
        refine wp_seq ?_
        refine rg ?_
        refine pl_x HE279 HH275 (wt0 rfl) (x_move rfl) rfl rfl fun a_280 HE281 => ?_
        refine pl_x HE281 HH275 (wt0 rfl) (x_lss rfl rfl) rfl rfl fun a_282 HE283 => ?_
        refine wpList_nil ?_
        clear a_278 HE279 a_280 HE281
        refine nrm ?_
        refine cnd_d HE283 rfl (fun hc45 => ?_) (fun hc45 => ?_)
        · refine wp_seq ?_
          refine rg ?_
          refine pl_x HE283 HH275 (wt0 rfl) (x_assign rfl) rfl rfl fun a_284 HE285 => ?_
          refine wpList_nil ?_
          clear a_282 HE283
          refine nrm ?_
          refine wp_ret ?_
          refine (thn_ret ?_)
          refine ret1 HE285 rfl (rv_tmp rfl) ?_
          have hF : true = false := by
            first | rfl | (exfalso; omega)
          exact ⟨by first | (rw [hF] <;> rfl) | rfl | (rw [hF]; simp only [Ending.returned.injEq, Value.slice.injEq, true_and, and_true]; first | omega | (simp; done)) | (rw [hF]; simp; omega), HH275.below⟩
        · refine wp_skip ?_
          refine nrm ?_
          refine wp_seq ?_
          refine wp_seq ?_
          refine rg ?_
          refine pl_x HE283 HH275 (wt0 rfl) (x_move rfl) rfl rfl fun a_286 HE287 => ?_
          refine pl_x HE287 HH275 (wt0 rfl) (x_move rfl) rfl rfl fun a_288 HE289 => ?_
          refine pl_x HE289 HH275 (wt0 rfl) (x_neq rfl rfl) rfl rfl fun a_290 HE291 => ?_
          refine wpList_nil ?_
          clear a_282 HE283 a_286 HE287 a_288 HE289
          refine nrm ?_
          refine cndF HE291 rfl (bne_f rfl) ?_
          refine wp_skip ?_
          refine nrm ?_
          refine wp_seq ?_
          refine rg ?_
          refine pl_x HE291 HH275 (wt0 rfl) (x_loadN (cs := [.int .i64 (a0.1), .int .i64 (a0.2.1), .slice Az0_2 (a0.2.2.length) cz0_2]) tv_43 rfl rfl (c_blkN 11 rfl)) rfl rfl fun a_292 HE293 => ?_
          refine pl fun K_294 hK295 => ?_
          refine st_call HE293 (wt0 rfl) rfl rfl rfl en_23 rfl rfl (to_Machine [.int .i64 (a0.1), .int .i64 (a0.2.1), .slice Az0_2 (a0.2.2.length) cz0_2] a0 _ (HH275.oldR H0) (by omega)) fun e w' hr => ?_
          obtain ⟨esr46, rfl, hor46, hbr46⟩ := hr
          have hr := eMachine.read hor46
          obtain ⟨Sr46, HH296⟩ := HH275.newO hbr46 hor46
          obtain ⟨Ar46_2, cr46_2, rfl, gr46_0, gr46_1, gr46_2⟩ := shape_Machine hr
          clear hbr46 hor46 gr46_0 gr46_1 gr46_2
          refine ⟨_, rfl, fun a_297 HE298 => hK295 _ _ ?_⟩
          refine pl_x HE298 HH296 (wt0 rfl) (x_move rfl) rfl rfl fun a_299 HE300 => ?_
          refine pl fun K_301 hK302 => ?_
          refine st_call HE300 (wt0 rfl) rfl rfl rfl en_24 rfl rfl (to_Int64S _ _ a1 _ (HH296.old h1) (by omega)) fun e w' hr => ?_
          obtain ⟨Ar47, cr47, rfl, hor47, hbr47⟩ := hr
          obtain ⟨Sr47, HH303⟩ := HH296.newS hbr47 hor47
          clear hbr47 hor47
          refine ⟨_, rfl, fun a_304 HE305 => hK302 _ _ ?_⟩
          refine pl fun K_306 hK307 => ?_
          refine st_call HE305 (wt0 rfl) rfl rfl rfl en_32 rfl rfl (impl_SwapSymbols [.int .i64 (a0.1), .int .i64 (a0.2.1), .slice Ar46_2 (a0.2.2.length) cr46_2] a0 _ _ a1 _ (HH303.rd (i := 1) rfl) (HH303.sl (i := 0) rfl)) fun e w' hr => ?_
          obtain ⟨esr48_0, rfl, hor48_0, hbr48⟩ := hr
          have hr := eMachine.read hor48_0
          obtain ⟨Sr48, HH308⟩ := HH303.newO hbr48 hor48_0
          obtain ⟨Ar48_0_2, cr48_0_2, rfl, gr48_0_0, gr48_0_1, gr48_0_2⟩ := shape_Machine hr
          have jr48_0_0 := gr48_0_0; unfold I64 at jr48_0_0
          have jr48_0_1 := gr48_0_1; unfold I64 at jr48_0_1
          refine ⟨_, rfl, fun a_309 HE310 => hK307 _ _ ?_⟩
          refine pl_x HE310 HH308 (wt0 rfl) (x_move rfl) rfl rfl fun a_311 HE312 => ?_
          refine pl_x HE312 HH308 (wt0 rfl) (x_extract rfl rfl) rfl rfl fun a_313 HE314 => ?_
          refine pl_x HE314 HH308 (wt0 rfl) (x_extract rfl rfl) rfl rfl fun a_315 HE316 => ?_
          refine pl fun K_317 hK318 => ?_
          refine st_alloc HE316 HH308 tv_48 (wt0 rfl) rfl fun q49 a_319 w' HE320 HH321 => hK318 _ _ ?_
          refine pl fun K_322 hK323 => ?_
          refine st_store (vs := [.int .i64 ((swpSy a0 a1).1.1), .int .i64 ((swpSy a0 a1).1.2.1), .slice Ar48_0_2 ((swpSy a0 a1).1.2.2.length) cr48_0_2]) 0 HE320 HH321 tv_48 rfl rfl rfl rfl rfl rfl (by simp [Value.oneCell']) (wt0 rfl) fun w' HH324 => hK323 _ _ ?_
          refine pl_x HE320 HH324 (wt0 rfl) (x_assign rfl) rfl rfl fun a_325 HE326 => ?_
          refine wpList_nil ?_
          clear a_290 HE291 HH275 a_292 HE293 a_297 HE298 K_294 hK295 HH296 a_299 HE300 K_301 hK302 HH303 a_304 HE305 a_309 HE310 a_311 HE312 a_313 HE314 K_306 hK307 a_315 HE316 HH308 K_317 hK318 HH321 a_319 HE320 hK323 K_322
          refine nrm ?_
          refine wp_seq ?_
          refine wp_seq ?_
          refine rg ?_
          refine pl_x HE326 HH324 (wt0 rfl) (x_loadN (cs := [.int .i64 ((swpSy a0 a1).1.1), .int .i64 ((swpSy a0 a1).1.2.1), .slice Ar48_0_2 ((swpSy a0 a1).1.2.2.length) cr48_0_2]) tv_48 rfl rfl (c_blkN 0 rfl)) rfl rfl fun a_327 HE328 => ?_
          refine pl_x HE328 HH324 (wt0 rfl) (x_loadN (cs := [.int .i64 ((swpSy a0 a1).1.1), .int .i64 ((swpSy a0 a1).1.2.1), .slice Ar27_0_2 ((swpSy a0 a1).1.2.2.length) cr27_0_2]) tv_48 rfl rfl (c_blkN 11 rfl)) rfl rfl fun a_329 HE330 => ?_
          refine pl fun K_331 hK332 => ?_
          refine st_call HE330 (wt0 rfl) rfl rfl rfl en_26 rfl rfl (eq_Machine_c [.int .i64 ((swpSy a0 a1).1.1), .int .i64 ((swpSy a0 a1).1.2.1), .slice Ar48_0_2 ((swpSy a0 a1).1.2.2.length) cr48_0_2] [.int .i64 ((swpSy a0 a1).1.1), .int .i64 ((swpSy a0 a1).1.2.1), .slice Ar27_0_2 ((swpSy a0 a1).1.2.2.length) cr27_0_2] ((swpSy a0 a1).1) ((swpSy a0 a1).1) _ (HH324.rd (i := 1) rfl) (HH324.rd (i := 12) rfl)) fun e w' hr => ?_
          obtain ⟨rfl, hbr50⟩ := hr
          have HH333 := HH324.on hbr50
          clear hbr50
          refine ⟨_, rfl, fun a_334 HE335 => hK332 _ _ ?_⟩
          refine pl_x HE335 HH333 (wt0 rfl) (x_not rfl) rfl rfl fun a_336 HE337 => ?_
          refine pl_x HE337 HH333 (wt0 rfl) (x_move rfl) rfl rfl fun a_338 HE339 => ?_
          refine pl_x HE339 HH333 (wtT HE339 rfl rfl rfl (not_f (eq_Machine_refl _))) (x_move rfl) rfl rfl fun a_340 HE341 => ?_
          refine pl_x HE341 HH333 (wtT HE341 rfl rfl rfl (not_f (eq_Machine_refl _))) (x_move rfl) rfl rfl fun a_342 HE343 => ?_
          refine pl_x HE343 HH333 (wtT HE343 rfl rfl rfl (not_f (eq_Machine_refl _))) (x_neq rfl rfl) rfl rfl fun a_344 HE345 => ?_
          refine pl_x HE345 HH333 (wt0 rfl) (x_pickF rfl (not_f (eq_Machine_refl _)) rfl) rfl rfl fun a_346 HE347 => ?_
          refine wpList_nil ?_
          clear a_325 HE326 a_327 HE328 HH324 a_329 HE330 a_334 HE335 a_336 HE337 a_338 HE339 a_340 HE341 a_342 HE343 a_344 HE345 hK332 K_331
          refine nrm ?_
          refine cndF HE347 rfl (bne_f rfl) ?_
          refine wp_skip ?_
          refine nrm ?_
          refine wp_seq ?_
          refine rg ?_
          refine pl_x HE347 HH333 (wt0 rfl) (x_assign rfl) rfl rfl fun a_348 HE349 => ?_
          refine wpList_nil ?_
          clear a_346 HE347
          refine nrm ?_
          refine wp_seq ?_
          refine rg ?_
          refine pl_x HE349 HH333 (wt0 rfl) (x_loadN (cs := [.int .i64 ((swpSy a0 a1).1.1), .int .i64 ((swpSy a0 a1).1.2.1), .slice Ar32_0_2 ((swpSy a0 a1).1.2.2.length) cr32_0_2]) tv_48 rfl rfl (c_blkN 6 rfl)) rfl rfl fun a_350 HE351 => ?_
          refine pl_x HE351 HH333 (wt0 rfl) (x_move rfl) rfl rfl fun a_352 HE353 => ?_
          refine pl fun K_354 hK355 => ?_
          refine st_call HE353 (wt0 rfl) rfl rfl rfl en_30 rfl rfl (held_Machine_c [.int .i64 ((swpSy a0 a1).1.1), .int .i64 ((swpSy a0 a1).1.2.1), .slice Ar32_0_2 ((swpSy a0 a1).1.2.2.length) cr32_0_2] ((swpSy a0 a1).1) 1 _ (HH333.rd (i := 7) rfl) (by omega) (by omega)) fun e w' hr => ?_
          obtain ⟨rfl, hbr51⟩ := hr
          have HH356 := HH333.on hbr51
          clear hbr51
          refine ⟨_, rfl, fun a_357 HE358 => hK355 _ _ ?_⟩
          refine pl_x HE358 HH356 (wt0 rfl) (x_assign rfl) rfl rfl fun a_359 HE360 => ?_
          refine wpList_nil ?_
          clear a_348 HE349 a_350 HE351 HH333 a_352 HE353 a_357 HE358 hK355 K_354
          refine nrm ?_
          refine wp_seq ?_
          refine wp_seq ?_
          refine rg ?_
          refine pl_x HE360 HH356 (wt0 rfl) (x_move rfl) rfl rfl fun a_361 HE362 => ?_
          refine pl_x HE362 HH356 (wt0 rfl) (x_lss rfl rfl) rfl rfl fun a_363 HE364 => ?_
          refine wpList_nil ?_
          clear a_359 HE360 a_361 HE362
          refine nrm ?_
          refine cndF HE364 rfl (decide_eq_false hc45) ?_
          refine wp_skip ?_
          refine nrm ?_
          refine wp_seq ?_
          refine wp_seq ?_
          refine rg ?_
          refine pl_x HE364 HH356 (wt0 rfl) (x_move rfl) rfl rfl fun a_365 HE366 => ?_
          refine pl_x HE366 HH356 (wt0 rfl) (x_move rfl) rfl rfl fun a_367 HE368 => ?_
          refine pl_x HE368 HH356 (wt0 rfl) (x_neq rfl rfl) rfl rfl fun a_369 HE370 => ?_
          refine wpList_nil ?_
          clear a_363 HE364 a_365 HE366 a_367 HE368
          refine nrm ?_
          refine cndF HE370 rfl (bne_f rfl) ?_
          refine wp_skip ?_
          refine nrm ?_
          refine wp_seq ?_
          refine rg ?_
          refine pl_x HE370 HH356 (wt0 rfl) (x_assign rfl) rfl rfl fun a_371 HE372 => ?_
          refine wpList_nil ?_
          clear a_369 HE370
          refine nrm ?_
          refine wp_ret ?_
          refine ret1 HE372 rfl (rv_tmp rfl) ?_
          have hF : true = true := by
            first | rfl | (exfalso; omega)
          exact ⟨by first | (rw [hF] <;> rfl) | rfl | (rw [hF]; simp only [Ending.returned.injEq, Value.slice.injEq, true_and, and_true]; first | omega | (simp; done)) | (rw [hF]; simp; omega), HH356.below⟩

end Go.Proofs.Ythknelhboibbnaa
