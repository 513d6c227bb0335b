/- What the proof of FnExactRenameStates needs: contracts of the functions that it reaches, each once. -/
import Derived.Test.YthknelhboibbnaaProg
import Derived.Test.YthknelhboibbnaaQMem
import Derived.Test.YthknelhboibbnaaQOpen
import Derived.Test.YthknelhboibbnaaLRenameStatesa
import Derived.Test.YthknelhboibbnaaLRenameStatesb
import Derived.Test.YthknelhboibbnaaLRenameStatesc
import Derived.WalkKit
import Derived.WalkSpells
import Derived.Below
import Derived.LoopTactic
import Derived.Outline
import Derived.Deep.QuietTactic
import Derived.BigQuiet
import Derived.Deep.LoopGhost
import Derived.Handy
import Derived.Lib.Hide
import Derived.Shelf.Abstract
import Derived.StillTailTactics
import Derived.OwnWalk
import Derived.Maps.AppendAt
import Derived.RegionTactic
import Derived.Deep.RegionHeld3
import Derived.IntWalk
import Derived.Deep.Upon
import Derived.Laws.OwnMore
import Derived.Maps.AppendAt
import Derived.Lib.FrozenHead
import Derived.Lib.RuneBytes
import Derived.Lib.LaidTab
import Derived.Laws.StructEq
import Derived.Lib.SliceRun
import Derived.Lib.AppendZeros
import Derived.Shelf.SortG.Plain
import Derived.Shelf.SortG.SortNone
import Derived.Shelf.SlicesG.CompactI
import Derived.Shelf.SlicesG.SearchI
import Derived.Sort.OwnSortedInts
import Derived.Lib.RowBridge
import Derived.Lib.ItoaLen
import Derived.Lib.Join
import Derived.Shelf.Strconv.Itoa4
import Derived.Shelf.Strings.OnBuilder
import Derived.Shelf.Strings.BuilderK
import Derived.Shelf.Strings.BuilderRune
import Derived.Shelf.LaysM
import Derived.Ground.NamesProg
namespace Go.Proofs.Ythknelhboibbnaa
open Go.RowKit

set_option maxRecDepth 100000 in
set_option maxHeartbeats 4000000 in
theorem impl_renumberedR (es0 : List Value) (a0 : tMachine) (p3 : Nat) (es3 : List Value) (a3 : (List Int)) (w : World) (h0 : eMachine.R w (Old w) es0 a0) (h3 : (eSl eInt).R w (Old w) es3 a3) (hq3 : ∀ j v, es3[j]? = some v → w.cell? ⟨p3, 0 + j, none⟩ = some v) (s0 : validMach a0 = true) (s1 : orderB a3 a0.2.1 = true) :
    Calls Try.prog 62 #[.agg es0.toArray, .func (.func 63) #[] #[.pointer (some ⟨p3, 0, none⟩)], .func (.func 64) #[] #[]] w fun e w' => ∃ (es0' : List Value), e = .returned (.agg es0'.toArray) ∧ eMachine.O w' (Fr w w') es0' (renI a0 (lkF a3) (id)) ∧ Below w.heap.size w w' := by
  have H0 := h0
  obtain ⟨Az0_2, cz0_2, rfl, gz0_0, gz0_1, gz0_2⟩ := shape_Machine h0
  have jz0_0 := gz0_0; unfold I64 at jz0_0
  have jz0_1 := gz0_1; unfold I64 at jz0_1
  have lz0_2 := gz0_2.len
  have H3 := h3
  obtain ⟨Az3_0, cz3_0, rfl, gz3_0⟩ := h3
  have lz3_0 := gz3_0.len
  obtain ⟨v0, v1, v2, v3⟩ := validMach_facts s0
  have s2 := (order_iff _ _).1 s1
  have HH1 := Held.start Nob w
  refine enter (n := 57) Try.func62 rfl rfl rfl fun a_2 HE3 => ?_
  refine wp_seq ?_
  refine rg ?_
  refine pl fun K_4 hK5 => ?_
  refine st_box (cs := [.int .i64 (a0.1), .int .i64 (a0.2.1), .slice Az0_2 (a0.2.2.length) cz0_2]) HE3 HH1 rfl rfl (wt0 rfl) rfl fun q21 a_6 w' HE7 HH8 => hK5 _ _ ?_
  refine pl fun K_9 hK10 => ?_
  refine st_alloc HE7 HH8 tv_48 (wt0 rfl) rfl fun q22 a_11 w' HE12 HH13 => hK10 _ _ ?_
  refine wpList_nil ?_
  clear a_2 HE3 HH1 K_4 hK5 a_6 HE7 HH8 hK10 K_9
  refine nrm ?_
  refine wp_seq ?_
  refine rg ?_
  refine pl_x HE12 HH13 (wt0 rfl) (x_loadN (cs := [.int .i64 (a0.1), .int .i64 (a0.2.1), .slice Az0_2 (a0.2.2.length) cz0_2]) tv_48 rfl rfl (c_blkN 1 rfl)) rfl rfl fun a_14 HE15 => ?_
  refine pl fun K_16 hK17 => ?_
  refine st_call HE15 (wt0 rfl) rfl rfl rfl en_97 rfl rfl (impl_copyMachine [.int .i64 (a0.1), .int .i64 (a0.2.1), .slice Az0_2 (a0.2.2.length) cz0_2] a0 _ (HH13.oldR H0) (by omega)) fun e w' hr => ?_
  obtain ⟨esr23_0, rfl, hor23_0, hbr23⟩ := hr
  have hr := eMachine.read hor23_0
  obtain ⟨Sr23, HH18⟩ := HH13.newO hbr23 hor23_0
  obtain ⟨Ar23_0_2, cr23_0_2, rfl, gr23_0_0, gr23_0_1, gr23_0_2⟩ := shape_Machine hr
  have jr23_0_0 := gr23_0_0; unfold I64 at jr23_0_0
  have jr23_0_1 := gr23_0_1; unfold I64 at jr23_0_1
  have HH19 := HH18.unF rfl
  have HH20 := HH19.unF rfl
  refine ⟨_, rfl, fun a_21 HE22 => hK17 _ _ ?_⟩
  refine pl fun K_23 hK24 => ?_
  refine st_alloc HE22 HH20 tv_48 (wt0 rfl) rfl fun q24 a_25 w' HE26 HH27 => hK24 _ _ ?_
  refine pl fun K_28 hK29 => ?_
  refine st_store (vs := [.int .i64 (a0.1), .int .i64 (a0.2.1), .slice Ar23_0_2 (a0.2.2.length) cr23_0_2]) 0 HE26 HH27 tv_48 rfl rfl rfl rfl rfl rfl (by simp [Value.oneCell']) (wt0 rfl) fun w' HH30 => hK29 _ _ ?_
  refine wpList_nil ?_
  clear a_11 HE12 HH13 HH18 HH19 a_14 HE15 K_16 hK17 a_21 HE22 HH20 K_23 hK24 HH27 hK29 K_28
  refine nrm ?_
  refine wp_seq ?_
  refine wp_seq ?_
  refine rg ?_
  refine pl_x HE26 HH30 (wt0 rfl) (x_fieldAddr fa_48_2 rfl) rfl rfl fun a_31 HE32 => ?_
  refine pl_x HE32 HH30 (wt0 rfl) (x_load1 tv_46 rfl (c_blk 3 rfl rfl)) rfl rfl fun a_33 HE34 => ?_
  refine pl_x HE34 HH30 (wt0 rfl) (x_len Try.underlying46 rfl) rfl rfl fun a_35 HE36 => ?_
  refine pl_x HE36 HH30 (wt0 rfl) (x_move rfl) rfl rfl fun a_37 HE38 => ?_
  refine wpList_nil ?_
  clear a_25 HE26 a_31 HE32 a_33 HE34 a_35 HE36
  refine nrm ?_
  refine wp_block ?_
  refine lp (fun m a w' => ∃ (k : Nat) (S_7_2 : Nat → Prop), m = a0.2.2.length - k ∧ Env 57 [(16, .int .i64 (k : Int)), (1, .func (.func 63) #[] #[.pointer (some ⟨p3, 0, none⟩)]), (2, .func (.func 64) #[] #[]), (3, .pointer (some ⟨q21, 0, none⟩)), (6, .pointer (some ⟨q22, 0, none⟩)), (7, .pointer (some ⟨q24, 0, none⟩)), (14, .slice Az0_2 (a0.2.2.length) cz0_2), (15, .int .i64 ((a0.2.2.length : Int)))] a ∧ Held Nob w [rSo eRule S_7_2 Ar23_0_2 cr23_0_2 (renTo a0 (lkF a3) (id) k), rBlk q24 48 [.int .i64 a0.1, .int .i64 a0.2.1, .slice Ar23_0_2 (List.length (renTo a0 (lkF a3) (id) k)) cr23_0_2], rBlk q22 48 [.int .i64 (0), .int .i64 (0), .slice none (0) 0], rBlk q21 48 [.int .i64 (a0.1), .int .i64 (a0.2.1), .slice Az0_2 (a0.2.2.length) cz0_2]] w' ∧ (k ≤ a0.2.2.length)) (a0.2.2.length - (0)) ?_ ?_
  · have E25 : renTo a0 (lkF a3) (id) 0 = a0.2.2 := by
      rfl
    exact ⟨0, Sr23, rfl, HE38.sub ⟨(lkI rfl (by first | rfl | omega | (simp []; done))), rfl, rfl, rfl, rfl, rfl, rfl, rfl, trivial⟩, ((HH30.sel [1, 0, 2, 3] (by decide) rfl).to (by first | rfl | (rw [E25]; done) | (rw [E25]; rfl) | (simp only [E25]; done) | (simp only [E25]; rfl) | (rw [E25]; simp only [List.length_set]; done))), (by first | omega | assumption | (simp; done) | simp_all)⟩
  · rintro m a_39 w' ⟨k, S_7_2, rfl, HE40, HH41, p26_0⟩
    have hl0 := renTo_len a0 (lkF a3) (id) k
    refine wp_seq ?_
    refine rg ?_
    refine pl_x HE40 HH41 (wt0 rfl) (x_lss rfl rfl) rfl rfl fun a_42 HE43 => ?_
    refine wpList_nil ?_
    clear a_37 HE38 HH30 a_39 HE40
    refine nrm ?_
    refine wp_seq ?_
    refine cnd_d HE43 rfl (fun hc27 => ?_) (fun hc27 => ?_)
    · refine wp_skip ?_
      refine nrm ?_
      refine wp_seq ?_
      refine wp_block ?_
      refine wp_seq ?_
      refine rg ?_
      refine pl_x HE43 HH41 (wt0 rfl) (x_move rfl) rfl rfl fun a_44 HE45 => ?_
      have ke28 : k < a0.2.2.length := by omega
      obtain ⟨be28, fe28, ese28, Ae28, Re28, De28⟩ := el_old gz0_2 ke28
      obtain ⟨e28, xe28⟩ : ∃ x_, x_ = a0.2.2[k] := ⟨_, rfl⟩
      rw [← xe28] at Re28
      have Qe28 := Re28
      obtain ⟨rfl, ge28_0, ge28_1, ge28_2⟩ := shape_Rule Re28
      have je28_0 := ge28_0; unfold I64 at je28_0
      have je28_1 := ge28_1; unfold I64 at je28_1
      have je28_2 := ge28_2; unfold I64 at je28_2
      have hx0 : e28 = a0.2.2[k] := xe28
      have be28 := validMach_rule s0 e28 (by rw [xe28]; exact List.getElem_mem _)
      obtain ⟨ue28, te28⟩ := part_bd (k := k) v0 v1 (by omega)
      have ye28 := fun k (hk : 0 ≤ k ∧ k < a0.2.1) => order_lk s1 hk
      have pe28 := ye28 _ ue28
      obtain ⟨me28, ne28⟩ := at_bd v0 v1 pe28 te28
      refine pl_x HE45 HH41 (wt0 rfl) (x_indexAddr ts_46 rfl rfl Ae28 rfl ke28) rfl rfl fun a_46 HE47 => ?_
      refine pl_x HE47 HH41 (wt0 rfl) (x_loadN (cs := [.int .i64 (e28.1), .int .i64 (e28.2.1), .int .i64 (e28.2.2)]) tv_114 rfl rfl (c_oldN De28)) rfl rfl fun a_48 HE49 => ?_
      refine pl fun K_50 hK51 => ?_
      refine st_alloc HE49 HH41 tv_114 (wt0 rfl) rfl fun q29 a_52 w' HE53 HH54 => hK51 _ _ ?_
      refine pl_x HE53 HH54 (wt0 rfl) (x_assign rfl) rfl rfl fun a_55 HE56 => ?_
      refine pl fun K_57 hK58 => ?_
      refine st_store (vs := [.int .i64 (e28.1), .int .i64 (e28.2.1), .int .i64 (e28.2.2)]) 0 HE56 HH54 tv_114 rfl rfl rfl rfl rfl rfl (by simp [Value.oneCell']) (wt0 rfl) fun w' HH59 => hK58 _ _ ?_
      refine wpList_nil ?_
      clear a_42 HE43 a_44 HE45 a_46 HE47 a_48 HE49 HH41 a_52 HE53 K_50 hK51 HH54 hK58 K_57
      refine nrm ?_
      refine wp_seq ?_
      refine dr_start (Held Nob w [rBlk q29 114 [.int .i64 (e28.1), .int .i64 (e28.2.1), .int .i64 (e28.2.2)], rSo eRule S_7_2 Ar23_0_2 cr23_0_2 (renTo a0 (lkF a3) (id) k), rBlk q24 48 [.int .i64 (a0.1), .int .i64 (a0.2.1), .slice Ar23_0_2 ((List.length (renTo a0 (lkF a3) (id) k))) cr23_0_2], rBlk q22 48 [.int .i64 (0), .int .i64 (0), .slice none (0) 0], rBlk q21 48 [.int .i64 (a0.1), .int .i64 (a0.2.1), .slice Az0_2 (a0.2.2.length) cz0_2]]) 17 #[false, false, false, false, false, false, false, false, false, false, false, false, false, false, false, false, false] hmix rfl rfl HH59 (fun _ h => h.sel [0, 1, 2, 3, 4] (by decide) rfl) fun w' HH60 => ?_
      have HS61 := HH60
      refine dr_take (i := 0) (ls' := #[true, false, false, false, false, false, false, false, false, false, false, false, false, false, false, false, false]) HE56 HS61 rfl (by kernel_rfl) (by kernel_rfl) (by kernel_rfl) (fun _ _ _ h => h) rfl (wt0 rfl) (x_move rfl) rfl rfl fun a_62 HE63 => ?_
      refine dr_take (i := 1) (ls' := #[true, true, false, false, false, false, false, false, false, false, false, false, false, false, false, false, false]) HE63 HS61 rfl (by kernel_rfl) (by kernel_rfl) (by kernel_rfl) (fun _ _ _ h => h) rfl (wt0 rfl) (x_move rfl) rfl rfl fun a_64 HE65 => ?_
      refine dr_take (i := 2) (ls' := #[true, true, true, false, false, false, false, false, false, false, false, false, false, false, false, false, false]) HE65 HS61 rfl (by kernel_rfl) (by kernel_rfl) (by kernel_rfl) (fun _ _ _ h => h) rfl (wt0 rfl) (x_fieldAddr fa_48_0 rfl) rfl rfl fun a_66 HE67 => ?_
      refine dr_take (i := 3) (ls' := #[true, true, true, true, false, false, false, false, false, false, false, false, false, false, false, false, false]) HE67 HS61 rfl (by kernel_rfl) (by kernel_rfl) (by kernel_rfl) (fun _ _ _ h => h) rfl (wt0 rfl) (x_load1 tv_2 rfl (c_blk 4 rfl rfl)) rfl rfl fun a_68 HE69 => ?_
      refine dr_take (i := 4) (ls' := #[true, true, true, true, true, false, false, false, false, false, false, false, false, false, false, false, false]) HE69 HS61 rfl (by kernel_rfl) (by kernel_rfl) (by kernel_rfl) (fun _ _ _ h => h) rfl (wt0 rfl) (x_quo rfl rfl (by omega) (by omega) (by omega)) rfl rfl fun a_70 HE71 => ?_
      refine dr_take (i := 6) (ls' := #[true, true, true, true, true, false, true, false, false, false, false, false, false, false, false, false, false]) HE71 HS61 rfl (by kernel_rfl) (by kernel_rfl) (by kernel_rfl) (fun _ _ _ h => h) rfl (wt0 rfl) (x_fieldAddr fa_48_0 rfl) rfl rfl fun a_72 HE73 => ?_
      refine dr_take (i := 7) (ls' := #[true, true, true, true, true, false, true, true, false, false, false, false, false, false, false, false, false]) HE73 HS61 rfl (by kernel_rfl) (by kernel_rfl) (by kernel_rfl) (fun _ _ _ h => h) rfl (wt0 rfl) (x_load1 tv_2 rfl (c_blk 4 rfl rfl)) rfl rfl fun a_74 HE75 => ?_
      refine dr_take (i := 9) (ls' := #[true, true, true, true, true, false, true, true, false, true, false, false, false, false, false, false, false]) HE75 HS61 rfl (by kernel_rfl) (by kernel_rfl) (by kernel_rfl) (fun _ _ _ h => h) rfl (wt0 rfl) (x_move rfl) rfl rfl fun a_76 HE77 => ?_
      refine dr_take (i := 10) (ls' := #[true, true, true, true, true, false, true, true, false, true, true, false, false, false, false, false, false]) HE77 HS61 rfl (by kernel_rfl) (by kernel_rfl) (by kernel_rfl) (fun _ _ _ h => h) rfl (wt0 rfl) (x_move rfl) rfl rfl fun a_78 HE79 => ?_
      refine dr_take (i := 11) (ls' := #[true, true, true, true, true, false, true, true, false, true, true, true, false, false, false, false, false]) HE79 HS61 rfl (by kernel_rfl) (by kernel_rfl) (by kernel_rfl) (fun _ _ _ h => h) rfl (wt0 rfl) (x_fieldAddr fa_48_0 rfl) rfl rfl fun a_80 HE81 => ?_
      refine dr_take (i := 12) (ls' := #[true, true, true, true, true, false, true, true, false, true, true, true, true, false, false, false, false]) HE81 HS61 rfl (by kernel_rfl) (by kernel_rfl) (by kernel_rfl) (fun _ _ _ h => h) rfl (wt0 rfl) (x_load1 tv_2 rfl (c_blk 4 rfl rfl)) rfl rfl fun a_82 HE83 => ?_
      refine dr_take (i := 13) (ls' := #[true, true, true, true, true, false, true, true, false, true, true, true, true, true, false, false, false]) HE83 HS61 rfl (by kernel_rfl) (by kernel_rfl) (by kernel_rfl) (fun _ _ _ h => h) rfl (wt0 rfl) (x_rem rfl rfl (by omega) (by omega)) rfl rfl fun a_84 HE85 => ?_
      refine dr_one (i := 5) (ls' := #[true, true, true, true, true, true, true, true, false, true, true, true, true, true, false, false, false]) rfl (by kernel_rfl) rfl fun K_86 hK87 => ?_
      refine st_callD HE85 (wt0 rfl) rfl rfl rfl en_63 rfl rfl (impl_RenameStates1 ((k : Int) / a0.1) _ [.slice Az3_0 (a3.length) cz3_0] a3 _ (HH60.oldR H3) (c_oldN hq3 _ HH60) (by omega)) fun e w' hr => ?_
      obtain ⟨rfl, hbr30⟩ := hr
      have HH88 := HH60.on hbr30
      refine ⟨_, rfl, fun a_89 HE90 => hK87 _ _ (by exact HH88.sel [0, 1, 2, 3, 4] (by decide) rfl) ?_⟩
      have HS91 := HH88.sel [0, 1, 2, 3, 4] (by decide) rfl
      refine dr_take (i := 8) (ls' := #[true, true, true, true, true, true, true, true, true, true, true, true, true, true, false, false, false]) HE90 HS91 rfl (by kernel_rfl) (by kernel_rfl) (by kernel_rfl) (fun _ _ _ h => h) rfl (wt0 rfl) (x_mul rfl rfl (by exact ⟨by omega, by omega⟩)) rfl rfl fun a_92 HE93 => ?_
      refine dr_one (i := 14) (ls' := #[true, true, true, true, true, true, true, true, true, true, true, true, true, true, true, false, false]) rfl (by kernel_rfl) rfl fun K_94 hK95 => ?_
      refine st_call HE93 (wt0 rfl) rfl rfl rfl en_64 rfl rfl (impl_same ((k : Int) % a0.1) _ ) fun e w' hr => ?_
      obtain ⟨rfl, hbr31⟩ := hr
      have HH96 := HH88.on hbr31
      refine ⟨_, rfl, fun a_97 HE98 => hK95 _ _ (by exact HH96.sel [0, 1, 2, 3, 4] (by decide) rfl) ?_⟩
      have HS99 := HH96.sel [0, 1, 2, 3, 4] (by decide) rfl
      refine dr_take (i := 15) (ls' := #[true, true, true, true, true, true, true, true, true, true, true, true, true, true, true, true, false]) HE98 HS99 rfl (by kernel_rfl) (by kernel_rfl) (by kernel_rfl) (fun _ _ _ h => h) rfl (wt0 rfl) (x_add rfl rfl (by exact ⟨by omega, by omega⟩)) rfl rfl fun a_100 HE101 => ?_
      refine dr_take (i := 16) (ls' := #[true, true, true, true, true, true, true, true, true, true, true, true, true, true, true, true, true]) HE101 HS99 rfl (by kernel_rfl) (by kernel_rfl) (by kernel_rfl) (fun _ _ _ h => h) rfl (wt0 rfl) (x_assign rfl) rfl rfl fun a_102 HE103 => ?_
      refine dr_done (by kernel_rfl) ?_
      clear HH59 a_55 HE56 a_62 HE63 a_64 HE65 a_66 HE67 a_68 HE69 a_70 HE71 a_72 HE73 a_74 HE75 a_76 HE77 a_78 HE79 a_80 HE81 a_82 HE83 HH60 a_84 HE85 HS61 a_89 HE90 K_86 hK87 HH88 a_92 HE93 HS91 a_97 HE98 a_100 HE101 hK95 K_94
      refine nrm ?_
      refine wp_seq ?_
      refine wp_seq ?_
      refine rg ?_
      refine pl_x HE103 HH96 (wt0 rfl) (x_loadN (cs := [.int .i64 (e28.1), .int .i64 (e28.2.1), .int .i64 (e28.2.2)]) tv_114 rfl rfl (c_blkN 0 rfl)) rfl rfl fun a_104 HE105 => ?_
      refine pl fun K_106 hK107 => ?_
      refine st_call HE105 (wt0 rfl) rfl rfl rfl en_98 rfl rfl (impl_isRule [.int .i64 (e28.1), .int .i64 (e28.2.1), .int .i64 (e28.2.2)] e28 _ (HH96.oldR Qe28)) fun e w' hr => ?_
      obtain ⟨rfl, hbr32⟩ := hr
      have HH108 := HH96.on hbr32
      refine ⟨_, rfl, fun a_109 HE110 => hK107 _ _ ?_⟩
      refine wpList_nil ?_
      clear a_102 HE103 HH96 a_104 HE105 hK107 K_106
      refine nrm ?_
      refine cnd_b HE110 rfl (fun hc33 => ?_) (fun hc33 => ?_)
      · obtain ⟨r0, r1⟩ := be28 hc33
        have r2 := ye28 _ r1
        refine dr_start (Held Nob w [rSo eRule S_7_2 Ar23_0_2 cr23_0_2 (renTo a0 (lkF a3) (id) k), rBlk q24 48 [.int .i64 (a0.1), .int .i64 (a0.2.1), .slice Ar23_0_2 ((List.length (renTo a0 (lkF a3) (id) k))) cr23_0_2], rBlk q22 48 [.int .i64 (0), .int .i64 (0), .slice none (0) 0], rBlk q21 48 [.int .i64 (a0.1), .int .i64 (a0.2.1), .slice Az0_2 (a0.2.2.length) cz0_2]]) 12 #[false, false, false, false, false, false, false, false, false, false, false, false] hmix rfl rfl HH108 (fun _ h => h.sel [1, 2, 3, 4] (by decide) rfl) fun w' HH111 => ?_
        have HS112 := HH111.sel [1, 2, 3, 4] (by decide) rfl
        refine dr_take (i := 0) (ls' := #[true, false, false, false, false, false, false, false, false, false, false, false]) HE110 HS112 rfl (by kernel_rfl) (by kernel_rfl) (by kernel_rfl) (fun _ _ _ h => h) rfl (wt0 rfl) (x_move rfl) rfl rfl fun a_113 HE114 => ?_
        refine dr_take (i := 1) (ls' := #[true, true, false, false, false, false, false, false, false, false, false, false]) HE114 HS112 rfl (by kernel_rfl) (by kernel_rfl) (by kernel_rfl) (fun _ _ _ h => h) rfl (wt0 rfl) (x_fieldAddr fa_114_0 rfl) rfl rfl fun a_115 HE116 => ?_
        refine dr_take (i := 4) (ls' := #[true, true, false, false, true, false, false, false, false, false, false, false]) HE116 HS112 rfl (by kernel_rfl) (by kernel_rfl) (by kernel_rfl) (fun _ _ _ h => h) rfl (wt0 rfl) (x_fieldAddr fa_114_1 rfl) rfl rfl fun a_117 HE118 => ?_
        refine dr_take (i := 6) (ls' := #[true, true, false, false, true, false, true, false, false, false, false, false]) HE118 HS112 rfl (by kernel_rfl) (by kernel_rfl) (by kernel_rfl) (fun _ _ _ h => h) rfl (wt0 rfl) (x_move rfl) rfl rfl fun a_119 HE120 => ?_
        refine dr_take (i := 7) (ls' := #[true, true, false, false, true, false, true, true, false, false, false, false]) HE120 HS112 rfl (by kernel_rfl) (by kernel_rfl) (by kernel_rfl) (fun _ _ _ h => h) rfl (wt0 rfl) (x_fieldAddr fa_114_2 rfl) rfl rfl fun a_121 HE122 => ?_
        refine dr_three (i := 2) (j := 5) (k := 8) (l1 := #[true, true, true, false, true, false, true, true, false, false, false, false]) (l2 := #[true, true, false, false, true, true, true, true, false, false, false, false]) (l3 := #[true, true, false, false, true, false, true, true, true, false, false, false]) rfl rfl rfl (by kernel_rfl) rfl rfl rfl (fun K_123 hK124 => ?_) (fun K_123 hK124 => ?_) (fun K_123 hK124 => ?_)
        · refine st_x HE122 HH111 (wt0 rfl) (x_load1 tv_2 rfl (c_blk 0 rfl rfl)) rfl rfl fun a_125 HE126 => hK124 _ _ HS112 ?_
          refine dr_three (i := 3) (j := 5) (k := 8) (l1 := #[true, true, true, true, true, false, true, true, false, false, false, false]) (l2 := #[true, true, true, false, true, true, true, true, false, false, false, false]) (l3 := #[true, true, true, false, true, false, true, true, true, false, false, false]) rfl rfl rfl (by kernel_rfl) rfl rfl rfl (fun K_127 hK128 => ?_) (fun K_127 hK128 => ?_) (fun K_127 hK128 => ?_)
          · refine st_call HE126 (wt0 rfl) rfl rfl rfl en_64 rfl rfl (impl_same e28.1 _ ) fun e w' hr => ?_
            obtain ⟨rfl, hbr34⟩ := hr
            have HH129 := HH111.on hbr34
            refine ⟨_, rfl, fun a_130 HE131 => hK128 _ _ (by exact HH129.sel [1, 2, 3, 4] (by decide) rfl) ?_⟩
            have HS132 := HH129.sel [1, 2, 3, 4] (by decide) rfl
            refine dr_two (i := 5) (j := 8) (ls' := #[true, true, true, true, true, true, true, true, false, false, false, false]) (ls'' := #[true, true, true, true, true, false, true, true, true, false, false, false]) rfl rfl (by kernel_rfl) rfl rfl (fun K_133 hK134 => ?_) (fun K_133 hK134 => ?_)
            · refine st_x HE131 HH129 (wt0 rfl) (x_load1 tv_2 rfl (c_blk 0 rfl rfl)) rfl rfl fun a_135 HE136 => hK134 _ _ HS132 ?_
              refine dr_one (i := 8) (ls' := #[true, true, true, true, true, true, true, true, true, false, false, false]) rfl (by kernel_rfl) rfl fun K_137 hK138 => ?_
              refine st_x HE136 HH129 (wt0 rfl) (x_load1 tv_2 rfl (c_blk 0 rfl rfl)) rfl rfl fun a_139 HE140 => hK138 _ _ HS132 ?_
              refine dr_one (i := 9) (ls' := #[true, true, true, true, true, true, true, true, true, true, false, false]) rfl (by kernel_rfl) rfl fun K_141 hK142 => ?_
              refine st_callD HE140 (wt0 rfl) rfl rfl rfl en_63 rfl rfl (impl_RenameStates1 e28.2.2 _ [.slice Az3_0 (a3.length) cz3_0] a3 _ (HH129.oldR H3) (c_oldN hq3 _ HH129) (by omega)) fun e w' hr => ?_
              obtain ⟨rfl, hbr35⟩ := hr
              have HH143 := HH129.on hbr35
              refine ⟨_, rfl, fun a_144 HE145 => hK142 _ _ (by exact HH143.sel [1, 2, 3, 4] (by decide) rfl) ?_⟩
              have HS146 := HH143.sel [1, 2, 3, 4] (by decide) rfl
              refine dr_take (i := 10) (ls' := #[true, true, true, true, true, true, true, true, true, true, true, false]) HE145 HS146 rfl (by kernel_rfl) (by kernel_rfl) (by kernel_rfl) (fun _ _ _ h => h) rfl (wt0 rfl) (show XS _ _ _ _ (.agg #[.int .i64 (e28.1), .int .i64 (e28.2.1), .int .i64 ((lkX e28.2.2 a3))]) from x_build (vs := [(0, .int .i64 (e28.1)), (1, .int .i64 (e28.2.1)), (2, .int .i64 ((lkX e28.2.2 a3)))]) tb_114 rfl (by simp [Value.oneCell'])) rfl rfl fun a_147 HE148 => ?_
              refine dr_one (i := 11) (ls' := #[true, true, true, true, true, true, true, true, true, true, true, true]) rfl (by kernel_rfl) rfl fun K_149 hK150 => ?_
              refine st_store (vs := [.int .i64 (e28.1), .int .i64 (e28.2.1), .int .i64 ((lkX e28.2.2 a3))]) 0 HE148 HH143 tv_114 rfl rfl rfl rfl rfl rfl (by simp [Value.oneCell']) (wt0 rfl) fun w' HH151 => hK150 _ _ (by exact HH151.sel [1, 2, 3, 4] (by decide) rfl) ?_
              have HS152 := HH151.sel [1, 2, 3, 4] (by decide) rfl
              refine dr_done (by kernel_rfl) ?_
              clear HH108 HS99 a_109 HE110 a_113 HE114 a_115 HE116 a_117 HE118 a_119 HE120 a_121 HE122 K_123 hK124 HH111 a_125 HE126 HS112 K_127 hK128 a_130 HE131 K_133 hK134 a_135 HE136 K_137 hK138 HH129 a_139 HE140 HS132 a_144 HE145 K_141 hK142 HH143 HS146 hK150 K_149
              refine nrm ?_
              refine rg ?_
              refine pl_x HE148 HH151 (wt0 rfl) (x_fieldAddr fa_48_2 rfl) rfl rfl fun a_153 HE154 => ?_
              refine pl_x HE154 HH151 (wt0 rfl) (x_load1 tv_46 rfl (c_blk 2 rfl rfl)) rfl rfl fun a_155 HE156 => ?_
              refine pl_x HE156 HH151 (wt0 rfl) (x_move rfl) rfl rfl fun a_157 HE158 => ?_
              refine pl_x HE158 HH151 (wt0 rfl) (x_loadN (cs := [.int .i64 (e28.1), .int .i64 (e28.2.1), .int .i64 ((lkX e28.2.2 a3))]) tv_114 rfl rfl (c_blkN 0 rfl)) rfl rfl fun a_159 HE160 => ?_
              have HH161 := HH151.sel [1, 0, 2, 3, 4] (by decide) rfl
              have ke36 : ((((lkX ((k : Int) / a0.1) a3) * a0.1) + ((k : Int) % a0.1))).toNat < List.length (renTo a0 (lkF a3) (id) k) := by omega
              have ne36 : ((((lkX ((k : Int) / a0.1) a3) * a0.1) + ((k : Int) % a0.1))).toNat < (List.length (renTo a0 (lkF a3) (id) k)) := by omega
              obtain ⟨be36, fe36, ese36, Te36, rfl, Re36, Ze36, HH162⟩ := HH161.open ke36
              obtain ⟨e36, xe36⟩ : ∃ x_, x_ = (renTo a0 (lkF a3) (id) k)[((((lkX ((k : Int) / a0.1) a3) * a0.1) + ((k : Int) % a0.1))).toNat] := ⟨_, rfl⟩
              rw [← xe36] at Re36
              rw [← xe36] at HH162
              obtain ⟨rfl, ge36_0, ge36_1, ge36_2⟩ := shape_Rule Re36
              clear Re36
              have je36_0 := ge36_0; unfold I64 at je36_0
              have je36_1 := ge36_1; unfold I64 at je36_1
              have je36_2 := ge36_2; unfold I64 at je36_2
              refine pl_x HE160 HH162 (wt0 rfl) (x_indexAddr ts_46 rfl rfl rfl (by omega) ne36) rfl rfl fun a_163 HE164 => ?_
              refine pl fun K_165 hK166 => ?_
              refine st_storeFN (vs := [.int .i64 (e28.1), .int .i64 (e28.2.1), .int .i64 ((lkX e28.2.2 a3))]) 0 HE164 HH162 tv_114 rfl rfl rfl rfl rfl rfl rfl (by simp [Value.oneCell']) (wt0 rfl) fun w' HH167 => hK166 _ _ ?_
              refine wpList_nil ?_
              clear a_147 HE148 a_153 HE154 a_155 HE156 a_157 HE158 HH151 HH161 a_159 HE160 HH162 hK166 K_165
              refine blk_n ?_
              refine nrm ?_
              refine rg ?_
              refine pl_x HE164 HH167 (wt0 rfl) (x_add rfl rfl (by exact ⟨by omega, by omega⟩)) rfl rfl fun a_168 HE169 => ?_
              refine pl_x HE169 HH167 (wt0 rfl) (x_move rfl) rfl rfl fun a_170 HE171 => ?_
              refine wpList_nil ?_
              clear a_163 HE164 a_168 HE169
              have HH172 := HH167.flatO (E := eRule) (cs := [.int .i64 (e28.1), .int .i64 (e28.2.1), .int .i64 ((lkX e28.2.2 a3))]) (x := (e28.1, e28.2.1, (lkX e28.2.2 a3))) (fun _ => (oPrN (oI (by exact ⟨by omega, by omega⟩)) (oPrN (oI (by exact ⟨by omega, by omega⟩)) (oI (by exact ⟨by omega, by omega⟩)))))
              have HH173 := HH172.sel [1, 0, 2, 3, 4, 5, 6] (by decide) rfl
              have HH174 := HH173.shut
              obtain ⟨S37, HH175⟩ : ∃ S, Held Nob w (rSo eRule S (some ⟨be36, fe36, none⟩) cr23_0_2 ((renTo a0 (lkF a3) (id) k).set (((((lkX ((k : Int) / a0.1) a3) * a0.1) + ((k : Int) % a0.1))).toNat) (e28.1, e28.2.1, (lkX e28.2.2 a3))) :: _) _ := ⟨_, HH174⟩
              have E38 : renTo a0 (lkF a3) (id) (k + 1) = ((renTo a0 (lkF a3) (id) k).set (((((lkX ((k : Int) / a0.1) a3) * a0.1) + ((k : Int) % a0.1))).toNat) (e28.1, e28.2.1, (lkX e28.2.2 a3))) := by
                rw [← renTo_step (by omega) hx0]; unfold rulR; simp [hc33, atR, lkF]
              exact nrm ⟨a0.2.2.length - (k + 1), (by omega), k + 1, S37, rfl, HE171.sub ⟨(lkI rfl (by first | rfl | omega | (simp [p26_0, hc27, xe28, hc33, xe36]; done))), rfl, rfl, rfl, rfl, rfl, rfl, rfl, trivial⟩, ((HH175.sel [0, 3, 4, 5] (by decide) rfl).to (by first | rfl | (rw [E38]; done) | (rw [E38]; rfl) | (simp only [E38]; done) | (simp only [E38]; rfl) | (rw [E38]; simp only [List.length_set]; done))), (by first | omega | assumption | (simp; done) | simp_all)⟩
            · refine st_x HE131 HH129 (wt0 rfl) (x_load1 tv_2 rfl (c_blk 0 rfl rfl)) rfl rfl fun a_176 HE177 => hK134 _ _ HS132 ?_
              refine dr_two (i := 5) (j := 9) (ls' := #[true, true, true, true, true, true, true, true, true, false, false, false]) (ls'' := #[true, true, true, true, true, false, true, true, true, true, false, false]) rfl rfl (by kernel_rfl) rfl rfl (fun K_178 hK179 => ?_) (fun K_178 hK179 => ?_)
              · refine st_x HE177 HH129 (wt0 rfl) (x_load1 tv_2 rfl (c_blk 0 rfl rfl)) rfl rfl fun a_180 HE181 => hK179 _ _ HS132 ?_
                refine dr_one (i := 9) (ls' := #[true, true, true, true, true, true, true, true, true, true, false, false]) rfl (by kernel_rfl) rfl fun K_182 hK183 => ?_
                refine st_callD HE181 (wt0 rfl) rfl rfl rfl en_63 rfl rfl (impl_RenameStates1 e28.2.2 _ [.slice Az3_0 (a3.length) cz3_0] a3 _ (HH129.oldR H3) (c_oldN hq3 _ HH129) (by omega)) fun e w' hr => ?_
                obtain ⟨rfl, hbr39⟩ := hr
                have HH184 := HH129.on hbr39
                refine ⟨_, rfl, fun a_185 HE186 => hK183 _ _ (by exact HH184.sel [1, 2, 3, 4] (by decide) rfl) ?_⟩
                have HS187 := HH184.sel [1, 2, 3, 4] (by decide) rfl
                refine dr_take (i := 10) (ls' := #[true, true, true, true, true, true, true, true, true, true, true, false]) HE186 HS187 rfl (by kernel_rfl) (by kernel_rfl) (by kernel_rfl) (fun _ _ _ h => h) rfl (wt0 rfl) (show XS _ _ _ _ (.agg #[.int .i64 (e28.1), .int .i64 (e28.2.1), .int .i64 ((lkX e28.2.2 a3))]) from x_build (vs := [(0, .int .i64 (e28.1)), (1, .int .i64 (e28.2.1)), (2, .int .i64 ((lkX e28.2.2 a3)))]) tb_114 rfl (by simp [Value.oneCell'])) rfl rfl fun a_188 HE189 => ?_
                refine dr_one (i := 11) (ls' := #[true, true, true, true, true, true, true, true, true, true, true, true]) rfl (by kernel_rfl) rfl fun K_190 hK191 => ?_
                refine st_store (vs := [.int .i64 (e28.1), .int .i64 (e28.2.1), .int .i64 ((lkX e28.2.2 a3))]) 0 HE189 HH184 tv_114 rfl rfl rfl rfl rfl rfl (by simp [Value.oneCell']) (wt0 rfl) fun w' HH192 => hK191 _ _ (by exact HH192.sel [1, 2, 3, 4] (by decide) rfl) ?_
                have HS193 := HH192.sel [1, 2, 3, 4] (by decide) rfl
                refine dr_done (by kernel_rfl) ?_
                clear HH108 HS99 a_109 HE110 a_113 HE114 a_115 HE116 a_117 HE118 a_119 HE120 a_121 HE122 K_123 hK124 HH111 a_125 HE126 HS112 K_127 hK128 a_130 HE131 K_133 hK134 a_176 HE177 K_178 hK179 HH129 a_180 HE181 HS132 a_185 HE186 K_182 hK183 HH184 HS187 hK191 K_190
                refine nrm ?_
                refine rg ?_
                refine pl_x HE189 HH192 (wt0 rfl) (x_fieldAddr fa_48_2 rfl) rfl rfl fun a_194 HE195 => ?_
                refine pl_x HE195 HH192 (wt0 rfl) (x_load1 tv_46 rfl (c_blk 2 rfl rfl)) rfl rfl fun a_196 HE197 => ?_
                refine pl_x HE197 HH192 (wt0 rfl) (x_move rfl) rfl rfl fun a_198 HE199 => ?_
                refine pl_x HE199 HH192 (wt0 rfl) (x_loadN (cs := [.int .i64 (e28.1), .int .i64 (e28.2.1), .int .i64 ((lkX e28.2.2 a3))]) tv_114 rfl rfl (c_blkN 0 rfl)) rfl rfl fun a_200 HE201 => ?_
                have HH202 := HH192.sel [1, 0, 2, 3, 4] (by decide) rfl
                have ke40 : ((((lkX ((k : Int) / a0.1) a3) * a0.1) + ((k : Int) % a0.1))).toNat < List.length (renTo a0 (lkF a3) (id) k) := by omega
                have ne40 : ((((lkX ((k : Int) / a0.1) a3) * a0.1) + ((k : Int) % a0.1))).toNat < (List.length (renTo a0 (lkF a3) (id) k)) := by omega
                obtain ⟨be40, fe40, ese40, Te40, rfl, Re40, Ze40, HH203⟩ := HH202.open ke40
                obtain ⟨e40, xe40⟩ : ∃ x_, x_ = (renTo a0 (lkF a3) (id) k)[((((lkX ((k : Int) / a0.1) a3) * a0.1) + ((k : Int) % a0.1))).toNat] := ⟨_, rfl⟩
                rw [← xe40] at Re40
                rw [← xe40] at HH203
                obtain ⟨rfl, ge40_0, ge40_1, ge40_2⟩ := shape_Rule Re40
                clear Re40
                have je40_0 := ge40_0; unfold I64 at je40_0
                have je40_1 := ge40_1; unfold I64 at je40_1
                have je40_2 := ge40_2; unfold I64 at je40_2
                refine pl_x HE201 HH203 (wt0 rfl) (x_indexAddr ts_46 rfl rfl rfl (by omega) ne40) rfl rfl fun a_204 HE205 => ?_
                refine pl fun K_206 hK207 => ?_
                refine st_storeFN (vs := [.int .i64 (e28.1), .int .i64 (e28.2.1), .int .i64 ((lkX e28.2.2 a3))]) 0 HE205 HH203 tv_114 rfl rfl rfl rfl rfl rfl rfl (by simp [Value.oneCell']) (wt0 rfl) fun w' HH208 => hK207 _ _ ?_
                refine wpList_nil ?_
                clear a_188 HE189 a_194 HE195 a_196 HE197 a_198 HE199 HH192 HH202 a_200 HE201 HH203 hK207 K_206
                refine blk_n ?_
                refine nrm ?_
                refine rg ?_
                refine pl_x HE205 HH208 (wt0 rfl) (x_add rfl rfl (by exact ⟨by omega, by omega⟩)) rfl rfl fun a_209 HE210 => ?_
                refine pl_x HE210 HH208 (wt0 rfl) (x_move rfl) rfl rfl fun a_211 HE212 => ?_
                refine wpList_nil ?_
                clear a_204 HE205 a_209 HE210
                have HH213 := HH208.flatO (E := eRule) (cs := [.int .i64 (e28.1), .int .i64 (e28.2.1), .int .i64 ((lkX e28.2.2 a3))]) (x := (e28.1, e28.2.1, (lkX e28.2.2 a3))) (fun _ => (oPrN (oI (by exact ⟨by omega, by omega⟩)) (oPrN (oI (by exact ⟨by omega, by omega⟩)) (oI (by exact ⟨by omega, by omega⟩)))))
                have HH214 := HH213.sel [1, 0, 2, 3, 4, 5, 6] (by decide) rfl
                have HH215 := HH214.shut
                obtain ⟨S41, HH216⟩ : ∃ S, Held Nob w (rSo eRule S (some ⟨be40, fe40, none⟩) cr23_0_2 ((renTo a0 (lkF a3) (id) k).set (((((lkX ((k : Int) / a0.1) a3) * a0.1) + ((k : Int) % a0.1))).toNat) (e28.1, e28.2.1, (lkX e28.2.2 a3))) :: _) _ := ⟨_, HH215⟩
                have E42 : renTo a0 (lkF a3) (id) (k + 1) = ((renTo a0 (lkF a3) (id) k).set (((((lkX ((k : Int) / a0.1) a3) * a0.1) + ((k : Int) % a0.1))).toNat) (e28.1, e28.2.1, (lkX e28.2.2 a3))) := by
                  rw [← renTo_step (by omega) hx0]; unfold rulR; simp [hc33, atR, lkF]
                exact nrm ⟨a0.2.2.length - (k + 1), (by omega), k + 1, S41, rfl, HE212.sub ⟨(lkI rfl (by first | rfl | omega | (simp [p26_0, hc27, xe28, hc33, xe40]; done))), rfl, rfl, rfl, rfl, rfl, rfl, rfl, trivial⟩, ((HH216.sel [0, 3, 4, 5] (by decide) rfl).to (by first | rfl | (rw [E42]; done) | (rw [E42]; rfl) | (simp only [E42]; done) | (simp only [E42]; rfl) | (rw [E42]; simp only [List.length_set]; done))), (by first | omega | assumption | (simp; done) | simp_all)⟩
              · refine st_callD HE177 (wt0 rfl) rfl rfl rfl en_63 rfl rfl (impl_RenameStates1 e28.2.2 _ [.slice Az3_0 (a3.length) cz3_0] a3 _ (HH129.oldR H3) (c_oldN hq3 _ HH129) (by omega)) fun e w' hr => ?_
                obtain ⟨rfl, hbr43⟩ := hr
                have HH217 := HH129.on hbr43
                refine ⟨_, rfl, fun a_218 HE219 => hK179 _ _ (by exact HH217.sel [1, 2, 3, 4] (by decide) rfl) ?_⟩
                have HS220 := HH217.sel [1, 2, 3, 4] (by decide) rfl
                refine dr_one (i := 5) (ls' := #[true, true, true, true, true, true, true, true, true, true, false, false]) rfl (by kernel_rfl) rfl fun K_221 hK222 => ?_
                refine st_x HE219 HH217 (wt0 rfl) (x_load1 tv_2 rfl (c_blk 0 rfl rfl)) rfl rfl fun a_223 HE224 => hK222 _ _ HS220 ?_
                refine dr_take (i := 10) (ls' := #[true, true, true, true, true, true, true, true, true, true, true, false]) HE224 HS220 rfl (by kernel_rfl) (by kernel_rfl) (by kernel_rfl) (fun _ _ _ h => h) rfl (wt0 rfl) (show XS _ _ _ _ (.agg #[.int .i64 (e28.1), .int .i64 (e28.2.1), .int .i64 ((lkX e28.2.2 a3))]) from x_build (vs := [(0, .int .i64 (e28.1)), (1, .int .i64 (e28.2.1)), (2, .int .i64 ((lkX e28.2.2 a3)))]) tb_114 rfl (by simp [Value.oneCell'])) rfl rfl fun a_225 HE226 => ?_
                refine dr_one (i := 11) (ls' := #[true, true, true, true, true, true, true, true, true, true, true, true]) rfl (by kernel_rfl) rfl fun K_227 hK228 => ?_
                refine st_store (vs := [.int .i64 (e28.1), .int .i64 (e28.2.1), .int .i64 ((lkX e28.2.2 a3))]) 0 HE226 HH217 tv_114 rfl rfl rfl rfl rfl rfl (by simp [Value.oneCell']) (wt0 rfl) fun w' HH229 => hK228 _ _ (by exact HH229.sel [1, 2, 3, 4] (by decide) rfl) ?_
                have HS230 := HH229.sel [1, 2, 3, 4] (by decide) rfl
                refine dr_done (by kernel_rfl) ?_
                clear HH108 HS99 a_109 HE110 a_113 HE114 a_115 HE116 a_117 HE118 a_119 HE120 a_121 HE122 K_123 hK124 HH111 a_125 HE126 HS112 K_127 hK128 a_130 HE131 K_133 hK134 HH129 a_176 HE177 HS132 K_178 hK179 a_218 HE219 a_223 HE224 K_221 hK222 HH217 HS220 hK228 K_227
                refine nrm ?_
                refine rg ?_
                refine pl_x HE226 HH229 (wt0 rfl) (x_fieldAddr fa_48_2 rfl) rfl rfl fun a_231 HE232 => ?_
                refine pl_x HE232 HH229 (wt0 rfl) (x_load1 tv_46 rfl (c_blk 2 rfl rfl)) rfl rfl fun a_233 HE234 => ?_
                refine pl_x HE234 HH229 (wt0 rfl) (x_move rfl) rfl rfl fun a_235 HE236 => ?_
                refine pl_x HE236 HH229 (wt0 rfl) (x_loadN (cs := [.int .i64 (e28.1), .int .i64 (e28.2.1), .int .i64 ((lkX e28.2.2 a3))]) tv_114 rfl rfl (c_blkN 0 rfl)) rfl rfl fun a_237 HE238 => ?_
                have HH239 := HH229.sel [1, 0, 2, 3, 4] (by decide) rfl
                have ke44 : ((((lkX ((k : Int) / a0.1) a3) * a0.1) + ((k : Int) % a0.1))).toNat < List.length (renTo a0 (lkF a3) (id) k) := by omega
                have ne44 : ((((lkX ((k : Int) / a0.1) a3) * a0.1) + ((k : Int) % a0.1))).toNat < (List.length (renTo a0 (lkF a3) (id) k)) := by omega
                obtain ⟨be44, fe44, ese44, Te44, rfl, Re44, Ze44, HH240⟩ := HH239.open ke44
                obtain ⟨e44, xe44⟩ : ∃ x_, x_ = (renTo a0 (lkF a3) (id) k)[((((lkX ((k : Int) / a0.1) a3) * a0.1) + ((k : Int) % a0.1))).toNat] := ⟨_, rfl⟩
                rw [← xe44] at Re44
                rw [← xe44] at HH240
                obtain ⟨rfl, ge44_0, ge44_1, ge44_2⟩ := shape_Rule Re44
                clear Re44
                have je44_0 := ge44_0; unfold I64 at je44_0
                have je44_1 := ge44_1; unfold I64 at je44_1
                have je44_2 := ge44_2; unfold I64 at je44_2
                refine pl_x HE238 HH240 (wt0 rfl) (x_indexAddr ts_46 rfl rfl rfl (by omega) ne44) rfl rfl fun a_241 HE242 => ?_
                refine pl fun K_243 hK244 => ?_
                refine st_storeFN (vs := [.int .i64 (e28.1), .int .i64 (e28.2.1), .int .i64 ((lkX e28.2.2 a3))]) 0 HE242 HH240 tv_114 rfl rfl rfl rfl rfl rfl rfl (by simp [Value.oneCell']) (wt0 rfl) fun w' HH245 => hK244 _ _ ?_
                refine wpList_nil ?_
                clear a_225 HE226 a_231 HE232 a_233 HE234 a_235 HE236 HH229 HH239 a_237 HE238 HH240 hK244 K_243
                refine blk_n ?_
                refine nrm ?_
                refine rg ?_
                refine pl_x HE242 HH245 (wt0 rfl) (x_add rfl rfl (by exact ⟨by omega, by omega⟩)) rfl rfl fun a_246 HE247 => ?_
                refine pl_x HE247 HH245 (wt0 rfl) (x_move rfl) rfl rfl fun a_248 HE249 => ?_
                refine wpList_nil ?_
                clear a_241 HE242 a_246 HE247
                have HH250 := HH245.flatO (E := eRule) (cs := [.int .i64 (e28.1), .int .i64 (e28.2.1), .int .i64 ((lkX e28.2.2 a3))]) (x := (e28.1, e28.2.1, (lkX e28.2.2 a3))) (fun _ => (oPrN (oI (by exact ⟨by omega, by omega⟩)) (oPrN (oI (by exact ⟨by omega, by omega⟩)) (oI (by exact ⟨by omega, by omega⟩)))))
                have HH251 := HH250.sel [1, 0, 2, 3, 4, 5, 6] (by decide) rfl
                have HH252 := HH251.shut
                obtain ⟨S45, HH253⟩ : ∃ S, Held Nob w (rSo eRule S (some ⟨be44, fe44, none⟩) cr23_0_2 ((renTo a0 (lkF a3) (id) k).set (((((lkX ((k : Int) / a0.1) a3) * a0.1) + ((k : Int) % a0.1))).toNat) (e28.1, e28.2.1, (lkX e28.2.2 a3))) :: _) _ := ⟨_, HH252⟩
                have E46 : renTo a0 (lkF a3) (id) (k + 1) = ((renTo a0 (lkF a3) (id) k).set (((((lkX ((k : Int) / a0.1) a3) * a0.1) + ((k : Int) % a0.1))).toNat) (e28.1, e28.2.1, (lkX e28.2.2 a3))) := by
                  rw [← renTo_step (by omega) hx0]; unfold rulR; simp [hc33, atR, lkF]
                exact nrm ⟨a0.2.2.length - (k + 1), (by omega), k + 1, S45, rfl, HE249.sub ⟨(lkI rfl (by first | rfl | omega | (simp [p26_0, hc27, xe28, hc33, xe44]; done))), rfl, rfl, rfl, rfl, rfl, rfl, rfl, trivial⟩, ((HH253.sel [0, 3, 4, 5] (by decide) rfl).to (by first | rfl | (rw [E46]; done) | (rw [E46]; rfl) | (simp only [E46]; done) | (simp only [E46]; rfl) | (rw [E46]; simp only [List.length_set]; done))), (by first | omega | assumption | (simp; done) | simp_all)⟩
          · refine st_x HE126 HH111 (wt0 rfl) (x_load1 tv_2 rfl (c_blk 0 rfl rfl)) rfl rfl fun a_254 HE255 => hK128 _ _ HS112 ?_
            refine dr_two (i := 3) (j := 8) (ls' := #[true, true, true, true, true, true, true, true, false, false, false, false]) (ls'' := #[true, true, true, false, true, true, true, true, true, false, false, false]) rfl rfl (by kernel_rfl) rfl rfl (fun K_256 hK257 => ?_) (fun K_256 hK257 => ?_)
            · refine st_call HE255 (wt0 rfl) rfl rfl rfl en_64 rfl rfl (impl_same e28.1 _ ) fun e w' hr => ?_
              obtain ⟨rfl, hbr47⟩ := hr
              have HH258 := HH111.on hbr47
              refine ⟨_, rfl, fun a_259 HE260 => hK257 _ _ (by exact HH258.sel [1, 2, 3, 4] (by decide) rfl) ?_⟩
              have HS261 := HH258.sel [1, 2, 3, 4] (by decide) rfl
              refine dr_one (i := 8) (ls' := #[true, true, true, true, true, true, true, true, true, false, false, false]) rfl (by kernel_rfl) rfl fun K_262 hK263 => ?_
              refine st_x HE260 HH258 (wt0 rfl) (x_load1 tv_2 rfl (c_blk 0 rfl rfl)) rfl rfl fun a_264 HE265 => hK263 _ _ HS261 ?_
              refine dr_one (i := 9) (ls' := #[true, true, true, true, true, true, true, true, true, true, false, false]) rfl (by kernel_rfl) rfl fun K_266 hK267 => ?_
              refine st_callD HE265 (wt0 rfl) rfl rfl rfl en_63 rfl rfl (impl_RenameStates1 e28.2.2 _ [.slice Az3_0 (a3.length) cz3_0] a3 _ (HH258.oldR H3) (c_oldN hq3 _ HH258) (by omega)) fun e w' hr => ?_
              obtain ⟨rfl, hbr48⟩ := hr
              have HH268 := HH258.on hbr48
              refine ⟨_, rfl, fun a_269 HE270 => hK267 _ _ (by exact HH268.sel [1, 2, 3, 4] (by decide) rfl) ?_⟩
              have HS271 := HH268.sel [1, 2, 3, 4] (by decide) rfl
              refine dr_take (i := 10) (ls' := #[true, true, true, true, true, true, true, true, true, true, true, false]) HE270 HS271 rfl (by kernel_rfl) (by kernel_rfl) (by kernel_rfl) (fun _ _ _ h => h) rfl (wt0 rfl) (show XS _ _ _ _ (.agg #[.int .i64 (e28.1), .int .i64 (e28.2.1), .int .i64 ((lkX e28.2.2 a3))]) from x_build (vs := [(0, .int .i64 (e28.1)), (1, .int .i64 (e28.2.1)), (2, .int .i64 ((lkX e28.2.2 a3)))]) tb_114 rfl (by simp [Value.oneCell'])) rfl rfl fun a_272 HE273 => ?_
              refine dr_one (i := 11) (ls' := #[true, true, true, true, true, true, true, true, true, true, true, true]) rfl (by kernel_rfl) rfl fun K_274 hK275 => ?_
              refine st_store (vs := [.int .i64 (e28.1), .int .i64 (e28.2.1), .int .i64 ((lkX e28.2.2 a3))]) 0 HE273 HH268 tv_114 rfl rfl rfl rfl rfl rfl (by simp [Value.oneCell']) (wt0 rfl) fun w' HH276 => hK275 _ _ (by exact HH276.sel [1, 2, 3, 4] (by decide) rfl) ?_
              have HS277 := HH276.sel [1, 2, 3, 4] (by decide) rfl
              refine dr_done (by kernel_rfl) ?_
              clear HH108 HS99 a_109 HE110 a_113 HE114 a_115 HE116 a_117 HE118 a_119 HE120 a_121 HE122 K_123 hK124 a_125 HE126 K_127 hK128 HH111 a_254 HE255 HS112 K_256 hK257 a_259 HE260 K_262 hK263 HH258 a_264 HE265 HS261 a_269 HE270 K_266 hK267 HH268 HS271 hK275 K_274
              refine nrm ?_
              refine rg ?_
              refine pl_x HE273 HH276 (wt0 rfl) (x_fieldAddr fa_48_2 rfl) rfl rfl fun a_278 HE279 => ?_
              refine pl_x HE279 HH276 (wt0 rfl) (x_load1 tv_46 rfl (c_blk 2 rfl rfl)) rfl rfl fun a_280 HE281 => ?_
              refine pl_x HE281 HH276 (wt0 rfl) (x_move rfl) rfl rfl fun a_282 HE283 => ?_
              refine pl_x HE283 HH276 (wt0 rfl) (x_loadN (cs := [.int .i64 (e28.1), .int .i64 (e28.2.1), .int .i64 ((lkX e28.2.2 a3))]) tv_114 rfl rfl (c_blkN 0 rfl)) rfl rfl fun a_284 HE285 => ?_
              have HH286 := HH276.sel [1, 0, 2, 3, 4] (by decide) rfl
              have ke49 : ((((lkX ((k : Int) / a0.1) a3) * a0.1) + ((k : Int) % a0.1))).toNat < List.length (renTo a0 (lkF a3) (id) k) := by omega
              have ne49 : ((((lkX ((k : Int) / a0.1) a3) * a0.1) + ((k : Int) % a0.1))).toNat < (List.length (renTo a0 (lkF a3) (id) k)) := by omega
              obtain ⟨be49, fe49, ese49, Te49, rfl, Re49, Ze49, HH287⟩ := HH286.open ke49
              obtain ⟨e49, xe49⟩ : ∃ x_, x_ = (renTo a0 (lkF a3) (id) k)[((((lkX ((k : Int) / a0.1) a3) * a0.1) + ((k : Int) % a0.1))).toNat] := ⟨_, rfl⟩
              rw [← xe49] at Re49
              rw [← xe49] at HH287
              obtain ⟨rfl, ge49_0, ge49_1, ge49_2⟩ := shape_Rule Re49
              clear Re49
              have je49_0 := ge49_0; unfold I64 at je49_0
              have je49_1 := ge49_1; unfold I64 at je49_1
              have je49_2 := ge49_2; unfold I64 at je49_2
              refine pl_x HE285 HH287 (wt0 rfl) (x_indexAddr ts_46 rfl rfl rfl (by omega) ne49) rfl rfl fun a_288 HE289 => ?_
              refine pl fun K_290 hK291 => ?_
              refine st_storeFN (vs := [.int .i64 (e28.1), .int .i64 (e28.2.1), .int .i64 ((lkX e28.2.2 a3))]) 0 HE289 HH287 tv_114 rfl rfl rfl rfl rfl rfl rfl (by simp [Value.oneCell']) (wt0 rfl) fun w' HH292 => hK291 _ _ ?_
              refine wpList_nil ?_
              clear a_272 HE273 a_278 HE279 a_280 HE281 a_282 HE283 HH276 HH286 a_284 HE285 HH287 hK291 K_290
              refine blk_n ?_
              refine nrm ?_
              refine rg ?_
              refine pl_x HE289 HH292 (wt0 rfl) (x_add rfl rfl (by exact ⟨by omega, by omega⟩)) rfl rfl fun a_293 HE294 => ?_
              refine pl_x HE294 HH292 (wt0 rfl) (x_move rfl) rfl rfl fun a_295 HE296 => ?_
              refine wpList_nil ?_
              clear a_288 HE289 a_293 HE294
              have HH297 := HH292.flatO (E := eRule) (cs := [.int .i64 (e28.1), .int .i64 (e28.2.1), .int .i64 ((lkX e28.2.2 a3))]) (x := (e28.1, e28.2.1, (lkX e28.2.2 a3))) (fun _ => (oPrN (oI (by exact ⟨by omega, by omega⟩)) (oPrN (oI (by exact ⟨by omega, by omega⟩)) (oI (by exact ⟨by omega, by omega⟩)))))
              have HH298 := HH297.sel [1, 0, 2, 3, 4, 5, 6] (by decide) rfl
              have HH299 := HH298.shut
              obtain ⟨S50, HH300⟩ : ∃ S, Held Nob w (rSo eRule S (some ⟨be49, fe49, none⟩) cr23_0_2 ((renTo a0 (lkF a3) (id) k).set (((((lkX ((k : Int) / a0.1) a3) * a0.1) + ((k : Int) % a0.1))).toNat) (e28.1, e28.2.1, (lkX e28.2.2 a3))) :: _) _ := ⟨_, HH299⟩
              have E51 : renTo a0 (lkF a3) (id) (k + 1) = ((renTo a0 (lkF a3) (id) k).set (((((lkX ((k : Int) / a0.1) a3) * a0.1) + ((k : Int) % a0.1))).toNat) (e28.1, e28.2.1, (lkX e28.2.2 a3))) := by
                rw [← renTo_step (by omega) hx0]; unfold rulR; simp [hc33, atR, lkF]
              exact nrm ⟨a0.2.2.length - (k + 1), (by omega), k + 1, S50, rfl, HE296.sub ⟨(lkI rfl (by first | rfl | omega | (simp [p26_0, hc27, xe28, hc33, xe49]; done))), rfl, rfl, rfl, rfl, rfl, rfl, rfl, trivial⟩, ((HH300.sel [0, 3, 4, 5] (by decide) rfl).to (by first | rfl | (rw [E51]; done) | (rw [E51]; rfl) | (simp only [E51]; done) | (simp only [E51]; rfl) | (rw [E51]; simp only [List.length_set]; done))), (by first | omega | assumption | (simp; done) | simp_all)⟩
            · refine st_x HE255 HH111 (wt0 rfl) (x_load1 tv_2 rfl (c_blk 0 rfl rfl)) rfl rfl fun a_301 HE302 => hK257 _ _ HS112 ?_
              refine dr_one (i := 3) (ls' := #[true, true, true, true, true, true, true, true, true, false, false, false]) rfl (by kernel_rfl) rfl fun K_303 hK304 => ?_
              refine st_call HE302 (wt0 rfl) rfl rfl rfl en_64 rfl rfl (impl_same e28.1 _ ) fun e w' hr => ?_
              obtain ⟨rfl, hbr52⟩ := hr
              have HH305 := HH111.on hbr52
              refine ⟨_, rfl, fun a_306 HE307 => hK304 _ _ (by exact HH305.sel [1, 2, 3, 4] (by decide) rfl) ?_⟩
              have HS308 := HH305.sel [1, 2, 3, 4] (by decide) rfl
              refine dr_one (i := 9) (ls' := #[true, true, true, true, true, true, true, true, true, true, false, false]) rfl (by kernel_rfl) rfl fun K_309 hK310 => ?_
              refine st_callD HE307 (wt0 rfl) rfl rfl rfl en_63 rfl rfl (impl_RenameStates1 e28.2.2 _ [.slice Az3_0 (a3.length) cz3_0] a3 _ (HH305.oldR H3) (c_oldN hq3 _ HH305) (by omega)) fun e w' hr => ?_
              obtain ⟨rfl, hbr53⟩ := hr
              have HH311 := HH305.on hbr53
              refine ⟨_, rfl, fun a_312 HE313 => hK310 _ _ (by exact HH311.sel [1, 2, 3, 4] (by decide) rfl) ?_⟩
              have HS314 := HH311.sel [1, 2, 3, 4] (by decide) rfl
              refine dr_take (i := 10) (ls' := #[true, true, true, true, true, true, true, true, true, true, true, false]) HE313 HS314 rfl (by kernel_rfl) (by kernel_rfl) (by kernel_rfl) (fun _ _ _ h => h) rfl (wt0 rfl) (show XS _ _ _ _ (.agg #[.int .i64 (e28.1), .int .i64 (e28.2.1), .int .i64 ((lkX e28.2.2 a3))]) from x_build (vs := [(0, .int .i64 (e28.1)), (1, .int .i64 (e28.2.1)), (2, .int .i64 ((lkX e28.2.2 a3)))]) tb_114 rfl (by simp [Value.oneCell'])) rfl rfl fun a_315 HE316 => ?_
              refine dr_one (i := 11) (ls' := #[true, true, true, true, true, true, true, true, true, true, true, true]) rfl (by kernel_rfl) rfl fun K_317 hK318 => ?_
              refine st_store (vs := [.int .i64 (e28.1), .int .i64 (e28.2.1), .int .i64 ((lkX e28.2.2 a3))]) 0 HE316 HH311 tv_114 rfl rfl rfl rfl rfl rfl (by simp [Value.oneCell']) (wt0 rfl) fun w' HH319 => hK318 _ _ (by exact HH319.sel [1, 2, 3, 4] (by decide) rfl) ?_
              have HS320 := HH319.sel [1, 2, 3, 4] (by decide) rfl
              refine dr_done (by kernel_rfl) ?_
              clear HH108 HS99 a_109 HE110 a_113 HE114 a_115 HE116 a_117 HE118 a_119 HE120 a_121 HE122 K_123 hK124 a_125 HE126 K_127 hK128 a_254 HE255 K_256 hK257 HH111 a_301 HE302 HS112 K_303 hK304 HH305 a_306 HE307 HS308 a_312 HE313 K_309 hK310 HH311 HS314 hK318 K_317
              refine nrm ?_
              refine rg ?_
              refine pl_x HE316 HH319 (wt0 rfl) (x_fieldAddr fa_48_2 rfl) rfl rfl fun a_321 HE322 => ?_
              refine pl_x HE322 HH319 (wt0 rfl) (x_load1 tv_46 rfl (c_blk 2 rfl rfl)) rfl rfl fun a_323 HE324 => ?_
              refine pl_x HE324 HH319 (wt0 rfl) (x_move rfl) rfl rfl fun a_325 HE326 => ?_
              refine pl_x HE326 HH319 (wt0 rfl) (x_loadN (cs := [.int .i64 (e28.1), .int .i64 (e28.2.1), .int .i64 ((lkX e28.2.2 a3))]) tv_114 rfl rfl (c_blkN 0 rfl)) rfl rfl fun a_327 HE328 => ?_
              have HH329 := HH319.sel [1, 0, 2, 3, 4] (by decide) rfl
              have ke54 : ((((lkX ((k : Int) / a0.1) a3) * a0.1) + ((k : Int) % a0.1))).toNat < List.length (renTo a0 (lkF a3) (id) k) := by omega
              have ne54 : ((((lkX ((k : Int) / a0.1) a3) * a0.1) + ((k : Int) % a0.1))).toNat < (List.length (renTo a0 (lkF a3) (id) k)) := by omega
              obtain ⟨be54, fe54, ese54, Te54, rfl, Re54, Ze54, HH330⟩ := HH329.open ke54
              obtain ⟨e54, xe54⟩ : ∃ x_, x_ = (renTo a0 (lkF a3) (id) k)[((((lkX ((k : Int) / a0.1) a3) * a0.1) + ((k : Int) % a0.1))).toNat] := ⟨_, rfl⟩
              rw [← xe54] at Re54
              rw [← xe54] at HH330
              obtain ⟨rfl, ge54_0, ge54_1, ge54_2⟩ := shape_Rule Re54
              clear Re54
              have je54_0 := ge54_0; unfold I64 at je54_0
              have je54_1 := ge54_1; unfold I64 at je54_1
              have je54_2 := ge54_2; unfold I64 at je54_2
              refine pl_x HE328 HH330 (wt0 rfl) (x_indexAddr ts_46 rfl rfl rfl (by omega) ne54) rfl rfl fun a_331 HE332 => ?_
              refine pl fun K_333 hK334 => ?_
              refine st_storeFN (vs := [.int .i64 (e28.1), .int .i64 (e28.2.1), .int .i64 ((lkX e28.2.2 a3))]) 0 HE332 HH330 tv_114 rfl rfl rfl rfl rfl rfl rfl (by simp [Value.oneCell']) (wt0 rfl) fun w' HH335 => hK334 _ _ ?_
              refine wpList_nil ?_
              clear a_315 HE316 a_321 HE322 a_323 HE324 a_325 HE326 HH319 HH329 a_327 HE328 HH330 hK334 K_333
              refine blk_n ?_
              refine nrm ?_
              refine rg ?_
              refine pl_x HE332 HH335 (wt0 rfl) (x_add rfl rfl (by exact ⟨by omega, by omega⟩)) rfl rfl fun a_336 HE337 => ?_
              refine pl_x HE337 HH335 (wt0 rfl) (x_move rfl) rfl rfl fun a_338 HE339 => ?_
              refine wpList_nil ?_
              clear a_331 HE332 a_336 HE337
              have HH340 := HH335.flatO (E := eRule) (cs := [.int .i64 (e28.1), .int .i64 (e28.2.1), .int .i64 ((lkX e28.2.2 a3))]) (x := (e28.1, e28.2.1, (lkX e28.2.2 a3))) (fun _ => (oPrN (oI (by exact ⟨by omega, by omega⟩)) (oPrN (oI (by exact ⟨by omega, by omega⟩)) (oI (by exact ⟨by omega, by omega⟩)))))
              have HH341 := HH340.sel [1, 0, 2, 3, 4, 5, 6] (by decide) rfl
              have HH342 := HH341.shut
              obtain ⟨S55, HH343⟩ : ∃ S, Held Nob w (rSo eRule S (some ⟨be54, fe54, none⟩) cr23_0_2 ((renTo a0 (lkF a3) (id) k).set (((((lkX ((k : Int) / a0.1) a3) * a0.1) + ((k : Int) % a0.1))).toNat) (e28.1, e28.2.1, (lkX e28.2.2 a3))) :: _) _ := ⟨_, HH342⟩
              have E56 : renTo a0 (lkF a3) (id) (k + 1) = ((renTo a0 (lkF a3) (id) k).set (((((lkX ((k : Int) / a0.1) a3) * a0.1) + ((k : Int) % a0.1))).toNat) (e28.1, e28.2.1, (lkX e28.2.2 a3))) := by
                rw [← renTo_step (by omega) hx0]; unfold rulR; simp [hc33, atR, lkF]
              exact nrm ⟨a0.2.2.length - (k + 1), (by omega), k + 1, S55, rfl, HE339.sub ⟨(lkI rfl (by first | rfl | omega | (simp [p26_0, hc27, xe28, hc33, xe54]; done))), rfl, rfl, rfl, rfl, rfl, rfl, rfl, trivial⟩, ((HH343.sel [0, 3, 4, 5] (by decide) rfl).to (by first | rfl | (rw [E56]; done) | (rw [E56]; rfl) | (simp only [E56]; done) | (simp only [E56]; rfl) | (rw [E56]; simp only [List.length_set]; done))), (by first | omega | assumption | (simp; done) | simp_all)⟩
          · refine st_x HE126 HH111 (wt0 rfl) (x_load1 tv_2 rfl (c_blk 0 rfl rfl)) rfl rfl fun a_344 HE345 => hK128 _ _ HS112 ?_
            refine dr_two (i := 3) (j := 5) (ls' := #[true, true, true, true, true, false, true, true, true, false, false, false]) (ls'' := #[true, true, true, false, true, true, true, true, true, false, false, false]) rfl rfl (by kernel_rfl) rfl rfl (fun K_346 hK347 => ?_) (fun K_346 hK347 => ?_)
            · refine st_call HE345 (wt0 rfl) rfl rfl rfl en_64 rfl rfl (impl_same e28.1 _ ) fun e w' hr => ?_
              obtain ⟨rfl, hbr57⟩ := hr
              have HH348 := HH111.on hbr57
              refine ⟨_, rfl, fun a_349 HE350 => hK347 _ _ (by exact HH348.sel [1, 2, 3, 4] (by decide) rfl) ?_⟩
              have HS351 := HH348.sel [1, 2, 3, 4] (by decide) rfl
              refine dr_two (i := 5) (j := 9) (ls' := #[true, true, true, true, true, true, true, true, true, false, false, false]) (ls'' := #[true, true, true, true, true, false, true, true, true, true, false, false]) rfl rfl (by kernel_rfl) rfl rfl (fun K_352 hK353 => ?_) (fun K_352 hK353 => ?_)
              · refine st_x HE350 HH348 (wt0 rfl) (x_load1 tv_2 rfl (c_blk 0 rfl rfl)) rfl rfl fun a_354 HE355 => hK353 _ _ HS351 ?_
                refine dr_one (i := 9) (ls' := #[true, true, true, true, true, true, true, true, true, true, false, false]) rfl (by kernel_rfl) rfl fun K_356 hK357 => ?_
                refine st_callD HE355 (wt0 rfl) rfl rfl rfl en_63 rfl rfl (impl_RenameStates1 e28.2.2 _ [.slice Az3_0 (a3.length) cz3_0] a3 _ (HH348.oldR H3) (c_oldN hq3 _ HH348) (by omega)) fun e w' hr => ?_
                obtain ⟨rfl, hbr58⟩ := hr
                have HH358 := HH348.on hbr58
                refine ⟨_, rfl, fun a_359 HE360 => hK357 _ _ (by exact HH358.sel [1, 2, 3, 4] (by decide) rfl) ?_⟩
                have HS361 := HH358.sel [1, 2, 3, 4] (by decide) rfl
                refine dr_take (i := 10) (ls' := #[true, true, true, true, true, true, true, true, true, true, true, false]) HE360 HS361 rfl (by kernel_rfl) (by kernel_rfl) (by kernel_rfl) (fun _ _ _ h => h) rfl (wt0 rfl) (show XS _ _ _ _ (.agg #[.int .i64 (e28.1), .int .i64 (e28.2.1), .int .i64 ((lkX e28.2.2 a3))]) from x_build (vs := [(0, .int .i64 (e28.1)), (1, .int .i64 (e28.2.1)), (2, .int .i64 ((lkX e28.2.2 a3)))]) tb_114 rfl (by simp [Value.oneCell'])) rfl rfl fun a_362 HE363 => ?_
                refine dr_one (i := 11) (ls' := #[true, true, true, true, true, true, true, true, true, true, true, true]) rfl (by kernel_rfl) rfl fun K_364 hK365 => ?_
                refine st_store (vs := [.int .i64 (e28.1), .int .i64 (e28.2.1), .int .i64 ((lkX e28.2.2 a3))]) 0 HE363 HH358 tv_114 rfl rfl rfl rfl rfl rfl (by simp [Value.oneCell']) (wt0 rfl) fun w' HH366 => hK365 _ _ (by exact HH366.sel [1, 2, 3, 4] (by decide) rfl) ?_
                have HS367 := HH366.sel [1, 2, 3, 4] (by decide) rfl
                refine dr_done (by kernel_rfl) ?_
                clear HH108 HS99 a_109 HE110 a_113 HE114 a_115 HE116 a_117 HE118 a_119 HE120 a_121 HE122 K_123 hK124 a_125 HE126 K_127 hK128 HH111 a_344 HE345 HS112 K_346 hK347 a_349 HE350 K_352 hK353 HH348 a_354 HE355 HS351 a_359 HE360 K_356 hK357 HH358 HS361 hK365 K_364
                refine nrm ?_
                refine rg ?_
                refine pl_x HE363 HH366 (wt0 rfl) (x_fieldAddr fa_48_2 rfl) rfl rfl fun a_368 HE369 => ?_
                refine pl_x HE369 HH366 (wt0 rfl) (x_load1 tv_46 rfl (c_blk 2 rfl rfl)) rfl rfl fun a_370 HE371 => ?_
                refine pl_x HE371 HH366 (wt0 rfl) (x_move rfl) rfl rfl fun a_372 HE373 => ?_
                refine pl_x HE373 HH366 (wt0 rfl) (x_loadN (cs := [.int .i64 (e28.1), .int .i64 (e28.2.1), .int .i64 ((lkX e28.2.2 a3))]) tv_114 rfl rfl (c_blkN 0 rfl)) rfl rfl fun a_374 HE375 => ?_
                have HH376 := HH366.sel [1, 0, 2, 3, 4] (by decide) rfl
                have ke59 : ((((lkX ((k : Int) / a0.1) a3) * a0.1) + ((k : Int) % a0.1))).toNat < List.length (renTo a0 (lkF a3) (id) k) := by omega
                have ne59 : ((((lkX ((k : Int) / a0.1) a3) * a0.1) + ((k : Int) % a0.1))).toNat < (List.length (renTo a0 (lkF a3) (id) k)) := by omega
                obtain ⟨be59, fe59, ese59, Te59, rfl, Re59, Ze59, HH377⟩ := HH376.open ke59
                obtain ⟨e59, xe59⟩ : ∃ x_, x_ = (renTo a0 (lkF a3) (id) k)[((((lkX ((k : Int) / a0.1) a3) * a0.1) + ((k : Int) % a0.1))).toNat] := ⟨_, rfl⟩
                rw [← xe59] at Re59
                rw [← xe59] at HH377
                obtain ⟨rfl, ge59_0, ge59_1, ge59_2⟩ := shape_Rule Re59
                clear Re59
                have je59_0 := ge59_0; unfold I64 at je59_0
                have je59_1 := ge59_1; unfold I64 at je59_1
                have je59_2 := ge59_2; unfold I64 at je59_2
                refine pl_x HE375 HH377 (wt0 rfl) (x_indexAddr ts_46 rfl rfl rfl (by omega) ne59) rfl rfl fun a_378 HE379 => ?_
                refine pl fun K_380 hK381 => ?_
                refine st_storeFN (vs := [.int .i64 (e28.1), .int .i64 (e28.2.1), .int .i64 ((lkX e28.2.2 a3))]) 0 HE379 HH377 tv_114 rfl rfl rfl rfl rfl rfl rfl (by simp [Value.oneCell']) (wt0 rfl) fun w' HH382 => hK381 _ _ ?_
                refine wpList_nil ?_
                clear a_362 HE363 a_368 HE369 a_370 HE371 a_372 HE373 HH366 HH376 a_374 HE375 HH377 hK381 K_380
                refine blk_n ?_
                refine nrm ?_
                refine rg ?_
                refine pl_x HE379 HH382 (wt0 rfl) (x_add rfl rfl (by exact ⟨by omega, by omega⟩)) rfl rfl fun a_383 HE384 => ?_
                refine pl_x HE384 HH382 (wt0 rfl) (x_move rfl) rfl rfl fun a_385 HE386 => ?_
                refine wpList_nil ?_
                clear a_378 HE379 a_383 HE384
                have HH387 := HH382.flatO (E := eRule) (cs := [.int .i64 (e28.1), .int .i64 (e28.2.1), .int .i64 ((lkX e28.2.2 a3))]) (x := (e28.1, e28.2.1, (lkX e28.2.2 a3))) (fun _ => (oPrN (oI (by exact ⟨by omega, by omega⟩)) (oPrN (oI (by exact ⟨by omega, by omega⟩)) (oI (by exact ⟨by omega, by omega⟩)))))
                have HH388 := HH387.sel [1, 0, 2, 3, 4, 5, 6] (by decide) rfl
                have HH389 := HH388.shut
                obtain ⟨S60, HH390⟩ : ∃ S, Held Nob w (rSo eRule S (some ⟨be59, fe59, none⟩) cr23_0_2 ((renTo a0 (lkF a3) (id) k).set (((((lkX ((k : Int) / a0.1) a3) * a0.1) + ((k : Int) % a0.1))).toNat) (e28.1, e28.2.1, (lkX e28.2.2 a3))) :: _) _ := ⟨_, HH389⟩
                have E61 : renTo a0 (lkF a3) (id) (k + 1) = ((renTo a0 (lkF a3) (id) k).set (((((lkX ((k : Int) / a0.1) a3) * a0.1) + ((k : Int) % a0.1))).toNat) (e28.1, e28.2.1, (lkX e28.2.2 a3))) := by
                  rw [← renTo_step (by omega) hx0]; unfold rulR; simp [hc33, atR, lkF]
                exact nrm ⟨a0.2.2.length - (k + 1), (by omega), k + 1, S60, rfl, HE386.sub ⟨(lkI rfl (by first | rfl | omega | (simp [p26_0, hc27, xe28, hc33, xe59]; done))), rfl, rfl, rfl, rfl, rfl, rfl, rfl, trivial⟩, ((HH390.sel [0, 3, 4, 5] (by decide) rfl).to (by first | rfl | (rw [E61]; done) | (rw [E61]; rfl) | (simp only [E61]; done) | (simp only [E61]; rfl) | (rw [E61]; simp only [List.length_set]; done))), (by first | omega | assumption | (simp; done) | simp_all)⟩
              · refine st_callD HE350 (wt0 rfl) rfl rfl rfl en_63 rfl rfl (impl_RenameStates1 e28.2.2 _ [.slice Az3_0 (a3.length) cz3_0] a3 _ (HH348.oldR H3) (c_oldN hq3 _ HH348) (by omega)) fun e w' hr => ?_
                obtain ⟨rfl, hbr62⟩ := hr
                have HH391 := HH348.on hbr62
                refine ⟨_, rfl, fun a_392 HE393 => hK353 _ _ (by exact HH391.sel [1, 2, 3, 4] (by decide) rfl) ?_⟩
                have HS394 := HH391.sel [1, 2, 3, 4] (by decide) rfl
                refine dr_one (i := 5) (ls' := #[true, true, true, true, true, true, true, true, true, true, false, false]) rfl (by kernel_rfl) rfl fun K_395 hK396 => ?_
                refine st_x HE393 HH391 (wt0 rfl) (x_load1 tv_2 rfl (c_blk 0 rfl rfl)) rfl rfl fun a_397 HE398 => hK396 _ _ HS394 ?_
                refine dr_take (i := 10) (ls' := #[true, true, true, true, true, true, true, true, true, true, true, false]) HE398 HS394 rfl (by kernel_rfl) (by kernel_rfl) (by kernel_rfl) (fun _ _ _ h => h) rfl (wt0 rfl) (show XS _ _ _ _ (.agg #[.int .i64 (e28.1), .int .i64 (e28.2.1), .int .i64 ((lkX e28.2.2 a3))]) from x_build (vs := [(0, .int .i64 (e28.1)), (1, .int .i64 (e28.2.1)), (2, .int .i64 ((lkX e28.2.2 a3)))]) tb_114 rfl (by simp [Value.oneCell'])) rfl rfl fun a_399 HE400 => ?_
                refine dr_one (i := 11) (ls' := #[true, true, true, true, true, true, true, true, true, true, true, true]) rfl (by kernel_rfl) rfl fun K_401 hK402 => ?_
                refine st_store (vs := [.int .i64 (e28.1), .int .i64 (e28.2.1), .int .i64 ((lkX e28.2.2 a3))]) 0 HE400 HH391 tv_114 rfl rfl rfl rfl rfl rfl (by simp [Value.oneCell']) (wt0 rfl) fun w' HH403 => hK402 _ _ (by exact HH403.sel [1, 2, 3, 4] (by decide) rfl) ?_
                have HS404 := HH403.sel [1, 2, 3, 4] (by decide) rfl
                refine dr_done (by kernel_rfl) ?_
                clear HH108 HS99 a_109 HE110 a_113 HE114 a_115 HE116 a_117 HE118 a_119 HE120 a_121 HE122 K_123 hK124 a_125 HE126 K_127 hK128 HH111 a_344 HE345 HS112 K_346 hK347 HH348 a_349 HE350 HS351 K_352 hK353 a_392 HE393 a_397 HE398 K_395 hK396 HH391 HS394 hK402 K_401
                refine nrm ?_
                refine rg ?_
                refine pl_x HE400 HH403 (wt0 rfl) (x_fieldAddr fa_48_2 rfl) rfl rfl fun a_405 HE406 => ?_
                refine pl_x HE406 HH403 (wt0 rfl) (x_load1 tv_46 rfl (c_blk 2 rfl rfl)) rfl rfl fun a_407 HE408 => ?_
                refine pl_x HE408 HH403 (wt0 rfl) (x_move rfl) rfl rfl fun a_409 HE410 => ?_
                refine pl_x HE410 HH403 (wt0 rfl) (x_loadN (cs := [.int .i64 (e28.1), .int .i64 (e28.2.1), .int .i64 ((lkX e28.2.2 a3))]) tv_114 rfl rfl (c_blkN 0 rfl)) rfl rfl fun a_411 HE412 => ?_
                have HH413 := HH403.sel [1, 0, 2, 3, 4] (by decide) rfl
                have ke63 : ((((lkX ((k : Int) / a0.1) a3) * a0.1) + ((k : Int) % a0.1))).toNat < List.length (renTo a0 (lkF a3) (id) k) := by omega
                have ne63 : ((((lkX ((k : Int) / a0.1) a3) * a0.1) + ((k : Int) % a0.1))).toNat < (List.length (renTo a0 (lkF a3) (id) k)) := by omega
                obtain ⟨be63, fe63, ese63, Te63, rfl, Re63, Ze63, HH414⟩ := HH413.open ke63
                obtain ⟨e63, xe63⟩ : ∃ x_, x_ = (renTo a0 (lkF a3) (id) k)[((((lkX ((k : Int) / a0.1) a3) * a0.1) + ((k : Int) % a0.1))).toNat] := ⟨_, rfl⟩
                rw [← xe63] at Re63
                rw [← xe63] at HH414
                obtain ⟨rfl, ge63_0, ge63_1, ge63_2⟩ := shape_Rule Re63
                clear Re63
                have je63_0 := ge63_0; unfold I64 at je63_0
                have je63_1 := ge63_1; unfold I64 at je63_1
                have je63_2 := ge63_2; unfold I64 at je63_2
                refine pl_x HE412 HH414 (wt0 rfl) (x_indexAddr ts_46 rfl rfl rfl (by omega) ne63) rfl rfl fun a_415 HE416 => ?_
                refine pl fun K_417 hK418 => ?_
                refine st_storeFN (vs := [.int .i64 (e28.1), .int .i64 (e28.2.1), .int .i64 ((lkX e28.2.2 a3))]) 0 HE416 HH414 tv_114 rfl rfl rfl rfl rfl rfl rfl (by simp [Value.oneCell']) (wt0 rfl) fun w' HH419 => hK418 _ _ ?_
                refine wpList_nil ?_
                clear a_399 HE400 a_405 HE406 a_407 HE408 a_409 HE410 HH403 HH413 a_411 HE412 HH414 hK418 K_417
                refine blk_n ?_
                refine nrm ?_
                refine rg ?_
                refine pl_x HE416 HH419 (wt0 rfl) (x_add rfl rfl (by exact ⟨by omega, by omega⟩)) rfl rfl fun a_420 HE421 => ?_
                refine pl_x HE421 HH419 (wt0 rfl) (x_move rfl) rfl rfl fun a_422 HE423 => ?_
                refine wpList_nil ?_
                clear a_415 HE416 a_420 HE421
                have HH424 := HH419.flatO (E := eRule) (cs := [.int .i64 (e28.1), .int .i64 (e28.2.1), .int .i64 ((lkX e28.2.2 a3))]) (x := (e28.1, e28.2.1, (lkX e28.2.2 a3))) (fun _ => (oPrN (oI (by exact ⟨by omega, by omega⟩)) (oPrN (oI (by exact ⟨by omega, by omega⟩)) (oI (by exact ⟨by omega, by omega⟩)))))
                have HH425 := HH424.sel [1, 0, 2, 3, 4, 5, 6] (by decide) rfl
                have HH426 := HH425.shut
                obtain ⟨S64, HH427⟩ : ∃ S, Held Nob w (rSo eRule S (some ⟨be63, fe63, none⟩) cr23_0_2 ((renTo a0 (lkF a3) (id) k).set (((((lkX ((k : Int) / a0.1) a3) * a0.1) + ((k : Int) % a0.1))).toNat) (e28.1, e28.2.1, (lkX e28.2.2 a3))) :: _) _ := ⟨_, HH426⟩
                have E65 : renTo a0 (lkF a3) (id) (k + 1) = ((renTo a0 (lkF a3) (id) k).set (((((lkX ((k : Int) / a0.1) a3) * a0.1) + ((k : Int) % a0.1))).toNat) (e28.1, e28.2.1, (lkX e28.2.2 a3))) := by
                  rw [← renTo_step (by omega) hx0]; unfold rulR; simp [hc33, atR, lkF]
                exact nrm ⟨a0.2.2.length - (k + 1), (by omega), k + 1, S64, rfl, HE423.sub ⟨(lkI rfl (by first | rfl | omega | (simp [p26_0, hc27, xe28, hc33, xe63]; done))), rfl, rfl, rfl, rfl, rfl, rfl, rfl, trivial⟩, ((HH427.sel [0, 3, 4, 5] (by decide) rfl).to (by first | rfl | (rw [E65]; done) | (rw [E65]; rfl) | (simp only [E65]; done) | (simp only [E65]; rfl) | (rw [E65]; simp only [List.length_set]; done))), (by first | omega | assumption | (simp; done) | simp_all)⟩
            · refine st_x HE345 HH111 (wt0 rfl) (x_load1 tv_2 rfl (c_blk 0 rfl rfl)) rfl rfl fun a_428 HE429 => hK347 _ _ HS112 ?_
              refine dr_one (i := 3) (ls' := #[true, true, true, true, true, true, true, true, true, false, false, false]) rfl (by kernel_rfl) rfl fun K_430 hK431 => ?_
              refine st_call HE429 (wt0 rfl) rfl rfl rfl en_64 rfl rfl (impl_same e28.1 _ ) fun e w' hr => ?_
              obtain ⟨rfl, hbr66⟩ := hr
              have HH432 := HH111.on hbr66
              refine ⟨_, rfl, fun a_433 HE434 => hK431 _ _ (by exact HH432.sel [1, 2, 3, 4] (by decide) rfl) ?_⟩
              have HS435 := HH432.sel [1, 2, 3, 4] (by decide) rfl
              refine dr_one (i := 9) (ls' := #[true, true, true, true, true, true, true, true, true, true, false, false]) rfl (by kernel_rfl) rfl fun K_436 hK437 => ?_
              refine st_callD HE434 (wt0 rfl) rfl rfl rfl en_63 rfl rfl (impl_RenameStates1 e28.2.2 _ [.slice Az3_0 (a3.length) cz3_0] a3 _ (HH432.oldR H3) (c_oldN hq3 _ HH432) (by omega)) fun e w' hr => ?_
              obtain ⟨rfl, hbr67⟩ := hr
              have HH438 := HH432.on hbr67
              refine ⟨_, rfl, fun a_439 HE440 => hK437 _ _ (by exact HH438.sel [1, 2, 3, 4] (by decide) rfl) ?_⟩
              have HS441 := HH438.sel [1, 2, 3, 4] (by decide) rfl
              refine dr_take (i := 10) (ls' := #[true, true, true, true, true, true, true, true, true, true, true, false]) HE440 HS441 rfl (by kernel_rfl) (by kernel_rfl) (by kernel_rfl) (fun _ _ _ h => h) rfl (wt0 rfl) (show XS _ _ _ _ (.agg #[.int .i64 (e28.1), .int .i64 (e28.2.1), .int .i64 ((lkX e28.2.2 a3))]) from x_build (vs := [(0, .int .i64 (e28.1)), (1, .int .i64 (e28.2.1)), (2, .int .i64 ((lkX e28.2.2 a3)))]) tb_114 rfl (by simp [Value.oneCell'])) rfl rfl fun a_442 HE443 => ?_
              refine dr_one (i := 11) (ls' := #[true, true, true, true, true, true, true, true, true, true, true, true]) rfl (by kernel_rfl) rfl fun K_444 hK445 => ?_
              refine st_store (vs := [.int .i64 (e28.1), .int .i64 (e28.2.1), .int .i64 ((lkX e28.2.2 a3))]) 0 HE443 HH438 tv_114 rfl rfl rfl rfl rfl rfl (by simp [Value.oneCell']) (wt0 rfl) fun w' HH446 => hK445 _ _ (by exact HH446.sel [1, 2, 3, 4] (by decide) rfl) ?_
              have HS447 := HH446.sel [1, 2, 3, 4] (by decide) rfl
              refine dr_done (by kernel_rfl) ?_
              clear HH108 HS99 a_109 HE110 a_113 HE114 a_115 HE116 a_117 HE118 a_119 HE120 a_121 HE122 K_123 hK124 a_125 HE126 K_127 hK128 a_344 HE345 K_346 hK347 HH111 a_428 HE429 HS112 K_430 hK431 HH432 a_433 HE434 HS435 a_439 HE440 K_436 hK437 HH438 HS441 hK445 K_444
              refine nrm ?_
              refine rg ?_
              refine pl_x HE443 HH446 (wt0 rfl) (x_fieldAddr fa_48_2 rfl) rfl rfl fun a_448 HE449 => ?_
              refine pl_x HE449 HH446 (wt0 rfl) (x_load1 tv_46 rfl (c_blk 2 rfl rfl)) rfl rfl fun a_450 HE451 => ?_
              refine pl_x HE451 HH446 (wt0 rfl) (x_move rfl) rfl rfl fun a_452 HE453 => ?_
              refine pl_x HE453 HH446 (wt0 rfl) (x_loadN (cs := [.int .i64 (e28.1), .int .i64 (e28.2.1), .int .i64 ((lkX e28.2.2 a3))]) tv_114 rfl rfl (c_blkN 0 rfl)) rfl rfl fun a_454 HE455 => ?_
              have HH456 := HH446.sel [1, 0, 2, 3, 4] (by decide) rfl
              have ke68 : ((((lkX ((k : Int) / a0.1) a3) * a0.1) + ((k : Int) % a0.1))).toNat < List.length (renTo a0 (lkF a3) (id) k) := by omega
              have ne68 : ((((lkX ((k : Int) / a0.1) a3) * a0.1) + ((k : Int) % a0.1))).toNat < (List.length (renTo a0 (lkF a3) (id) k)) := by omega
              obtain ⟨be68, fe68, ese68, Te68, rfl, Re68, Ze68, HH457⟩ := HH456.open ke68
              obtain ⟨e68, xe68⟩ : ∃ x_, x_ = (renTo a0 (lkF a3) (id) k)[((((lkX ((k : Int) / a0.1) a3) * a0.1) + ((k : Int) % a0.1))).toNat] := ⟨_, rfl⟩
              rw [← xe68] at Re68
              rw [← xe68] at HH457
              obtain ⟨rfl, ge68_0, ge68_1, ge68_2⟩ := shape_Rule Re68
              clear Re68
              have je68_0 := ge68_0; unfold I64 at je68_0
              have je68_1 := ge68_1; unfold I64 at je68_1
              have je68_2 := ge68_2; unfold I64 at je68_2
              refine pl_x HE455 HH457 (wt0 rfl) (x_indexAddr ts_46 rfl rfl rfl (by omega) ne68) rfl rfl fun a_458 HE459 => ?_
              refine pl fun K_460 hK461 => ?_
              refine st_storeFN (vs := [.int .i64 (e28.1), .int .i64 (e28.2.1), .int .i64 ((lkX e28.2.2 a3))]) 0 HE459 HH457 tv_114 rfl rfl rfl rfl rfl rfl rfl (by simp [Value.oneCell']) (wt0 rfl) fun w' HH462 => hK461 _ _ ?_
              refine wpList_nil ?_
              clear a_442 HE443 a_448 HE449 a_450 HE451 a_452 HE453 HH446 HH456 a_454 HE455 HH457 hK461 K_460
              refine blk_n ?_
              refine nrm ?_
              refine rg ?_
              refine pl_x HE459 HH462 (wt0 rfl) (x_add rfl rfl (by exact ⟨by omega, by omega⟩)) rfl rfl fun a_463 HE464 => ?_
              refine pl_x HE464 HH462 (wt0 rfl) (x_move rfl) rfl rfl fun a_465 HE466 => ?_
              refine wpList_nil ?_
              clear a_458 HE459 a_463 HE464
              have HH467 := HH462.flatO (E := eRule) (cs := [.int .i64 (e28.1), .int .i64 (e28.2.1), .int .i64 ((lkX e28.2.2 a3))]) (x := (e28.1, e28.2.1, (lkX e28.2.2 a3))) (fun _ => (oPrN (oI (by exact ⟨by omega, by omega⟩)) (oPrN (oI (by exact ⟨by omega, by omega⟩)) (oI (by exact ⟨by omega, by omega⟩)))))
              have HH468 := HH467.sel [1, 0, 2, 3, 4, 5, 6] (by decide) rfl
              have HH469 := HH468.shut
              obtain ⟨S69, HH470⟩ : ∃ S, Held Nob w (rSo eRule S (some ⟨be68, fe68, none⟩) cr23_0_2 ((renTo a0 (lkF a3) (id) k).set (((((lkX ((k : Int) / a0.1) a3) * a0.1) + ((k : Int) % a0.1))).toNat) (e28.1, e28.2.1, (lkX e28.2.2 a3))) :: _) _ := ⟨_, HH469⟩
              have E70 : renTo a0 (lkF a3) (id) (k + 1) = ((renTo a0 (lkF a3) (id) k).set (((((lkX ((k : Int) / a0.1) a3) * a0.1) + ((k : Int) % a0.1))).toNat) (e28.1, e28.2.1, (lkX e28.2.2 a3))) := by
                rw [← renTo_step (by omega) hx0]; unfold rulR; simp [hc33, atR, lkF]
              exact nrm ⟨a0.2.2.length - (k + 1), (by omega), k + 1, S69, rfl, HE466.sub ⟨(lkI rfl (by first | rfl | omega | (simp [p26_0, hc27, xe28, hc33, xe68]; done))), rfl, rfl, rfl, rfl, rfl, rfl, rfl, trivial⟩, ((HH470.sel [0, 3, 4, 5] (by decide) rfl).to (by first | rfl | (rw [E70]; done) | (rw [E70]; rfl) | (simp only [E70]; done) | (simp only [E70]; rfl) | (rw [E70]; simp only [List.length_set]; done))), (by first | omega | assumption | (simp; done) | simp_all)⟩
        · refine st_x HE122 HH111 (wt0 rfl) (x_load1 tv_2 rfl (c_blk 0 rfl rfl)) rfl rfl fun a_471 HE472 => hK124 _ _ HS112 ?_
          refine dr_two (i := 2) (j := 8) (ls' := #[true, true, true, false, true, true, true, true, false, false, false, false]) (ls'' := #[true, true, false, false, true, true, true, true, true, false, false, false]) rfl rfl (by kernel_rfl) rfl rfl (fun K_473 hK474 => ?_) (fun K_473 hK474 => ?_)
          · refine st_x HE472 HH111 (wt0 rfl) (x_load1 tv_2 rfl (c_blk 0 rfl rfl)) rfl rfl fun a_475 HE476 => hK474 _ _ HS112 ?_
            refine dr_two (i := 3) (j := 8) (ls' := #[true, true, true, true, true, true, true, true, false, false, false, false]) (ls'' := #[true, true, true, false, true, true, true, true, true, false, false, false]) rfl rfl (by kernel_rfl) rfl rfl (fun K_477 hK478 => ?_) (fun K_477 hK478 => ?_)
            · refine st_call HE476 (wt0 rfl) rfl rfl rfl en_64 rfl rfl (impl_same e28.1 _ ) fun e w' hr => ?_
              obtain ⟨rfl, hbr71⟩ := hr
              have HH479 := HH111.on hbr71
              refine ⟨_, rfl, fun a_480 HE481 => hK478 _ _ (by exact HH479.sel [1, 2, 3, 4] (by decide) rfl) ?_⟩
              have HS482 := HH479.sel [1, 2, 3, 4] (by decide) rfl
              refine dr_one (i := 8) (ls' := #[true, true, true, true, true, true, true, true, true, false, false, false]) rfl (by kernel_rfl) rfl fun K_483 hK484 => ?_
              refine st_x HE481 HH479 (wt0 rfl) (x_load1 tv_2 rfl (c_blk 0 rfl rfl)) rfl rfl fun a_485 HE486 => hK484 _ _ HS482 ?_
              refine dr_one (i := 9) (ls' := #[true, true, true, true, true, true, true, true, true, true, false, false]) rfl (by kernel_rfl) rfl fun K_487 hK488 => ?_
              refine st_callD HE486 (wt0 rfl) rfl rfl rfl en_63 rfl rfl (impl_RenameStates1 e28.2.2 _ [.slice Az3_0 (a3.length) cz3_0] a3 _ (HH479.oldR H3) (c_oldN hq3 _ HH479) (by omega)) fun e w' hr => ?_
              obtain ⟨rfl, hbr72⟩ := hr
              have HH489 := HH479.on hbr72
              refine ⟨_, rfl, fun a_490 HE491 => hK488 _ _ (by exact HH489.sel [1, 2, 3, 4] (by decide) rfl) ?_⟩
              have HS492 := HH489.sel [1, 2, 3, 4] (by decide) rfl
              refine dr_take (i := 10) (ls' := #[true, true, true, true, true, true, true, true, true, true, true, false]) HE491 HS492 rfl (by kernel_rfl) (by kernel_rfl) (by kernel_rfl) (fun _ _ _ h => h) rfl (wt0 rfl) (show XS _ _ _ _ (.agg #[.int .i64 (e28.1), .int .i64 (e28.2.1), .int .i64 ((lkX e28.2.2 a3))]) from x_build (vs := [(0, .int .i64 (e28.1)), (1, .int .i64 (e28.2.1)), (2, .int .i64 ((lkX e28.2.2 a3)))]) tb_114 rfl (by simp [Value.oneCell'])) rfl rfl fun a_493 HE494 => ?_
              refine dr_one (i := 11) (ls' := #[true, true, true, true, true, true, true, true, true, true, true, true]) rfl (by kernel_rfl) rfl fun K_495 hK496 => ?_
              refine st_store (vs := [.int .i64 (e28.1), .int .i64 (e28.2.1), .int .i64 ((lkX e28.2.2 a3))]) 0 HE494 HH489 tv_114 rfl rfl rfl rfl rfl rfl (by simp [Value.oneCell']) (wt0 rfl) fun w' HH497 => hK496 _ _ (by exact HH497.sel [1, 2, 3, 4] (by decide) rfl) ?_
              have HS498 := HH497.sel [1, 2, 3, 4] (by decide) rfl
              refine dr_done (by kernel_rfl) ?_
              clear HH108 HS99 a_109 HE110 a_113 HE114 a_115 HE116 a_117 HE118 a_119 HE120 a_121 HE122 K_123 hK124 a_471 HE472 K_473 hK474 HH111 a_475 HE476 HS112 K_477 hK478 a_480 HE481 K_483 hK484 HH479 a_485 HE486 HS482 a_490 HE491 K_487 hK488 HH489 HS492 hK496 K_495
              refine nrm ?_
              refine rg ?_
              refine pl_x HE494 HH497 (wt0 rfl) (x_fieldAddr fa_48_2 rfl) rfl rfl fun a_499 HE500 => ?_
              refine pl_x HE500 HH497 (wt0 rfl) (x_load1 tv_46 rfl (c_blk 2 rfl rfl)) rfl rfl fun a_501 HE502 => ?_
              refine pl_x HE502 HH497 (wt0 rfl) (x_move rfl) rfl rfl fun a_503 HE504 => ?_
              refine pl_x HE504 HH497 (wt0 rfl) (x_loadN (cs := [.int .i64 (e28.1), .int .i64 (e28.2.1), .int .i64 ((lkX e28.2.2 a3))]) tv_114 rfl rfl (c_blkN 0 rfl)) rfl rfl fun a_505 HE506 => ?_
              have HH507 := HH497.sel [1, 0, 2, 3, 4] (by decide) rfl
              have ke73 : ((((lkX ((k : Int) / a0.1) a3) * a0.1) + ((k : Int) % a0.1))).toNat < List.length (renTo a0 (lkF a3) (id) k) := by omega
              have ne73 : ((((lkX ((k : Int) / a0.1) a3) * a0.1) + ((k : Int) % a0.1))).toNat < (List.length (renTo a0 (lkF a3) (id) k)) := by omega
              obtain ⟨be73, fe73, ese73, Te73, rfl, Re73, Ze73, HH508⟩ := HH507.open ke73
              obtain ⟨e73, xe73⟩ : ∃ x_, x_ = (renTo a0 (lkF a3) (id) k)[((((lkX ((k : Int) / a0.1) a3) * a0.1) + ((k : Int) % a0.1))).toNat] := ⟨_, rfl⟩
              rw [← xe73] at Re73
              rw [← xe73] at HH508
              obtain ⟨rfl, ge73_0, ge73_1, ge73_2⟩ := shape_Rule Re73
              clear Re73
              have je73_0 := ge73_0; unfold I64 at je73_0
              have je73_1 := ge73_1; unfold I64 at je73_1
              have je73_2 := ge73_2; unfold I64 at je73_2
              refine pl_x HE506 HH508 (wt0 rfl) (x_indexAddr ts_46 rfl rfl rfl (by omega) ne73) rfl rfl fun a_509 HE510 => ?_
              refine pl fun K_511 hK512 => ?_
              refine st_storeFN (vs := [.int .i64 (e28.1), .int .i64 (e28.2.1), .int .i64 ((lkX e28.2.2 a3))]) 0 HE510 HH508 tv_114 rfl rfl rfl rfl rfl rfl rfl (by simp [Value.oneCell']) (wt0 rfl) fun w' HH513 => hK512 _ _ ?_
              refine wpList_nil ?_
              clear a_493 HE494 a_499 HE500 a_501 HE502 a_503 HE504 HH497 HH507 a_505 HE506 HH508 hK512 K_511
              refine blk_n ?_
              refine nrm ?_
              refine rg ?_
              refine pl_x HE510 HH513 (wt0 rfl) (x_add rfl rfl (by exact ⟨by omega, by omega⟩)) rfl rfl fun a_514 HE515 => ?_
              refine pl_x HE515 HH513 (wt0 rfl) (x_move rfl) rfl rfl fun a_516 HE517 => ?_
              refine wpList_nil ?_
              clear a_509 HE510 a_514 HE515
              have HH518 := HH513.flatO (E := eRule) (cs := [.int .i64 (e28.1), .int .i64 (e28.2.1), .int .i64 ((lkX e28.2.2 a3))]) (x := (e28.1, e28.2.1, (lkX e28.2.2 a3))) (fun _ => (oPrN (oI (by exact ⟨by omega, by omega⟩)) (oPrN (oI (by exact ⟨by omega, by omega⟩)) (oI (by exact ⟨by omega, by omega⟩)))))
              have HH519 := HH518.sel [1, 0, 2, 3, 4, 5, 6] (by decide) rfl
              have HH520 := HH519.shut
              obtain ⟨S74, HH521⟩ : ∃ S, Held Nob w (rSo eRule S (some ⟨be73, fe73, none⟩) cr23_0_2 ((renTo a0 (lkF a3) (id) k).set (((((lkX ((k : Int) / a0.1) a3) * a0.1) + ((k : Int) % a0.1))).toNat) (e28.1, e28.2.1, (lkX e28.2.2 a3))) :: _) _ := ⟨_, HH520⟩
              have E75 : renTo a0 (lkF a3) (id) (k + 1) = ((renTo a0 (lkF a3) (id) k).set (((((lkX ((k : Int) / a0.1) a3) * a0.1) + ((k : Int) % a0.1))).toNat) (e28.1, e28.2.1, (lkX e28.2.2 a3))) := by
                rw [← renTo_step (by omega) hx0]; unfold rulR; simp [hc33, atR, lkF]
              exact nrm ⟨a0.2.2.length - (k + 1), (by omega), k + 1, S74, rfl, HE517.sub ⟨(lkI rfl (by first | rfl | omega | (simp [p26_0, hc27, xe28, hc33, xe73]; done))), rfl, rfl, rfl, rfl, rfl, rfl, rfl, trivial⟩, ((HH521.sel [0, 3, 4, 5] (by decide) rfl).to (by first | rfl | (rw [E75]; done) | (rw [E75]; rfl) | (simp only [E75]; done) | (simp only [E75]; rfl) | (rw [E75]; simp only [List.length_set]; done))), (by first | omega | assumption | (simp; done) | simp_all)⟩
            · refine st_x HE476 HH111 (wt0 rfl) (x_load1 tv_2 rfl (c_blk 0 rfl rfl)) rfl rfl fun a_522 HE523 => hK478 _ _ HS112 ?_
              refine dr_one (i := 3) (ls' := #[true, true, true, true, true, true, true, true, true, false, false, false]) rfl (by kernel_rfl) rfl fun K_524 hK525 => ?_
              refine st_call HE523 (wt0 rfl) rfl rfl rfl en_64 rfl rfl (impl_same e28.1 _ ) fun e w' hr => ?_
              obtain ⟨rfl, hbr76⟩ := hr
              have HH526 := HH111.on hbr76
              refine ⟨_, rfl, fun a_527 HE528 => hK525 _ _ (by exact HH526.sel [1, 2, 3, 4] (by decide) rfl) ?_⟩
              have HS529 := HH526.sel [1, 2, 3, 4] (by decide) rfl
              refine dr_one (i := 9) (ls' := #[true, true, true, true, true, true, true, true, true, true, false, false]) rfl (by kernel_rfl) rfl fun K_530 hK531 => ?_
              refine st_callD HE528 (wt0 rfl) rfl rfl rfl en_63 rfl rfl (impl_RenameStates1 e28.2.2 _ [.slice Az3_0 (a3.length) cz3_0] a3 _ (HH526.oldR H3) (c_oldN hq3 _ HH526) (by omega)) fun e w' hr => ?_
              obtain ⟨rfl, hbr77⟩ := hr
              have HH532 := HH526.on hbr77
              refine ⟨_, rfl, fun a_533 HE534 => hK531 _ _ (by exact HH532.sel [1, 2, 3, 4] (by decide) rfl) ?_⟩
              have HS535 := HH532.sel [1, 2, 3, 4] (by decide) rfl
              refine dr_take (i := 10) (ls' := #[true, true, true, true, true, true, true, true, true, true, true, false]) HE534 HS535 rfl (by kernel_rfl) (by kernel_rfl) (by kernel_rfl) (fun _ _ _ h => h) rfl (wt0 rfl) (show XS _ _ _ _ (.agg #[.int .i64 (e28.1), .int .i64 (e28.2.1), .int .i64 ((lkX e28.2.2 a3))]) from x_build (vs := [(0, .int .i64 (e28.1)), (1, .int .i64 (e28.2.1)), (2, .int .i64 ((lkX e28.2.2 a3)))]) tb_114 rfl (by simp [Value.oneCell'])) rfl rfl fun a_536 HE537 => ?_
              refine dr_one (i := 11) (ls' := #[true, true, true, true, true, true, true, true, true, true, true, true]) rfl (by kernel_rfl) rfl fun K_538 hK539 => ?_
              refine st_store (vs := [.int .i64 (e28.1), .int .i64 (e28.2.1), .int .i64 ((lkX e28.2.2 a3))]) 0 HE537 HH532 tv_114 rfl rfl rfl rfl rfl rfl (by simp [Value.oneCell']) (wt0 rfl) fun w' HH540 => hK539 _ _ (by exact HH540.sel [1, 2, 3, 4] (by decide) rfl) ?_
              have HS541 := HH540.sel [1, 2, 3, 4] (by decide) rfl
              refine dr_done (by kernel_rfl) ?_
              clear HH108 HS99 a_109 HE110 a_113 HE114 a_115 HE116 a_117 HE118 a_119 HE120 a_121 HE122 K_123 hK124 a_471 HE472 K_473 hK474 a_475 HE476 K_477 hK478 HH111 a_522 HE523 HS112 K_524 hK525 HH526 a_527 HE528 HS529 a_533 HE534 K_530 hK531 HH532 HS535 hK539 K_538
              refine nrm ?_
              refine rg ?_
              refine pl_x HE537 HH540 (wt0 rfl) (x_fieldAddr fa_48_2 rfl) rfl rfl fun a_542 HE543 => ?_
              refine pl_x HE543 HH540 (wt0 rfl) (x_load1 tv_46 rfl (c_blk 2 rfl rfl)) rfl rfl fun a_544 HE545 => ?_
              refine pl_x HE545 HH540 (wt0 rfl) (x_move rfl) rfl rfl fun a_546 HE547 => ?_
              refine pl_x HE547 HH540 (wt0 rfl) (x_loadN (cs := [.int .i64 (e28.1), .int .i64 (e28.2.1), .int .i64 ((lkX e28.2.2 a3))]) tv_114 rfl rfl (c_blkN 0 rfl)) rfl rfl fun a_548 HE549 => ?_
              have HH550 := HH540.sel [1, 0, 2, 3, 4] (by decide) rfl
              have ke78 : ((((lkX ((k : Int) / a0.1) a3) * a0.1) + ((k : Int) % a0.1))).toNat < List.length (renTo a0 (lkF a3) (id) k) := by omega
              have ne78 : ((((lkX ((k : Int) / a0.1) a3) * a0.1) + ((k : Int) % a0.1))).toNat < (List.length (renTo a0 (lkF a3) (id) k)) := by omega
              obtain ⟨be78, fe78, ese78, Te78, rfl, Re78, Ze78, HH551⟩ := HH550.open ke78
              obtain ⟨e78, xe78⟩ : ∃ x_, x_ = (renTo a0 (lkF a3) (id) k)[((((lkX ((k : Int) / a0.1) a3) * a0.1) + ((k : Int) % a0.1))).toNat] := ⟨_, rfl⟩
              rw [← xe78] at Re78
              rw [← xe78] at HH551
              obtain ⟨rfl, ge78_0, ge78_1, ge78_2⟩ := shape_Rule Re78
              clear Re78
              have je78_0 := ge78_0; unfold I64 at je78_0
              have je78_1 := ge78_1; unfold I64 at je78_1
              have je78_2 := ge78_2; unfold I64 at je78_2
              refine pl_x HE549 HH551 (wt0 rfl) (x_indexAddr ts_46 rfl rfl rfl (by omega) ne78) rfl rfl fun a_552 HE553 => ?_
              refine pl fun K_554 hK555 => ?_
              refine st_storeFN (vs := [.int .i64 (e28.1), .int .i64 (e28.2.1), .int .i64 ((lkX e28.2.2 a3))]) 0 HE553 HH551 tv_114 rfl rfl rfl rfl rfl rfl rfl (by simp [Value.oneCell']) (wt0 rfl) fun w' HH556 => hK555 _ _ ?_
              refine wpList_nil ?_
              clear a_536 HE537 a_542 HE543 a_544 HE545 a_546 HE547 HH540 HH550 a_548 HE549 HH551 hK555 K_554
              refine blk_n ?_
              refine nrm ?_
              refine rg ?_
              refine pl_x HE553 HH556 (wt0 rfl) (x_add rfl rfl (by exact ⟨by omega, by omega⟩)) rfl rfl fun a_557 HE558 => ?_
              refine pl_x HE558 HH556 (wt0 rfl) (x_move rfl) rfl rfl fun a_559 HE560 => ?_
              refine wpList_nil ?_
              clear a_552 HE553 a_557 HE558
              have HH561 := HH556.flatO (E := eRule) (cs := [.int .i64 (e28.1), .int .i64 (e28.2.1), .int .i64 ((lkX e28.2.2 a3))]) (x := (e28.1, e28.2.1, (lkX e28.2.2 a3))) (fun _ => (oPrN (oI (by exact ⟨by omega, by omega⟩)) (oPrN (oI (by exact ⟨by omega, by omega⟩)) (oI (by exact ⟨by omega, by omega⟩)))))
              have HH562 := HH561.sel [1, 0, 2, 3, 4, 5, 6] (by decide) rfl
              have HH563 := HH562.shut
              obtain ⟨S79, HH564⟩ : ∃ S, Held Nob w (rSo eRule S (some ⟨be78, fe78, none⟩) cr23_0_2 ((renTo a0 (lkF a3) (id) k).set (((((lkX ((k : Int) / a0.1) a3) * a0.1) + ((k : Int) % a0.1))).toNat) (e28.1, e28.2.1, (lkX e28.2.2 a3))) :: _) _ := ⟨_, HH563⟩
              have E80 : renTo a0 (lkF a3) (id) (k + 1) = ((renTo a0 (lkF a3) (id) k).set (((((lkX ((k : Int) / a0.1) a3) * a0.1) + ((k : Int) % a0.1))).toNat) (e28.1, e28.2.1, (lkX e28.2.2 a3))) := by
                rw [← renTo_step (by omega) hx0]; unfold rulR; simp [hc33, atR, lkF]
              exact nrm ⟨a0.2.2.length - (k + 1), (by omega), k + 1, S79, rfl, HE560.sub ⟨(lkI rfl (by first | rfl | omega | (simp [p26_0, hc27, xe28, hc33, xe78]; done))), rfl, rfl, rfl, rfl, rfl, rfl, rfl, trivial⟩, ((HH564.sel [0, 3, 4, 5] (by decide) rfl).to (by first | rfl | (rw [E80]; done) | (rw [E80]; rfl) | (simp only [E80]; done) | (simp only [E80]; rfl) | (rw [E80]; simp only [List.length_set]; done))), (by first | omega | assumption | (simp; done) | simp_all)⟩
          · refine st_x HE472 HH111 (wt0 rfl) (x_load1 tv_2 rfl (c_blk 0 rfl rfl)) rfl rfl fun a_565 HE566 => hK474 _ _ HS112 ?_
            refine dr_one (i := 2) (ls' := #[true, true, true, false, true, true, true, true, true, false, false, false]) rfl (by kernel_rfl) rfl fun K_567 hK568 => ?_
            refine st_x HE566 HH111 (wt0 rfl) (x_load1 tv_2 rfl (c_blk 0 rfl rfl)) rfl rfl fun a_569 HE570 => hK568 _ _ HS112 ?_
            refine dr_one (i := 3) (ls' := #[true, true, true, true, true, true, true, true, true, false, false, false]) rfl (by kernel_rfl) rfl fun K_571 hK572 => ?_
            refine st_call HE570 (wt0 rfl) rfl rfl rfl en_64 rfl rfl (impl_same e28.1 _ ) fun e w' hr => ?_
            obtain ⟨rfl, hbr81⟩ := hr
            have HH573 := HH111.on hbr81
            refine ⟨_, rfl, fun a_574 HE575 => hK572 _ _ (by exact HH573.sel [1, 2, 3, 4] (by decide) rfl) ?_⟩
            have HS576 := HH573.sel [1, 2, 3, 4] (by decide) rfl
            refine dr_one (i := 9) (ls' := #[true, true, true, true, true, true, true, true, true, true, false, false]) rfl (by kernel_rfl) rfl fun K_577 hK578 => ?_
            refine st_callD HE575 (wt0 rfl) rfl rfl rfl en_63 rfl rfl (impl_RenameStates1 e28.2.2 _ [.slice Az3_0 (a3.length) cz3_0] a3 _ (HH573.oldR H3) (c_oldN hq3 _ HH573) (by omega)) fun e w' hr => ?_
            obtain ⟨rfl, hbr82⟩ := hr
            have HH579 := HH573.on hbr82
            refine ⟨_, rfl, fun a_580 HE581 => hK578 _ _ (by exact HH579.sel [1, 2, 3, 4] (by decide) rfl) ?_⟩
            have HS582 := HH579.sel [1, 2, 3, 4] (by decide) rfl
            refine dr_take (i := 10) (ls' := #[true, true, true, true, true, true, true, true, true, true, true, false]) HE581 HS582 rfl (by kernel_rfl) (by kernel_rfl) (by kernel_rfl) (fun _ _ _ h => h) rfl (wt0 rfl) (show XS _ _ _ _ (.agg #[.int .i64 (e28.1), .int .i64 (e28.2.1), .int .i64 ((lkX e28.2.2 a3))]) from x_build (vs := [(0, .int .i64 (e28.1)), (1, .int .i64 (e28.2.1)), (2, .int .i64 ((lkX e28.2.2 a3)))]) tb_114 rfl (by simp [Value.oneCell'])) rfl rfl fun a_583 HE584 => ?_
            refine dr_one (i := 11) (ls' := #[true, true, true, true, true, true, true, true, true, true, true, true]) rfl (by kernel_rfl) rfl fun K_585 hK586 => ?_
            refine st_store (vs := [.int .i64 (e28.1), .int .i64 (e28.2.1), .int .i64 ((lkX e28.2.2 a3))]) 0 HE584 HH579 tv_114 rfl rfl rfl rfl rfl rfl (by simp [Value.oneCell']) (wt0 rfl) fun w' HH587 => hK586 _ _ (by exact HH587.sel [1, 2, 3, 4] (by decide) rfl) ?_
            have HS588 := HH587.sel [1, 2, 3, 4] (by decide) rfl
            refine dr_done (by kernel_rfl) ?_
            clear HH108 HS99 a_109 HE110 a_113 HE114 a_115 HE116 a_117 HE118 a_119 HE120 a_121 HE122 K_123 hK124 a_471 HE472 K_473 hK474 a_565 HE566 K_567 hK568 HH111 a_569 HE570 HS112 K_571 hK572 HH573 a_574 HE575 HS576 a_580 HE581 K_577 hK578 HH579 HS582 hK586 K_585
            refine nrm ?_
            refine rg ?_
            refine pl_x HE584 HH587 (wt0 rfl) (x_fieldAddr fa_48_2 rfl) rfl rfl fun a_589 HE590 => ?_
            refine pl_x HE590 HH587 (wt0 rfl) (x_load1 tv_46 rfl (c_blk 2 rfl rfl)) rfl rfl fun a_591 HE592 => ?_
            refine pl_x HE592 HH587 (wt0 rfl) (x_move rfl) rfl rfl fun a_593 HE594 => ?_
            refine pl_x HE594 HH587 (wt0 rfl) (x_loadN (cs := [.int .i64 (e28.1), .int .i64 (e28.2.1), .int .i64 ((lkX e28.2.2 a3))]) tv_114 rfl rfl (c_blkN 0 rfl)) rfl rfl fun a_595 HE596 => ?_
            have HH597 := HH587.sel [1, 0, 2, 3, 4] (by decide) rfl
            have ke83 : ((((lkX ((k : Int) / a0.1) a3) * a0.1) + ((k : Int) % a0.1))).toNat < List.length (renTo a0 (lkF a3) (id) k) := by omega
            have ne83 : ((((lkX ((k : Int) / a0.1) a3) * a0.1) + ((k : Int) % a0.1))).toNat < (List.length (renTo a0 (lkF a3) (id) k)) := by omega
            obtain ⟨be83, fe83, ese83, Te83, rfl, Re83, Ze83, HH598⟩ := HH597.open ke83
            obtain ⟨e83, xe83⟩ : ∃ x_, x_ = (renTo a0 (lkF a3) (id) k)[((((lkX ((k : Int) / a0.1) a3) * a0.1) + ((k : Int) % a0.1))).toNat] := ⟨_, rfl⟩
            rw [← xe83] at Re83
            rw [← xe83] at HH598
            obtain ⟨rfl, ge83_0, ge83_1, ge83_2⟩ := shape_Rule Re83
            clear Re83
            have je83_0 := ge83_0; unfold I64 at je83_0
            have je83_1 := ge83_1; unfold I64 at je83_1
            have je83_2 := ge83_2; unfold I64 at je83_2
            refine pl_x HE596 HH598 (wt0 rfl) (x_indexAddr ts_46 rfl rfl rfl (by omega) ne83) rfl rfl fun a_599 HE600 => ?_
            refine pl fun K_601 hK602 => ?_
            refine st_storeFN (vs := [.int .i64 (e28.1), .int .i64 (e28.2.1), .int .i64 ((lkX e28.2.2 a3))]) 0 HE600 HH598 tv_114 rfl rfl rfl rfl rfl rfl rfl (by simp [Value.oneCell']) (wt0 rfl) fun w' HH603 => hK602 _ _ ?_
            refine wpList_nil ?_
            clear a_583 HE584 a_589 HE590 a_591 HE592 a_593 HE594 HH587 HH597 a_595 HE596 HH598 hK602 K_601
            refine blk_n ?_
            refine nrm ?_
            refine rg ?_
            refine pl_x HE600 HH603 (wt0 rfl) (x_add rfl rfl (by exact ⟨by omega, by omega⟩)) rfl rfl fun a_604 HE605 => ?_
            refine pl_x HE605 HH603 (wt0 rfl) (x_move rfl) rfl rfl fun a_606 HE607 => ?_
            refine wpList_nil ?_
            clear a_599 HE600 a_604 HE605
            have HH608 := HH603.flatO (E := eRule) (cs := [.int .i64 (e28.1), .int .i64 (e28.2.1), .int .i64 ((lkX e28.2.2 a3))]) (x := (e28.1, e28.2.1, (lkX e28.2.2 a3))) (fun _ => (oPrN (oI (by exact ⟨by omega, by omega⟩)) (oPrN (oI (by exact ⟨by omega, by omega⟩)) (oI (by exact ⟨by omega, by omega⟩)))))
            have HH609 := HH608.sel [1, 0, 2, 3, 4, 5, 6] (by decide) rfl
            have HH610 := HH609.shut
            obtain ⟨S84, HH611⟩ : ∃ S, Held Nob w (rSo eRule S (some ⟨be83, fe83, none⟩) cr23_0_2 ((renTo a0 (lkF a3) (id) k).set (((((lkX ((k : Int) / a0.1) a3) * a0.1) + ((k : Int) % a0.1))).toNat) (e28.1, e28.2.1, (lkX e28.2.2 a3))) :: _) _ := ⟨_, HH610⟩
            have E85 : renTo a0 (lkF a3) (id) (k + 1) = ((renTo a0 (lkF a3) (id) k).set (((((lkX ((k : Int) / a0.1) a3) * a0.1) + ((k : Int) % a0.1))).toNat) (e28.1, e28.2.1, (lkX e28.2.2 a3))) := by
              rw [← renTo_step (by omega) hx0]; unfold rulR; simp [hc33, atR, lkF]
            exact nrm ⟨a0.2.2.length - (k + 1), (by omega), k + 1, S84, rfl, HE607.sub ⟨(lkI rfl (by first | rfl | omega | (simp [p26_0, hc27, xe28, hc33, xe83]; done))), rfl, rfl, rfl, rfl, rfl, rfl, rfl, trivial⟩, ((HH611.sel [0, 3, 4, 5] (by decide) rfl).to (by first | rfl | (rw [E85]; done) | (rw [E85]; rfl) | (simp only [E85]; done) | (simp only [E85]; rfl) | (rw [E85]; simp only [List.length_set]; done))), (by first | omega | assumption | (simp; done) | simp_all)⟩
        · refine st_x HE122 HH111 (wt0 rfl) (x_load1 tv_2 rfl (c_blk 0 rfl rfl)) rfl rfl fun a_612 HE613 => hK124 _ _ HS112 ?_
          refine dr_two (i := 2) (j := 5) (ls' := #[true, true, true, false, true, false, true, true, true, false, false, false]) (ls'' := #[true, true, false, false, true, true, true, true, true, false, false, false]) rfl rfl (by kernel_rfl) rfl rfl (fun K_614 hK615 => ?_) (fun K_614 hK615 => ?_)
          · refine st_x HE613 HH111 (wt0 rfl) (x_load1 tv_2 rfl (c_blk 0 rfl rfl)) rfl rfl fun a_616 HE617 => hK615 _ _ HS112 ?_
            refine dr_two (i := 3) (j := 5) (ls' := #[true, true, true, true, true, false, true, true, true, false, false, false]) (ls'' := #[true, true, true, false, true, true, true, true, true, false, false, false]) rfl rfl (by kernel_rfl) rfl rfl (fun K_618 hK619 => ?_) (fun K_618 hK619 => ?_)
            · refine st_call HE617 (wt0 rfl) rfl rfl rfl en_64 rfl rfl (impl_same e28.1 _ ) fun e w' hr => ?_
              obtain ⟨rfl, hbr86⟩ := hr
              have HH620 := HH111.on hbr86
              refine ⟨_, rfl, fun a_621 HE622 => hK619 _ _ (by exact HH620.sel [1, 2, 3, 4] (by decide) rfl) ?_⟩
              have HS623 := HH620.sel [1, 2, 3, 4] (by decide) rfl
              refine dr_two (i := 5) (j := 9) (ls' := #[true, true, true, true, true, true, true, true, true, false, false, false]) (ls'' := #[true, true, true, true, true, false, true, true, true, true, false, false]) rfl rfl (by kernel_rfl) rfl rfl (fun K_624 hK625 => ?_) (fun K_624 hK625 => ?_)
              · refine st_x HE622 HH620 (wt0 rfl) (x_load1 tv_2 rfl (c_blk 0 rfl rfl)) rfl rfl fun a_626 HE627 => hK625 _ _ HS623 ?_
                refine dr_one (i := 9) (ls' := #[true, true, true, true, true, true, true, true, true, true, false, false]) rfl (by kernel_rfl) rfl fun K_628 hK629 => ?_
                refine st_callD HE627 (wt0 rfl) rfl rfl rfl en_63 rfl rfl (impl_RenameStates1 e28.2.2 _ [.slice Az3_0 (a3.length) cz3_0] a3 _ (HH620.oldR H3) (c_oldN hq3 _ HH620) (by omega)) fun e w' hr => ?_
                obtain ⟨rfl, hbr87⟩ := hr
                have HH630 := HH620.on hbr87
                refine ⟨_, rfl, fun a_631 HE632 => hK629 _ _ (by exact HH630.sel [1, 2, 3, 4] (by decide) rfl) ?_⟩
                have HS633 := HH630.sel [1, 2, 3, 4] (by decide) rfl
                refine dr_take (i := 10) (ls' := #[true, true, true, true, true, true, true, true, true, true, true, false]) HE632 HS633 rfl (by kernel_rfl) (by kernel_rfl) (by kernel_rfl) (fun _ _ _ h => h) rfl (wt0 rfl) (show XS _ _ _ _ (.agg #[.int .i64 (e28.1), .int .i64 (e28.2.1), .int .i64 ((lkX e28.2.2 a3))]) from x_build (vs := [(0, .int .i64 (e28.1)), (1, .int .i64 (e28.2.1)), (2, .int .i64 ((lkX e28.2.2 a3)))]) tb_114 rfl (by simp [Value.oneCell'])) rfl rfl fun a_634 HE635 => ?_
                refine dr_one (i := 11) (ls' := #[true, true, true, true, true, true, true, true, true, true, true, true]) rfl (by kernel_rfl) rfl fun K_636 hK637 => ?_
                refine st_store (vs := [.int .i64 (e28.1), .int .i64 (e28.2.1), .int .i64 ((lkX e28.2.2 a3))]) 0 HE635 HH630 tv_114 rfl rfl rfl rfl rfl rfl (by simp [Value.oneCell']) (wt0 rfl) fun w' HH638 => hK637 _ _ (by exact HH638.sel [1, 2, 3, 4] (by decide) rfl) ?_
                have HS639 := HH638.sel [1, 2, 3, 4] (by decide) rfl
                refine dr_done (by kernel_rfl) ?_
                clear HH108 HS99 a_109 HE110 a_113 HE114 a_115 HE116 a_117 HE118 a_119 HE120 a_121 HE122 K_123 hK124 a_612 HE613 K_614 hK615 HH111 a_616 HE617 HS112 K_618 hK619 a_621 HE622 K_624 hK625 HH620 a_626 HE627 HS623 a_631 HE632 K_628 hK629 HH630 HS633 hK637 K_636
                refine nrm ?_
                refine rg ?_
                refine pl_x HE635 HH638 (wt0 rfl) (x_fieldAddr fa_48_2 rfl) rfl rfl fun a_640 HE641 => ?_
                refine pl_x HE641 HH638 (wt0 rfl) (x_load1 tv_46 rfl (c_blk 2 rfl rfl)) rfl rfl fun a_642 HE643 => ?_
                refine pl_x HE643 HH638 (wt0 rfl) (x_move rfl) rfl rfl fun a_644 HE645 => ?_
                refine pl_x HE645 HH638 (wt0 rfl) (x_loadN (cs := [.int .i64 (e28.1), .int .i64 (e28.2.1), .int .i64 ((lkX e28.2.2 a3))]) tv_114 rfl rfl (c_blkN 0 rfl)) rfl rfl fun a_646 HE647 => ?_
                have HH648 := HH638.sel [1, 0, 2, 3, 4] (by decide) rfl
                have ke88 : ((((lkX ((k : Int) / a0.1) a3) * a0.1) + ((k : Int) % a0.1))).toNat < List.length (renTo a0 (lkF a3) (id) k) := by omega
                have ne88 : ((((lkX ((k : Int) / a0.1) a3) * a0.1) + ((k : Int) % a0.1))).toNat < (List.length (renTo a0 (lkF a3) (id) k)) := by omega
                obtain ⟨be88, fe88, ese88, Te88, rfl, Re88, Ze88, HH649⟩ := HH648.open ke88
                obtain ⟨e88, xe88⟩ : ∃ x_, x_ = (renTo a0 (lkF a3) (id) k)[((((lkX ((k : Int) / a0.1) a3) * a0.1) + ((k : Int) % a0.1))).toNat] := ⟨_, rfl⟩
                rw [← xe88] at Re88
                rw [← xe88] at HH649
                obtain ⟨rfl, ge88_0, ge88_1, ge88_2⟩ := shape_Rule Re88
                clear Re88
                have je88_0 := ge88_0; unfold I64 at je88_0
                have je88_1 := ge88_1; unfold I64 at je88_1
                have je88_2 := ge88_2; unfold I64 at je88_2
                refine pl_x HE647 HH649 (wt0 rfl) (x_indexAddr ts_46 rfl rfl rfl (by omega) ne88) rfl rfl fun a_650 HE651 => ?_
                refine pl fun K_652 hK653 => ?_
                refine st_storeFN (vs := [.int .i64 (e28.1), .int .i64 (e28.2.1), .int .i64 ((lkX e28.2.2 a3))]) 0 HE651 HH649 tv_114 rfl rfl rfl rfl rfl rfl rfl (by simp [Value.oneCell']) (wt0 rfl) fun w' HH654 => hK653 _ _ ?_
                refine wpList_nil ?_
                clear a_634 HE635 a_640 HE641 a_642 HE643 a_644 HE645 HH638 HH648 a_646 HE647 HH649 hK653 K_652
                refine blk_n ?_
                refine nrm ?_
                refine rg ?_
                refine pl_x HE651 HH654 (wt0 rfl) (x_add rfl rfl (by exact ⟨by omega, by omega⟩)) rfl rfl fun a_655 HE656 => ?_
                refine pl_x HE656 HH654 (wt0 rfl) (x_move rfl) rfl rfl fun a_657 HE658 => ?_
                refine wpList_nil ?_
                clear a_650 HE651 a_655 HE656
                have HH659 := HH654.flatO (E := eRule) (cs := [.int .i64 (e28.1), .int .i64 (e28.2.1), .int .i64 ((lkX e28.2.2 a3))]) (x := (e28.1, e28.2.1, (lkX e28.2.2 a3))) (fun _ => (oPrN (oI (by exact ⟨by omega, by omega⟩)) (oPrN (oI (by exact ⟨by omega, by omega⟩)) (oI (by exact ⟨by omega, by omega⟩)))))
                have HH660 := HH659.sel [1, 0, 2, 3, 4, 5, 6] (by decide) rfl
                have HH661 := HH660.shut
                obtain ⟨S89, HH662⟩ : ∃ S, Held Nob w (rSo eRule S (some ⟨be88, fe88, none⟩) cr23_0_2 ((renTo a0 (lkF a3) (id) k).set (((((lkX ((k : Int) / a0.1) a3) * a0.1) + ((k : Int) % a0.1))).toNat) (e28.1, e28.2.1, (lkX e28.2.2 a3))) :: _) _ := ⟨_, HH661⟩
                have E90 : renTo a0 (lkF a3) (id) (k + 1) = ((renTo a0 (lkF a3) (id) k).set (((((lkX ((k : Int) / a0.1) a3) * a0.1) + ((k : Int) % a0.1))).toNat) (e28.1, e28.2.1, (lkX e28.2.2 a3))) := by
                  rw [← renTo_step (by omega) hx0]; unfold rulR; simp [hc33, atR, lkF]
                exact nrm ⟨a0.2.2.length - (k + 1), (by omega), k + 1, S89, rfl, HE658.sub ⟨(lkI rfl (by first | rfl | omega | (simp [p26_0, hc27, xe28, hc33, xe88]; done))), rfl, rfl, rfl, rfl, rfl, rfl, rfl, trivial⟩, ((HH662.sel [0, 3, 4, 5] (by decide) rfl).to (by first | rfl | (rw [E90]; done) | (rw [E90]; rfl) | (simp only [E90]; done) | (simp only [E90]; rfl) | (rw [E90]; simp only [List.length_set]; done))), (by first | omega | assumption | (simp; done) | simp_all)⟩
              · refine st_callD HE622 (wt0 rfl) rfl rfl rfl en_63 rfl rfl (impl_RenameStates1 e28.2.2 _ [.slice Az3_0 (a3.length) cz3_0] a3 _ (HH620.oldR H3) (c_oldN hq3 _ HH620) (by omega)) fun e w' hr => ?_
                obtain ⟨rfl, hbr91⟩ := hr
                have HH663 := HH620.on hbr91
                refine ⟨_, rfl, fun a_664 HE665 => hK625 _ _ (by exact HH663.sel [1, 2, 3, 4] (by decide) rfl) ?_⟩
                have HS666 := HH663.sel [1, 2, 3, 4] (by decide) rfl
                refine dr_one (i := 5) (ls' := #[true, true, true, true, true, true, true, true, true, true, false, false]) rfl (by kernel_rfl) rfl fun K_667 hK668 => ?_
                refine st_x HE665 HH663 (wt0 rfl) (x_load1 tv_2 rfl (c_blk 0 rfl rfl)) rfl rfl fun a_669 HE670 => hK668 _ _ HS666 ?_
                refine dr_take (i := 10) (ls' := #[true, true, true, true, true, true, true, true, true, true, true, false]) HE670 HS666 rfl (by kernel_rfl) (by kernel_rfl) (by kernel_rfl) (fun _ _ _ h => h) rfl (wt0 rfl) (show XS _ _ _ _ (.agg #[.int .i64 (e28.1), .int .i64 (e28.2.1), .int .i64 ((lkX e28.2.2 a3))]) from x_build (vs := [(0, .int .i64 (e28.1)), (1, .int .i64 (e28.2.1)), (2, .int .i64 ((lkX e28.2.2 a3)))]) tb_114 rfl (by simp [Value.oneCell'])) rfl rfl fun a_671 HE672 => ?_
                refine dr_one (i := 11) (ls' := #[true, true, true, true, true, true, true, true, true, true, true, true]) rfl (by kernel_rfl) rfl fun K_673 hK674 => ?_
                refine st_store (vs := [.int .i64 (e28.1), .int .i64 (e28.2.1), .int .i64 ((lkX e28.2.2 a3))]) 0 HE672 HH663 tv_114 rfl rfl rfl rfl rfl rfl (by simp [Value.oneCell']) (wt0 rfl) fun w' HH675 => hK674 _ _ (by exact HH675.sel [1, 2, 3, 4] (by decide) rfl) ?_
                have HS676 := HH675.sel [1, 2, 3, 4] (by decide) rfl
                refine dr_done (by kernel_rfl) ?_
                clear HH108 HS99 a_109 HE110 a_113 HE114 a_115 HE116 a_117 HE118 a_119 HE120 a_121 HE122 K_123 hK124 a_612 HE613 K_614 hK615 HH111 a_616 HE617 HS112 K_618 hK619 HH620 a_621 HE622 HS623 K_624 hK625 a_664 HE665 a_669 HE670 K_667 hK668 HH663 HS666 hK674 K_673
                refine nrm ?_
                refine rg ?_
                refine pl_x HE672 HH675 (wt0 rfl) (x_fieldAddr fa_48_2 rfl) rfl rfl fun a_677 HE678 => ?_
                refine pl_x HE678 HH675 (wt0 rfl) (x_load1 tv_46 rfl (c_blk 2 rfl rfl)) rfl rfl fun a_679 HE680 => ?_
                refine pl_x HE680 HH675 (wt0 rfl) (x_move rfl) rfl rfl fun a_681 HE682 => ?_
                refine pl_x HE682 HH675 (wt0 rfl) (x_loadN (cs := [.int .i64 (e28.1), .int .i64 (e28.2.1), .int .i64 ((lkX e28.2.2 a3))]) tv_114 rfl rfl (c_blkN 0 rfl)) rfl rfl fun a_683 HE684 => ?_
                have HH685 := HH675.sel [1, 0, 2, 3, 4] (by decide) rfl
                have ke92 : ((((lkX ((k : Int) / a0.1) a3) * a0.1) + ((k : Int) % a0.1))).toNat < List.length (renTo a0 (lkF a3) (id) k) := by omega
                have ne92 : ((((lkX ((k : Int) / a0.1) a3) * a0.1) + ((k : Int) % a0.1))).toNat < (List.length (renTo a0 (lkF a3) (id) k)) := by omega
                obtain ⟨be92, fe92, ese92, Te92, rfl, Re92, Ze92, HH686⟩ := HH685.open ke92
                obtain ⟨e92, xe92⟩ : ∃ x_, x_ = (renTo a0 (lkF a3) (id) k)[((((lkX ((k : Int) / a0.1) a3) * a0.1) + ((k : Int) % a0.1))).toNat] := ⟨_, rfl⟩
                rw [← xe92] at Re92
                rw [← xe92] at HH686
                obtain ⟨rfl, ge92_0, ge92_1, ge92_2⟩ := shape_Rule Re92
                clear Re92
                have je92_0 := ge92_0; unfold I64 at je92_0
                have je92_1 := ge92_1; unfold I64 at je92_1
                have je92_2 := ge92_2; unfold I64 at je92_2
                refine pl_x HE684 HH686 (wt0 rfl) (x_indexAddr ts_46 rfl rfl rfl (by omega) ne92) rfl rfl fun a_687 HE688 => ?_
                refine pl fun K_689 hK690 => ?_
                refine st_storeFN (vs := [.int .i64 (e28.1), .int .i64 (e28.2.1), .int .i64 ((lkX e28.2.2 a3))]) 0 HE688 HH686 tv_114 rfl rfl rfl rfl rfl rfl rfl (by simp [Value.oneCell']) (wt0 rfl) fun w' HH691 => hK690 _ _ ?_
                refine wpList_nil ?_
                clear a_671 HE672 a_677 HE678 a_679 HE680 a_681 HE682 HH675 HH685 a_683 HE684 HH686 hK690 K_689
                refine blk_n ?_
                refine nrm ?_
                refine rg ?_
                refine pl_x HE688 HH691 (wt0 rfl) (x_add rfl rfl (by exact ⟨by omega, by omega⟩)) rfl rfl fun a_692 HE693 => ?_
                refine pl_x HE693 HH691 (wt0 rfl) (x_move rfl) rfl rfl fun a_694 HE695 => ?_
                refine wpList_nil ?_
                clear a_687 HE688 a_692 HE693
                have HH696 := HH691.flatO (E := eRule) (cs := [.int .i64 (e28.1), .int .i64 (e28.2.1), .int .i64 ((lkX e28.2.2 a3))]) (x := (e28.1, e28.2.1, (lkX e28.2.2 a3))) (fun _ => (oPrN (oI (by exact ⟨by omega, by omega⟩)) (oPrN (oI (by exact ⟨by omega, by omega⟩)) (oI (by exact ⟨by omega, by omega⟩)))))
                have HH697 := HH696.sel [1, 0, 2, 3, 4, 5, 6] (by decide) rfl
                have HH698 := HH697.shut
                obtain ⟨S93, HH699⟩ : ∃ S, Held Nob w (rSo eRule S (some ⟨be92, fe92, none⟩) cr23_0_2 ((renTo a0 (lkF a3) (id) k).set (((((lkX ((k : Int) / a0.1) a3) * a0.1) + ((k : Int) % a0.1))).toNat) (e28.1, e28.2.1, (lkX e28.2.2 a3))) :: _) _ := ⟨_, HH698⟩
                have E94 : renTo a0 (lkF a3) (id) (k + 1) = ((renTo a0 (lkF a3) (id) k).set (((((lkX ((k : Int) / a0.1) a3) * a0.1) + ((k : Int) % a0.1))).toNat) (e28.1, e28.2.1, (lkX e28.2.2 a3))) := by
                  rw [← renTo_step (by omega) hx0]; unfold rulR; simp [hc33, atR, lkF]
                exact nrm ⟨a0.2.2.length - (k + 1), (by omega), k + 1, S93, rfl, HE695.sub ⟨(lkI rfl (by first | rfl | omega | (simp [p26_0, hc27, xe28, hc33, xe92]; done))), rfl, rfl, rfl, rfl, rfl, rfl, rfl, trivial⟩, ((HH699.sel [0, 3, 4, 5] (by decide) rfl).to (by first | rfl | (rw [E94]; done) | (rw [E94]; rfl) | (simp only [E94]; done) | (simp only [E94]; rfl) | (rw [E94]; simp only [List.length_set]; done))), (by first | omega | assumption | (simp; done) | simp_all)⟩
            · refine st_x HE617 HH111 (wt0 rfl) (x_load1 tv_2 rfl (c_blk 0 rfl rfl)) rfl rfl fun a_700 HE701 => hK619 _ _ HS112 ?_
              refine dr_one (i := 3) (ls' := #[true, true, true, true, true, true, true, true, true, false, false, false]) rfl (by kernel_rfl) rfl fun K_702 hK703 => ?_
              refine st_call HE701 (wt0 rfl) rfl rfl rfl en_64 rfl rfl (impl_same e28.1 _ ) fun e w' hr => ?_
              obtain ⟨rfl, hbr95⟩ := hr
              have HH704 := HH111.on hbr95
              refine ⟨_, rfl, fun a_705 HE706 => hK703 _ _ (by exact HH704.sel [1, 2, 3, 4] (by decide) rfl) ?_⟩
              have HS707 := HH704.sel [1, 2, 3, 4] (by decide) rfl
              refine dr_one (i := 9) (ls' := #[true, true, true, true, true, true, true, true, true, true, false, false]) rfl (by kernel_rfl) rfl fun K_708 hK709 => ?_
              refine st_callD HE706 (wt0 rfl) rfl rfl rfl en_63 rfl rfl (impl_RenameStates1 e28.2.2 _ [.slice Az3_0 (a3.length) cz3_0] a3 _ (HH704.oldR H3) (c_oldN hq3 _ HH704) (by omega)) fun e w' hr => ?_
              obtain ⟨rfl, hbr96⟩ := hr
              have HH710 := HH704.on hbr96
              refine ⟨_, rfl, fun a_711 HE712 => hK709 _ _ (by exact HH710.sel [1, 2, 3, 4] (by decide) rfl) ?_⟩
              have HS713 := HH710.sel [1, 2, 3, 4] (by decide) rfl
              refine dr_take (i := 10) (ls' := #[true, true, true, true, true, true, true, true, true, true, true, false]) HE712 HS713 rfl (by kernel_rfl) (by kernel_rfl) (by kernel_rfl) (fun _ _ _ h => h) rfl (wt0 rfl) (show XS _ _ _ _ (.agg #[.int .i64 (e28.1), .int .i64 (e28.2.1), .int .i64 ((lkX e28.2.2 a3))]) from x_build (vs := [(0, .int .i64 (e28.1)), (1, .int .i64 (e28.2.1)), (2, .int .i64 ((lkX e28.2.2 a3)))]) tb_114 rfl (by simp [Value.oneCell'])) rfl rfl fun a_714 HE715 => ?_
              refine dr_one (i := 11) (ls' := #[true, true, true, true, true, true, true, true, true, true, true, true]) rfl (by kernel_rfl) rfl fun K_716 hK717 => ?_
              refine st_store (vs := [.int .i64 (e28.1), .int .i64 (e28.2.1), .int .i64 ((lkX e28.2.2 a3))]) 0 HE715 HH710 tv_114 rfl rfl rfl rfl rfl rfl (by simp [Value.oneCell']) (wt0 rfl) fun w' HH718 => hK717 _ _ (by exact HH718.sel [1, 2, 3, 4] (by decide) rfl) ?_
              have HS719 := HH718.sel [1, 2, 3, 4] (by decide) rfl
              refine dr_done (by kernel_rfl) ?_
              clear HH108 HS99 a_109 HE110 a_113 HE114 a_115 HE116 a_117 HE118 a_119 HE120 a_121 HE122 K_123 hK124 a_612 HE613 K_614 hK615 a_616 HE617 K_618 hK619 HH111 a_700 HE701 HS112 K_702 hK703 HH704 a_705 HE706 HS707 a_711 HE712 K_708 hK709 HH710 HS713 hK717 K_716
              refine nrm ?_
              refine rg ?_
              refine pl_x HE715 HH718 (wt0 rfl) (x_fieldAddr fa_48_2 rfl) rfl rfl fun a_720 HE721 => ?_
              refine pl_x HE721 HH718 (wt0 rfl) (x_load1 tv_46 rfl (c_blk 2 rfl rfl)) rfl rfl fun a_722 HE723 => ?_
              refine pl_x HE723 HH718 (wt0 rfl) (x_move rfl) rfl rfl fun a_724 HE725 => ?_
              refine pl_x HE725 HH718 (wt0 rfl) (x_loadN (cs := [.int .i64 (e28.1), .int .i64 (e28.2.1), .int .i64 ((lkX e28.2.2 a3))]) tv_114 rfl rfl (c_blkN 0 rfl)) rfl rfl fun a_726 HE727 => ?_
              have HH728 := HH718.sel [1, 0, 2, 3, 4] (by decide) rfl
              have ke97 : ((((lkX ((k : Int) / a0.1) a3) * a0.1) + ((k : Int) % a0.1))).toNat < List.length (renTo a0 (lkF a3) (id) k) := by omega
              have ne97 : ((((lkX ((k : Int) / a0.1) a3) * a0.1) + ((k : Int) % a0.1))).toNat < (List.length (renTo a0 (lkF a3) (id) k)) := by omega
              obtain ⟨be97, fe97, ese97, Te97, rfl, Re97, Ze97, HH729⟩ := HH728.open ke97
              obtain ⟨e97, xe97⟩ : ∃ x_, x_ = (renTo a0 (lkF a3) (id) k)[((((lkX ((k : Int) / a0.1) a3) * a0.1) + ((k : Int) % a0.1))).toNat] := ⟨_, rfl⟩
              rw [← xe97] at Re97
              rw [← xe97] at HH729
              obtain ⟨rfl, ge97_0, ge97_1, ge97_2⟩ := shape_Rule Re97
              clear Re97
              have je97_0 := ge97_0; unfold I64 at je97_0
              have je97_1 := ge97_1; unfold I64 at je97_1
              have je97_2 := ge97_2; unfold I64 at je97_2
              refine pl_x HE727 HH729 (wt0 rfl) (x_indexAddr ts_46 rfl rfl rfl (by omega) ne97) rfl rfl fun a_730 HE731 => ?_
              refine pl fun K_732 hK733 => ?_
              refine st_storeFN (vs := [.int .i64 (e28.1), .int .i64 (e28.2.1), .int .i64 ((lkX e28.2.2 a3))]) 0 HE731 HH729 tv_114 rfl rfl rfl rfl rfl rfl rfl (by simp [Value.oneCell']) (wt0 rfl) fun w' HH734 => hK733 _ _ ?_
              refine wpList_nil ?_
              clear a_714 HE715 a_720 HE721 a_722 HE723 a_724 HE725 HH718 HH728 a_726 HE727 HH729 hK733 K_732
              refine blk_n ?_
              refine nrm ?_
              refine rg ?_
              refine pl_x HE731 HH734 (wt0 rfl) (x_add rfl rfl (by exact ⟨by omega, by omega⟩)) rfl rfl fun a_735 HE736 => ?_
              refine pl_x HE736 HH734 (wt0 rfl) (x_move rfl) rfl rfl fun a_737 HE738 => ?_
              refine wpList_nil ?_
              clear a_730 HE731 a_735 HE736
              have HH739 := HH734.flatO (E := eRule) (cs := [.int .i64 (e28.1), .int .i64 (e28.2.1), .int .i64 ((lkX e28.2.2 a3))]) (x := (e28.1, e28.2.1, (lkX e28.2.2 a3))) (fun _ => (oPrN (oI (by exact ⟨by omega, by omega⟩)) (oPrN (oI (by exact ⟨by omega, by omega⟩)) (oI (by exact ⟨by omega, by omega⟩)))))
              have HH740 := HH739.sel [1, 0, 2, 3, 4, 5, 6] (by decide) rfl
              have HH741 := HH740.shut
              obtain ⟨S98, HH742⟩ : ∃ S, Held Nob w (rSo eRule S (some ⟨be97, fe97, none⟩) cr23_0_2 ((renTo a0 (lkF a3) (id) k).set (((((lkX ((k : Int) / a0.1) a3) * a0.1) + ((k : Int) % a0.1))).toNat) (e28.1, e28.2.1, (lkX e28.2.2 a3))) :: _) _ := ⟨_, HH741⟩
              have E99 : renTo a0 (lkF a3) (id) (k + 1) = ((renTo a0 (lkF a3) (id) k).set (((((lkX ((k : Int) / a0.1) a3) * a0.1) + ((k : Int) % a0.1))).toNat) (e28.1, e28.2.1, (lkX e28.2.2 a3))) := by
                rw [← renTo_step (by omega) hx0]; unfold rulR; simp [hc33, atR, lkF]
              exact nrm ⟨a0.2.2.length - (k + 1), (by omega), k + 1, S98, rfl, HE738.sub ⟨(lkI rfl (by first | rfl | omega | (simp [p26_0, hc27, xe28, hc33, xe97]; done))), rfl, rfl, rfl, rfl, rfl, rfl, rfl, trivial⟩, ((HH742.sel [0, 3, 4, 5] (by decide) rfl).to (by first | rfl | (rw [E99]; done) | (rw [E99]; rfl) | (simp only [E99]; done) | (simp only [E99]; rfl) | (rw [E99]; simp only [List.length_set]; done))), (by first | omega | assumption | (simp; done) | simp_all)⟩
          · refine st_x HE613 HH111 (wt0 rfl) (x_load1 tv_2 rfl (c_blk 0 rfl rfl)) rfl rfl fun a_743 HE744 => hK615 _ _ HS112 ?_
            refine dr_one (i := 2) (ls' := #[true, true, true, false, true, true, true, true, true, false, false, false]) rfl (by kernel_rfl) rfl fun K_745 hK746 => ?_
            refine st_x HE744 HH111 (wt0 rfl) (x_load1 tv_2 rfl (c_blk 0 rfl rfl)) rfl rfl fun a_747 HE748 => hK746 _ _ HS112 ?_
            refine dr_one (i := 3) (ls' := #[true, true, true, true, true, true, true, true, true, false, false, false]) rfl (by kernel_rfl) rfl fun K_749 hK750 => ?_
            refine st_call HE748 (wt0 rfl) rfl rfl rfl en_64 rfl rfl (impl_same e28.1 _ ) fun e w' hr => ?_
            obtain ⟨rfl, hbr100⟩ := hr
            have HH751 := HH111.on hbr100
            refine ⟨_, rfl, fun a_752 HE753 => hK750 _ _ (by exact HH751.sel [1, 2, 3, 4] (by decide) rfl) ?_⟩
            have HS754 := HH751.sel [1, 2, 3, 4] (by decide) rfl
            refine dr_one (i := 9) (ls' := #[true, true, true, true, true, true, true, true, true, true, false, false]) rfl (by kernel_rfl) rfl fun K_755 hK756 => ?_
            refine st_callD HE753 (wt0 rfl) rfl rfl rfl en_63 rfl rfl (impl_RenameStates1 e28.2.2 _ [.slice Az3_0 (a3.length) cz3_0] a3 _ (HH751.oldR H3) (c_oldN hq3 _ HH751) (by omega)) fun e w' hr => ?_
            obtain ⟨rfl, hbr101⟩ := hr
            have HH757 := HH751.on hbr101
            refine ⟨_, rfl, fun a_758 HE759 => hK756 _ _ (by exact HH757.sel [1, 2, 3, 4] (by decide) rfl) ?_⟩
            have HS760 := HH757.sel [1, 2, 3, 4] (by decide) rfl
            refine dr_take (i := 10) (ls' := #[true, true, true, true, true, true, true, true, true, true, true, false]) HE759 HS760 rfl (by kernel_rfl) (by kernel_rfl) (by kernel_rfl) (fun _ _ _ h => h) rfl (wt0 rfl) (show XS _ _ _ _ (.agg #[.int .i64 (e28.1), .int .i64 (e28.2.1), .int .i64 ((lkX e28.2.2 a3))]) from x_build (vs := [(0, .int .i64 (e28.1)), (1, .int .i64 (e28.2.1)), (2, .int .i64 ((lkX e28.2.2 a3)))]) tb_114 rfl (by simp [Value.oneCell'])) rfl rfl fun a_761 HE762 => ?_
            refine dr_one (i := 11) (ls' := #[true, true, true, true, true, true, true, true, true, true, true, true]) rfl (by kernel_rfl) rfl fun K_763 hK764 => ?_
            refine st_store (vs := [.int .i64 (e28.1), .int .i64 (e28.2.1), .int .i64 ((lkX e28.2.2 a3))]) 0 HE762 HH757 tv_114 rfl rfl rfl rfl rfl rfl (by simp [Value.oneCell']) (wt0 rfl) fun w' HH765 => hK764 _ _ (by exact HH765.sel [1, 2, 3, 4] (by decide) rfl) ?_
            have HS766 := HH765.sel [1, 2, 3, 4] (by decide) rfl
            refine dr_done (by kernel_rfl) ?_
            clear HH108 HS99 a_109 HE110 a_113 HE114 a_115 HE116 a_117 HE118 a_119 HE120 a_121 HE122 K_123 hK124 a_612 HE613 K_614 hK615 a_743 HE744 K_745 hK746 HH111 a_747 HE748 HS112 K_749 hK750 HH751 a_752 HE753 HS754 a_758 HE759 K_755 hK756 HH757 HS760 hK764 K_763
            refine nrm ?_
            refine rg ?_
            refine pl_x HE762 HH765 (wt0 rfl) (x_fieldAddr fa_48_2 rfl) rfl rfl fun a_767 HE768 => ?_
            refine pl_x HE768 HH765 (wt0 rfl) (x_load1 tv_46 rfl (c_blk 2 rfl rfl)) rfl rfl fun a_769 HE770 => ?_
            refine pl_x HE770 HH765 (wt0 rfl) (x_move rfl) rfl rfl fun a_771 HE772 => ?_
            refine pl_x HE772 HH765 (wt0 rfl) (x_loadN (cs := [.int .i64 (e28.1), .int .i64 (e28.2.1), .int .i64 ((lkX e28.2.2 a3))]) tv_114 rfl rfl (c_blkN 0 rfl)) rfl rfl fun a_773 HE774 => ?_
            have HH775 := HH765.sel [1, 0, 2, 3, 4] (by decide) rfl
            have ke102 : ((((lkX ((k : Int) / a0.1) a3) * a0.1) + ((k : Int) % a0.1))).toNat < List.length (renTo a0 (lkF a3) (id) k) := by omega
            have ne102 : ((((lkX ((k : Int) / a0.1) a3) * a0.1) + ((k : Int) % a0.1))).toNat < (List.length (renTo a0 (lkF a3) (id) k)) := by omega
            obtain ⟨be102, fe102, ese102, Te102, rfl, Re102, Ze102, HH776⟩ := HH775.open ke102
            obtain ⟨e102, xe102⟩ : ∃ x_, x_ = (renTo a0 (lkF a3) (id) k)[((((lkX ((k : Int) / a0.1) a3) * a0.1) + ((k : Int) % a0.1))).toNat] := ⟨_, rfl⟩
            rw [← xe102] at Re102
            rw [← xe102] at HH776
            obtain ⟨rfl, ge102_0, ge102_1, ge102_2⟩ := shape_Rule Re102
            clear Re102
            have je102_0 := ge102_0; unfold I64 at je102_0
            have je102_1 := ge102_1; unfold I64 at je102_1
            have je102_2 := ge102_2; unfold I64 at je102_2
            refine pl_x HE774 HH776 (wt0 rfl) (x_indexAddr ts_46 rfl rfl rfl (by omega) ne102) rfl rfl fun a_777 HE778 => ?_
            refine pl fun K_779 hK780 => ?_
            refine st_storeFN (vs := [.int .i64 (e28.1), .int .i64 (e28.2.1), .int .i64 ((lkX e28.2.2 a3))]) 0 HE778 HH776 tv_114 rfl rfl rfl rfl rfl rfl rfl (by simp [Value.oneCell']) (wt0 rfl) fun w' HH781 => hK780 _ _ ?_
            refine wpList_nil ?_
            clear a_761 HE762 a_767 HE768 a_769 HE770 a_771 HE772 HH765 HH775 a_773 HE774 HH776 hK780 K_779
            refine blk_n ?_
            refine nrm ?_
            refine rg ?_
            refine pl_x HE778 HH781 (wt0 rfl) (x_add rfl rfl (by exact ⟨by omega, by omega⟩)) rfl rfl fun a_782 HE783 => ?_
            refine pl_x HE783 HH781 (wt0 rfl) (x_move rfl) rfl rfl fun a_784 HE785 => ?_
            refine wpList_nil ?_
            clear a_777 HE778 a_782 HE783
            have HH786 := HH781.flatO (E := eRule) (cs := [.int .i64 (e28.1), .int .i64 (e28.2.1), .int .i64 ((lkX e28.2.2 a3))]) (x := (e28.1, e28.2.1, (lkX e28.2.2 a3))) (fun _ => (oPrN (oI (by exact ⟨by omega, by omega⟩)) (oPrN (oI (by exact ⟨by omega, by omega⟩)) (oI (by exact ⟨by omega, by omega⟩)))))
            have HH787 := HH786.sel [1, 0, 2, 3, 4, 5, 6] (by decide) rfl
            have HH788 := HH787.shut
            obtain ⟨S103, HH789⟩ : ∃ S, Held Nob w (rSo eRule S (some ⟨be102, fe102, none⟩) cr23_0_2 ((renTo a0 (lkF a3) (id) k).set (((((lkX ((k : Int) / a0.1) a3) * a0.1) + ((k : Int) % a0.1))).toNat) (e28.1, e28.2.1, (lkX e28.2.2 a3))) :: _) _ := ⟨_, HH788⟩
            have E104 : renTo a0 (lkF a3) (id) (k + 1) = ((renTo a0 (lkF a3) (id) k).set (((((lkX ((k : Int) / a0.1) a3) * a0.1) + ((k : Int) % a0.1))).toNat) (e28.1, e28.2.1, (lkX e28.2.2 a3))) := by
              rw [← renTo_step (by omega) hx0]; unfold rulR; simp [hc33, atR, lkF]
            exact nrm ⟨a0.2.2.length - (k + 1), (by omega), k + 1, S103, rfl, HE785.sub ⟨(lkI rfl (by first | rfl | omega | (simp [p26_0, hc27, xe28, hc33, xe102]; done))), rfl, rfl, rfl, rfl, rfl, rfl, rfl, trivial⟩, ((HH789.sel [0, 3, 4, 5] (by decide) rfl).to (by first | rfl | (rw [E104]; done) | (rw [E104]; rfl) | (simp only [E104]; done) | (simp only [E104]; rfl) | (rw [E104]; simp only [List.length_set]; done))), (by first | omega | assumption | (simp; done) | simp_all)⟩
      · refine wp_skip ?_
        refine nrm ?_
        refine rg ?_
        refine pl_x HE110 HH108 (wt0 rfl) (x_fieldAddr fa_48_2 rfl) rfl rfl fun a_790 HE791 => ?_
        refine pl_x HE791 HH108 (wt0 rfl) (x_load1 tv_46 rfl (c_blk 2 rfl rfl)) rfl rfl fun a_792 HE793 => ?_
        refine pl_x HE793 HH108 (wt0 rfl) (x_move rfl) rfl rfl fun a_794 HE795 => ?_
        refine pl_x HE795 HH108 (wt0 rfl) (x_loadN (cs := [.int .i64 (e28.1), .int .i64 (e28.2.1), .int .i64 (e28.2.2)]) tv_114 rfl rfl (c_blkN 0 rfl)) rfl rfl fun a_796 HE797 => ?_
        have HH798 := HH108.sel [1, 0, 2, 3, 4] (by decide) rfl
        have ke105 : ((((lkX ((k : Int) / a0.1) a3) * a0.1) + ((k : Int) % a0.1))).toNat < List.length (renTo a0 (lkF a3) (id) k) := by omega
        have ne105 : ((((lkX ((k : Int) / a0.1) a3) * a0.1) + ((k : Int) % a0.1))).toNat < (List.length (renTo a0 (lkF a3) (id) k)) := by omega
        obtain ⟨be105, fe105, ese105, Te105, rfl, Re105, Ze105, HH799⟩ := HH798.open ke105
        obtain ⟨e105, xe105⟩ : ∃ x_, x_ = (renTo a0 (lkF a3) (id) k)[((((lkX ((k : Int) / a0.1) a3) * a0.1) + ((k : Int) % a0.1))).toNat] := ⟨_, rfl⟩
        rw [← xe105] at Re105
        rw [← xe105] at HH799
        obtain ⟨rfl, ge105_0, ge105_1, ge105_2⟩ := shape_Rule Re105
        clear Re105
        have je105_0 := ge105_0; unfold I64 at je105_0
        have je105_1 := ge105_1; unfold I64 at je105_1
        have je105_2 := ge105_2; unfold I64 at je105_2
        refine pl_x HE797 HH799 (wt0 rfl) (x_indexAddr ts_46 rfl rfl rfl (by omega) ne105) rfl rfl fun a_800 HE801 => ?_
        refine pl fun K_802 hK803 => ?_
        refine st_storeFN (vs := [.int .i64 (e28.1), .int .i64 (e28.2.1), .int .i64 (e28.2.2)]) 0 HE801 HH799 tv_114 rfl rfl rfl rfl rfl rfl rfl (by simp [Value.oneCell']) (wt0 rfl) fun w' HH804 => hK803 _ _ ?_
        refine wpList_nil ?_
        clear a_109 HE110 a_790 HE791 a_792 HE793 a_794 HE795 HH108 HH798 a_796 HE797 HH799 hK803 K_802
        refine blk_n ?_
        refine nrm ?_
        refine rg ?_
        refine pl_x HE801 HH804 (wt0 rfl) (x_add rfl rfl (by exact ⟨by omega, by omega⟩)) rfl rfl fun a_805 HE806 => ?_
        refine pl_x HE806 HH804 (wt0 rfl) (x_move rfl) rfl rfl fun a_807 HE808 => ?_
        refine wpList_nil ?_
        clear a_800 HE801 a_805 HE806
        have HH809 := HH804.flatO (E := eRule) (cs := [.int .i64 (e28.1), .int .i64 (e28.2.1), .int .i64 (e28.2.2)]) (x := e28) (fun _ => (oPrN (oI (by exact ⟨by omega, by omega⟩)) (oPrN (oI (by exact ⟨by omega, by omega⟩)) (oI (by exact ⟨by omega, by omega⟩)))))
        have HH810 := HH809.sel [1, 0, 2, 3, 4, 5, 6] (by decide) rfl
        have HH811 := HH810.shut
        obtain ⟨S106, HH812⟩ : ∃ S, Held Nob w (rSo eRule S (some ⟨be105, fe105, none⟩) cr23_0_2 ((renTo a0 (lkF a3) (id) k).set (((((lkX ((k : Int) / a0.1) a3) * a0.1) + ((k : Int) % a0.1))).toNat) e28) :: _) _ := ⟨_, HH811⟩
        have E107 : renTo a0 (lkF a3) (id) (k + 1) = ((renTo a0 (lkF a3) (id) k).set (((((lkX ((k : Int) / a0.1) a3) * a0.1) + ((k : Int) % a0.1))).toNat) e28) := by
          rw [← renTo_step (by omega) hx0]; unfold rulR; simp [hc33, atR, lkF]
        exact nrm ⟨a0.2.2.length - (k + 1), (by omega), k + 1, S106, rfl, HE808.sub ⟨(lkI rfl (by first | rfl | omega | (simp [p26_0, hc27, xe28, hc33, xe105]; done))), rfl, rfl, rfl, rfl, rfl, rfl, rfl, trivial⟩, ((HH812.sel [0, 3, 4, 5] (by decide) rfl).to (by first | rfl | (rw [E107]; done) | (rw [E107]; rfl) | (simp only [E107]; done) | (simp only [E107]; rfl) | (rw [E107]; simp only [List.length_set]; done))), (by first | omega | assumption | (simp; done) | simp_all)⟩
    · refine wp_exit ?_
      refine (thn_exit (thn_exit (blk_hit ?_)))
      refine nrm ?_
      refine wp_seq ?_
      refine rg ?_
      refine pl_x HE43 HH41 (wt0 rfl) (x_loadN (cs := [.int .i64 (a0.1), .int .i64 (a0.2.1), .slice Ar23_0_2 ((List.length (renTo a0 (lkF a3) (id) k))) cr23_0_2]) tv_48 rfl rfl (c_blkN 1 rfl)) rfl rfl fun a_813 HE814 => ?_
      refine pl fun K_815 hK816 => ?_
      refine st_store (vs := [.int .i64 (a0.1), .int .i64 (a0.2.1), .slice Ar23_0_2 ((List.length (renTo a0 (lkF a3) (id) k))) cr23_0_2]) 2 HE814 HH41 tv_48 rfl rfl rfl rfl rfl rfl (by simp [Value.oneCell']) (wt0 rfl) fun w' HH817 => hK816 _ _ ?_
      refine wpList_nil ?_
      clear a_42 HE43 HH41 hK816 K_815
      refine nrm ?_
      refine wp_ret ?_
      refine ret1 HE814 rfl (rv_cell rfl (tv_48.loadN (cs := [.int .i64 (a0.1), .int .i64 (a0.2.1), .slice Ar23_0_2 ((List.length (renTo a0 (lkF a3) (id) k))) cr23_0_2]) rfl (c_blkN 2 rfl _ HH817))) ?_
      have HH818 := HH817.pairF (E := eInt) (c1 := [.int .i64 (a0.2.1)]) (x := a0.2.1) (oI (by exact ⟨by omega, by omega⟩))
      have HH819 := HH818.pairF (E := eInt) (c1 := [.int .i64 (a0.1)]) (x := a0.1) (oI (by exact ⟨by omega, by omega⟩))
      obtain ⟨S108, HH820⟩ : ∃ S, Held Nob w (rO eMachine S [.int .i64 (a0.1), .int .i64 (a0.2.1), .slice Ar23_0_2 ((List.length (renTo a0 (lkF a3) (id) k))) cr23_0_2] (a0.1, a0.2.1, renTo a0 (lkF a3) (id) k) :: _) _ := ⟨_, HH819⟩
      have hF : (renI a0 (lkF a3) (id)) = (a0.1, a0.2.1, renTo a0 (lkF a3) (id) k) := by
        unfold renI; rw [show k = a0.2.2.length from by omega]
      exact ⟨_, rfl, by rw [hF]; exact (HH820.o (i := 0) rfl), HH820.below⟩

end Go.Proofs.Ythknelhboibbnaa
