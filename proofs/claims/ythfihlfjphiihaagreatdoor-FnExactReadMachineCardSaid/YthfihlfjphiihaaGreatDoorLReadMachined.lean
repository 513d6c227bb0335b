/- What the proof of FnExactReadMachine needs: contracts of the functions that it reaches, each once. -/
import Derived.Test.YthfihlfjphiihaaGreatDoorProg
import Derived.Test.YthfihlfjphiihaaGreatDoorQMem
import Derived.Test.YthfihlfjphiihaaGreatDoorQOpen
import Derived.Test.YthfihlfjphiihaaGreatDoorLReadMachinea
import Derived.Test.YthfihlfjphiihaaGreatDoorLReadMachineb
import Derived.Test.YthfihlfjphiihaaGreatDoorLReadMachinec
import Derived.WalkKit
import Derived.WalkSpells
import Derived.Below
import Derived.LoopTactic
import Derived.Outline
import Derived.Deep.QuietTactic
import Derived.BigQuiet
import Derived.Deep.LoopGhost
import Derived.Handy
import Derived.Lib.Hide
import Derived.Shelf.Abstract
import Derived.StillTailTactics
import Derived.OwnWalk
import Derived.Maps.AppendAt
import Derived.RegionTactic
import Derived.Deep.RegionHeld3
import Derived.IntWalk
import Derived.Deep.Upon
import Derived.Laws.OwnMore
import Derived.Maps.AppendAt
import Derived.Laws.Small
import Derived.Laws.BytesString
import Derived.Laws.Strings
import Derived.Lib.Bytes
import Derived.Lib.Strings
import Derived.Lib.FrozenHead
import Derived.Lib.RuneBytes
import Derived.Lib.LaidTab
import Derived.Laws.StructEq
import Derived.Lib.MapLaws
import Derived.Lib.OthersKept
import Derived.Laws.RangeAny
import Derived.Scope
import Derived.RangeFuncNested
import Derived.RangeFuncBound
import Derived.RangeFuncCalls
import Derived.RangeFuncLeaves
import Derived.OwnWalkIn
import Derived.TacticsInMore
import Derived.Lib.ItoaLen
import Derived.Lib.Join
import Derived.Shelf.Strconv.Itoa4
import Derived.Shelf.Strings.OnBuilder
import Derived.Shelf.Strings.BuilderK
import Derived.Shelf.Strings.BuilderRune
import Derived.Shelf.LaysM
import Derived.Ground.NamesProg
import Derived.Lib.ParseIntBTie
import Derived.Lib.SplitLaws
import Derived.Lib.Replace
import Derived.Shelf.LaysC
import Derived.Shelf.Strconv.ErrVarParseInt
import Derived.Shelf.Strconv.ParseIntPublic10
import Derived.Shelf.Strings.Prefix
import Derived.Shelf.Strings.Cut
import Derived.Shelf.Strings.Split
import Derived.Shelf.Strings.Replace
import Derived.Shelf.Small.Wraps
import Derived.Stop.IfaceNil
import Derived.Shelf.Small.Utf8
import Derived.Shelf.Strings.Runes
import Derived.Lib.IndexAny
import Derived.Shelf.Strings.IndexAnyAll
namespace Go.Proofs.YthfihlfjphiihaaGreatDoor
open Go.RowKit

open Go.Lib in
set_option maxRecDepth 100000 in
set_option maxHeartbeats 4000000 in
theorem IndexRune_hi (a0 : List UInt8) (a1 : Int) (w : World) (s0 : lrs a0) (s1 : 128 ≤ a1 ∧ a1 ≤ 1114111) :
    Calls Tryz.prog 42 #[.string (bs a0), .int .i32 a1] w fun e w' => e = .returned (.int .i64 (-1 : Int)) ∧ Below w.heap.size w w' := by
  have hL := lrs_len s0
  have HH1 := Held.start Nob w
  refine enter (n := 187) Tryz.func42 rfl rfl rfl fun a_2 HE3 => ?_
  refine wp_seq ?_
  refine rg ?_
  refine pl_x HE3 HH1 (wt0 rfl) (x_assign rfl) rfl rfl fun a_4 HE5 => ?_
  refine wpList_nil ?_
  clear a_2 HE3
  refine nrm ?_
  refine wp_block ?_
  refine wp_seq ?_
  refine rg ?_
  refine pl_x HE5 HH1 (wt0 rfl) (x_move rfl) rfl rfl fun a_6 HE7 => ?_
  refine pl_x HE7 HH1 (wt0 rfl) (x_leq rfl rfl) rfl rfl fun a_8 HE9 => ?_
  refine pl_x HE9 HH1 (wt0 rfl) (x_move rfl) rfl rfl fun a_10 HE11 => ?_
  by_cases hc21 : 0 ≤ a1
  · refine pl_x HE11 HH1 (wtT HE11 rfl rfl rfl (decide_eq_true hc21)) (x_move rfl) rfl rfl fun a_12 HE13 => ?_
    refine pl_x HE13 HH1 (wtT HE13 rfl rfl rfl (decide_eq_true hc21)) (x_lss rfl rfl) rfl rfl fun a_14 HE15 => ?_
    refine pl_x HE15 HH1 (wt0 rfl) (x_pickT rfl (decide_eq_true hc21) rfl) rfl rfl fun a_16 HE17 => ?_
    refine pl_x HE17 HH1 (wt0 rfl) (x_assign rfl) rfl rfl fun a_18 HE19 => ?_
    refine wpList_nil ?_
    clear a_4 HE5 a_6 HE7 a_8 HE9 a_10 HE11 a_12 HE13 a_14 HE15 a_16 HE17
    refine nrm ?_
    refine cnd_d HE19 rfl (fun hc22 => ?_) (fun hc22 => ?_)
    · omega
    · refine wp_seq ?_
      refine rg ?_
      refine pl_x HE19 HH1 (wt0 rfl) (x_move rfl) rfl rfl fun a_20 HE21 => ?_
      refine pl_x HE21 HH1 (wt0 rfl) (x_eql rfl rfl) rfl rfl fun a_22 HE23 => ?_
      refine pl_x HE23 HH1 (wt0 rfl) (x_assign rfl) rfl rfl fun a_24 HE25 => ?_
      refine wpList_nil ?_
      clear a_18 HE19 a_20 HE21 a_22 HE23
      refine nrm ?_
      refine cnd_e HE25 rfl (fun hc23 => ?_) (fun hc23 => ?_)
      · refine wp_seq ?_
        refine wp_seq ?_
        refine rg ?_
        refine pl_x HE25 HH1 (wt0 rfl) (x_move rfl) rfl rfl fun a_26 HE27 => ?_
        refine pl fun K_28 hK29 => ?_
        refine st_range HE27 HH1 Tryz.underlying9 rfl (wt0 rfl) rfl fun q24 a_30 w' HE31 HH32 => hK29 _ _ ?_
        refine wpList_nil ?_
        clear a_24 HE25 a_26 HE27 HH1 hK29 K_28
        refine nrm ?_
        refine wp_block ?_
        refine lp (fun m a w' => ∃ (p : Nat), m = a0.length - p ∧ Env 187 [(175, .pointer (some ⟨q24, 0, none⟩))] a ∧ Held Nob w [rIt q24 a0 p] w' ∧ (p ≤ a0.length)) (a0.length - (0)) ?_ ?_
        · exact ⟨0, rfl, HE31.sub ⟨rfl, trivial⟩, (HH32.sel [0] (by decide) rfl), (by first | omega | assumption | (simp; done) | simp_all)⟩
        · rintro m a_33 w' ⟨p, rfl, HE34, HH35, p25_0⟩
          refine wp_seq ?_
          refine rg ?_
          by_cases hc26 : p < List.length a0
          · refine pl fun K_36 hK37 => ?_
            refine st_nextT 0 HE34 HH35 rfl (of_decide_eq_true (decide_eq_true hc26)) rfl (wt0 rfl) rfl fun a_38 w' HE39 HH40 => hK37 _ _ ?_
            have rn27_0 := rnA_pos (of_decide_eq_true (decide_eq_true hc26))
            have rn27_1 := rnA_le (of_decide_eq_true (decide_eq_true hc26))
            have rn27_2 := rnA_top a0 p
            have hR := lrs_rune s0 (p := p) (by omega)
            obtain ⟨hR0, hR1⟩ := hR
            refine pl_x HE39 HH40 (wt0 rfl) (x_extract rfl rfl) rfl rfl fun a_41 HE42 => ?_
            refine wpList_nil ?_
            clear a_30 HE31 HH32 a_33 HE34 HH35 a_38 HE39 hK37 K_36
            refine nrm ?_
            refine wp_seq ?_
            refine cndT HE42 rfl rfl ?_
            refine wp_skip ?_
            refine nrm ?_
            refine wp_block ?_
            refine wp_seq ?_
            refine rg ?_
            refine pl_x HE42 HH40 (wt0 rfl) (x_extract rfl rfl) rfl rfl fun a_43 HE44 => ?_
            refine pl_x HE44 HH40 (wt0 rfl) (x_extract rfl rfl) rfl rfl fun a_45 HE46 => ?_
            refine pl_x HE46 HH40 (wt0 rfl) (x_assign rfl) rfl rfl fun a_47 HE48 => ?_
            refine pl_x HE48 HH40 (wt0 rfl) (x_assign rfl) rfl rfl fun a_49 HE50 => ?_
            refine wpList_nil ?_
            clear a_41 HE42 a_43 HE44 a_45 HE46 a_47 HE48
            refine nrm ?_
            refine wp_seq ?_
            refine rg ?_
            refine pl_x HE50 HH40 (wt0 rfl) (x_move rfl) rfl rfl fun a_51 HE52 => ?_
            refine pl_x HE52 HH40 (wt0 rfl) (x_eql rfl rfl) rfl rfl fun a_53 HE54 => ?_
            refine wpList_nil ?_
            clear a_49 HE50 a_51 HE52
            refine nrm ?_
            refine cnd_e HE54 rfl (fun hc28 => ?_) (fun hc28 => ?_)
            · omega
            · refine wp_skip ?_
              refine blk_n ?_
              have E29 : ((p + 1)) = (p + (rnA a0 p).2) := by first | rfl | omega
              exact nrm ⟨a0.length - ((p + 1)), (by omega), (p + 1), rfl, HE54.sub ⟨rfl, trivial⟩, ((HH40.sel [0] (by decide) rfl).to (by first | rfl | (rw [E29]; done) | (rw [E29]; rfl) | (simp only [E29]; done) | (simp only [E29]; rfl) | (rw [E29]; simp only [List.length_set]; done))), (by first | omega | assumption | (simp; done) | simp_all)⟩
          · refine pl fun K_55 hK56 => ?_
            refine st_nextF 0 HE34 HH35 rfl (of_decide_eq_false (decide_eq_false hc26)) rfl (wt0 rfl) rfl fun a_57 HE58 => hK56 _ _ ?_
            refine pl_x HE58 HH35 (wt0 rfl) (x_extract rfl rfl) rfl rfl fun a_59 HE60 => ?_
            refine wpList_nil ?_
            clear a_30 HE31 HH32 a_33 HE34 a_57 HE58 hK56 K_55
            refine nrm ?_
            refine wp_seq ?_
            refine cndF HE60 rfl rfl ?_
            refine wp_exit ?_
            refine (thn_exit (thn_exit (blk_hit ?_)))
            refine nrm ?_
            refine wp_seq ?_
            refine rg ?_
            refine pl_x HE60 HH35 (wt0 rfl) (x_assign rfl) rfl rfl fun a_61 HE62 => ?_
            refine wpList_nil ?_
            clear a_59 HE60
            refine nrm ?_
            refine wp_ret ?_
            refine (blk_ret ?_)
            refine ret1 HE62 rfl (rv_tmp rfl) ?_
            have hF : (-1 : Int) = -1 := by
              rfl
            exact ⟨by first | (rw [hF] <;> rfl) | rfl | (rw [hF]; simp only [Ending.returned.injEq, Value.slice.injEq, true_and, and_true]; first | omega | (simp; done)) | (rw [hF]; simp; omega), HH35.below⟩
      · refine wp_seq ?_
        refine rg ?_
        refine pl_x HE25 HH1 (wt0 rfl) (x_move rfl) rfl rfl fun a_63 HE64 => ?_
        refine pl fun K_65 hK66 => ?_
        refine st_call HE64 (wt0 rfl) rfl rfl rfl en_60 rfl rfl (ValidRune_r a1 _ ) fun e w' hr => ?_
        obtain ⟨rfl, rfl⟩ := hr
        refine ⟨_, rfl, fun a_67 HE68 => hK66 _ _ ?_⟩
        refine pl_x HE68 HH1 (wt0 rfl) (x_not rfl) rfl rfl fun a_69 HE70 => ?_
        refine pl_x HE70 HH1 (wt0 rfl) (x_assign rfl) rfl rfl fun a_71 HE72 => ?_
        refine wpList_nil ?_
        clear a_24 HE25 a_63 HE64 a_67 HE68 a_69 HE70 hK66 K_65
        refine nrm ?_
        refine cnd_nb HE72 rfl (fun hc31 => ?_) (fun hc31 => ?_)
        · refine wp_seq ?_
          refine rg ?_
          refine pl_x HE72 HH1 (wt0 rfl) (x_assign rfl) rfl rfl fun a_73 HE74 => ?_
          refine wpList_nil ?_
          clear a_71 HE72
          refine nrm ?_
          refine wp_ret ?_
          refine (blk_ret ?_)
          refine ret1 HE74 rfl (rv_tmp rfl) ?_
          have hF : (-1 : Int) = -1 := by
            rfl
          exact ⟨by first | (rw [hF] <;> rfl) | rfl | (rw [hF]; simp only [Ending.returned.injEq, Value.slice.injEq, true_and, and_true]; first | omega | (simp; done)) | (rw [hF]; simp; omega), HH1.below⟩
        · have hE := encR_facts hc31 (by omega)
          have hE0 := hE.1
          have hE1 := hE.2.1
          refine wp_scope_straight ?_
          refine wp_seq ?_
          refine rg ?_
          refine pl_x HE72 HH1 (wt0 rfl) (x_move rfl) rfl rfl fun a_75 HE76 => ?_
          refine pl_x HE76 HH1 (wt0 rfl) (x_convRS (by kernel_rfl) Tryz.underlying9 rfl) rfl rfl fun a_77 HE78 => ?_
          refine pl_x HE78 HH1 (wt0 rfl) (x_assign rfl) rfl rfl fun a_79 HE80 => ?_
          refine wpList_nil ?_
          clear a_71 HE72 a_75 HE76 a_77 HE78
          refine nrm ?_
          refine wp_seq ?_
          refine rg ?_
          refine pl_x HE80 HH1 (wt0 rfl) (x_move rfl) rfl rfl fun a_81 HE82 => ?_
          refine pl_x HE82 HH1 (wt0 rfl) (x_lenB Tryz.underlying9 rfl) rfl rfl fun a_83 HE84 => ?_
          refine pl_x HE84 HH1 (wt0 rfl) (x_sub rfl rfl (by exact ⟨by omega, by omega⟩)) rfl rfl fun a_85 HE86 => ?_
          refine pl_x HE86 HH1 (wt0 rfl) (x_assign rfl) rfl rfl fun a_87 HE88 => ?_
          refine wpList_nil ?_
          clear a_79 HE80 a_81 HE82 a_83 HE84 a_85 HE86
          refine nrm ?_
          refine wp_seq ?_
          refine rg ?_
          refine pl_x HE88 HH1 (wt0 rfl) (x_move rfl) rfl rfl fun a_89 HE90 => ?_
          refine pl_x HE90 HH1 (wt0 rfl) (x_assign rfl) rfl rfl fun a_91 HE92 => ?_
          refine wpList_nil ?_
          clear a_87 HE88 a_89 HE90
          refine nrm ?_
          refine wp_seq ?_
          refine rg ?_
          refine pl_x HE92 HH1 (wt0 rfl) (x_assign rfl) rfl rfl fun a_93 HE94 => ?_
          refine wpList_nil ?_
          clear a_91 HE92
          refine nrm ?_
          refine wp_seq ?_
          refine wp_block ?_
          refine lp (fun m a w' => ∃ (i : Nat), m = 0 + i ∧ Env 187 [(9, .int .i64 (i : Int)), (10, .int .i64 0), (0, .string (bs a0)), (7, .string (bs (encR a1))), (8, .int .i64 (((List.length (encR a1) : Int) - 1)))] a ∧ Held Nob w [] w' ∧ (i + 1 = List.length (encR a1))) (0 + ((List.length (encR a1) - 1))) ?_ ?_
          · exact ⟨(List.length (encR a1) - 1), rfl, HE94.sub ⟨(lkI rfl (by first | rfl | omega | (simp [hc21, hc22, hc23, hc31]; done))), rfl, rfl, rfl, rfl, trivial⟩, (HH1.sel [] (by decide) rfl), (by first | omega | assumption | (simp; done) | simp_all)⟩
          · rintro m a_95 w' ⟨i, rfl, HE96, HH97, p32_0⟩
            refine wp_seq ?_
            refine wp_seq ?_
            refine rg ?_
            refine pl_x HE96 HH97 (wt0 rfl) (x_move rfl) rfl rfl fun a_98 HE99 => ?_
            refine pl_x HE99 HH97 (wt0 rfl) (x_move rfl) rfl rfl fun a_100 HE101 => ?_
            refine pl_x HE101 HH97 (wt0 rfl) (x_lenB Tryz.underlying9 rfl) rfl rfl fun a_102 HE103 => ?_
            refine pl_x HE103 HH97 (wt0 rfl) (x_lss rfl rfl) rfl rfl fun a_104 HE105 => ?_
            refine wpList_nil ?_
            clear a_93 HE94 HH1 a_95 HE96 a_98 HE99 a_100 HE101 a_102 HE103
            refine nrm ?_
            refine cnd_d HE105 rfl (fun hc33 => ?_) (fun hc33 => ?_)
            · refine wp_skip ?_
              refine nrm ?_
              refine wp_block ?_
              refine wp_scope_straight ?_
              refine wp_seq ?_
              refine wp_seq ?_
              refine dr_start (Held Nob w []) 7 #[false, false, false, false, false, false, false] hmix rfl rfl HH97 (fun _ h => h.sel [] (by decide) rfl) fun w' HH106 => ?_
              have HS107 := HH106
              refine dr_take (i := 0) (ls' := #[true, false, false, false, false, false, false]) HE105 HS107 rfl (by kernel_rfl) (by kernel_rfl) (by kernel_rfl) (fun _ _ _ h => h) rfl (wt0 rfl) (x_move rfl) rfl rfl fun a_108 HE109 => ?_
              refine dr_take (i := 1) (ls' := #[true, true, false, false, false, false, false]) HE109 HS107 rfl (by kernel_rfl) (by kernel_rfl) (by kernel_rfl) (fun _ _ _ h => h) rfl (wt0 rfl) (x_move rfl) rfl rfl fun a_110 HE111 => ?_
              have ke34 : i < List.length a0 := by first | omega | (simp only [List.length_cons, List.length_nil]; omega)
              obtain ⟨e34, xe34⟩ : ∃ x_, x_ = a0[i] := ⟨_, rfl⟩
              have je34 : 0 ≤ (e34.toNat : Int) ∧ (e34.toNat : Int) ≤ 255 := by have := e34.toNat_lt; omega
              have hx0 := lrs_byte s0 e34 (by rw [xe34]; exact List.getElem_mem _)
              refine dr_take (i := 2) (ls' := #[true, true, true, false, false, false, false]) HE111 HS107 rfl (by kernel_rfl) (by kernel_rfl) (by kernel_rfl) (fun _ _ _ h => h) rfl (wt0 rfl) (x_idxB Tryz.underlying9 rfl rfl rfl ke34 xe34) rfl rfl fun a_112 HE113 => ?_
              refine dr_take (i := 3) (ls' := #[true, true, true, true, false, false, false]) HE113 HS107 rfl (by kernel_rfl) (by kernel_rfl) (by kernel_rfl) (fun _ _ _ h => h) rfl (wt0 rfl) (x_move rfl) rfl rfl fun a_114 HE115 => ?_
              refine dr_take (i := 4) (ls' := #[true, true, true, true, true, false, false]) HE115 HS107 rfl (by kernel_rfl) (by kernel_rfl) (by kernel_rfl) (fun _ _ _ h => h) rfl (wt0 rfl) (x_move rfl) rfl rfl fun a_116 HE117 => ?_
              have ke35 : (List.length (encR a1) - 1) < List.length (encR a1) := by first | omega | (simp only [List.length_cons, List.length_nil]; omega)
              obtain ⟨e35, xe35⟩ : ∃ x_, x_ = (encR a1)[(List.length (encR a1) - 1)] := ⟨_, rfl⟩
              have je35 : 0 ≤ (e35.toNat : Int) ∧ (e35.toNat : Int) ≤ 255 := by have := e35.toNat_lt; omega
              have hEn := hE.2.2 _ (by omega) (by rfl)
              rw [← xe35] at hEn
              refine dr_take (i := 5) (ls' := #[true, true, true, true, true, true, false]) HE117 HS107 rfl (by kernel_rfl) (by kernel_rfl) (by kernel_rfl) (fun _ _ _ h => h) rfl (wt0 rfl) (x_idxB Tryz.underlying9 rfl rfl (by omega) ke35 xe35) rfl rfl fun a_118 HE119 => ?_
              refine dr_take (i := 6) (ls' := #[true, true, true, true, true, true, true]) HE119 HS107 rfl (by kernel_rfl) (by kernel_rfl) (by kernel_rfl) (fun _ _ _ h => h) rfl (wt0 rfl) (x_neq rfl rfl) rfl rfl fun a_120 HE121 => ?_
              refine dr_done (by kernel_rfl) ?_
              clear HH97 a_104 HE105 a_108 HE109 a_110 HE111 a_112 HE113 a_114 HE115 a_116 HE117 a_118 HE119
              refine nrm ?_
              refine cnd_ne HE121 rfl (fun hc36 => ?_) (fun hc36 => ?_)
              · refine wp_seq ?_
                refine dr_start (Held Nob w []) 9 #[false, false, false, false, false, false, false, false, false] hmix rfl rfl HH106 (fun _ h => h.sel [] (by decide) rfl) fun w' HH122 => ?_
                have HS123 := HH122
                refine dr_take (i := 0) (ls' := #[true, false, false, false, false, false, false, false, false]) HE121 HS123 rfl (by kernel_rfl) (by kernel_rfl) (by kernel_rfl) (fun _ _ _ h => h) rfl (wt0 rfl) (x_move rfl) rfl rfl fun a_124 HE125 => ?_
                refine dr_take (i := 1) (ls' := #[true, true, false, false, false, false, false, false, false]) HE125 HS123 rfl (by kernel_rfl) (by kernel_rfl) (by kernel_rfl) (fun _ _ _ h => h) rfl (wt0 rfl) (x_move rfl) rfl rfl fun a_126 HE127 => ?_
                refine dr_take (i := 2) (ls' := #[true, true, true, false, false, false, false, false, false]) HE127 HS123 rfl (by kernel_rfl) (by kernel_rfl) (by kernel_rfl) (fun _ _ _ h => h) rfl (wt0 rfl) (x_add rfl rfl (by exact ⟨by omega, by omega⟩)) rfl rfl fun a_128 HE129 => ?_
                refine dr_take (i := 3) (ls' := #[true, true, true, true, false, false, false, false, false]) HE129 HS123 rfl (by kernel_rfl) (by kernel_rfl) (by kernel_rfl) (fun _ _ _ h => h) rfl (wt0 rfl) (x_sliceSL (k := (i + 1)) Tryz.underlying9 rfl rfl (by omega) (by first | omega | (simp only [List.length_append, List.length_cons, List.length_nil]; omega) | (simp; omega))) rfl rfl fun a_130 HE131 => ?_
                refine dr_take (i := 4) (ls' := #[true, true, true, true, true, false, false, false, false]) HE131 HS123 rfl (by kernel_rfl) (by kernel_rfl) (by kernel_rfl) (fun _ _ _ h => h) rfl (wt0 rfl) (x_move rfl) rfl rfl fun a_132 HE133 => ?_
                refine dr_take (i := 5) (ls' := #[true, true, true, true, true, true, false, false, false]) HE133 HS123 rfl (by kernel_rfl) (by kernel_rfl) (by kernel_rfl) (fun _ _ _ h => h) rfl (wt0 rfl) (x_move rfl) rfl rfl fun a_134 HE135 => ?_
                refine dr_take (i := 6) (ls' := #[true, true, true, true, true, true, true, false, false]) HE135 HS123 rfl (by kernel_rfl) (by kernel_rfl) (by kernel_rfl) (fun _ _ _ h => h) rfl (wt0 rfl) (x_idxB Tryz.underlying9 rfl rfl (by omega) ke35 xe35) rfl rfl fun a_136 HE137 => ?_
                refine dr_one (i := 7) (ls' := #[true, true, true, true, true, true, true, true, false]) rfl (by kernel_rfl) rfl fun K_138 hK139 => ?_
                refine st_call HE137 (wt0 rfl) rfl rfl rfl en_59 rfl rfl (IndexByte_no (a0.drop (i + 1)) (e35.toNat : Int) _ (by exact not_big s0 hEn _)) fun e w' hr => ?_
                obtain ⟨rfl, rfl⟩ := hr
                refine ⟨_, rfl, fun a_140 HE141 => hK139 _ _ (by exact HH122.sel [] (by decide) rfl) ?_⟩
                have HS142 := HH122.sel [] (by decide) rfl
                refine dr_take (i := 8) (ls' := #[true, true, true, true, true, true, true, true, true]) HE141 HS142 rfl (by kernel_rfl) (by kernel_rfl) (by kernel_rfl) (fun _ _ _ h => h) rfl (wt0 rfl) (x_assign rfl) rfl rfl fun a_143 HE144 => ?_
                refine dr_done (by kernel_rfl) ?_
                clear HH106 HS107 a_120 HE121 a_124 HE125 a_126 HE127 a_128 HE129 a_130 HE131 a_132 HE133 a_134 HE135 a_136 HE137 HS123 a_140 HE141 hK139 K_138
                refine nrm ?_
                refine wp_seq ?_
                refine wp_seq ?_
                refine rg ?_
                refine pl_x HE144 HH122 (wt0 rfl) (x_move rfl) rfl rfl fun a_145 HE146 => ?_
                refine pl_x HE146 HH122 (wt0 rfl) (x_lss rfl rfl) rfl rfl fun a_147 HE148 => ?_
                refine wpList_nil ?_
                clear a_143 HE144 a_145 HE146
                refine nrm ?_
                refine cnd_d HE148 rfl (fun hc38 => ?_) (fun hc38 => ?_)
                · refine wp_seq ?_
                  refine rg ?_
                  refine pl_x HE148 HH122 (wt0 rfl) (x_assign rfl) rfl rfl fun a_149 HE150 => ?_
                  refine wpList_nil ?_
                  clear a_147 HE148
                  refine nrm ?_
                  refine wp_ret ?_
                  refine (thn_ret (thn_ret (scp_ret (blk_ret (thn_ret (blk_ret (thn_ret (scp_ret (blk_ret ?_)))))))))
                  refine ret1 HE150 rfl (rv_tmp rfl) ?_
                  have hF : (-1 : Int) = -1 := by
                    rfl
                  exact ⟨by first | (rw [hF] <;> rfl) | rfl | (rw [hF]; simp only [Ending.returned.injEq, Value.slice.injEq, true_and, and_true]; first | omega | (simp; done)) | (rw [hF]; simp; omega), HH122.below⟩
                · omega
              · omega
            · refine wp_exit ?_
              refine (thn_exit (thn_exit (blk_hit ?_)))
              refine nrm ?_
              refine wp_seq ?_
              refine wp_seq ?_
              refine rg ?_
              refine pl_x HE105 HH97 (wt0 rfl) (x_assign rfl) rfl rfl fun a_151 HE152 => ?_
              refine wpList_nil ?_
              clear a_104 HE105
              refine nrm ?_
              refine wp_ret ?_
              refine (thn_ret (scp_ret (blk_ret ?_)))
              refine ret1 HE152 rfl (rv_tmp rfl) ?_
              have hF : (-1 : Int) = -1 := by
                rfl
              exact ⟨by first | (rw [hF] <;> rfl) | rfl | (rw [hF]; simp only [Ending.returned.injEq, Value.slice.injEq, true_and, and_true]; first | omega | (simp; done)) | (rw [hF]; simp; omega), HH97.below⟩
  · refine pl_no HE11 (wtF HE11 rfl rfl rfl (decide_eq_false hc21)) rfl rfl fun a_153 HE154 => ?_
    refine pl_no HE154 (wtF HE154 rfl rfl rfl (decide_eq_false hc21)) rfl rfl fun a_155 HE156 => ?_
    refine pl_x HE156 HH1 (wt0 rfl) (x_pickF rfl (decide_eq_false hc21) rfl) rfl rfl fun a_157 HE158 => ?_
    refine pl_x HE158 HH1 (wt0 rfl) (x_assign rfl) rfl rfl fun a_159 HE160 => ?_
    refine wpList_nil ?_
    clear a_4 HE5 a_6 HE7 a_8 HE9 a_10 HE11 a_153 HE154 a_155 HE156 a_157 HE158
    refine nrm ?_
    refine cndF HE160 rfl rfl ?_
    refine wp_seq ?_
    refine rg ?_
    refine pl_x HE160 HH1 (wt0 rfl) (x_move rfl) rfl rfl fun a_161 HE162 => ?_
    refine pl_x HE162 HH1 (wt0 rfl) (x_eql rfl rfl) rfl rfl fun a_163 HE164 => ?_
    refine pl_x HE164 HH1 (wt0 rfl) (x_assign rfl) rfl rfl fun a_165 HE166 => ?_
    refine wpList_nil ?_
    clear a_159 HE160 a_161 HE162 a_163 HE164
    refine nrm ?_
    refine cnd_e HE166 rfl (fun hc39 => ?_) (fun hc39 => ?_)
    · refine wp_seq ?_
      refine wp_seq ?_
      refine rg ?_
      refine pl_x HE166 HH1 (wt0 rfl) (x_move rfl) rfl rfl fun a_167 HE168 => ?_
      refine pl fun K_169 hK170 => ?_
      refine st_range HE168 HH1 Tryz.underlying9 rfl (wt0 rfl) rfl fun q40 a_171 w' HE172 HH173 => hK170 _ _ ?_
      refine wpList_nil ?_
      clear a_165 HE166 a_167 HE168 HH1 hK170 K_169
      refine nrm ?_
      refine wp_block ?_
      refine lp (fun m a w' => ∃ (p : Nat), m = a0.length - p ∧ Env 187 [(175, .pointer (some ⟨q40, 0, none⟩))] a ∧ Held Nob w [rIt q40 a0 p] w' ∧ (p ≤ a0.length)) (a0.length - (0)) ?_ ?_
      · exact ⟨0, rfl, HE172.sub ⟨rfl, trivial⟩, (HH173.sel [0] (by decide) rfl), (by first | omega | assumption | (simp; done) | simp_all)⟩
      · rintro m a_174 w' ⟨p, rfl, HE175, HH176, p41_0⟩
        refine wp_seq ?_
        refine rg ?_
        by_cases hc42 : p < List.length a0
        · refine pl fun K_177 hK178 => ?_
          refine st_nextT 0 HE175 HH176 rfl (of_decide_eq_true (decide_eq_true hc42)) rfl (wt0 rfl) rfl fun a_179 w' HE180 HH181 => hK178 _ _ ?_
          have rn43_0 := rnA_pos (of_decide_eq_true (decide_eq_true hc42))
          have rn43_1 := rnA_le (of_decide_eq_true (decide_eq_true hc42))
          have rn43_2 := rnA_top a0 p
          have hR := lrs_rune s0 (p := p) (by omega)
          obtain ⟨hR0, hR1⟩ := hR
          refine pl_x HE180 HH181 (wt0 rfl) (x_extract rfl rfl) rfl rfl fun a_182 HE183 => ?_
          refine wpList_nil ?_
          clear a_171 HE172 HH173 a_174 HE175 HH176 a_179 HE180 hK178 K_177
          refine nrm ?_
          refine wp_seq ?_
          refine cndT HE183 rfl rfl ?_
          refine wp_skip ?_
          refine nrm ?_
          refine wp_block ?_
          refine wp_seq ?_
          refine rg ?_
          refine pl_x HE183 HH181 (wt0 rfl) (x_extract rfl rfl) rfl rfl fun a_184 HE185 => ?_
          refine pl_x HE185 HH181 (wt0 rfl) (x_extract rfl rfl) rfl rfl fun a_186 HE187 => ?_
          refine pl_x HE187 HH181 (wt0 rfl) (x_assign rfl) rfl rfl fun a_188 HE189 => ?_
          refine pl_x HE189 HH181 (wt0 rfl) (x_assign rfl) rfl rfl fun a_190 HE191 => ?_
          refine wpList_nil ?_
          clear a_182 HE183 a_184 HE185 a_186 HE187 a_188 HE189
          refine nrm ?_
          refine wp_seq ?_
          refine rg ?_
          refine pl_x HE191 HH181 (wt0 rfl) (x_move rfl) rfl rfl fun a_192 HE193 => ?_
          refine pl_x HE193 HH181 (wt0 rfl) (x_eql rfl rfl) rfl rfl fun a_194 HE195 => ?_
          refine wpList_nil ?_
          clear a_190 HE191 a_192 HE193
          refine nrm ?_
          refine cnd_e HE195 rfl (fun hc44 => ?_) (fun hc44 => ?_)
          · omega
          · refine wp_skip ?_
            refine blk_n ?_
            have E45 : ((p + 1)) = (p + (rnA a0 p).2) := by first | rfl | omega
            exact nrm ⟨a0.length - ((p + 1)), (by omega), (p + 1), rfl, HE195.sub ⟨rfl, trivial⟩, ((HH181.sel [0] (by decide) rfl).to (by first | rfl | (rw [E45]; done) | (rw [E45]; rfl) | (simp only [E45]; done) | (simp only [E45]; rfl) | (rw [E45]; simp only [List.length_set]; done))), (by first | omega | assumption | (simp; done) | simp_all)⟩
        · refine pl fun K_196 hK197 => ?_
          refine st_nextF 0 HE175 HH176 rfl (of_decide_eq_false (decide_eq_false hc42)) rfl (wt0 rfl) rfl fun a_198 HE199 => hK197 _ _ ?_
          refine pl_x HE199 HH176 (wt0 rfl) (x_extract rfl rfl) rfl rfl fun a_200 HE201 => ?_
          refine wpList_nil ?_
          clear a_171 HE172 HH173 a_174 HE175 a_198 HE199 hK197 K_196
          refine nrm ?_
          refine wp_seq ?_
          refine cndF HE201 rfl rfl ?_
          refine wp_exit ?_
          refine (thn_exit (thn_exit (blk_hit ?_)))
          refine nrm ?_
          refine wp_seq ?_
          refine rg ?_
          refine pl_x HE201 HH176 (wt0 rfl) (x_assign rfl) rfl rfl fun a_202 HE203 => ?_
          refine wpList_nil ?_
          clear a_200 HE201
          refine nrm ?_
          refine wp_ret ?_
          refine (blk_ret ?_)
          refine ret1 HE203 rfl (rv_tmp rfl) ?_
          have hF : (-1 : Int) = -1 := by
            rfl
          exact ⟨by first | (rw [hF] <;> rfl) | rfl | (rw [hF]; simp only [Ending.returned.injEq, Value.slice.injEq, true_and, and_true]; first | omega | (simp; done)) | (rw [hF]; simp; omega), HH176.below⟩
    · refine wp_seq ?_
      refine rg ?_
      refine pl_x HE166 HH1 (wt0 rfl) (x_move rfl) rfl rfl fun a_204 HE205 => ?_
      refine pl fun K_206 hK207 => ?_
      refine st_call HE205 (wt0 rfl) rfl rfl rfl en_60 rfl rfl (ValidRune_r a1 _ ) fun e w' hr => ?_
      obtain ⟨rfl, rfl⟩ := hr
      refine ⟨_, rfl, fun a_208 HE209 => hK207 _ _ ?_⟩
      refine pl_x HE209 HH1 (wt0 rfl) (x_not rfl) rfl rfl fun a_210 HE211 => ?_
      refine pl_x HE211 HH1 (wt0 rfl) (x_assign rfl) rfl rfl fun a_212 HE213 => ?_
      refine wpList_nil ?_
      clear a_165 HE166 a_204 HE205 a_208 HE209 a_210 HE211 hK207 K_206
      refine nrm ?_
      refine cnd_nb HE213 rfl (fun hc47 => ?_) (fun hc47 => ?_)
      · refine wp_seq ?_
        refine rg ?_
        refine pl_x HE213 HH1 (wt0 rfl) (x_assign rfl) rfl rfl fun a_214 HE215 => ?_
        refine wpList_nil ?_
        clear a_212 HE213
        refine nrm ?_
        refine wp_ret ?_
        refine (blk_ret ?_)
        refine ret1 HE215 rfl (rv_tmp rfl) ?_
        have hF : (-1 : Int) = -1 := by
          rfl
        exact ⟨by first | (rw [hF] <;> rfl) | rfl | (rw [hF]; simp only [Ending.returned.injEq, Value.slice.injEq, true_and, and_true]; first | omega | (simp; done)) | (rw [hF]; simp; omega), HH1.below⟩
      · have hE := encR_facts hc47 (by omega)
        have hE0 := hE.1
        have hE1 := hE.2.1
        refine wp_scope_straight ?_
        refine wp_seq ?_
        refine rg ?_
        refine pl_x HE213 HH1 (wt0 rfl) (x_move rfl) rfl rfl fun a_216 HE217 => ?_
        refine pl_x HE217 HH1 (wt0 rfl) (x_convRS (by kernel_rfl) Tryz.underlying9 rfl) rfl rfl fun a_218 HE219 => ?_
        refine pl_x HE219 HH1 (wt0 rfl) (x_assign rfl) rfl rfl fun a_220 HE221 => ?_
        refine wpList_nil ?_
        clear a_212 HE213 a_216 HE217 a_218 HE219
        refine nrm ?_
        refine wp_seq ?_
        refine rg ?_
        refine pl_x HE221 HH1 (wt0 rfl) (x_move rfl) rfl rfl fun a_222 HE223 => ?_
        refine pl_x HE223 HH1 (wt0 rfl) (x_lenB Tryz.underlying9 rfl) rfl rfl fun a_224 HE225 => ?_
        refine pl_x HE225 HH1 (wt0 rfl) (x_sub rfl rfl (by exact ⟨by omega, by omega⟩)) rfl rfl fun a_226 HE227 => ?_
        refine pl_x HE227 HH1 (wt0 rfl) (x_assign rfl) rfl rfl fun a_228 HE229 => ?_
        refine wpList_nil ?_
        clear a_220 HE221 a_222 HE223 a_224 HE225 a_226 HE227
        refine nrm ?_
        refine wp_seq ?_
        refine rg ?_
        refine pl_x HE229 HH1 (wt0 rfl) (x_move rfl) rfl rfl fun a_230 HE231 => ?_
        refine pl_x HE231 HH1 (wt0 rfl) (x_assign rfl) rfl rfl fun a_232 HE233 => ?_
        refine wpList_nil ?_
        clear a_228 HE229 a_230 HE231
        refine nrm ?_
        refine wp_seq ?_
        refine rg ?_
        refine pl_x HE233 HH1 (wt0 rfl) (x_assign rfl) rfl rfl fun a_234 HE235 => ?_
        refine wpList_nil ?_
        clear a_232 HE233
        refine nrm ?_
        refine wp_seq ?_
        refine wp_block ?_
        refine lp (fun m a w' => ∃ (i : Nat), m = 0 + i ∧ Env 187 [(9, .int .i64 (i : Int)), (10, .int .i64 0), (0, .string (bs a0)), (7, .string (bs (encR a1))), (8, .int .i64 (((List.length (encR a1) : Int) - 1)))] a ∧ Held Nob w [] w' ∧ (i + 1 = List.length (encR a1))) (0 + ((List.length (encR a1) - 1))) ?_ ?_
        · exact ⟨(List.length (encR a1) - 1), rfl, HE235.sub ⟨(lkI rfl (by first | rfl | omega | (simp [hc21, hc39, hc47]; done))), rfl, rfl, rfl, rfl, trivial⟩, (HH1.sel [] (by decide) rfl), (by first | omega | assumption | (simp; done) | simp_all)⟩
        · rintro m a_236 w' ⟨i, rfl, HE237, HH238, p48_0⟩
          refine wp_seq ?_
          refine wp_seq ?_
          refine rg ?_
          refine pl_x HE237 HH238 (wt0 rfl) (x_move rfl) rfl rfl fun a_239 HE240 => ?_
          refine pl_x HE240 HH238 (wt0 rfl) (x_move rfl) rfl rfl fun a_241 HE242 => ?_
          refine pl_x HE242 HH238 (wt0 rfl) (x_lenB Tryz.underlying9 rfl) rfl rfl fun a_243 HE244 => ?_
          refine pl_x HE244 HH238 (wt0 rfl) (x_lss rfl rfl) rfl rfl fun a_245 HE246 => ?_
          refine wpList_nil ?_
          clear a_234 HE235 HH1 a_236 HE237 a_239 HE240 a_241 HE242 a_243 HE244
          refine nrm ?_
          refine cnd_d HE246 rfl (fun hc49 => ?_) (fun hc49 => ?_)
          · refine wp_skip ?_
            refine nrm ?_
            refine wp_block ?_
            refine wp_scope_straight ?_
            refine wp_seq ?_
            refine wp_seq ?_
            refine dr_start (Held Nob w []) 7 #[false, false, false, false, false, false, false] hmix rfl rfl HH238 (fun _ h => h.sel [] (by decide) rfl) fun w' HH247 => ?_
            have HS248 := HH247
            refine dr_take (i := 0) (ls' := #[true, false, false, false, false, false, false]) HE246 HS248 rfl (by kernel_rfl) (by kernel_rfl) (by kernel_rfl) (fun _ _ _ h => h) rfl (wt0 rfl) (x_move rfl) rfl rfl fun a_249 HE250 => ?_
            refine dr_take (i := 1) (ls' := #[true, true, false, false, false, false, false]) HE250 HS248 rfl (by kernel_rfl) (by kernel_rfl) (by kernel_rfl) (fun _ _ _ h => h) rfl (wt0 rfl) (x_move rfl) rfl rfl fun a_251 HE252 => ?_
            have ke50 : i < List.length a0 := by first | omega | (simp only [List.length_cons, List.length_nil]; omega)
            obtain ⟨e50, xe50⟩ : ∃ x_, x_ = a0[i] := ⟨_, rfl⟩
            have je50 : 0 ≤ (e50.toNat : Int) ∧ (e50.toNat : Int) ≤ 255 := by have := e50.toNat_lt; omega
            have hx0 := lrs_byte s0 e50 (by rw [xe50]; exact List.getElem_mem _)
            refine dr_take (i := 2) (ls' := #[true, true, true, false, false, false, false]) HE252 HS248 rfl (by kernel_rfl) (by kernel_rfl) (by kernel_rfl) (fun _ _ _ h => h) rfl (wt0 rfl) (x_idxB Tryz.underlying9 rfl rfl rfl ke50 xe50) rfl rfl fun a_253 HE254 => ?_
            refine dr_take (i := 3) (ls' := #[true, true, true, true, false, false, false]) HE254 HS248 rfl (by kernel_rfl) (by kernel_rfl) (by kernel_rfl) (fun _ _ _ h => h) rfl (wt0 rfl) (x_move rfl) rfl rfl fun a_255 HE256 => ?_
            refine dr_take (i := 4) (ls' := #[true, true, true, true, true, false, false]) HE256 HS248 rfl (by kernel_rfl) (by kernel_rfl) (by kernel_rfl) (fun _ _ _ h => h) rfl (wt0 rfl) (x_move rfl) rfl rfl fun a_257 HE258 => ?_
            have ke51 : (List.length (encR a1) - 1) < List.length (encR a1) := by first | omega | (simp only [List.length_cons, List.length_nil]; omega)
            obtain ⟨e51, xe51⟩ : ∃ x_, x_ = (encR a1)[(List.length (encR a1) - 1)] := ⟨_, rfl⟩
            have je51 : 0 ≤ (e51.toNat : Int) ∧ (e51.toNat : Int) ≤ 255 := by have := e51.toNat_lt; omega
            have hEn := hE.2.2 _ (by omega) (by rfl)
            rw [← xe51] at hEn
            refine dr_take (i := 5) (ls' := #[true, true, true, true, true, true, false]) HE258 HS248 rfl (by kernel_rfl) (by kernel_rfl) (by kernel_rfl) (fun _ _ _ h => h) rfl (wt0 rfl) (x_idxB Tryz.underlying9 rfl rfl (by omega) ke51 xe51) rfl rfl fun a_259 HE260 => ?_
            refine dr_take (i := 6) (ls' := #[true, true, true, true, true, true, true]) HE260 HS248 rfl (by kernel_rfl) (by kernel_rfl) (by kernel_rfl) (fun _ _ _ h => h) rfl (wt0 rfl) (x_neq rfl rfl) rfl rfl fun a_261 HE262 => ?_
            refine dr_done (by kernel_rfl) ?_
            clear HH238 a_245 HE246 a_249 HE250 a_251 HE252 a_253 HE254 a_255 HE256 a_257 HE258 a_259 HE260
            refine nrm ?_
            refine cnd_ne HE262 rfl (fun hc52 => ?_) (fun hc52 => ?_)
            · refine wp_seq ?_
              refine dr_start (Held Nob w []) 9 #[false, false, false, false, false, false, false, false, false] hmix rfl rfl HH247 (fun _ h => h.sel [] (by decide) rfl) fun w' HH263 => ?_
              have HS264 := HH263
              refine dr_take (i := 0) (ls' := #[true, false, false, false, false, false, false, false, false]) HE262 HS264 rfl (by kernel_rfl) (by kernel_rfl) (by kernel_rfl) (fun _ _ _ h => h) rfl (wt0 rfl) (x_move rfl) rfl rfl fun a_265 HE266 => ?_
              refine dr_take (i := 1) (ls' := #[true, true, false, false, false, false, false, false, false]) HE266 HS264 rfl (by kernel_rfl) (by kernel_rfl) (by kernel_rfl) (fun _ _ _ h => h) rfl (wt0 rfl) (x_move rfl) rfl rfl fun a_267 HE268 => ?_
              refine dr_take (i := 2) (ls' := #[true, true, true, false, false, false, false, false, false]) HE268 HS264 rfl (by kernel_rfl) (by kernel_rfl) (by kernel_rfl) (fun _ _ _ h => h) rfl (wt0 rfl) (x_add rfl rfl (by exact ⟨by omega, by omega⟩)) rfl rfl fun a_269 HE270 => ?_
              refine dr_take (i := 3) (ls' := #[true, true, true, true, false, false, false, false, false]) HE270 HS264 rfl (by kernel_rfl) (by kernel_rfl) (by kernel_rfl) (fun _ _ _ h => h) rfl (wt0 rfl) (x_sliceSL (k := (i + 1)) Tryz.underlying9 rfl rfl (by omega) (by first | omega | (simp only [List.length_append, List.length_cons, List.length_nil]; omega) | (simp; omega))) rfl rfl fun a_271 HE272 => ?_
              refine dr_take (i := 4) (ls' := #[true, true, true, true, true, false, false, false, false]) HE272 HS264 rfl (by kernel_rfl) (by kernel_rfl) (by kernel_rfl) (fun _ _ _ h => h) rfl (wt0 rfl) (x_move rfl) rfl rfl fun a_273 HE274 => ?_
              refine dr_take (i := 5) (ls' := #[true, true, true, true, true, true, false, false, false]) HE274 HS264 rfl (by kernel_rfl) (by kernel_rfl) (by kernel_rfl) (fun _ _ _ h => h) rfl (wt0 rfl) (x_move rfl) rfl rfl fun a_275 HE276 => ?_
              refine dr_take (i := 6) (ls' := #[true, true, true, true, true, true, true, false, false]) HE276 HS264 rfl (by kernel_rfl) (by kernel_rfl) (by kernel_rfl) (fun _ _ _ h => h) rfl (wt0 rfl) (x_idxB Tryz.underlying9 rfl rfl (by omega) ke51 xe51) rfl rfl fun a_277 HE278 => ?_
              refine dr_one (i := 7) (ls' := #[true, true, true, true, true, true, true, true, false]) rfl (by kernel_rfl) rfl fun K_279 hK280 => ?_
              refine st_call HE278 (wt0 rfl) rfl rfl rfl en_59 rfl rfl (IndexByte_no (a0.drop (i + 1)) (e51.toNat : Int) _ (by exact not_big s0 hEn _)) fun e w' hr => ?_
              obtain ⟨rfl, rfl⟩ := hr
              refine ⟨_, rfl, fun a_281 HE282 => hK280 _ _ (by exact HH263.sel [] (by decide) rfl) ?_⟩
              have HS283 := HH263.sel [] (by decide) rfl
              refine dr_take (i := 8) (ls' := #[true, true, true, true, true, true, true, true, true]) HE282 HS283 rfl (by kernel_rfl) (by kernel_rfl) (by kernel_rfl) (fun _ _ _ h => h) rfl (wt0 rfl) (x_assign rfl) rfl rfl fun a_284 HE285 => ?_
              refine dr_done (by kernel_rfl) ?_
              clear HH247 HS248 a_261 HE262 a_265 HE266 a_267 HE268 a_269 HE270 a_271 HE272 a_273 HE274 a_275 HE276 a_277 HE278 HS264 a_281 HE282 hK280 K_279
              refine nrm ?_
              refine wp_seq ?_
              refine wp_seq ?_
              refine rg ?_
              refine pl_x HE285 HH263 (wt0 rfl) (x_move rfl) rfl rfl fun a_286 HE287 => ?_
              refine pl_x HE287 HH263 (wt0 rfl) (x_lss rfl rfl) rfl rfl fun a_288 HE289 => ?_
              refine wpList_nil ?_
              clear a_284 HE285 a_286 HE287
              refine nrm ?_
              refine cnd_d HE289 rfl (fun hc54 => ?_) (fun hc54 => ?_)
              · refine wp_seq ?_
                refine rg ?_
                refine pl_x HE289 HH263 (wt0 rfl) (x_assign rfl) rfl rfl fun a_290 HE291 => ?_
                refine wpList_nil ?_
                clear a_288 HE289
                refine nrm ?_
                refine wp_ret ?_
                refine (thn_ret (thn_ret (scp_ret (blk_ret (thn_ret (blk_ret (thn_ret (scp_ret (blk_ret ?_)))))))))
                refine ret1 HE291 rfl (rv_tmp rfl) ?_
                have hF : (-1 : Int) = -1 := by
                  rfl
                exact ⟨by first | (rw [hF] <;> rfl) | rfl | (rw [hF]; simp only [Ending.returned.injEq, Value.slice.injEq, true_and, and_true]; first | omega | (simp; done)) | (rw [hF]; simp; omega), HH263.below⟩
              · omega
            · omega
          · refine wp_exit ?_
            refine (thn_exit (thn_exit (blk_hit ?_)))
            refine nrm ?_
            refine wp_seq ?_
            refine wp_seq ?_
            refine rg ?_
            refine pl_x HE246 HH238 (wt0 rfl) (x_assign rfl) rfl rfl fun a_292 HE293 => ?_
            refine wpList_nil ?_
            clear a_245 HE246
            refine nrm ?_
            refine wp_ret ?_
            refine (thn_ret (scp_ret (blk_ret ?_)))
            refine ret1 HE293 rfl (rv_tmp rfl) ?_
            have hF : (-1 : Int) = -1 := by
              rfl
            exact ⟨by first | (rw [hF] <;> rfl) | rfl | (rw [hF]; simp only [Ending.returned.injEq, Value.slice.injEq, true_and, and_true]; first | omega | (simp; done)) | (rw [hF]; simp; omega), HH238.below⟩

open Go.Lib in
def preP (p : List UInt8) : List (List UInt8) → List (List UInt8)
  | [] => [p]
  | q :: r => (p ++ q) :: r

open Go.Lib in
theorem spl_ne {c : UInt8} {s : List UInt8} {l : List (List UInt8)} {j : Int} {k : Nat} (h : splitR c s = l ++ preP ((s.drop j.toNat).take (k - j.toNat)) (splitR c (s.drop k))) (hk : k < s.length) (hj : 0 ≤ j ∧ j ≤ (k : Int)) (hn : ¬ s[k] = c) : splitR c s = l ++ preP ((s.drop j.toNat).take (k + 1 - j.toNat)) (splitR c (s.drop (k + 1))) := by
  rw [h]
  congr 1
  obtain ⟨p, r, e⟩ := splitR_some c (s.drop (k + 1))
  have e2 : (s.drop j.toNat).take (k + 1 - j.toNat) = (s.drop j.toNat).take (k - j.toNat) ++ [s[k]] := by
    rw [show k + 1 - j.toNat = (k - j.toNat) + 1 from by omega, List.take_succ_eq_append_getElem (by rw [List.length_drop]; omega), List.getElem_drop]
    congr 3
    omega
  rw [List.drop_eq_getElem_cons hk, splitR_ne hn e, e, e2, preP, preP]
  simp

open Go.Lib in
theorem spl_eq {c : UInt8} {s : List UInt8} {l : List (List UInt8)} {j : Int} {k : Nat} (h : splitR c s = l ++ preP ((s.drop j.toNat).take (k - j.toNat)) (splitR c (s.drop k))) (hk : k < s.length) (he : s[k] = c) : splitR c s = (l ++ [(s.drop j.toNat).take (k - j.toNat)]) ++ preP ((s.drop ((k : Int) + 1).toNat).take (k + 1 - ((k : Int) + 1).toNat)) (splitR c (s.drop (k + 1))) := by
  rw [h]
  obtain ⟨p, r, e⟩ := splitR_some c (s.drop (k + 1))
  rw [List.drop_eq_getElem_cons hk, he, splitR_eq, e, show k + 1 - ((k : Int) + 1).toNat = 0 from by omega, List.take_zero, preP, preP]
  simp

open Go.Lib in
theorem spl_end {c : UInt8} {s : List UInt8} {l : List (List UInt8)} {j : Int} {k : Nat} (h : splitR c s = l ++ preP ((s.drop j.toNat).take (k - j.toNat)) (splitR c (s.drop k))) (hk : k = s.length) : splitR c s = l ++ [s.drop j.toNat] := by
  rw [h]
  rw [List.drop_eq_nil_of_le (by omega : s.length ≤ k), splitR_nil, preP, List.append_nil, List.take_of_length_le (by rw [List.length_drop]; omega)]

open Go.Lib in
theorem spl_zero (c : UInt8) (s : List UInt8) : splitR c s = [] ++ preP ((s.drop (0 : Int).toNat).take (0 - (0 : Int).toNat)) (splitR c (s.drop 0)) := by
  obtain ⟨p, r, e⟩ := splitR_some c s
  simp [preP, e]

open Go.Lib in
/-- The place of the first digit. -/
def ofP (s : List UInt8) : Nat := if s.head? = some 45 then 1 else 0

open Go.Lib in
theorem unsg_drop (s : List UInt8) : unsg s = s.drop (ofP s) := by
  unfold unsg ofP; split
  · simp
  · rw [List.drop_zero]

open Go.Lib in
theorem ofP_neg {s : List UInt8} {e : UInt8} (h : 0 < s.length) (he : e = s[0]) (h45 : (e.toNat : Int) = 45) : ofP s = 1 := by
  have : e = 45 := UInt8.toNat_inj.1 (by have : (45 : UInt8).toNat = 45 := rfl; omega)
  unfold ofP
  cases s with
  | nil => simp at h
  | cons x r => simp only [List.getElem_cons_zero] at he; rw [← he, this]; rfl

open Go.Lib in
theorem ofP_pos {s : List UInt8} {e : UInt8} (h : 0 < s.length) (he : e = s[0]) (h45 : ¬ (e.toNat : Int) = 45) : ofP s = 0 := by
  unfold ofP
  cases s with
  | nil => simp at h
  | cons x r =>
    simp only [List.getElem_cons_zero] at he
    rw [if_neg]
    intro h2
    simp only [List.head?_cons, Option.some.injEq] at h2
    apply h45
    rw [he, h2]; rfl

open Go.Lib in
theorem ofP_nil {s : List UInt8} (h : ¬ 0 < s.length) : ofP s = 0 := by
  have : s = [] := List.eq_nil_of_length_eq_zero (by omega)
  subst this; rfl

open Go.Lib in
/-- The digits from the first one up to i. -/
def dgs (s : List UInt8) (i : Nat) : List UInt8 := (s.drop (ofP s)).take (i - ofP s)

open Go.Lib in
theorem dgs_step {s : List UInt8} {i : Nat} {e : UInt8} (h0 : ofP s ≤ i) (h1 : i < s.length) (he : e = s[i]) : dgs s (i + 1) = dgs s i ++ [e] := by
  unfold dgs
  rw [show i + 1 - ofP s = (i - ofP s) + 1 from by omega, List.take_succ_eq_append_getElem (by rw [List.length_drop]; omega), List.getElem_drop, he]
  congr 3
  omega

open Go.Lib in
theorem dgs_all {s : List UInt8} {i : Nat} {e : UInt8} (h : (dgs s i).all isDg = true) (h0 : ofP s ≤ i) (h1 : i < s.length) (he : e = s[i]) (hd : 48 ≤ (e.toNat : Int) ∧ (e.toNat : Int) ≤ 57) : (dgs s (i + 1)).all isDg = true := by
  rw [dgs_step h0 h1 he, List.all_append, h]
  simp only [List.all_cons, List.all_nil, Bool.and_true, Bool.true_and]
  exact isDg_iff.2 (by omega)

open Go.Lib in
theorem dgs_bd {s : List UInt8} {i : Nat} (h : (dgs s i).all isDg = true) (h1 : i < s.length) (h2 : s.length ≤ ofP s + 18) : valD 0 (dgs s i) < 100000000000000000 := by
  refine Nat.lt_of_lt_of_le (valD_lt _ 0 h) ?_
  have h3 : (dgs s i).length ≤ 17 := by unfold dgs; rw [List.length_take]; omega
  have := Nat.pow_le_pow_right (n := 10) (by omega) h3
  omega

open Go.Lib in
theorem dgs_full {s : List UInt8} {i : Nat} (h : s.length ≤ i) : dgs s i = unsg s := by
  unfold dgs; rw [unsg_drop, List.take_of_length_le (by rw [List.length_drop]; omega)]

open Go.Lib in
theorem numC_bad {s : List UInt8} (h : okNum s = false) : numC s = (0, false) := by unfold numC; rw [h]; rfl

open Go.Lib in
theorem numC_len0 {s : List UInt8} (h : s.length = ofP s) : numC s = (0, false) := by
  refine numC_bad ?_
  cases hq : okNum s with
  | false => rfl
  | true =>
    have h1 := ((okNum_iff s).1 hq).1
    rw [unsg_drop, List.drop_eq_nil_of_le (by omega)] at h1
    exact absurd rfl h1

open Go.Lib in
theorem numC_len18 {s : List UInt8} (h : ofP s + 18 < s.length) : numC s = (0, false) := by
  refine numC_bad ?_
  cases hq : okNum s with
  | false => rfl
  | true =>
    have h1 := ((okNum_iff s).1 hq).2.1
    rw [unsg_drop, List.length_drop] at h1
    omega

open Go.Lib in
theorem numC_zero {s : List UInt8} {i : Nat} {e : UInt8} (hi : i = ofP s) (h1 : i < s.length) (he : e = s[i]) (h48 : (e.toNat : Int) = 48) (h2 : 1 < s.length) : numC s = (0, false) := by
  refine numC_bad ?_
  cases hq : okNum s with
  | false => rfl
  | true =>
    have h3 := ((okNum_iff s).1 hq).2.2.2
    refine absurd ⟨?_, h2⟩ h3
    have e48 : e = 48 := UInt8.toNat_inj.1 (by have : (48 : UInt8).toNat = 48 := rfl; omega)
    subst hi
    rw [unsg_drop, List.drop_eq_getElem_cons h1, ← he, e48]; rfl

open Go.Lib in
theorem numC_dig {s : List UInt8} {i : Nat} {e : UInt8} (h0 : ofP s ≤ i) (h1 : i < s.length) (he : e = s[i]) (hd : ¬ (48 ≤ (e.toNat : Int) ∧ (e.toNat : Int) ≤ 57)) : numC s = (0, false) := by
  refine numC_bad ?_
  cases hq : okNum s with
  | false => rfl
  | true =>
    have h3 := ((okNum_iff s).1 hq).2.2.1
    rw [List.all_eq_true] at h3
    have hm : e ∈ unsg s := by
      rw [unsg_drop, he]
      exact List.mem_drop_iff_getElem.2 ⟨i - ofP s, by omega, by congr 1; omega⟩
    have := isDg_iff.1 (h3 e hm)
    exact absurd (by omega) hd

open Go.Lib in
theorem numC_ok {s : List UInt8} {i : Nat} {e : UInt8} {k : Nat} (hk : k = ofP s) (hl : k < s.length) (h18 : s.length ≤ ofP s + 18) (he : e = s[k]) (hz : ¬ ((e.toNat : Int) = 48 ∧ 1 < s.length)) (hi : s.length ≤ i) (ha : (dgs s i).all isDg = true) : okNum s = true := by
  rw [dgs_full hi] at ha
  subst hk
  refine (okNum_iff s).2 ⟨?_, by rw [unsg_drop, List.length_drop]; omega, ha, ?_⟩
  · rw [unsg_drop]; intro h; have := congrArg List.length h; rw [List.length_drop, List.length_nil] at this; omega
  · rintro ⟨h1, h2⟩
    rw [unsg_drop, List.drop_eq_getElem_cons hl, ← he] at h1
    simp only [List.head?_cons, Option.some.injEq] at h1
    exact hz ⟨by rw [h1]; rfl, h2⟩

open Go.Lib in
theorem numC_yes {s : List UInt8} {i : Nat} (hi : s.length ≤ i) (h : okNum s = true) : numC s = (if ofP s = 1 then -(valD 0 (dgs s i) : Int) else (valD 0 (dgs s i) : Int), true) := by
  unfold numC
  rw [if_pos h, dgs_full hi]
  unfold numOf ofP
  by_cases h45 : s.head? = some 45
  · rw [if_pos h45, if_pos h45, if_pos rfl]
  · rw [if_neg h45, if_neg h45, if_neg (by decide)]

open Go.Lib in
def digB (x : Int) : Bool := decide (48 ≤ x) && decide (x ≤ 57)

open Go.Lib in
theorem dgs_zero (s : List UInt8) : dgs s (ofP s) = [] := by unfold dgs; rw [Nat.sub_self, List.take_zero]

open Go.Lib in
theorem dgs_bd18 {s : List UInt8} {i : Nat} (h : (dgs s i).all isDg = true) (h2 : s.length ≤ ofP s + 18) : valD 0 (dgs s i) < 1000000000000000000 := by
  refine Nat.lt_of_lt_of_le (valD_lt _ 0 h) ?_
  have h3 : (dgs s i).length ≤ 18 := by unfold dgs; rw [List.length_take, List.length_drop]; omega
  have := Nat.pow_le_pow_right (n := 10) (by omega) h3
  omega

open Go.Lib in
theorem ff {b : Bool} (h : b = true) (h2 : b = false) : False := by rw [h] at h2; exact Bool.noConfusion h2

open Go.Lib in
theorem itoa_no {c : UInt8} (h45 : ¬ c = 45) (hd : isDg c = false) (v : Int) : c ∉ Go.Lib.itoa v := by
  have key : ∀ n : Nat, c ∉ decDigits n := fun n hm => ff (List.all_eq_true.1 (dec_dig n).1 c hm) hd
  unfold Go.Lib.itoa
  split
  · intro hm
    rcases List.mem_cons.1 hm with hm | hm
    · exact h45 hm
    · exact key _ hm
  · exact key _

open Go.Lib in
theorem numC_itoa {v : Int} (h : -1000000000000000000 < v ∧ v < 1000000000000000000) : numC (Go.Lib.itoa v) = (v, true) := by
  obtain ⟨h1, h2⟩ := okNum_itoa h
  unfold numC; rw [if_pos h1, h2]

open Go.Lib in
theorem numR_itoa {v : Int} (h : -1000000000000000000 < v ∧ v < 1000000000000000000) : numR (Go.Lib.itoa v) = (v, true) := by rw [numR_eq]; exact numC_itoa h

open Go.Lib in
set_option maxRecDepth 100000 in
set_option maxHeartbeats 4000000 in
theorem impl_ReadDecimal (a0 : List UInt8) (w : World) (hG : Glob2 w) (s0 : a0.length ≤ 2000000) :
    Calls Tryz.prog 24 #[.string (bs a0)] w fun e w' => e = .returned (.tuple #[.int .i64 (numR a0).1, .bool (numR a0).2]) ∧ Below w.heap.size w w' := by
  have HH1 := Held.start Nob w
  refine enter (n := 26) Tryz.func24 rfl rfl rfl fun a_2 HE3 => ?_
  refine wp_seq ?_
  refine rg ?_
  refine pl_x HE3 HH1 (wt0 rfl) (x_assign rfl) rfl rfl fun a_4 HE5 => ?_
  refine pl_x HE5 HH1 (wt0 rfl) (x_assign rfl) rfl rfl fun a_6 HE7 => ?_
  refine wpList_nil ?_
  clear a_2 HE3 a_4 HE5
  refine nrm ?_
  refine wp_seq ?_
  refine rg ?_
  refine pl_x HE7 HH1 (wt0 rfl) (x_move rfl) rfl rfl fun a_8 HE9 => ?_
  refine pl fun K_10 hK11 => ?_
  refine st_call HE9 (wt0 rfl) rfl rfl rfl en_46 rfl rfl (ParseInt_64 a0 10 64 _ (HH1.glob2 hG) (by omega) (by rfl) (by rfl)) fun e w' hr => ?_
  obtain ⟨err21_1, rfl, her21_1, hbr21⟩ := hr
  have HH12 := HH1.on hbr21
  refine ⟨_, rfl, fun a_13 HE14 => hK11 _ _ ?_⟩
  refine pl_x HE14 HH12 (wt0 rfl) (x_move rfl) rfl rfl fun a_15 HE16 => ?_
  refine pl_x HE16 HH12 (wt0 rfl) (x_extract rfl rfl) rfl rfl fun a_17 HE18 => ?_
  refine pl_x HE18 HH12 (wt0 rfl) (x_extract rfl rfl) rfl rfl fun a_19 HE20 => ?_
  refine pl_x HE20 HH12 (wt0 rfl) (x_assign rfl) rfl rfl fun a_21 HE22 => ?_
  refine pl_x HE22 HH12 (wt0 rfl) (x_assign rfl) rfl rfl fun a_23 HE24 => ?_
  refine wpList_nil ?_
  clear a_6 HE7 HH1 a_8 HE9 a_13 HE14 a_15 HE16 a_17 HE18 a_19 HE20 a_21 HE22 hK11 K_10
  refine nrm ?_
  refine wp_seq ?_
  refine wp_seq ?_
  refine rg ?_
  refine pl_x HE24 HH12 (wt0 rfl) (x_move rfl) rfl rfl fun a_25 HE26 => ?_
  refine pl_x HE26 HH12 (wt0 rfl) (x_neqNil her21_1 (by kernel_rfl) rfl) rfl rfl fun a_27 HE28 => ?_
  refine pl_x HE28 HH12 (wt0 rfl) (x_move rfl) rfl rfl fun a_29 HE30 => ?_
  rcases Bool.eq_false_or_eq_true ((parI a0).2) with hc22 | hc22
  · refine pl_no HE30 (wtF HE30 rfl rfl rfl hc22) rfl rfl fun a_31 HE32 => ?_
    refine pl_no HE32 (wtF HE32 rfl rfl rfl hc22) rfl rfl fun a_33 HE34 => ?_
    refine pl_no HE34 (wtF HE34 rfl rfl rfl hc22) rfl rfl fun a_35 HE36 => ?_
    refine pl_no HE36 (wtF HE36 rfl rfl rfl hc22) rfl rfl fun a_37 HE38 => ?_
    refine pl_x HE38 HH12 (wt0 rfl) (x_pickT rfl hc22 rfl) rfl rfl fun a_39 HE40 => ?_
    refine pl_x HE40 HH12 (wt0 rfl) (x_move rfl) rfl rfl fun a_41 HE42 => ?_
    refine pl_no HE42 (wtF HE42 rfl rfl rfl rfl) rfl rfl fun a_43 HE44 => ?_
    refine pl_no HE44 (wtF HE44 rfl rfl rfl rfl) rfl rfl fun a_45 HE46 => ?_
    refine pl_no HE46 (wtF HE46 rfl rfl rfl rfl) rfl rfl fun a_47 HE48 => ?_
    refine pl_no HE48 (wtF HE48 rfl rfl rfl rfl) rfl rfl fun a_49 HE50 => ?_
    refine pl_x HE50 HH12 (wt0 rfl) (x_pickT rfl rfl rfl) rfl rfl fun a_51 HE52 => ?_
    refine wpList_nil ?_
    clear a_23 HE24 a_25 HE26 a_27 HE28 a_29 HE30 a_31 HE32 a_33 HE34 a_35 HE36 a_37 HE38 a_39 HE40 a_41 HE42 a_43 HE44 a_45 HE46 a_47 HE48 a_49 HE50
    refine nrm ?_
    refine cndT HE52 rfl rfl ?_
    refine wp_seq ?_
    refine rg ?_
    refine pl_x HE52 HH12 (wt0 rfl) (x_assign rfl) rfl rfl fun a_53 HE54 => ?_
    refine pl_x HE54 HH12 (wt0 rfl) (x_assign rfl) rfl rfl fun a_55 HE56 => ?_
    refine wpList_nil ?_
    clear a_51 HE52 a_53 HE54
    refine nrm ?_
    refine wp_ret ?_
    refine (thn_ret ?_)
    refine ret2 HE56 rfl (rv_tmp rfl) (rv_tmp rfl) ?_
    have hF : (numR a0) = (0, false) := by
      rw [numR_def]; first | (simp [hc22]; done) | (simp [hc22]; omega)
    exact ⟨by first | (rw [hF] <;> rfl) | rfl | (rw [hF]; simp only [Ending.returned.injEq, Value.slice.injEq, true_and, and_true]; first | omega | (simp; done)) | (rw [hF]; simp; omega), HH12.below⟩
  · have q0 := parI_bd hc22
    refine pl_x HE30 HH12 (wtT HE30 rfl rfl rfl hc22) (x_move rfl) rfl rfl fun a_57 HE58 => ?_
    refine pl fun K_59 hK60 => ?_
    refine st_call HE58 (wtT HE58 rfl rfl rfl hc22) rfl rfl rfl en_47 rfl rfl (impl_Decimal ((parI a0).1) _ (HH12.glob hG.1) (by omega)) fun e w' hr => ?_
    have hAr23_0 := itoa_len (n := ((parI a0).1)) (by omega)
    obtain ⟨rfl, hbr23⟩ := hr
    have HH61 := HH12.on hbr23
    refine ⟨_, rfl, fun a_62 HE63 => hK60 _ _ ?_⟩
    refine pl_x HE63 HH61 (wtT HE63 rfl rfl rfl hc22) (x_move rfl) rfl rfl fun a_64 HE65 => ?_
    refine pl_x HE65 HH61 (wtT HE65 rfl rfl rfl hc22) (x_sneqB rfl rfl) rfl rfl fun a_66 HE67 => ?_
    refine pl_x HE67 HH61 (wt0 rfl) (x_pickF rfl hc22 rfl) rfl rfl fun a_68 HE69 => ?_
    refine pl_x HE69 HH61 (wt0 rfl) (x_move rfl) rfl rfl fun a_70 HE71 => ?_
    by_cases hc24 : (Go.Lib.itoa ((parI a0).1)) = a0
    · refine pl_x HE71 HH61 (wtT HE71 rfl rfl rfl (not_f (decide_eq_true hc24))) (x_move rfl) rfl rfl fun a_72 HE73 => ?_
      refine pl fun K_74 hK75 => ?_
      refine st_call HE73 (wtT HE73 rfl rfl rfl (not_f (decide_eq_true hc24))) rfl rfl rfl en_48 rfl rfl (TrimMinus a0 ([45]) _ (by rfl)) fun e w' hr => ?_
      have hAr25_0 := unsg_len a0
      obtain ⟨rfl, hbr25⟩ := hr
      have HH76 := HH61.on hbr25
      refine ⟨_, rfl, fun a_77 HE78 => hK75 _ _ ?_⟩
      refine pl_x HE78 HH76 (wtT HE78 rfl rfl rfl (not_f (decide_eq_true hc24))) (x_lenB Tryz.underlying9 rfl) rfl rfl fun a_79 HE80 => ?_
      refine pl_x HE80 HH76 (wtT HE80 rfl rfl rfl (not_f (decide_eq_true hc24))) (x_gtr rfl rfl) rfl rfl fun a_81 HE82 => ?_
      refine pl_x HE82 HH76 (wt0 rfl) (x_pickF rfl (not_f (decide_eq_true hc24)) rfl) rfl rfl fun a_83 HE84 => ?_
      refine wpList_nil ?_
      clear a_23 HE24 a_25 HE26 a_27 HE28 a_29 HE30 HH12 a_57 HE58 a_62 HE63 a_64 HE65 a_66 HE67 a_68 HE69 a_70 HE71 K_59 hK60 HH61 a_72 HE73 a_77 HE78 a_79 HE80 a_81 HE82 hK75 K_74
      refine nrm ?_
      refine cnd_d HE84 rfl (fun hc26 => ?_) (fun hc26 => ?_)
      · refine wp_seq ?_
        refine rg ?_
        refine pl_x HE84 HH76 (wt0 rfl) (x_assign rfl) rfl rfl fun a_85 HE86 => ?_
        refine pl_x HE86 HH76 (wt0 rfl) (x_assign rfl) rfl rfl fun a_87 HE88 => ?_
        refine wpList_nil ?_
        clear a_83 HE84 a_85 HE86
        refine nrm ?_
        refine wp_ret ?_
        refine (thn_ret ?_)
        refine ret2 HE88 rfl (rv_tmp rfl) (rv_tmp rfl) ?_
        have hF : (numR a0) = (0, false) := by
          rw [numR_def]; first | (simp [hc22, hc24, hc26]; done) | (simp [hc22, hc24, hc26]; omega)
        exact ⟨by first | (rw [hF] <;> rfl) | rfl | (rw [hF]; simp only [Ending.returned.injEq, Value.slice.injEq, true_and, and_true]; first | omega | (simp; done)) | (rw [hF]; simp; omega), HH76.below⟩
      · refine wp_skip ?_
        refine nrm ?_
        refine wp_seq ?_
        refine rg ?_
        refine pl_x HE84 HH76 (wt0 rfl) (x_move rfl) rfl rfl fun a_89 HE90 => ?_
        refine pl_x HE90 HH76 (wt0 rfl) (x_assign rfl) rfl rfl fun a_91 HE92 => ?_
        refine pl_x HE92 HH76 (wt0 rfl) (x_assign rfl) rfl rfl fun a_93 HE94 => ?_
        refine wpList_nil ?_
        clear a_83 HE84 a_89 HE90 a_91 HE92
        refine nrm ?_
        refine wp_ret ?_
        refine ret2 HE94 rfl (rv_tmp rfl) (rv_tmp rfl) ?_
        have hF : (numR a0) = ((parI a0).1, true) := by
          rw [numR_def]; first | (simp [hc22, hc24, hc26]; done) | (simp [hc22, hc24, hc26]; omega)
        exact ⟨by first | (rw [hF] <;> rfl) | rfl | (rw [hF]; simp only [Ending.returned.injEq, Value.slice.injEq, true_and, and_true]; first | omega | (simp; done)) | (rw [hF]; simp; omega), HH76.below⟩
    · refine pl_no HE71 (wtF HE71 rfl rfl rfl (not_t (decide_eq_false hc24))) rfl rfl fun a_95 HE96 => ?_
      refine pl_no HE96 (wtF HE96 rfl rfl rfl (not_t (decide_eq_false hc24))) rfl rfl fun a_97 HE98 => ?_
      refine pl_no HE98 (wtF HE98 rfl rfl rfl (not_t (decide_eq_false hc24))) rfl rfl fun a_99 HE100 => ?_
      refine pl_no HE100 (wtF HE100 rfl rfl rfl (not_t (decide_eq_false hc24))) rfl rfl fun a_101 HE102 => ?_
      refine pl_x HE102 HH61 (wt0 rfl) (x_pickT rfl (not_t (decide_eq_false hc24)) rfl) rfl rfl fun a_103 HE104 => ?_
      refine wpList_nil ?_
      clear a_23 HE24 a_25 HE26 a_27 HE28 a_29 HE30 HH12 a_57 HE58 a_62 HE63 a_64 HE65 a_66 HE67 a_68 HE69 a_70 HE71 a_95 HE96 a_97 HE98 a_99 HE100 a_101 HE102 hK60 K_59
      refine nrm ?_
      refine cndT HE104 rfl rfl ?_
      refine wp_seq ?_
      refine rg ?_
      refine pl_x HE104 HH61 (wt0 rfl) (x_assign rfl) rfl rfl fun a_105 HE106 => ?_
      refine pl_x HE106 HH61 (wt0 rfl) (x_assign rfl) rfl rfl fun a_107 HE108 => ?_
      refine wpList_nil ?_
      clear a_103 HE104 a_105 HE106
      refine nrm ?_
      refine wp_ret ?_
      refine (thn_ret ?_)
      refine ret2 HE108 rfl (rv_tmp rfl) (rv_tmp rfl) ?_
      have hF : (numR a0) = (0, false) := by
        rw [numR_def]; first | (simp [hc22, hc24]; done) | (simp [hc22, hc24]; omega)
      exact ⟨by first | (rw [hF] <;> rfl) | rfl | (rw [hF]; simp only [Ending.returned.injEq, Value.slice.injEq, true_and, and_true]; first | omega | (simp; done)) | (rw [hF]; simp; omega), HH61.below⟩

open Go.Lib in
set_option maxRecDepth 100000 in
set_option maxHeartbeats 4000000 in
theorem spec_l01Split (a0 : List UInt8) (a1 : Int) (c : UInt8) (w : World) (s0 : a0.length ≤ 2000000) (s1 : a1 = (c.toNat : Int)) :
    Calls Tryz.prog 18 #[.string (bs a0), .int .u8 a1] w fun e w' => ∃ (A0' : Option Addr) (c0' : Nat), e = .returned (.slice A0' (splitR c a0).length c0') ∧ So eTxt w' (Fr w w') A0' c0' (splitR c a0) ∧ Below w.heap.size w w' := by
  have HH1 := Held.start Nob w
  refine enter (n := 35) Tryz.func18 rfl rfl rfl fun a_2 HE3 => ?_
  refine wp_seq ?_
  refine rg ?_
  refine pl_x HE3 HH1 (wt0 rfl) (x_assign rfl) rfl rfl fun a_4 HE5 => ?_
  refine wpList_nil ?_
  clear a_2 HE3
  refine nrm ?_
  refine wp_seq ?_
  refine rg ?_
  refine pl fun K_6 hK7 => ?_
  refine st_lit (m := 0) (cs := []) (e := 9) HE5 HH1 (run_lit ts_30 HE5 (vs := []) rfl rfl (by simp [Value.cells]) rfl (by decide)) (wt0 rfl) rfl rfl fun q21 a_8 w' HE9 HH10 => hK7 _ _ ?_
  refine pl_x HE9 HH10 (wt0 rfl) (x_assign rfl) rfl rfl fun a_11 HE12 => ?_
  refine wpList_nil ?_
  clear a_4 HE5 HH1 a_8 HE9 hK7 K_6
  refine nrm ?_
  refine wp_seq ?_
  refine rg ?_
  refine pl_x HE12 HH10 (wt0 rfl) (x_assign rfl) rfl rfl fun a_13 HE14 => ?_
  refine wpList_nil ?_
  clear a_11 HE12
  refine nrm ?_
  refine wp_seq ?_
  refine wp_seq ?_
  refine rg ?_
  refine pl_x HE14 HH10 (wt0 rfl) (x_assign rfl) rfl rfl fun a_15 HE16 => ?_
  refine wpList_nil ?_
  clear a_13 HE14
  refine nrm ?_
  refine wp_block ?_
  have HH17 := Held.vecFlat (E := eTxt) (xs := []) (css := []) HH10 rfl (Nat.zero_le _) (fun i x hx => by simp at hx)
  refine lp (fun m a w' => ∃ (k : Nat) (j : Int) (l : List (List UInt8)) (A_5 : Option Addr) (c_5 : Nat) (S_5 : Nat → Prop), m = a0.length - k ∧ Env 35 [(5, .slice A_5 (List.length l) c_5), (6, .int .i64 j), (7, .int .i64 (k : Int)), (0, .string (bs a0)), (1, .int .u8 (a1))] a ∧ Held Nob w [rVec eTxt 9 S_5 A_5 c_5 l] w' ∧ (0 ≤ j ∧ j ≤ (k : Int)) ∧ (k ≤ a0.length) ∧ (splitR c a0 = l ++ preP ((a0.drop j.toNat).take (k - j.toNat)) (splitR c (a0.drop k))) ∧ (l.length ≤ k)) (a0.length - (0)) ?_ ?_
  · have E22 : ([]) = ([] : List (List UInt8)) := by
      first | rfl | simp
    exact ⟨0, 0, [], (some ⟨q21, 0, none⟩), (List.length (α := (List UInt8)) []), (fun b => b = q21), rfl, HE16.sub ⟨(by rw [E22]; rfl), rfl, (lkI rfl (by first | rfl | omega | (simp []; done))), rfl, rfl, trivial⟩, ((HH17.sel [0] (by decide) rfl).to (by first | rfl | (rw [E22]; done) | (rw [E22]; rfl) | (simp only [E22]; done) | (simp only [E22]; rfl) | (rw [E22]; simp only [List.length_set]; done))), (by first | omega | assumption | (simp; done) | simp_all), (by first | omega | assumption | (simp; done) | simp_all), (by exact spl_zero c a0), (by first | omega | assumption | (simp; done) | simp_all)⟩
  · rintro m a_18 w' ⟨k, j, l, A_5, c_5, S_5, rfl, HE19, HH20, p23_0, p23_1, p23_2, p23_3⟩
    refine wp_seq ?_
    refine wp_seq ?_
    refine rg ?_
    refine pl_x HE19 HH20 (wt0 rfl) (x_move rfl) rfl rfl fun a_21 HE22 => ?_
    refine pl_x HE22 HH20 (wt0 rfl) (x_move rfl) rfl rfl fun a_23 HE24 => ?_
    refine pl_x HE24 HH20 (wt0 rfl) (x_lenB Tryz.underlying9 rfl) rfl rfl fun a_25 HE26 => ?_
    refine pl_x HE26 HH20 (wt0 rfl) (x_lss rfl rfl) rfl rfl fun a_27 HE28 => ?_
    refine wpList_nil ?_
    clear HH10 a_15 HE16 HH17 a_18 HE19 a_21 HE22 a_23 HE24 a_25 HE26
    refine nrm ?_
    refine cnd_d HE28 rfl (fun hc24 => ?_) (fun hc24 => ?_)
    · refine wp_skip ?_
      refine nrm ?_
      refine wp_seq ?_
      refine wp_block ?_
      refine wp_seq ?_
      refine rg ?_
      refine pl_x HE28 HH20 (wt0 rfl) (x_move rfl) rfl rfl fun a_29 HE30 => ?_
      refine pl_x HE30 HH20 (wt0 rfl) (x_move rfl) rfl rfl fun a_31 HE32 => ?_
      have ke25 : k < List.length a0 := by first | omega | (simp only [List.length_cons, List.length_nil]; omega)
      obtain ⟨e25, xe25⟩ : ∃ x_, x_ = a0[k] := ⟨_, rfl⟩
      have je25 : 0 ≤ (e25.toNat : Int) ∧ (e25.toNat : Int) ≤ 255 := by have := e25.toNat_lt; omega
      refine pl_x HE32 HH20 (wt0 rfl) (x_idxB Tryz.underlying9 rfl rfl rfl ke25 xe25) rfl rfl fun a_33 HE34 => ?_
      refine pl_x HE34 HH20 (wt0 rfl) (x_move rfl) rfl rfl fun a_35 HE36 => ?_
      refine pl_x HE36 HH20 (wt0 rfl) (x_eql rfl rfl) rfl rfl fun a_37 HE38 => ?_
      refine wpList_nil ?_
      clear a_27 HE28 a_29 HE30 a_31 HE32 a_33 HE34 a_35 HE36
      refine nrm ?_
      refine cnd_e HE38 rfl (fun hc26 => ?_) (fun hc26 => ?_)
      · refine wp_seq ?_
        refine rg ?_
        refine pl_x HE38 HH20 (wt0 rfl) (x_move rfl) rfl rfl fun a_39 HE40 => ?_
        refine pl_x HE40 HH20 (wt0 rfl) (x_move rfl) rfl rfl fun a_41 HE42 => ?_
        refine pl_x HE42 HH20 (wt0 rfl) (x_move rfl) rfl rfl fun a_43 HE44 => ?_
        refine pl_x HE44 HH20 (wt0 rfl) (x_move rfl) rfl rfl fun a_45 HE46 => ?_
        refine pl_x HE46 HH20 (wt0 rfl) (x_sliceSH (k := ((j).toNat)) (k2 := k) Tryz.underlying9 rfl rfl rfl (by omega) rfl (by omega) (by first | omega | (simp only [List.length_append, List.length_cons, List.length_nil]; omega) | (simp; omega))) rfl rfl fun a_47 HE48 => ?_
        refine pl fun K_49 hK50 => ?_
        refine st_lit (m := 1) (cs := [.string (bs ((a0.drop ((j).toNat)).take (k - (j).toNat)))]) (e := 9) HE48 HH20 (run_lit ts_30 HE48 (vs := [.string (bs ((a0.drop ((j).toNat)).take (k - (j).toNat)))]) rfl rfl (by simp [Value.cells]) rfl (by decide)) (wt0 rfl) rfl rfl fun q27 a_51 w' HE52 HH53 => hK50 _ _ ?_
        refine pl fun K_54 hK55 => ?_
        refine st_app1F ((a0.drop ((j).toNat)).take (k - (j).toNat)) HE52 HH53 ts_30 [1, 0] (by decide) rfl (fun _ => (oS (by first | omega | (simp only [List.length_append, List.length_cons, List.length_nil]; omega) | (simp; omega)))) rfl rfl (by simp [Value.oneCell']) (by unfold maxLen; first | omega | (simp; done) | (simp; omega)) (by first | omega | (simp; done) | (simp; omega)) (wt0 rfl) rfl fun A28 c29 S30 a_56 w' HE57 HH58 => hK55 _ _ ?_
        refine pl_x HE57 HH58 (wt0 rfl) (x_assign rfl) rfl rfl fun a_59 HE60 => ?_
        refine wpList_nil ?_
        clear a_37 HE38 a_39 HE40 a_41 HE42 a_43 HE44 a_45 HE46 a_47 HE48 HH20 K_49 hK50 a_51 HE52 HH53 a_56 HE57 hK55 K_54
        refine nrm ?_
        refine rg ?_
        refine pl_x HE60 HH58 (wt0 rfl) (x_move rfl) rfl rfl fun a_61 HE62 => ?_
        refine pl_x HE62 HH58 (wt0 rfl) (x_add rfl rfl (by exact ⟨by omega, by omega⟩)) rfl rfl fun a_63 HE64 => ?_
        refine pl_x HE64 HH58 (wt0 rfl) (x_assign rfl) rfl rfl fun a_65 HE66 => ?_
        refine wpList_nil ?_
        clear a_59 HE60 a_61 HE62 a_63 HE64
        refine blk_n ?_
        refine nrm ?_
        refine rg ?_
        refine pl_x HE66 HH58 (wt0 rfl) (x_move rfl) rfl rfl fun a_67 HE68 => ?_
        refine pl_x HE68 HH58 (wt0 rfl) (x_add rfl rfl (by exact ⟨by omega, by omega⟩)) rfl rfl fun a_69 HE70 => ?_
        refine pl_x HE70 HH58 (wt0 rfl) (x_assign rfl) rfl rfl fun a_71 HE72 => ?_
        refine wpList_nil ?_
        clear a_65 HE66 a_67 HE68 a_69 HE70
        have E31 : ((l ++ [((a0.drop ((j).toNat)).take (k - (j).toNat))])) = (l ++ [((a0.drop ((j).toNat)).take (k - (j).toNat))]) := by
          first | rfl | simp
        exact nrm ⟨a0.length - (k + 1), (by omega), k + 1, ((k : Int) + 1), (l ++ [((a0.drop ((j).toNat)).take (k - (j).toNat))]), A28, c29, S30, rfl, HE72.sub ⟨(by rw [E31]; rfl), rfl, (lkI rfl (by first | rfl | omega | (simp [p23_0, p23_1, p23_2, p23_3, hc24, xe25, hc26]; done))), rfl, rfl, trivial⟩, ((HH58.sel [0] (by decide) rfl).to (by first | rfl | (rw [E31]; done) | (rw [E31]; rfl) | (simp only [E31]; done) | (simp only [E31]; rfl) | (rw [E31]; simp only [List.length_set]; done))), (by first | omega | assumption | (simp; done) | simp_all), (by first | omega | assumption | (simp; done) | simp_all), (by first | exact spl_ne p23_2 (by omega) (by omega) (fun hh => hc26 (by rw [xe25, hh, s1])) | exact spl_eq p23_2 (by omega) (UInt8.toNat_inj.1 (by rw [← xe25]; omega))), (by first | omega | (rw [List.length_append]; simp; omega))⟩
      · refine wp_skip ?_
        refine blk_n ?_
        refine nrm ?_
        refine rg ?_
        refine pl_x HE38 HH20 (wt0 rfl) (x_move rfl) rfl rfl fun a_73 HE74 => ?_
        refine pl_x HE74 HH20 (wt0 rfl) (x_add rfl rfl (by exact ⟨by omega, by omega⟩)) rfl rfl fun a_75 HE76 => ?_
        refine pl_x HE76 HH20 (wt0 rfl) (x_assign rfl) rfl rfl fun a_77 HE78 => ?_
        refine wpList_nil ?_
        clear a_37 HE38 a_73 HE74 a_75 HE76
        exact nrm ⟨a0.length - (k + 1), (by omega), k + 1, j, l, A_5, c_5, S_5, rfl, HE78.sub ⟨rfl, rfl, (lkI rfl (by first | rfl | omega | (simp [p23_0, p23_1, p23_2, p23_3, hc24, xe25, hc26]; done))), rfl, rfl, trivial⟩, (HH20.sel [0] (by decide) rfl), (by first | omega | assumption | (simp; done) | simp_all), (by first | omega | assumption | (simp; done) | simp_all), (by first | exact spl_ne p23_2 (by omega) (by omega) (fun hh => hc26 (by rw [xe25, hh, s1])) | exact spl_eq p23_2 (by omega) (UInt8.toNat_inj.1 (by rw [← xe25]; omega))), (by first | omega | (rw [List.length_append]; simp; omega))⟩
    · refine wp_exit ?_
      refine (thn_exit (thn_exit (blk_hit ?_)))
      refine nrm ?_
      refine wp_seq ?_
      refine rg ?_
      refine pl_x HE28 HH20 (wt0 rfl) (x_move rfl) rfl rfl fun a_79 HE80 => ?_
      refine pl_x HE80 HH20 (wt0 rfl) (x_move rfl) rfl rfl fun a_81 HE82 => ?_
      refine pl_x HE82 HH20 (wt0 rfl) (x_move rfl) rfl rfl fun a_83 HE84 => ?_
      refine pl_x HE84 HH20 (wt0 rfl) (x_sliceSL (k := ((j).toNat)) Tryz.underlying9 rfl rfl (by omega) (by first | omega | (simp only [List.length_append, List.length_cons, List.length_nil]; omega) | (simp; omega))) rfl rfl fun a_85 HE86 => ?_
      refine pl fun K_87 hK88 => ?_
      refine st_lit (m := 1) (cs := [.string (bs (a0.drop ((j).toNat)))]) (e := 9) HE86 HH20 (run_lit ts_30 HE86 (vs := [.string (bs (a0.drop ((j).toNat)))]) rfl rfl (by simp [Value.cells]) rfl (by decide)) (wt0 rfl) rfl rfl fun q32 a_89 w' HE90 HH91 => hK88 _ _ ?_
      refine pl fun K_92 hK93 => ?_
      refine st_app1F (a0.drop ((j).toNat)) HE90 HH91 ts_30 [1, 0] (by decide) rfl (fun _ => (oS (by first | omega | (simp only [List.length_append, List.length_cons, List.length_nil]; omega) | (simp; omega)))) rfl rfl (by simp [Value.oneCell']) (by unfold maxLen; first | omega | (simp; done) | (simp; omega)) (by first | omega | (simp; done) | (simp; omega)) (wt0 rfl) rfl fun A33 c34 S35 a_94 w' HE95 HH96 => hK93 _ _ ?_
      refine pl_x HE95 HH96 (wt0 rfl) (x_assign rfl) rfl rfl fun a_97 HE98 => ?_
      refine wpList_nil ?_
      clear a_27 HE28 a_79 HE80 a_81 HE82 a_83 HE84 a_85 HE86 HH20 K_87 hK88 a_89 HE90 HH91 a_94 HE95 hK93 K_92
      refine nrm ?_
      refine wp_ret ?_
      refine ret1 HE98 rfl (rv_tmp rfl) ?_
      have HH99 := HH96.vecSo
      have hF : (splitR c a0) = (l ++ [(a0.drop ((j).toNat))]) := by
        exact spl_end p23_2 (by omega)
      exact ⟨A33, c34, by first | (rw [hF] <;> rfl) | rfl | (rw [hF]; simp only [Ending.returned.injEq, Value.slice.injEq, true_and, and_true]; first | omega | (simp; done)) | (rw [hF]; simp; omega), by rw [hF]; exact (HH99.so (i := 0) rfl), HH99.below⟩

open Go.Lib in
set_option maxRecDepth 100000 in
set_option maxHeartbeats 4000000 in
theorem spec_l01Digit (a0 : Int) (w : World)  :
    Calls Tryz.prog 35 #[.int .u8 a0] w fun e w' => e = .returned (.bool (digB a0)) ∧ Below w.heap.size w w' := by
  have HH1 := Held.start Nob w
  refine enter (n := 9) Tryz.func35 rfl rfl rfl fun a_2 HE3 => ?_
  refine wp_seq ?_
  refine rg ?_
  refine pl_x HE3 HH1 (wt0 rfl) (x_assign rfl) rfl rfl fun a_4 HE5 => ?_
  refine wpList_nil ?_
  clear a_2 HE3
  refine nrm ?_
  refine wp_seq ?_
  refine rg ?_
  refine pl_x HE5 HH1 (wt0 rfl) (x_move rfl) rfl rfl fun a_6 HE7 => ?_
  refine pl_x HE7 HH1 (wt0 rfl) (x_geq rfl rfl) rfl rfl fun a_8 HE9 => ?_
  refine pl_x HE9 HH1 (wt0 rfl) (x_move rfl) rfl rfl fun a_10 HE11 => ?_
  by_cases hc21 : 48 ≤ a0
  · refine pl_x HE11 HH1 (wtT HE11 rfl rfl rfl (decide_eq_true hc21)) (x_move rfl) rfl rfl fun a_12 HE13 => ?_
    refine pl_x HE13 HH1 (wtT HE13 rfl rfl rfl (decide_eq_true hc21)) (x_leq rfl rfl) rfl rfl fun a_14 HE15 => ?_
    refine pl_x HE15 HH1 (wt0 rfl) (x_pickT rfl (decide_eq_true hc21) rfl) rfl rfl fun a_16 HE17 => ?_
    refine pl_x HE17 HH1 (wt0 rfl) (x_assign rfl) rfl rfl fun a_18 HE19 => ?_
    refine wpList_nil ?_
    clear a_4 HE5 a_6 HE7 a_8 HE9 a_10 HE11 a_12 HE13 a_14 HE15 a_16 HE17
    refine nrm ?_
    refine wp_ret ?_
    refine ret1 HE19 rfl (rv_tmp rfl) ?_
    have hF : (digB a0) = decide (a0 ≤ 57) := by
      unfold digB; first | (simp [hc21]; done) | grind
    exact ⟨by first | (rw [hF] <;> rfl) | rfl | (rw [hF]; simp only [Ending.returned.injEq, Value.slice.injEq, true_and, and_true]; first | omega | (simp; done)) | (rw [hF]; simp; omega), HH1.below⟩
  · refine pl_no HE11 (wtF HE11 rfl rfl rfl (decide_eq_false hc21)) rfl rfl fun a_20 HE21 => ?_
    refine pl_no HE21 (wtF HE21 rfl rfl rfl (decide_eq_false hc21)) rfl rfl fun a_22 HE23 => ?_
    refine pl_x HE23 HH1 (wt0 rfl) (x_pickF rfl (decide_eq_false hc21) rfl) rfl rfl fun a_24 HE25 => ?_
    refine pl_x HE25 HH1 (wt0 rfl) (x_assign rfl) rfl rfl fun a_26 HE27 => ?_
    refine wpList_nil ?_
    clear a_4 HE5 a_6 HE7 a_8 HE9 a_10 HE11 a_20 HE21 a_22 HE23 a_24 HE25
    refine nrm ?_
    refine wp_ret ?_
    refine ret1 HE27 rfl (rv_tmp rfl) ?_
    have hF : (digB a0) = false := by
      unfold digB; first | (simp [hc21]; done) | grind
    exact ⟨by first | (rw [hF] <;> rfl) | rfl | (rw [hF]; simp only [Ending.returned.injEq, Value.slice.injEq, true_and, and_true]; first | omega | (simp; done)) | (rw [hF]; simp; omega), HH1.below⟩

end Go.Proofs.YthfihlfjphiihaaGreatDoor
