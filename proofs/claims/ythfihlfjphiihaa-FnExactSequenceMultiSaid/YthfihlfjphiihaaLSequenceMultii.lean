/- What the proof of FnExactSequenceMulti needs: contracts of the functions that it reaches, each once. -/
import Derived.Test.YthfihlfjphiihaaProg
import Derived.Test.YthfihlfjphiihaaQMem
import Derived.Test.YthfihlfjphiihaaQOpen
import Derived.Test.YthfihlfjphiihaaLSequenceMultia
import Derived.Test.YthfihlfjphiihaaLSequenceMultib
import Derived.Test.YthfihlfjphiihaaLSequenceMultic
import Derived.Test.YthfihlfjphiihaaLSequenceMultid
import Derived.Test.YthfihlfjphiihaaLSequenceMultie
import Derived.Test.YthfihlfjphiihaaLSequenceMultif
import Derived.Test.YthfihlfjphiihaaLSequenceMultig
import Derived.Test.YthfihlfjphiihaaLSequenceMultih
import Derived.WalkKit
import Derived.WalkSpells
import Derived.Below
import Derived.LoopTactic
import Derived.Outline
import Derived.Deep.QuietTactic
import Derived.BigQuiet
import Derived.Deep.LoopGhost
import Derived.Handy
import Derived.Lib.Hide
import Derived.Shelf.Abstract
import Derived.StillTailTactics
import Derived.OwnWalk
import Derived.Maps.AppendAt
import Derived.RegionTactic
import Derived.Deep.RegionHeld3
import Derived.IntWalk
import Derived.Deep.Upon
import Derived.Laws.OwnMore
import Derived.Maps.AppendAt
import Derived.Laws.Small
import Derived.Lib.FrozenHead
import Derived.Lib.RuneBytes
import Derived.Lib.LaidTab
import Derived.Laws.StructEq
import Derived.Maps.OwnSet
import Derived.DeepKeys4
import Derived.Lib.SliceRun
import Derived.Lib.AppendZeros
import Derived.Shelf.SortG.Plain
import Derived.Shelf.SortG.SortNone
import Derived.Shelf.SlicesG.CompactI
import Derived.Shelf.SlicesG.SearchI
import Derived.Sort.OwnSortedInts
import Derived.Lib.RowBridge
import Derived.Lib.ItoaLen
import Derived.Lib.Join
import Derived.Shelf.Strconv.Itoa4
import Derived.Shelf.Strings.OnBuilder
import Derived.Shelf.Strings.BuilderK
import Derived.Shelf.Strings.BuilderRune
import Derived.Shelf.LaysM
import Derived.Ground.NamesProg
import Derived.Shelf.SlSortCmp.WholeK
import Derived.Shelf.SlSortCmp.NoneTotal
namespace Go.Proofs.Ythfihlfjphiihaa
open Go.RowKit

set_option maxRecDepth 100000 in
set_option maxHeartbeats 4000000 in
theorem spec_SequenceMulti (es0 : List Value) (a0 : tMulti) (es1 : List Value) (a1 : tMulti) (w : World) (h0 : eMulti.R w (Old w) es0 a0) (h1 : eMulti.R w (Old w) es1 a1) :
    Calls Try.prog 35 #[.agg es0.toArray, .agg es1.toArray] w fun e w' => ∃ (es0' : List Value), e = .returned (.tuple #[.agg es0'.toArray, .int .i64 (seqMulti a0 a1).2]) ∧ eMulti.O w' (Fr w w') es0' (seqMulti a0 a1).1 ∧ Below w.heap.size w w' := by
  have H0 := h0
  obtain ⟨Az0_3, cz0_3, rfl, gz0_0, gz0_1, gz0_2, gz0_3⟩ := shape_Multi h0
  have jz0_0 := gz0_0; unfold I64 at jz0_0
  have jz0_1 := gz0_1; unfold I64 at jz0_1
  have jz0_2 := gz0_2; unfold I64 at jz0_2
  have lz0_3 := gz0_3.len
  have H1 := h1
  obtain ⟨Az1_3, cz1_3, rfl, gz1_0, gz1_1, gz1_2, gz1_3⟩ := shape_Multi h1
  have jz1_0 := gz1_0; unfold I64 at jz1_0
  have jz1_1 := gz1_1; unfold I64 at jz1_1
  have jz1_2 := gz1_2; unfold I64 at jz1_2
  have lz1_3 := gz1_3.len
  have HH1 := Held.start Nob w
  refine enter (n := 114) Try.func35 rfl rfl rfl fun a_2 HE3 => ?_
  refine wp_seq ?_
  refine rg ?_
  refine pl fun K_4 hK5 => ?_
  refine st_box (cs := [.int .i64 (a0.1), .int .i64 (a0.2.1), .int .i64 (a0.2.2.1), .slice Az0_3 (a0.2.2.2.length) cz0_3]) HE3 HH1 rfl rfl (wt0 rfl) rfl fun q21 a_6 w' HE7 HH8 => hK5 _ _ ?_
  refine pl fun K_9 hK10 => ?_
  refine st_box (cs := [.int .i64 (a1.1), .int .i64 (a1.2.1), .int .i64 (a1.2.2.1), .slice Az1_3 (a1.2.2.2.length) cz1_3]) HE7 HH8 rfl rfl (wt0 rfl) rfl fun q22 a_11 w' HE12 HH13 => hK10 _ _ ?_
  refine pl fun K_14 hK15 => ?_
  refine st_alloc HE12 HH13 tv_55 (wt0 rfl) rfl fun q23 a_16 w' HE17 HH18 => hK15 _ _ ?_
  refine pl_x HE17 HH18 (wt0 rfl) (x_assign rfl) rfl rfl fun a_19 HE20 => ?_
  refine wpList_nil ?_
  clear a_2 HE3 HH1 K_4 hK5 a_6 HE7 HH8 K_9 hK10 a_11 HE12 HH13 a_16 HE17 hK15 K_14
  refine nrm ?_
  refine wp_seq ?_
  refine wp_seq ?_
  refine rg ?_
  refine pl fun K_21 hK22 => ?_
  refine st_call HE20 (wt0 rfl) rfl rfl rfl en_60 rfl rfl (spec_l06Is _ _ _ a0 _ (HH18.oldR H0) (c_blkN 2 rfl _ HH18)) fun e w' hr => ?_
  obtain ⟨rfl, hbr24⟩ := hr
  have HH23 := HH18.on hbr24
  refine ⟨_, rfl, fun a_24 HE25 => hK22 _ _ ?_⟩
  refine pl_x HE25 HH23 (wt0 rfl) (x_not rfl) rfl rfl fun a_26 HE27 => ?_
  refine pl_x HE27 HH23 (wt0 rfl) (x_move rfl) rfl rfl fun a_28 HE29 => ?_
  rcases Bool.eq_false_or_eq_true ((validMulti a0)) with hc25 | hc25
  · have hva := hc25
    obtain ⟨v0, v1, v2, v3⟩ := validMulti_facts hc25
    have hra := validMulti_rng hc25
    have hrr := validMulti_reads3 hc25
    refine pl fun K_30 hK31 => ?_
    refine st_call HE29 (wtT HE29 rfl rfl rfl (not_f hc25)) rfl rfl rfl en_60 rfl rfl (spec_l06Is _ _ _ a1 _ (HH23.oldR H1) (c_blkN 1 rfl _ HH23)) fun e w' hr => ?_
    obtain ⟨rfl, hbr26⟩ := hr
    have HH32 := HH23.on hbr26
    refine ⟨_, rfl, fun a_33 HE34 => hK31 _ _ ?_⟩
    refine pl_x HE34 HH32 (wtT HE34 rfl rfl rfl (not_f hc25)) (x_not rfl) rfl rfl fun a_35 HE36 => ?_
    refine pl_x HE36 HH32 (wt0 rfl) (x_pickF rfl (not_f hc25) rfl) rfl rfl fun a_37 HE38 => ?_
    refine wpList_nil ?_
    clear HH18 a_19 HE20 a_24 HE25 a_26 HE27 K_21 hK22 HH23 a_28 HE29 a_33 HE34 a_35 HE36 hK31 K_30
    refine nrm ?_
    refine cnd_nb HE38 rfl (fun hc27 => ?_) (fun hc27 => ?_)
    · refine wp_seq ?_
      refine rg ?_
      refine pl_x HE38 HH32 (wt0 rfl) (show XS _ _ _ _ (.agg #[.int .i64 (0), .int .i64 (0), .int .i64 (0), .slice none (0) 0]) from x_build (vs := []) tb_55 rfl (by simp [Value.oneCell'])) rfl rfl fun a_39 HE40 => ?_
      refine pl fun K_41 hK42 => ?_
      refine st_store (vs := [.int .i64 (0), .int .i64 (0), .int .i64 (0), .slice none (0) 0]) 0 HE40 HH32 tv_55 rfl rfl rfl rfl rfl rfl (by simp [Value.oneCell']) (wt0 rfl) fun w' HH43 => hK42 _ _ ?_
      refine pl_x HE40 HH43 (wt0 rfl) (x_assign rfl) rfl rfl fun a_44 HE45 => ?_
      refine wpList_nil ?_
      clear a_37 HE38 HH32 a_39 HE40 hK42 K_41
      refine nrm ?_
      refine wp_ret ?_
      refine (thn_ret ?_)
      refine ret2 HE45 rfl (rv_cell rfl (tv_55.loadN (cs := [.int .i64 (0), .int .i64 (0), .int .i64 (0), .slice none (0) 0]) rfl (c_blkN 0 rfl _ HH43))) (rv_tmp rfl) ?_
      have HH46 := HH43.flatO (E := eMulti) (cs := [.int .i64 (0), .int .i64 (0), .int .i64 (0), .slice none (0) 0]) (x := (0, 0, 0, [])) (fun _ => (oPrN (oI (by exact ⟨by omega, by omega⟩)) (oPrN (oI (by exact ⟨by omega, by omega⟩)) (oPrN (oI (by exact ⟨by omega, by omega⟩)) (oSl (So.nil (Nat.zero_le _)))))))
      have hF : (seqMulti a0 a1) = ((0, 0, 0, []), 1) := by
        first | (have hmq : (a0.1, a0.2.1, (a0.2.2.1 + a1.2.2.1), (sortMR (seqB a0 a0.2.2.1.toNat ++ (a1.2.2.2.take j).map (moveRl a0.2.2.1)))) = seqM a0 a1 := (by rw [List.take_of_length_le (by omega)]; rfl); have hcc := hc27; rw [hmq] at hcc; unfold seqMulti; rw [if_pos ⟨hva, hvb⟩, if_pos ⟨by omega, by omega⟩]; first | (rw [if_pos hcc, hmq]; done) | (rw [if_pos hcc, hmq]; rfl) | (rw [if_neg (by rw [hcc]; exact Bool.false_ne_true)]; done)) | (simp [seqMulti, hc25, hc27]; done) | (unfold seqMulti; rw [if_neg (by grind)]; done) | (unfold seqMulti; rw [if_pos ⟨hva, hvb⟩, if_neg (by grind)]; done)
      exact ⟨_, by first | (rw [hF] <;> rfl) | rfl | (rw [hF]; simp only [Ending.returned.injEq, Value.slice.injEq, true_and, and_true]; first | omega | (simp; done)) | (rw [hF]; simp; omega), by rw [hF]; exact (HH46.o (i := 0) rfl), HH46.below⟩
    · have hvb := hc27
      obtain ⟨u0, u1, u2, u3⟩ := validMulti_facts hc27
      have hrb := validMulti_rng hc27
      refine wp_skip ?_
      refine nrm ?_
      refine wp_seq ?_
      refine wp_seq ?_
      refine rg ?_
      refine pl_x HE38 HH32 (wt0 rfl) (x_fieldAddr fa_55_0 rfl) rfl rfl fun a_47 HE48 => ?_
      refine pl_x HE48 HH32 (wt0 rfl) (x_load1 tv_2 rfl (c_blk 2 rfl rfl)) rfl rfl fun a_49 HE50 => ?_
      refine pl_x HE50 HH32 (wt0 rfl) (x_fieldAddr fa_55_0 rfl) rfl rfl fun a_51 HE52 => ?_
      refine pl_x HE52 HH32 (wt0 rfl) (x_load1 tv_2 rfl (c_blk 1 rfl rfl)) rfl rfl fun a_53 HE54 => ?_
      refine pl_x HE54 HH32 (wt0 rfl) (x_neq rfl rfl) rfl rfl fun a_55 HE56 => ?_
      refine pl_x HE56 HH32 (wt0 rfl) (x_move rfl) rfl rfl fun a_57 HE58 => ?_
      by_cases hc28 : ¬ a0.1 = a1.1
      · refine pl_no HE58 (wtF HE58 rfl rfl rfl (bne_t hc28)) rfl rfl fun a_59 HE60 => ?_
        refine pl_no HE60 (wtF HE60 rfl rfl rfl (bne_t hc28)) rfl rfl fun a_61 HE62 => ?_
        refine pl_no HE62 (wtF HE62 rfl rfl rfl (bne_t hc28)) rfl rfl fun a_63 HE64 => ?_
        refine pl_no HE64 (wtF HE64 rfl rfl rfl (bne_t hc28)) rfl rfl fun a_65 HE66 => ?_
        refine pl_no HE66 (wtF HE66 rfl rfl rfl (bne_t hc28)) rfl rfl fun a_67 HE68 => ?_
        refine pl_x HE68 HH32 (wt0 rfl) (x_pickT rfl (bne_t hc28) rfl) rfl rfl fun a_69 HE70 => ?_
        refine wpList_nil ?_
        clear a_37 HE38 a_47 HE48 a_49 HE50 a_51 HE52 a_53 HE54 a_55 HE56 a_57 HE58 a_59 HE60 a_61 HE62 a_63 HE64 a_65 HE66 a_67 HE68
        refine nrm ?_
        refine cndT HE70 rfl rfl ?_
        refine wp_seq ?_
        refine rg ?_
        refine pl_x HE70 HH32 (wt0 rfl) (show XS _ _ _ _ (.agg #[.int .i64 (0), .int .i64 (0), .int .i64 (0), .slice none (0) 0]) from x_build (vs := []) tb_55 rfl (by simp [Value.oneCell'])) rfl rfl fun a_71 HE72 => ?_
        refine pl fun K_73 hK74 => ?_
        refine st_store (vs := [.int .i64 (0), .int .i64 (0), .int .i64 (0), .slice none (0) 0]) 0 HE72 HH32 tv_55 rfl rfl rfl rfl rfl rfl (by simp [Value.oneCell']) (wt0 rfl) fun w' HH75 => hK74 _ _ ?_
        refine pl_x HE72 HH75 (wt0 rfl) (x_assign rfl) rfl rfl fun a_76 HE77 => ?_
        refine wpList_nil ?_
        clear a_69 HE70 HH32 a_71 HE72 hK74 K_73
        refine nrm ?_
        refine wp_ret ?_
        refine (thn_ret ?_)
        refine ret2 HE77 rfl (rv_cell rfl (tv_55.loadN (cs := [.int .i64 (0), .int .i64 (0), .int .i64 (0), .slice none (0) 0]) rfl (c_blkN 0 rfl _ HH75))) (rv_tmp rfl) ?_
        have HH78 := HH75.flatO (E := eMulti) (cs := [.int .i64 (0), .int .i64 (0), .int .i64 (0), .slice none (0) 0]) (x := (0, 0, 0, [])) (fun _ => (oPrN (oI (by exact ⟨by omega, by omega⟩)) (oPrN (oI (by exact ⟨by omega, by omega⟩)) (oPrN (oI (by exact ⟨by omega, by omega⟩)) (oSl (So.nil (Nat.zero_le _)))))))
        have hF : (seqMulti a0 a1) = ((0, 0, 0, []), 2) := by
          first | (have hmq : (a0.1, a0.2.1, (a0.2.2.1 + a1.2.2.1), (sortMR (seqB a0 a0.2.2.1.toNat ++ (a1.2.2.2.take j).map (moveRl a0.2.2.1)))) = seqM a0 a1 := (by rw [List.take_of_length_le (by omega)]; rfl); have hcc := hc28; rw [hmq] at hcc; unfold seqMulti; rw [if_pos ⟨hva, hvb⟩, if_pos ⟨by omega, by omega⟩]; first | (rw [if_pos hcc, hmq]; done) | (rw [if_pos hcc, hmq]; rfl) | (rw [if_neg (by rw [hcc]; exact Bool.false_ne_true)]; done)) | (simp [seqMulti, hc25, hc27, hc28]; done) | (unfold seqMulti; rw [if_neg (by grind)]; done) | (unfold seqMulti; rw [if_pos ⟨hva, hvb⟩, if_neg (by grind)]; done)
        exact ⟨_, by first | (rw [hF] <;> rfl) | rfl | (rw [hF]; simp only [Ending.returned.injEq, Value.slice.injEq, true_and, and_true]; first | omega | (simp; done)) | (rw [hF]; simp; omega), by rw [hF]; exact (HH78.o (i := 0) rfl), HH78.below⟩
      · replace hc28 := Classical.not_not.1 hc28
        refine pl_x HE58 HH32 (wtT HE58 rfl rfl rfl (bne_f hc28)) (x_fieldAddr fa_55_1 rfl) rfl rfl fun a_79 HE80 => ?_
        refine pl_x HE80 HH32 (wtT HE80 rfl rfl rfl (bne_f hc28)) (x_load1 tv_2 rfl (c_blk 2 rfl rfl)) rfl rfl fun a_81 HE82 => ?_
        refine pl_x HE82 HH32 (wtT HE82 rfl rfl rfl (bne_f hc28)) (x_fieldAddr fa_55_1 rfl) rfl rfl fun a_83 HE84 => ?_
        refine pl_x HE84 HH32 (wtT HE84 rfl rfl rfl (bne_f hc28)) (x_load1 tv_2 rfl (c_blk 1 rfl rfl)) rfl rfl fun a_85 HE86 => ?_
        refine pl_x HE86 HH32 (wtT HE86 rfl rfl rfl (bne_f hc28)) (x_neq rfl rfl) rfl rfl fun a_87 HE88 => ?_
        refine pl_x HE88 HH32 (wt0 rfl) (x_pickF rfl (bne_f hc28) rfl) rfl rfl fun a_89 HE90 => ?_
        refine wpList_nil ?_
        clear a_37 HE38 a_47 HE48 a_49 HE50 a_51 HE52 a_53 HE54 a_55 HE56 a_57 HE58 a_79 HE80 a_81 HE82 a_83 HE84 a_85 HE86 a_87 HE88
        refine nrm ?_
        refine cnd_ne HE90 rfl (fun hc29 => ?_) (fun hc29 => ?_)
        · refine wp_seq ?_
          refine rg ?_
          refine pl_x HE90 HH32 (wt0 rfl) (show XS _ _ _ _ (.agg #[.int .i64 (0), .int .i64 (0), .int .i64 (0), .slice none (0) 0]) from x_build (vs := []) tb_55 rfl (by simp [Value.oneCell'])) rfl rfl fun a_91 HE92 => ?_
          refine pl fun K_93 hK94 => ?_
          refine st_store (vs := [.int .i64 (0), .int .i64 (0), .int .i64 (0), .slice none (0) 0]) 0 HE92 HH32 tv_55 rfl rfl rfl rfl rfl rfl (by simp [Value.oneCell']) (wt0 rfl) fun w' HH95 => hK94 _ _ ?_
          refine pl_x HE92 HH95 (wt0 rfl) (x_assign rfl) rfl rfl fun a_96 HE97 => ?_
          refine wpList_nil ?_
          clear a_89 HE90 HH32 a_91 HE92 hK94 K_93
          refine nrm ?_
          refine wp_ret ?_
          refine (thn_ret ?_)
          refine ret2 HE97 rfl (rv_cell rfl (tv_55.loadN (cs := [.int .i64 (0), .int .i64 (0), .int .i64 (0), .slice none (0) 0]) rfl (c_blkN 0 rfl _ HH95))) (rv_tmp rfl) ?_
          have HH98 := HH95.flatO (E := eMulti) (cs := [.int .i64 (0), .int .i64 (0), .int .i64 (0), .slice none (0) 0]) (x := (0, 0, 0, [])) (fun _ => (oPrN (oI (by exact ⟨by omega, by omega⟩)) (oPrN (oI (by exact ⟨by omega, by omega⟩)) (oPrN (oI (by exact ⟨by omega, by omega⟩)) (oSl (So.nil (Nat.zero_le _)))))))
          have hF : (seqMulti a0 a1) = ((0, 0, 0, []), 2) := by
            first | (have hmq : (a0.1, a0.2.1, (a0.2.2.1 + a1.2.2.1), (sortMR (seqB a0 a0.2.2.1.toNat ++ (a1.2.2.2.take j).map (moveRl a0.2.2.1)))) = seqM a0 a1 := (by rw [List.take_of_length_le (by omega)]; rfl); have hcc := hc29; rw [hmq] at hcc; unfold seqMulti; rw [if_pos ⟨hva, hvb⟩, if_pos ⟨by omega, by omega⟩]; first | (rw [if_pos hcc, hmq]; done) | (rw [if_pos hcc, hmq]; rfl) | (rw [if_neg (by rw [hcc]; exact Bool.false_ne_true)]; done)) | (simp [seqMulti, hc25, hc27, hc28, hc29]; done) | (unfold seqMulti; rw [if_neg (by grind)]; done) | (unfold seqMulti; rw [if_pos ⟨hva, hvb⟩, if_neg (by grind)]; done)
          exact ⟨_, by first | (rw [hF] <;> rfl) | rfl | (rw [hF]; simp only [Ending.returned.injEq, Value.slice.injEq, true_and, and_true]; first | omega | (simp; done)) | (rw [hF]; simp; omega), by rw [hF]; exact (HH98.o (i := 0) rfl), HH98.below⟩
        · refine wp_skip ?_
          refine nrm ?_
          refine wp_seq ?_
          refine rg ?_
          refine pl_x HE90 HH32 (wt0 rfl) (x_fieldAddr fa_55_0 rfl) rfl rfl fun a_99 HE100 => ?_
          refine pl_x HE100 HH32 (wt0 rfl) (x_load1 tv_2 rfl (c_blk 2 rfl rfl)) rfl rfl fun a_101 HE102 => ?_
          refine pl_x HE102 HH32 (wt0 rfl) (x_fieldAddr fa_55_1 rfl) rfl rfl fun a_103 HE104 => ?_
          refine pl_x HE104 HH32 (wt0 rfl) (x_load1 tv_2 rfl (c_blk 2 rfl rfl)) rfl rfl fun a_105 HE106 => ?_
          refine pl_x HE106 HH32 (wt0 rfl) (x_fieldAddr fa_55_2 rfl) rfl rfl fun a_107 HE108 => ?_
          refine pl_x HE108 HH32 (wt0 rfl) (x_load1 tv_2 rfl (c_blk 2 rfl rfl)) rfl rfl fun a_109 HE110 => ?_
          refine pl_x HE110 HH32 (wt0 rfl) (x_fieldAddr fa_55_2 rfl) rfl rfl fun a_111 HE112 => ?_
          refine pl_x HE112 HH32 (wt0 rfl) (x_load1 tv_2 rfl (c_blk 1 rfl rfl)) rfl rfl fun a_113 HE114 => ?_
          refine pl_x HE114 HH32 (wt0 rfl) (x_add rfl rfl (by exact ⟨by omega, by omega⟩)) rfl rfl fun a_115 HE116 => ?_
          refine pl_x HE116 HH32 (wt0 rfl) (show XS _ _ _ _ (.agg #[.int .i64 (a0.1), .int .i64 (a0.2.1), .int .i64 ((a0.2.2.1 + a1.2.2.1)), .slice none (0) 0]) from x_build (vs := [(0, .int .i64 (a0.1)), (1, .int .i64 (a0.2.1)), (2, .int .i64 ((a0.2.2.1 + a1.2.2.1)))]) tb_55 rfl (by simp [Value.oneCell'])) rfl rfl fun a_117 HE118 => ?_
          refine pl fun K_119 hK120 => ?_
          refine st_alloc HE118 HH32 tv_55 (wt0 rfl) rfl fun q30 a_121 w' HE122 HH123 => hK120 _ _ ?_
          refine pl fun K_124 hK125 => ?_
          refine st_store (vs := [.int .i64 (a0.1), .int .i64 (a0.2.1), .int .i64 ((a0.2.2.1 + a1.2.2.1)), .slice none (0) 0]) 0 HE122 HH123 tv_55 rfl rfl rfl rfl rfl rfl (by simp [Value.oneCell']) (wt0 rfl) fun w' HH126 => hK125 _ _ ?_
          refine wpList_nil ?_
          clear a_89 HE90 a_99 HE100 a_101 HE102 a_103 HE104 a_105 HE106 a_107 HE108 a_109 HE110 a_111 HE112 a_113 HE114 a_115 HE116 a_117 HE118 HH32 K_119 hK120 HH123 hK125 K_124
          refine nrm ?_
          refine wp_seq ?_
          refine wp_seq ?_
          refine rg ?_
          refine pl_x HE122 HH126 (wt0 rfl) (x_assign rfl) rfl rfl fun a_127 HE128 => ?_
          refine wpList_nil ?_
          clear a_121 HE122
          refine nrm ?_
          refine wp_block ?_
          have HH129 := HH126.vecNil eMultiRule 104
          refine lp (fun m a w' => ∃ (i : Nat) (A_6_3 : Option Addr) (c_6_3 : Nat) (S_6_3 : Nat → Prop), m = a0.2.2.2.length - i ∧ Env 114 [(7, .int .i64 (i : Int)), (2, .pointer (some ⟨q21, 0, none⟩)), (3, .pointer (some ⟨q22, 0, none⟩)), (4, .pointer (some ⟨q23, 0, none⟩)), (6, .pointer (some ⟨q30, 0, none⟩))] a ∧ Held Nob w [rVec eMultiRule 104 S_6_3 A_6_3 c_6_3 (sortMR (a0.2.2.2.take i)), rBlk q30 55 [.int .i64 a0.1, .int .i64 a0.2.1, .int .i64 (a0.2.2.1 + a1.2.2.1), .slice A_6_3 (List.length (sortMR (a0.2.2.2.take i))) c_6_3], rBlk q23 55 [.int .i64 (0), .int .i64 (0), .int .i64 (0), .slice none (0) 0], rBlk q22 55 [.int .i64 (a1.1), .int .i64 (a1.2.1), .int .i64 (a1.2.2.1), .slice Az1_3 (a1.2.2.2.length) cz1_3], rBlk q21 55 [.int .i64 (a0.1), .int .i64 (a0.2.1), .int .i64 (a0.2.2.1), .slice Az0_3 (a0.2.2.2.length) cz0_3]] w' ∧ (i ≤ a0.2.2.2.length)) (a0.2.2.2.length - (0)) ?_ ?_
          · have E31 : sortMR (a0.2.2.2.take 0) = [] := by
              rfl
            exact ⟨0, none, 0, Nob, rfl, HE128.sub ⟨(lkI rfl (by first | rfl | omega | (simp [hc25, hc27, hc28, hc29]; done))), rfl, rfl, rfl, rfl, trivial⟩, ((HH129.sel [0, 1, 2, 3, 4] (by decide) rfl).to (by first | rfl | (rw [E31]; done) | (rw [E31]; rfl) | (simp only [E31]; done) | (simp only [E31]; rfl) | (rw [E31]; simp only [List.length_set]; done))), (by first | omega | assumption | (simp; done) | simp_all)⟩
          · rintro m a_130 w' ⟨i, A_6_3, c_6_3, S_6_3, rfl, HE131, HH132, p32_0⟩
            have ol : (sortMR (a0.2.2.2.take i)).length = i := by rw [sortMR_len, List.length_take]; omega
            refine wp_seq ?_
            refine wp_seq ?_
            refine rg ?_
            refine pl_x HE131 HH132 (wt0 rfl) (x_move rfl) rfl rfl fun a_133 HE134 => ?_
            refine pl_x HE134 HH132 (wt0 rfl) (x_fieldAddr fa_55_3 rfl) rfl rfl fun a_135 HE136 => ?_
            refine pl_x HE136 HH132 (wt0 rfl) (x_load1 tv_53 rfl (c_blk 4 rfl rfl)) rfl rfl fun a_137 HE138 => ?_
            refine pl_x HE138 HH132 (wt0 rfl) (x_len Try.underlying53 rfl) rfl rfl fun a_139 HE140 => ?_
            refine pl_x HE140 HH132 (wt0 rfl) (x_lss rfl rfl) rfl rfl fun a_141 HE142 => ?_
            refine wpList_nil ?_
            clear HH126 a_127 HE128 HH129 a_130 HE131 a_133 HE134 a_135 HE136 a_137 HE138 a_139 HE140
            refine nrm ?_
            refine cnd_d HE142 rfl (fun hc33 => ?_) (fun hc33 => ?_)
            · refine wp_skip ?_
              refine nrm ?_
              refine wp_seq ?_
              refine wp_block ?_
              have ke34 : i < a0.2.2.2.length := by omega
              obtain ⟨be34, fe34, ese34, Ae34, Re34, De34⟩ := el_old gz0_3 ke34
              obtain ⟨e34, xe34⟩ : ∃ x_, x_ = a0.2.2.2[i] := ⟨_, rfl⟩
              rw [← xe34] at Re34
              have Qe34 := Re34
              obtain ⟨Ae34_1, ce34_1, Ae34_2, ce34_2, Ae34_3, ce34_3, rfl, ge34_0, ge34_1, ge34_2, ge34_3, ge34_4⟩ := shape_MultiRule Re34
              have je34_0 := ge34_0; unfold I64 at je34_0
              have le34_1 := ge34_1.len
              have le34_2 := ge34_2.len
              have le34_3 := ge34_3.len
              have je34_4 := ge34_4; unfold I64 at je34_4
              have hre34 := hra e34 (by rw [xe34]; exact List.getElem_mem _)
              refine wp_join (fun a w' => ∃ (Sr43_90 : Nat → Prop), ∃ (Ar43_90 : Option Addr), ∃ (cr43_90 : Nat), Env 114 [(2, .pointer (some ⟨q21, 0, none⟩)), (3, .pointer (some ⟨q22, 0, none⟩)), (4, .pointer (some ⟨q23, 0, none⟩)), (6, .pointer (some ⟨q30, 0, none⟩)), (7, .int .i64 ((i : Int)))] a ∧ Held Nob w [rVec eMultiRule 104 Sr43_90 Ar43_90 cr43_90 (putMR (sortMR (a0.2.2.2.take i)) (moveR2 e34 0)), rBlk q30 55 [.int .i64 (a0.1), .int .i64 (a0.2.1), .int .i64 ((a0.2.2.1 + a1.2.2.1)), .slice Ar43_90 ((putMR (sortMR (a0.2.2.2.take i)) (moveR2 e34 0)).length) cr43_90], rBlk q23 55 [.int .i64 (0), .int .i64 (0), .int .i64 (0), .slice none (0) 0], rBlk q22 55 [.int .i64 (a1.1), .int .i64 (a1.2.1), .int .i64 (a1.2.2.1), .slice Az1_3 (a1.2.2.2.length) cz1_3], rBlk q21 55 [.int .i64 (a0.1), .int .i64 (a0.2.1), .int .i64 (a0.2.2.1), .slice Az0_3 (a0.2.2.2.length) cz0_3]] w') ?_ ?_
              · refine dr_start (Held Nob w [rBlk q23 55 [.int .i64 (0), .int .i64 (0), .int .i64 (0), .slice none (0) 0], rBlk q22 55 [.int .i64 (a1.1), .int .i64 (a1.2.1), .int .i64 (a1.2.2.1), .slice Az1_3 (a1.2.2.2.length) cz1_3], rBlk q21 55 [.int .i64 (a0.1), .int .i64 (a0.2.1), .int .i64 (a0.2.2.1), .slice Az0_3 (a0.2.2.2.length) cz0_3]]) 10 #[false, false, false, false, false, false, false, false, false, false] hmix rfl rfl HH132 (fun _ h => h.sel [2, 3, 4] (by decide) rfl) fun w' HH143 => ?_
                have HS144 := HH143.sel [2, 3, 4] (by decide) rfl
                refine dr_take (i := 0) (ls' := #[true, false, false, false, false, false, false, false, false, false]) HE142 HS144 rfl (by kernel_rfl) (by kernel_rfl) (by kernel_rfl) (fun _ _ _ h => h) rfl (wt0 rfl) (x_fieldAddr fa_55_3 rfl) rfl rfl fun a_145 HE146 => ?_
                refine dr_take (i := 2) (ls' := #[true, false, true, false, false, false, false, false, false, false]) HE146 HS144 rfl (by kernel_rfl) (by kernel_rfl) (by kernel_rfl) (fun _ _ _ h => h) rfl (wt0 rfl) (x_fieldAddr fa_55_3 rfl) rfl rfl fun a_147 HE148 => ?_
                refine dr_take (i := 3) (ls' := #[true, false, true, true, false, false, false, false, false, false]) HE148 HS144 rfl (by kernel_rfl) (by kernel_rfl) (by kernel_rfl) (fun _ _ _ h => h) rfl (wt0 rfl) (x_load1 tv_53 rfl (c_blk 2 rfl rfl)) rfl rfl fun a_149 HE150 => ?_
                refine dr_take (i := 4) (ls' := #[true, false, true, true, true, false, false, false, false, false]) HE150 HS144 rfl (by kernel_rfl) (by kernel_rfl) (by kernel_rfl) (fun _ _ _ h => h) rfl (wt0 rfl) (x_move rfl) rfl rfl fun a_151 HE152 => ?_
                refine dr_take (i := 5) (ls' := #[true, false, true, true, true, true, false, false, false, false]) HE152 HS144 rfl (by kernel_rfl) (by kernel_rfl) (by kernel_rfl) (fun _ _ _ h => h) rfl (wt0 rfl) (x_indexAddr ts_53 rfl rfl Ae34 rfl ke34) rfl rfl fun a_153 HE154 => ?_
                refine dr_two (i := 1) (j := 6) (ls' := #[true, true, true, true, true, true, false, false, false, false]) (ls'' := #[true, false, true, true, true, true, true, false, false, false]) rfl rfl (by kernel_rfl) rfl rfl (fun K_155 hK156 => ?_) (fun K_155 hK156 => ?_)
                · refine st_x HE154 HH143 (wt0 rfl) (x_load1 tv_53 rfl (c_blk 1 rfl rfl)) rfl rfl fun a_157 HE158 => hK156 _ _ HS144 ?_
                  refine dr_one (i := 6) (ls' := #[true, true, true, true, true, true, true, false, false, false]) rfl (by kernel_rfl) rfl fun K_159 hK160 => ?_
                  refine st_call HE158 (wt0 rfl) rfl rfl rfl en_70 rfl rfl (spec_l06OwnRule _ _ _ e34 0 _ (HH143.oldR Qe34) (c_oldN De34 _ HH143) (by omega) (by omega)) fun e w' hr => ?_
                  obtain ⟨esr35_0, rfl, hor35_0, hbr35⟩ := hr
                  have hr := eMultiRule.read hor35_0
                  obtain ⟨Sr35, HH161⟩ := HH143.newO hbr35 hor35_0
                  obtain ⟨Ar35_0_1, cr35_0_1, Ar35_0_2, cr35_0_2, Ar35_0_3, cr35_0_3, rfl, gr35_0_0, gr35_0_1, gr35_0_2, gr35_0_3, gr35_0_4⟩ := shape_MultiRule hr
                  have jr35_0_0 := gr35_0_0; unfold I64 at jr35_0_0
                  have jr35_0_4 := gr35_0_4; unfold I64 at jr35_0_4
                  have HH162 := HH161.unF rfl
                  obtain ⟨S36, S37, HH163⟩ := HH162.unP rfl
                  have HH164 := HH163.sel [1, 0, 2, 3, 4, 5, 6] (by decide) rfl
                  obtain ⟨S38, S39, HH165⟩ := HH164.unP rfl
                  have HH166 := HH165.sel [1, 0, 2, 3, 4, 5, 6, 7] (by decide) rfl
                  obtain ⟨S40, S41, HH167⟩ := HH166.unP rfl
                  have HH168 := HH167.sel [1, 0, 2, 3, 4, 5, 6, 7, 8] (by decide) rfl
                  have HH169 := HH168.sel [1, 2, 3, 4, 5, 6, 7, 8] (by decide) rfl
                  refine ⟨_, rfl, fun a_170 HE171 => hK160 _ _ (by exact HH169.sel [5, 6, 7] (by decide) rfl) ?_⟩
                  have HS172 := HH169.sel [5, 6, 7] (by decide) rfl
                  refine dr_one (i := 7) (ls' := #[true, true, true, true, true, true, true, true, false, false]) rfl (by kernel_rfl) rfl fun K_173 hK174 => ?_
                  have HH175 := HH169.sel [2, 1, 0, 3, 4, 5, 6, 7] (by decide) rfl
                  have HH176 := HH175.sel [2, 0, 1, 3, 4, 5, 6, 7] (by decide) rfl
                  have HH177 := HH176.pairB (F := eInt) (c2 := [.int .i64 ((moveR2 e34 0).2.2.2.2)]) (y := (moveR2 e34 0).2.2.2.2) (oI (by exact ⟨by omega, by omega⟩))
                  have HH178 := HH177.sel [2, 0, 1, 3, 4, 5, 6, 7] (by decide) rfl
                  have HH179 := HH178.pair
                  have HH180 := HH179.sel [1, 0, 2, 3, 4, 5, 6] (by decide) rfl
                  have HH181 := HH180.pair
                  have HH182 := HH181.pairF (E := eInt) (c1 := [.int .i64 ((moveR2 e34 0).1)]) (x := (moveR2 e34 0).1) (oI (by exact ⟨by omega, by omega⟩))
                  obtain ⟨S42, HH183⟩ : ∃ S, Held Nob w (rO eMultiRule S [.int .i64 ((moveR2 e34 0).1), .slice Ar35_0_1 ((moveR2 e34 0).2.1.length) cr35_0_1, .slice Ar35_0_2 ((moveR2 e34 0).2.2.1.length) cr35_0_2, .slice Ar35_0_3 ((moveR2 e34 0).2.2.2.1.length) cr35_0_3, .int .i64 ((moveR2 e34 0).2.2.2.2)] (moveR2 e34 0) :: _) _ := ⟨_, HH182⟩
                  have HH184 := HH183.sel [1, 0, 2, 3, 4, 5] (by decide) rfl
                  have HH185 : Held Nob w ([rVec eMultiRule 104 S_6_3 A_6_3 c_6_3 (sortMR (a0.2.2.2.take i)), rO eMultiRule S42 [.int .i64 ((moveR2 e34 0).1), .slice Ar35_0_1 ((moveR2 e34 0).2.1.length) cr35_0_1, .slice Ar35_0_2 ((moveR2 e34 0).2.2.1.length) cr35_0_2, .slice Ar35_0_3 ((moveR2 e34 0).2.2.2.1.length) cr35_0_3, .int .i64 ((moveR2 e34 0).2.2.2.2)] (moveR2 e34 0)] ++ [rBlk q30 55 [.int .i64 (a0.1), .int .i64 (a0.2.1), .int .i64 ((a0.2.2.1 + a1.2.2.1)), .slice A_6_3 ((List.length (sortMR (a0.2.2.2.take i)))) c_6_3], rBlk q23 55 [.int .i64 (0), .int .i64 (0), .int .i64 (0), .slice none (0) 0], rBlk q22 55 [.int .i64 (a1.1), .int .i64 (a1.2.1), .int .i64 (a1.2.2.1), .slice Az1_3 (a1.2.2.2.length) cz1_3], rBlk q21 55 [.int .i64 (a0.1), .int .i64 (a0.2.1), .int .i64 (a0.2.2.1), .slice Az0_3 (a0.2.2.2.length) cz0_3]]) _ := HH184
                  refine st_call HE171 (wt0 rfl) rfl rfl rfl en_69 rfl rfl (spec_l06Put (Foot [rVec eMultiRule 104 S_6_3 A_6_3 c_6_3 (sortMR (a0.2.2.2.take i)), rO eMultiRule S42 [.int .i64 ((moveR2 e34 0).1), .slice Ar35_0_1 ((moveR2 e34 0).2.1.length) cr35_0_1, .slice Ar35_0_2 ((moveR2 e34 0).2.2.1.length) cr35_0_2, .slice Ar35_0_3 ((moveR2 e34 0).2.2.2.1.length) cr35_0_3, .int .i64 ((moveR2 e34 0).2.2.2.2)] (moveR2 e34 0)]) _ _ (sortMR (a0.2.2.2.take i)) _ _ (moveR2 e34 0) _ _ HH185.focus (by first | omega | (simp only [putMR_len, palS_len, List.length_nil]; omega))) fun e w' hr => ?_
                  obtain ⟨Ar43_90, cr43_90, Sr43_90, rfl, hbr43⟩ := hr
                  have HH186 := HH185.back hbr43
                  clear hbr43
                  have HH187 : Held Nob w ([rVec eMultiRule 104 Sr43_90 Ar43_90 cr43_90 (putMR (sortMR (a0.2.2.2.take i)) (moveR2 e34 0))] ++ [rBlk q30 55 [.int .i64 (a0.1), .int .i64 (a0.2.1), .int .i64 ((a0.2.2.1 + a1.2.2.1)), .slice A_6_3 ((List.length (sortMR (a0.2.2.2.take i)))) c_6_3], rBlk q23 55 [.int .i64 (0), .int .i64 (0), .int .i64 (0), .slice none (0) 0], rBlk q22 55 [.int .i64 (a1.1), .int .i64 (a1.2.1), .int .i64 (a1.2.2.1), .slice Az1_3 (a1.2.2.2.length) cz1_3], rBlk q21 55 [.int .i64 (a0.1), .int .i64 (a0.2.1), .int .i64 (a0.2.2.1), .slice Az0_3 (a0.2.2.2.length) cz0_3]]) _ := HH186
                  refine ⟨_, rfl, fun a_188 HE189 => hK174 _ _ (by exact HH187.sel [2, 3, 4] (by decide) rfl) ?_⟩
                  have HS190 := HH187.sel [2, 3, 4] (by decide) rfl
                  refine dr_take (i := 8) (ls' := #[true, true, true, true, true, true, true, true, true, false]) HE189 HS190 rfl (by kernel_rfl) (by kernel_rfl) (by kernel_rfl) (fun _ _ _ h => h) rfl (wt0 rfl) (x_fieldAddr fa_55_3 rfl) rfl rfl fun a_191 HE192 => ?_
                  refine dr_one (i := 9) (ls' := #[true, true, true, true, true, true, true, true, true, true]) rfl (by kernel_rfl) rfl fun K_193 hK194 => ?_
                  refine st_store (vs := [.slice Ar43_90 ((putMR (sortMR (a0.2.2.2.take i)) (moveR2 e34 0)).length) cr43_90]) 1 HE192 HH187 tv_53 rfl rfl rfl rfl rfl rfl (by simp [Value.oneCell']) (wt0 rfl) fun w' HH195 => hK194 _ _ (by exact HH195.sel [2, 3, 4] (by decide) rfl) ?_
                  have HS196 := HH195.sel [2, 3, 4] (by decide) rfl
                  refine dr_done (by kernel_rfl) ?_
                  clear HH132 a_141 HE142 a_145 HE146 a_147 HE148 a_149 HE150 a_151 HE152 a_153 HE154 K_155 hK156 HH143 HH161 HH162 HH163 HH164 HH165 HH166 HH167 HH168 a_157 HE158 HS144 K_159 hK160 HH169 HH175 HH176 HH177 HH178 HH179 HH180 HH181 HH182 HH183 HH184 HH185 HH186 a_170 HE171 HS172 a_188 HE189 K_173 hK174 HH187 HS190 hK194 K_193
                  exact nrm ⟨_, _, _, HE192.sub ⟨rfl, rfl, rfl, rfl, rfl, trivial⟩, HH195.sel [0, 1, 2, 3, 4] (by decide) rfl⟩
                · refine st_call HE154 (wt0 rfl) rfl rfl rfl en_70 rfl rfl (spec_l06OwnRule _ _ _ e34 0 _ (HH143.oldR Qe34) (c_oldN De34 _ HH143) (by omega) (by omega)) fun e w' hr => ?_
                  obtain ⟨esr44_0, rfl, hor44_0, hbr44⟩ := hr
                  have hr := eMultiRule.read hor44_0
                  obtain ⟨Sr44, HH197⟩ := HH143.newO hbr44 hor44_0
                  obtain ⟨Ar44_0_1, cr44_0_1, Ar44_0_2, cr44_0_2, Ar44_0_3, cr44_0_3, rfl, gr44_0_0, gr44_0_1, gr44_0_2, gr44_0_3, gr44_0_4⟩ := shape_MultiRule hr
                  have jr44_0_0 := gr44_0_0; unfold I64 at jr44_0_0
                  have jr44_0_4 := gr44_0_4; unfold I64 at jr44_0_4
                  have HH198 := HH197.unF rfl
                  obtain ⟨S45, S46, HH199⟩ := HH198.unP rfl
                  have HH200 := HH199.sel [1, 0, 2, 3, 4, 5, 6] (by decide) rfl
                  obtain ⟨S47, S48, HH201⟩ := HH200.unP rfl
                  have HH202 := HH201.sel [1, 0, 2, 3, 4, 5, 6, 7] (by decide) rfl
                  obtain ⟨S49, S50, HH203⟩ := HH202.unP rfl
                  have HH204 := HH203.sel [1, 0, 2, 3, 4, 5, 6, 7, 8] (by decide) rfl
                  have HH205 := HH204.sel [1, 2, 3, 4, 5, 6, 7, 8] (by decide) rfl
                  refine ⟨_, rfl, fun a_206 HE207 => hK156 _ _ (by exact HH205.sel [5, 6, 7] (by decide) rfl) ?_⟩
                  have HS208 := HH205.sel [5, 6, 7] (by decide) rfl
                  refine dr_one (i := 1) (ls' := #[true, true, true, true, true, true, true, false, false, false]) rfl (by kernel_rfl) rfl fun K_209 hK210 => ?_
                  refine st_x HE207 HH205 (wt0 rfl) (x_load1 tv_53 rfl (c_blk 4 rfl rfl)) rfl rfl fun a_211 HE212 => hK210 _ _ HS208 ?_
                  refine dr_one (i := 7) (ls' := #[true, true, true, true, true, true, true, true, false, false]) rfl (by kernel_rfl) rfl fun K_213 hK214 => ?_
                  have HH215 := HH205.sel [2, 1, 0, 3, 4, 5, 6, 7] (by decide) rfl
                  have HH216 := HH215.sel [2, 0, 1, 3, 4, 5, 6, 7] (by decide) rfl
                  have HH217 := HH216.pairB (F := eInt) (c2 := [.int .i64 ((moveR2 e34 0).2.2.2.2)]) (y := (moveR2 e34 0).2.2.2.2) (oI (by exact ⟨by omega, by omega⟩))
                  have HH218 := HH217.sel [2, 0, 1, 3, 4, 5, 6, 7] (by decide) rfl
                  have HH219 := HH218.pair
                  have HH220 := HH219.sel [1, 0, 2, 3, 4, 5, 6] (by decide) rfl
                  have HH221 := HH220.pair
                  have HH222 := HH221.pairF (E := eInt) (c1 := [.int .i64 ((moveR2 e34 0).1)]) (x := (moveR2 e34 0).1) (oI (by exact ⟨by omega, by omega⟩))
                  obtain ⟨S51, HH223⟩ : ∃ S, Held Nob w (rO eMultiRule S [.int .i64 ((moveR2 e34 0).1), .slice Ar44_0_1 ((moveR2 e34 0).2.1.length) cr44_0_1, .slice Ar44_0_2 ((moveR2 e34 0).2.2.1.length) cr44_0_2, .slice Ar44_0_3 ((moveR2 e34 0).2.2.2.1.length) cr44_0_3, .int .i64 ((moveR2 e34 0).2.2.2.2)] (moveR2 e34 0) :: _) _ := ⟨_, HH222⟩
                  have HH224 := HH223.sel [1, 0, 2, 3, 4, 5] (by decide) rfl
                  have HH225 : Held Nob w ([rVec eMultiRule 104 S_6_3 A_6_3 c_6_3 (sortMR (a0.2.2.2.take i)), rO eMultiRule S51 [.int .i64 ((moveR2 e34 0).1), .slice Ar44_0_1 ((moveR2 e34 0).2.1.length) cr44_0_1, .slice Ar44_0_2 ((moveR2 e34 0).2.2.1.length) cr44_0_2, .slice Ar44_0_3 ((moveR2 e34 0).2.2.2.1.length) cr44_0_3, .int .i64 ((moveR2 e34 0).2.2.2.2)] (moveR2 e34 0)] ++ [rBlk q30 55 [.int .i64 (a0.1), .int .i64 (a0.2.1), .int .i64 ((a0.2.2.1 + a1.2.2.1)), .slice A_6_3 ((List.length (sortMR (a0.2.2.2.take i)))) c_6_3], rBlk q23 55 [.int .i64 (0), .int .i64 (0), .int .i64 (0), .slice none (0) 0], rBlk q22 55 [.int .i64 (a1.1), .int .i64 (a1.2.1), .int .i64 (a1.2.2.1), .slice Az1_3 (a1.2.2.2.length) cz1_3], rBlk q21 55 [.int .i64 (a0.1), .int .i64 (a0.2.1), .int .i64 (a0.2.2.1), .slice Az0_3 (a0.2.2.2.length) cz0_3]]) _ := HH224
                  refine st_call HE212 (wt0 rfl) rfl rfl rfl en_69 rfl rfl (spec_l06Put (Foot [rVec eMultiRule 104 S_6_3 A_6_3 c_6_3 (sortMR (a0.2.2.2.take i)), rO eMultiRule S51 [.int .i64 ((moveR2 e34 0).1), .slice Ar44_0_1 ((moveR2 e34 0).2.1.length) cr44_0_1, .slice Ar44_0_2 ((moveR2 e34 0).2.2.1.length) cr44_0_2, .slice Ar44_0_3 ((moveR2 e34 0).2.2.2.1.length) cr44_0_3, .int .i64 ((moveR2 e34 0).2.2.2.2)] (moveR2 e34 0)]) _ _ (sortMR (a0.2.2.2.take i)) _ _ (moveR2 e34 0) _ _ HH225.focus (by first | omega | (simp only [putMR_len, palS_len, List.length_nil]; omega))) fun e w' hr => ?_
                  obtain ⟨Ar52_90, cr52_90, Sr52_90, rfl, hbr52⟩ := hr
                  have HH226 := HH225.back hbr52
                  clear hbr52
                  have HH227 : Held Nob w ([rVec eMultiRule 104 Sr52_90 Ar52_90 cr52_90 (putMR (sortMR (a0.2.2.2.take i)) (moveR2 e34 0))] ++ [rBlk q30 55 [.int .i64 (a0.1), .int .i64 (a0.2.1), .int .i64 ((a0.2.2.1 + a1.2.2.1)), .slice A_6_3 ((List.length (sortMR (a0.2.2.2.take i)))) c_6_3], rBlk q23 55 [.int .i64 (0), .int .i64 (0), .int .i64 (0), .slice none (0) 0], rBlk q22 55 [.int .i64 (a1.1), .int .i64 (a1.2.1), .int .i64 (a1.2.2.1), .slice Az1_3 (a1.2.2.2.length) cz1_3], rBlk q21 55 [.int .i64 (a0.1), .int .i64 (a0.2.1), .int .i64 (a0.2.2.1), .slice Az0_3 (a0.2.2.2.length) cz0_3]]) _ := HH226
                  refine ⟨_, rfl, fun a_228 HE229 => hK214 _ _ (by exact HH227.sel [2, 3, 4] (by decide) rfl) ?_⟩
                  have HS230 := HH227.sel [2, 3, 4] (by decide) rfl
                  refine dr_take (i := 8) (ls' := #[true, true, true, true, true, true, true, true, true, false]) HE229 HS230 rfl (by kernel_rfl) (by kernel_rfl) (by kernel_rfl) (fun _ _ _ h => h) rfl (wt0 rfl) (x_fieldAddr fa_55_3 rfl) rfl rfl fun a_231 HE232 => ?_
                  refine dr_one (i := 9) (ls' := #[true, true, true, true, true, true, true, true, true, true]) rfl (by kernel_rfl) rfl fun K_233 hK234 => ?_
                  refine st_store (vs := [.slice Ar52_90 ((putMR (sortMR (a0.2.2.2.take i)) (moveR2 e34 0)).length) cr52_90]) 1 HE232 HH227 tv_53 rfl rfl rfl rfl rfl rfl (by simp [Value.oneCell']) (wt0 rfl) fun w' HH235 => hK234 _ _ (by exact HH235.sel [2, 3, 4] (by decide) rfl) ?_
                  have HS236 := HH235.sel [2, 3, 4] (by decide) rfl
                  refine dr_done (by kernel_rfl) ?_
                  clear HH132 a_141 HE142 a_145 HE146 a_147 HE148 a_149 HE150 a_151 HE152 HH143 HH197 HH198 HH199 HH200 HH201 HH202 HH203 HH204 a_153 HE154 HS144 K_155 hK156 a_206 HE207 K_209 hK210 HH205 HH215 HH216 HH217 HH218 HH219 HH220 HH221 HH222 HH223 HH224 HH225 HH226 a_211 HE212 HS208 a_228 HE229 K_213 hK214 HH227 HS230 hK234 K_233
                  exact nrm ⟨_, _, _, HE232.sub ⟨rfl, rfl, rfl, rfl, rfl, trivial⟩, HH235.sel [0, 1, 2, 3, 4] (by decide) rfl⟩
              · rintro a_237 w' ⟨Sr43_90, Ar43_90, cr43_90, HE238, HH239⟩
                refine blk_n ?_
                refine nrm ?_
                refine rg ?_
                refine pl_x HE238 HH239 (wt0 rfl) (x_move rfl) rfl rfl fun a_240 HE241 => ?_
                refine pl_x HE241 HH239 (wt0 rfl) (x_add rfl rfl (by exact ⟨by omega, by omega⟩)) rfl rfl fun a_242 HE243 => ?_
                refine pl_x HE243 HH239 (wt0 rfl) (x_assign rfl) rfl rfl fun a_244 HE245 => ?_
                refine wpList_nil ?_
                clear a_141 HE142 HH132 a_237 HE238 a_240 HE241 a_242 HE243
                have E53 : sortMR (a0.2.2.2.take (i + 1)) = (putMR (sortMR (a0.2.2.2.take i)) (moveR2 e34 0)) := by
                  rw [List.take_succ_eq_append_getElem (by omega), sortMR_snoc, ← xe34]; unfold moveR2; rw [moveRl_zero]
                exact nrm ⟨a0.2.2.2.length - (i + 1), (by omega), i + 1, Ar43_90, cr43_90, Sr43_90, rfl, HE245.sub ⟨(lkI rfl (by first | rfl | omega | (simp [hc25, hc27, hc28, hc29, p32_0, hc33, xe34]; done))), rfl, rfl, rfl, rfl, trivial⟩, ((HH239.sel [0, 1, 2, 3, 4] (by decide) rfl).to (by first | rfl | (rw [E53]; done) | (rw [E53]; rfl) | (simp only [E53]; done) | (simp only [E53]; rfl) | (rw [E53]; simp only [List.length_set]; done))), (by first | omega | assumption | (simp; done) | simp_all)⟩
            · refine wp_exit ?_
              refine (thn_exit (thn_exit (blk_hit ?_)))
              refine nrm ?_
              refine wp_seq ?_
              refine wp_seq ?_
              refine rg ?_
              refine pl_x HE142 HH132 (wt0 rfl) (x_assign rfl) rfl rfl fun a_246 HE247 => ?_
              refine wpList_nil ?_
              clear a_141 HE142
              refine nrm ?_
              refine wp_block ?_
              refine lp (fun m a w' => ∃ (k : Nat) (A_6_3 : Option Addr) (c_6_3 : Nat) (S_6_3 : Nat → Prop), m = a0.2.2.1.toNat - k ∧ Env 114 [(8, .int .i64 (k : Int)), (2, .pointer (some ⟨q21, 0, none⟩)), (3, .pointer (some ⟨q22, 0, none⟩)), (4, .pointer (some ⟨q23, 0, none⟩)), (6, .pointer (some ⟨q30, 0, none⟩))] a ∧ Held Nob w [rVec eMultiRule 104 S_6_3 A_6_3 c_6_3 (sortMR (seqB a0 k)), rBlk q30 55 [.int .i64 a0.1, .int .i64 a0.2.1, .int .i64 (a0.2.2.1 + a1.2.2.1), .slice A_6_3 (List.length (sortMR (seqB a0 k))) c_6_3], rBlk q23 55 [.int .i64 (0), .int .i64 (0), .int .i64 (0), .slice none (0) 0], rBlk q22 55 [.int .i64 (a1.1), .int .i64 (a1.2.1), .int .i64 (a1.2.2.1), .slice Az1_3 (a1.2.2.2.length) cz1_3], rBlk q21 55 [.int .i64 (a0.1), .int .i64 (a0.2.1), .int .i64 (a0.2.2.1), .slice Az0_3 (a0.2.2.2.length) cz0_3]] w' ∧ ((k : Int) ≤ a0.2.2.1)) (a0.2.2.1.toNat - (0)) ?_ ?_
              · have E54 : sortMR (seqB a0 0) = sortMR (a0.2.2.2.take i) := by
                  rw [seqB_zero, List.take_of_length_le (by omega)]
                exact ⟨0, A_6_3, c_6_3, S_6_3, rfl, HE247.sub ⟨(lkI rfl (by first | rfl | omega | (simp [hc25, hc27, hc28, hc29, p32_0, hc33]; done))), rfl, rfl, rfl, rfl, trivial⟩, ((HH132.sel [0, 1, 2, 3, 4] (by decide) rfl).to (by first | rfl | (rw [E54]; done) | (rw [E54]; rfl) | (simp only [E54]; done) | (simp only [E54]; rfl) | (rw [E54]; simp only [List.length_set]; done))), (by first | omega | assumption | (simp; done) | simp_all)⟩
              · rintro m a_248 w' ⟨k, A_6_3, c_6_3, S_6_3, rfl, HE249, HH250, p55_0⟩
                refine wp_seq ?_
                refine wp_seq ?_
                refine rg ?_
                refine pl_x HE249 HH250 (wt0 rfl) (x_move rfl) rfl rfl fun a_251 HE252 => ?_
                refine pl_x HE252 HH250 (wt0 rfl) (x_fieldAddr fa_55_2 rfl) rfl rfl fun a_253 HE254 => ?_
                refine pl_x HE254 HH250 (wt0 rfl) (x_load1 tv_2 rfl (c_blk 4 rfl rfl)) rfl rfl fun a_255 HE256 => ?_
                refine pl_x HE256 HH250 (wt0 rfl) (x_lss rfl rfl) rfl rfl fun a_257 HE258 => ?_
                refine wpList_nil ?_
                clear a_246 HE247 HH132 a_248 HE249 a_251 HE252 a_253 HE254 a_255 HE256
                refine nrm ?_
                refine cnd_d HE258 rfl (fun hc56 => ?_) (fun hc56 => ?_)
                · refine wp_skip ?_
                  refine nrm ?_
                  refine wp_seq ?_
                  refine wp_block ?_
                  refine wp_seq ?_
                  refine rg ?_
                  refine pl_x HE258 HH250 (wt0 rfl) (x_move rfl) rfl rfl fun a_259 HE260 => ?_
                  refine pl fun K_261 hK262 => ?_
                  refine st_call HE260 (wt0 rfl) rfl rfl rfl en_62 rfl rfl (spec_l06ReadsV _ _ _ a0 (k : Int) _ (HH250.oldR H0) (c_blkN 4 rfl _ HH250) (by assumption) (by omega)) fun e w' hr => ?_
                  obtain ⟨Ar57_0, cr57_0, Sr57_0, rfl, hbr57⟩ := hr
                  have HH263 := HH250.app hbr57
                  clear hbr57
                  have HH264 : Held Nob w ([rVec (eSl eInt) 37 Sr57_0 Ar57_0 cr57_0 (hReads a0 (k : Int)), rVec eMultiRule 104 S_6_3 A_6_3 c_6_3 (sortMR (seqB a0 k)), rBlk q30 55 [.int .i64 (a0.1), .int .i64 (a0.2.1), .int .i64 ((a0.2.2.1 + a1.2.2.1)), .slice A_6_3 ((List.length (sortMR (seqB a0 k)))) c_6_3], rBlk q23 55 [.int .i64 (0), .int .i64 (0), .int .i64 (0), .slice none (0) 0], rBlk q22 55 [.int .i64 (a1.1), .int .i64 (a1.2.1), .int .i64 (a1.2.2.1), .slice Az1_3 (a1.2.2.2.length) cz1_3], rBlk q21 55 [.int .i64 (a0.1), .int .i64 (a0.2.1), .int .i64 (a0.2.2.1), .slice Az0_3 (a0.2.2.2.length) cz0_3]]) _ := HH263
                  refine ⟨_, rfl, fun a_265 HE266 => hK262 _ _ ?_⟩
                  refine pl_x HE266 HH264 (wt0 rfl) (x_assign rfl) rfl rfl fun a_267 HE268 => ?_
                  refine wpList_nil ?_
                  clear a_257 HE258 HH250 HH263 a_259 HE260 a_265 HE266 hK262 K_261
                  refine nrm ?_
                  refine wp_seq ?_
                  refine rg ?_
                  refine pl_x HE268 HH264 (wt0 rfl) (x_assign rfl) rfl rfl fun a_269 HE270 => ?_
                  refine wpList_nil ?_
                  clear a_267 HE268
                  refine nrm ?_
                  refine wp_block ?_
                  obtain ⟨css, Sx, Sy, hcl, HH271⟩ := HH264.explode one_L
                  have HE272 := HE270.castS (t := 9) (m' := List.length css) rfl hcl.symm
                  refine lp (fun m a w' => ∃ (v : Nat) (A_6_3 : Option Addr) (c_6_3 : Nat) (S_6_3 : Nat → Prop) (S_els : Nat → Prop), m = (hReads a0 (k : Int)).length - v ∧ Env 114 [(10, .int .i64 (v : Int)), (2, .pointer (some ⟨q21, 0, none⟩)), (3, .pointer (some ⟨q22, 0, none⟩)), (4, .pointer (some ⟨q23, 0, none⟩)), (6, .pointer (some ⟨q30, 0, none⟩)), (8, .int .i64 ((k : Int))), (9, .slice Ar57_0 ((List.length css)) cr57_0)] a ∧ Held Nob w [rVec eMultiRule 104 S_6_3 A_6_3 c_6_3 (sortMR (seqB a0 k ++ ((hReads a0 (k : Int)).take v).map (haltRl a0 (k : Int)))), rEls (eSl eInt) S_els ((css.zip (hReads a0 (k : Int))).drop v), rBlk q30 55 [.int .i64 a0.1, .int .i64 a0.2.1, .int .i64 (a0.2.2.1 + a1.2.2.1), .slice A_6_3 (List.length (sortMR (seqB a0 k ++ ((hReads a0 (k : Int)).take v).map (haltRl a0 (k : Int))))) c_6_3], rVec (eRaw (eSl eInt).size (eSl eInt).pos) 37 Sx Ar57_0 cr57_0 css, rBlk q23 55 [.int .i64 (0), .int .i64 (0), .int .i64 (0), .slice none (0) 0], rBlk q22 55 [.int .i64 (a1.1), .int .i64 (a1.2.1), .int .i64 (a1.2.2.1), .slice Az1_3 (a1.2.2.2.length) cz1_3], rBlk q21 55 [.int .i64 (a0.1), .int .i64 (a0.2.1), .int .i64 (a0.2.2.1), .slice Az0_3 (a0.2.2.2.length) cz0_3]] w' ∧ (v ≤ (hReads a0 (k : Int)).length)) ((hReads a0 (k : Int)).length - (0)) ?_ ?_
                  · have E58 : sortMR (seqB a0 k ++ ((hReads a0 (k : Int)).take 0).map (haltRl a0 (k : Int))) = sortMR (seqB a0 k) := by
                      simp
                    have E59 : ((css.zip (hReads a0 (k : Int))).drop 0) = (css.zip (hReads a0 (k : Int))) := by rfl
                    exact ⟨0, A_6_3, c_6_3, S_6_3, Sy, rfl, HE272.sub ⟨(lkI rfl (by first | rfl | omega | (simp [hc25, hc27, hc28, hc29, p32_0, hc33, p55_0, hc56]; done))), rfl, rfl, rfl, rfl, rfl, rfl, trivial⟩, ((HH271.sel [2, 1, 3, 0, 4, 5, 6] (by decide) rfl).to (by first | rfl | (rw [E58, E59]; done) | (rw [E58, E59]; rfl) | (simp only [E58, E59]; done) | (simp only [E58, E59]; rfl) | (rw [E58, E59]; simp only [List.length_set]; done))), (by first | omega | assumption | (simp; done) | simp_all)⟩
                  · rintro m a_273 w' ⟨v, A_6_3, c_6_3, S_6_3, S_els, rfl, HE274, HH275, p60_0⟩
                    have hb1 := seqB_len hva k
                    have hb2 := hReads_len (k : Int) hva
                    have ol : (sortMR (seqB a0 k ++ ((hReads a0 (k : Int)).take v).map (haltRl a0 (k : Int)))).length = (seqB a0 k).length + v := by rw [sortMR_len, List.length_append, List.length_map, List.length_take]; omega
                    refine wp_seq ?_
                    refine wp_seq ?_
                    refine rg ?_
                    refine pl_x HE274 HH275 (wt0 rfl) (x_move rfl) rfl rfl fun a_276 HE277 => ?_
                    refine pl_x HE277 HH275 (wt0 rfl) (x_move rfl) rfl rfl fun a_278 HE279 => ?_
                    refine pl_x HE279 HH275 (wt0 rfl) (x_len Try.underlying50 rfl) rfl rfl fun a_280 HE281 => ?_
                    refine pl_x HE281 HH275 (wt0 rfl) (x_lss rfl rfl) rfl rfl fun a_282 HE283 => ?_
                    refine wpList_nil ?_
                    clear HH264 HE270 a_269 HE272 HH271 a_273 HE274 a_276 HE277 a_278 HE279 a_280 HE281
                    refine nrm ?_
                    refine cnd_d HE283 rfl (fun hc61 => ?_) (fun hc61 => ?_)
                    · have ke68 : v < List.length css := by omega
                      obtain ⟨be68, rfl⟩ := HH275.rawAt (i := 3) rfl ke68
                      have kex63 : v < List.length (hReads a0 (k : Int)) := by omega
                      obtain ⟨es62, xes62⟩ : ∃ es_, css[v]? = some es_ := ⟨_, List.getElem?_eq_getElem ke68⟩
                      obtain ⟨ex63, xex63⟩ : ∃ x_, x_ = (hReads a0 (k : Int))[v] := ⟨_, rfl⟩
                      have HH284 := HH275.sel [1, 0, 2, 3, 4, 5, 6] (by decide) rfl
                      have HH285 := HH284.elsTo (zip_drop_at xes62 xex63)
                      obtain ⟨S66, S67, HH286⟩ := HH285.peel
                      obtain ⟨A64, c65, rfl⟩ := HH286.oSlice (es := es62) (x := ex63) (i := 0) rfl
                      have HH287 : Held Nob w [rSo eInt S66 A64 c65 ex63, rEls (eSl eInt) S67 ((css.zip (hReads a0 (k : Int))).drop (v + 1)), rVec eMultiRule 104 S_6_3 A_6_3 c_6_3 (sortMR (seqB a0 k ++ ((hReads a0 (k : Int)).take v).map (haltRl a0 (k : Int)))), rBlk q30 55 [.int .i64 (a0.1), .int .i64 (a0.2.1), .int .i64 ((a0.2.2.1 + a1.2.2.1)), .slice A_6_3 ((List.length (sortMR (seqB a0 k ++ ((hReads a0 (k : Int)).take v).map (haltRl a0 (k : Int)))))) c_6_3], rVec (eRaw (eSl eInt).size (eSl eInt).pos) 37 Sx (some ⟨be68, 0, none⟩) cr57_0 css, rBlk q23 55 [.int .i64 (0), .int .i64 (0), .int .i64 (0), .slice none (0) 0], rBlk q22 55 [.int .i64 (a1.1), .int .i64 (a1.2.1), .int .i64 (a1.2.2.1), .slice Az1_3 (a1.2.2.2.length) cz1_3], rBlk q21 55 [.int .i64 (a0.1), .int .i64 (a0.2.1), .int .i64 (a0.2.2.1), .slice Az0_3 (a0.2.2.2.length) cz0_3]] _ := HH286
                      have hzx : (hReads a0 (k : Int))[v]? = some ex63 := by rw [xex63]; exact List.getElem?_eq_getElem _
                      have hleex63 := hReads_each ex63 (by rw [xex63]; exact List.getElem_mem _)
                      refine wp_skip ?_
                      refine nrm ?_
                      refine wp_seq ?_
                      refine wp_block ?_
                      refine wp_join (fun a w' => ∃ (Sr74_90 : Nat → Prop), ∃ (Ar74_90 : Option Addr), ∃ (cr74_90 : Nat), Env 114 [(2, .pointer (some ⟨q21, 0, none⟩)), (3, .pointer (some ⟨q22, 0, none⟩)), (4, .pointer (some ⟨q23, 0, none⟩)), (6, .pointer (some ⟨q30, 0, none⟩)), (8, .int .i64 ((k : Int))), (9, .slice (some ⟨be68, 0, none⟩) ((List.length css)) cr57_0), (10, .int .i64 ((v : Int)))] a ∧ Held Nob w [rVec eMultiRule 104 Sr74_90 Ar74_90 cr74_90 (putMR (sortMR (seqB a0 k ++ ((hReads a0 (k : Int)).take v).map (haltRl a0 (k : Int)))) ((k : Int), ex63, ex63, (List.replicate ((a0.1).toNat) (0 : Int)), a0.2.2.1)), rEls (eSl eInt) S67 ((css.zip (hReads a0 (k : Int))).drop (v + 1)), rBlk q30 55 [.int .i64 (a0.1), .int .i64 (a0.2.1), .int .i64 ((a0.2.2.1 + a1.2.2.1)), .slice Ar74_90 ((putMR (sortMR (seqB a0 k ++ ((hReads a0 (k : Int)).take v).map (haltRl a0 (k : Int)))) ((k : Int), ex63, ex63, (List.replicate ((a0.1).toNat) (0 : Int)), a0.2.2.1)).length) cr74_90], rVec (eRaw (eSl eInt).size (eSl eInt).pos) 37 Sx (some ⟨be68, 0, none⟩) cr57_0 css, rBlk q23 55 [.int .i64 (0), .int .i64 (0), .int .i64 (0), .slice none (0) 0], rBlk q22 55 [.int .i64 (a1.1), .int .i64 (a1.2.1), .int .i64 (a1.2.2.1), .slice Az1_3 (a1.2.2.2.length) cz1_3], rBlk q21 55 [.int .i64 (a0.1), .int .i64 (a0.2.1), .int .i64 (a0.2.2.1), .slice Az0_3 (a0.2.2.2.length) cz0_3]] w') ?_ ?_
                      · refine dr_start (Held Nob w [rEls (eSl eInt) S67 ((css.zip (hReads a0 (k : Int))).drop (v + 1)), rVec (eRaw (eSl eInt).size (eSl eInt).pos) 37 Sx (some ⟨be68, 0, none⟩) cr57_0 css, rBlk q23 55 [.int .i64 (0), .int .i64 (0), .int .i64 (0), .slice none (0) 0], rBlk q22 55 [.int .i64 (a1.1), .int .i64 (a1.2.1), .int .i64 (a1.2.2.1), .slice Az1_3 (a1.2.2.2.length) cz1_3], rBlk q21 55 [.int .i64 (a0.1), .int .i64 (a0.2.1), .int .i64 (a0.2.2.1), .slice Az0_3 (a0.2.2.2.length) cz0_3]]) 21 #[false, false, false, false, false, false, false, false, false, false, false, false, false, false, false, false, false, false, false, false, false] hmix rfl rfl HH287 (fun _ h => h.sel [1, 4, 5, 6, 7] (by decide) rfl) fun w' HH288 => ?_
                        have HS289 := HH288.sel [1, 4, 5, 6, 7] (by decide) rfl
                        refine dr_take (i := 0) (ls' := #[true, false, false, false, false, false, false, false, false, false, false, false, false, false, false, false, false, false, false, false, false]) HE283 HS289 rfl (by kernel_rfl) (by kernel_rfl) (by kernel_rfl) (fun _ _ _ h => h) rfl (wt0 rfl) (x_fieldAddr fa_55_3 rfl) rfl rfl fun a_290 HE291 => ?_
                        refine dr_take (i := 2) (ls' := #[true, false, true, false, false, false, false, false, false, false, false, false, false, false, false, false, false, false, false, false, false]) HE291 HS289 rfl (by kernel_rfl) (by kernel_rfl) (by kernel_rfl) (fun _ _ _ h => h) rfl (wt0 rfl) (x_move rfl) rfl rfl fun a_292 HE293 => ?_
                        refine dr_take (i := 3) (ls' := #[true, false, true, true, false, false, false, false, false, false, false, false, false, false, false, false, false, false, false, false, false]) HE293 HS289 rfl (by kernel_rfl) (by kernel_rfl) (by kernel_rfl) (fun _ _ _ h => h) rfl (wt0 rfl) (x_move rfl) rfl rfl fun a_294 HE295 => ?_
                        refine dr_take (i := 4) (ls' := #[true, false, true, true, true, false, false, false, false, false, false, false, false, false, false, false, false, false, false, false, false]) HE295 HS289 rfl (by kernel_rfl) (by kernel_rfl) (by kernel_rfl) (fun _ _ _ h => h) rfl (wt0 rfl) (x_move rfl) rfl rfl fun a_296 HE297 => ?_
                        have ke69 : v < (List.length css) := by omega
                        refine dr_take (i := 5) (ls' := #[true, false, true, true, true, true, false, false, false, false, false, false, false, false, false, false, false, false, false, false, false]) HE297 HS289 rfl (by kernel_rfl) (by kernel_rfl) (by kernel_rfl) (fun _ _ _ h => h) rfl (wt0 rfl) (x_indexAddr ts_50 rfl rfl rfl rfl ke69) rfl rfl fun a_298 HE299 => ?_
                        refine dr_take (i := 6) (ls' := #[true, false, true, true, true, true, true, false, false, false, false, false, false, false, false, false, false, false, false, false, false]) HE299 HS289 rfl (by kernel_rfl) (by kernel_rfl) (by kernel_rfl) (fun _ _ _ h => h) rfl (wt0 rfl) (x_load1 tv_37 rfl (fun w h => c_rawN 1 rfl rfl xes62 w h 0 _ rfl)) rfl rfl fun a_300 HE301 => ?_
                        refine dr_take (i := 7) (ls' := #[true, false, true, true, true, true, true, true, false, false, false, false, false, false, false, false, false, false, false, false, false]) HE301 HS289 rfl (by kernel_rfl) (by kernel_rfl) (by kernel_rfl) (fun _ _ _ h => h) rfl (wt0 rfl) (x_move rfl) rfl rfl fun a_302 HE303 => ?_
                        refine dr_take (i := 8) (ls' := #[true, false, true, true, true, true, true, true, true, false, false, false, false, false, false, false, false, false, false, false, false]) HE303 HS289 rfl (by kernel_rfl) (by kernel_rfl) (by kernel_rfl) (fun _ _ _ h => h) rfl (wt0 rfl) (x_move rfl) rfl rfl fun a_304 HE305 => ?_
                        have ke70 : v < (List.length css) := by omega
                        refine dr_take (i := 9) (ls' := #[true, false, true, true, true, true, true, true, true, true, false, false, false, false, false, false, false, false, false, false, false]) HE305 HS289 rfl (by kernel_rfl) (by kernel_rfl) (by kernel_rfl) (fun _ _ _ h => h) rfl (wt0 rfl) (x_indexAddr ts_50 rfl rfl rfl rfl ke70) rfl rfl fun a_306 HE307 => ?_
                        refine dr_take (i := 10) (ls' := #[true, false, true, true, true, true, true, true, true, true, true, false, false, false, false, false, false, false, false, false, false]) HE307 HS289 rfl (by kernel_rfl) (by kernel_rfl) (by kernel_rfl) (fun _ _ _ h => h) rfl (wt0 rfl) (x_load1 tv_37 rfl (fun w h => c_rawN 1 rfl rfl xes62 w h 0 _ rfl)) rfl rfl fun a_308 HE309 => ?_
                        refine dr_take (i := 12) (ls' := #[true, false, true, true, true, true, true, true, true, true, true, false, true, false, false, false, false, false, false, false, false]) HE309 HS289 rfl (by kernel_rfl) (by kernel_rfl) (by kernel_rfl) (fun _ _ _ h => h) rfl (wt0 rfl) (x_fieldAddr fa_55_0 rfl) rfl rfl fun a_310 HE311 => ?_
                        refine dr_take (i := 13) (ls' := #[true, false, true, true, true, true, true, true, true, true, true, false, true, true, false, false, false, false, false, false, false]) HE311 HS289 rfl (by kernel_rfl) (by kernel_rfl) (by kernel_rfl) (fun _ _ _ h => h) rfl (wt0 rfl) (x_load1 tv_2 rfl (c_blk 4 rfl rfl)) rfl rfl fun a_312 HE313 => ?_
                        refine dr_take (i := 15) (ls' := #[true, false, true, true, true, true, true, true, true, true, true, false, true, true, false, true, false, false, false, false, false]) HE313 HS289 rfl (by kernel_rfl) (by kernel_rfl) (by kernel_rfl) (fun _ _ _ h => h) rfl (wt0 rfl) (x_fieldAddr fa_55_2 rfl) rfl rfl fun a_314 HE315 => ?_
                        refine dr_take (i := 16) (ls' := #[true, false, true, true, true, true, true, true, true, true, true, false, true, true, false, true, true, false, false, false, false]) HE315 HS289 rfl (by kernel_rfl) (by kernel_rfl) (by kernel_rfl) (fun _ _ _ h => h) rfl (wt0 rfl) (x_load1 tv_2 rfl (c_blk 4 rfl rfl)) rfl rfl fun a_316 HE317 => ?_
                        refine dr_three (i := 1) (j := 11) (k := 14) (l1 := #[true, true, true, true, true, true, true, true, true, true, true, false, true, true, false, true, true, false, false, false, false]) (l2 := #[true, false, true, true, true, true, true, true, true, true, true, true, true, true, false, true, true, false, false, false, false]) (l3 := #[true, false, true, true, true, true, true, true, true, true, true, false, true, true, true, true, true, false, false, false, false]) rfl rfl rfl (by kernel_rfl) rfl rfl rfl (fun K_318 hK319 => ?_) (fun K_318 hK319 => ?_) (fun K_318 hK319 => ?_)
                        · refine st_x HE317 HH288 (wt0 rfl) (x_load1 tv_53 rfl (c_blk 3 rfl rfl)) rfl rfl fun a_320 HE321 => hK319 _ _ HS289 ?_
                          refine dr_two (i := 11) (j := 14) (ls' := #[true, true, true, true, true, true, true, true, true, true, true, true, true, true, false, true, true, false, false, false, false]) (ls'' := #[true, true, true, true, true, true, true, true, true, true, true, false, true, true, true, true, true, false, false, false, false]) rfl rfl (by kernel_rfl) rfl rfl (fun K_322 hK323 => ?_) (fun K_322 hK323 => ?_)
                          · refine st_call HE321 (wt0 rfl) rfl rfl rfl en_42 rfl rfl (spec_l00Own _ _ ex63 _ (HH288.sl (i := 0) rfl) (by omega)) fun e w' hr => ?_
                            obtain ⟨Ar71_0, cr71_0, rfl, hor71_0, hbr71⟩ := hr
                            obtain ⟨Sr71, HH324⟩ := HH288.newS hbr71 hor71_0
                            refine ⟨_, rfl, fun a_325 HE326 => hK323 _ _ (by exact HH324.sel [2, 5, 6, 7, 8] (by decide) rfl) ?_⟩
                            have HS327 := HH324.sel [2, 5, 6, 7, 8] (by decide) rfl
                            refine dr_one (i := 14) (ls' := #[true, true, true, true, true, true, true, true, true, true, true, true, true, true, true, true, true, false, false, false, false]) rfl (by kernel_rfl) rfl fun K_328 hK329 => ?_
                            refine st_make (E := eInt) (x := (0 : Int)) (k := ((a0.1).toNat)) HE326 HH324 ts_37 tv_2 rfl (fun _ => oI ⟨by omega, by omega⟩) rfl rfl (by omega) (by omega) (by omega) (by omega) (wt0 rfl) rfl fun q72 a_330 w' HE331 HH332 => hK329 _ _ (by exact HH332.sel [3, 6, 7, 8, 9] (by decide) rfl) ?_
                            have hlq72 : (List.replicate ((a0.1).toNat) (0 : Int)).length = (a0.1).toNat := List.length_replicate
                            have HS333 := HH332.sel [3, 6, 7, 8, 9] (by decide) rfl
                            refine dr_take (i := 17) (ls' := #[true, true, true, true, true, true, true, true, true, true, true, true, true, true, true, true, true, true, false, false, false]) HE331 HS333 rfl (by kernel_rfl) (by kernel_rfl) (by kernel_rfl) (fun _ _ _ h => h) rfl (wt0 rfl) (show XS _ _ _ _ (.agg #[.int .i64 ((k : Int)), .slice A64 (ex63.length) c65, .slice Ar71_0 (ex63.length) cr71_0, .slice (some ⟨q72, 0, none⟩) ((List.replicate ((a0.1).toNat) (0 : Int)).length) ((a0.1).toNat), .int .i64 (a0.2.2.1)]) from x_build (vs := [(0, .int .i64 ((k : Int))), (1, .slice A64 (ex63.length) c65), (2, .slice Ar71_0 (ex63.length) cr71_0), (3, .slice (some ⟨q72, 0, none⟩) ((List.replicate ((a0.1).toNat) (0 : Int)).length) ((a0.1).toNat)), (4, .int .i64 (a0.2.2.1))]) tb_104 rfl (by simp [Value.oneCell'])) rfl rfl fun a_334 HE335 => ?_
                            refine dr_one (i := 18) (ls' := #[true, true, true, true, true, true, true, true, true, true, true, true, true, true, true, true, true, true, true, false, false]) rfl (by kernel_rfl) rfl fun K_336 hK337 => ?_
                            have HH338 := HH332.sel [2, 1, 0, 3, 4, 5, 6, 7, 8, 9] (by decide) rfl
                            have HH339 := HH338.sel [2, 0, 1, 3, 4, 5, 6, 7, 8, 9] (by decide) rfl
                            have HH340 := HH339.pairB (F := eInt) (c2 := [.int .i64 (a0.2.2.1)]) (y := a0.2.2.1) (oI (by exact ⟨by omega, by omega⟩))
                            have HH341 := HH340.sel [2, 0, 1, 3, 4, 5, 6, 7, 8, 9] (by decide) rfl
                            have HH342 := HH341.pair
                            have HH343 := HH342.sel [1, 0, 2, 3, 4, 5, 6, 7, 8] (by decide) rfl
                            have HH344 := HH343.pair
                            have HH345 := HH344.pairF (E := eInt) (c1 := [.int .i64 ((k : Int))]) (x := (k : Int)) (oI (by exact ⟨by omega, by omega⟩))
                            obtain ⟨S73, HH346⟩ : ∃ S, Held Nob w (rO eMultiRule S [.int .i64 ((k : Int)), .slice A64 (ex63.length) c65, .slice Ar71_0 (ex63.length) cr71_0, .slice (some ⟨q72, 0, none⟩) ((List.replicate ((a0.1).toNat) (0 : Int)).length) ((a0.1).toNat), .int .i64 (a0.2.2.1)] ((k : Int), ex63, ex63, (List.replicate ((a0.1).toNat) (0 : Int)), a0.2.2.1) :: _) _ := ⟨_, HH345⟩
                            have HH347 := HH346.sel [2, 0, 1, 3, 4, 5, 6, 7] (by decide) rfl
                            have HH348 : Held Nob w ([rVec eMultiRule 104 S_6_3 A_6_3 c_6_3 (sortMR (seqB a0 k ++ ((hReads a0 (k : Int)).take v).map (haltRl a0 (k : Int)))), rO eMultiRule S73 [.int .i64 ((k : Int)), .slice A64 (ex63.length) c65, .slice Ar71_0 (ex63.length) cr71_0, .slice (some ⟨q72, 0, none⟩) ((List.replicate ((a0.1).toNat) (0 : Int)).length) ((a0.1).toNat), .int .i64 (a0.2.2.1)] ((k : Int), ex63, ex63, (List.replicate ((a0.1).toNat) (0 : Int)), a0.2.2.1)] ++ [rEls (eSl eInt) S67 ((css.zip (hReads a0 (k : Int))).drop (v + 1)), rBlk q30 55 [.int .i64 (a0.1), .int .i64 (a0.2.1), .int .i64 ((a0.2.2.1 + a1.2.2.1)), .slice A_6_3 ((List.length (sortMR (seqB a0 k ++ ((hReads a0 (k : Int)).take v).map (haltRl a0 (k : Int)))))) c_6_3], rVec (eRaw (eSl eInt).size (eSl eInt).pos) 37 Sx (some ⟨be68, 0, none⟩) cr57_0 css, rBlk q23 55 [.int .i64 (0), .int .i64 (0), .int .i64 (0), .slice none (0) 0], rBlk q22 55 [.int .i64 (a1.1), .int .i64 (a1.2.1), .int .i64 (a1.2.2.1), .slice Az1_3 (a1.2.2.2.length) cz1_3], rBlk q21 55 [.int .i64 (a0.1), .int .i64 (a0.2.1), .int .i64 (a0.2.2.1), .slice Az0_3 (a0.2.2.2.length) cz0_3]]) _ := HH347
                            refine st_call HE335 (wt0 rfl) rfl rfl rfl en_69 rfl rfl (spec_l06Put (Foot [rVec eMultiRule 104 S_6_3 A_6_3 c_6_3 (sortMR (seqB a0 k ++ ((hReads a0 (k : Int)).take v).map (haltRl a0 (k : Int)))), rO eMultiRule S73 [.int .i64 ((k : Int)), .slice A64 (ex63.length) c65, .slice Ar71_0 (ex63.length) cr71_0, .slice (some ⟨q72, 0, none⟩) ((List.replicate ((a0.1).toNat) (0 : Int)).length) ((a0.1).toNat), .int .i64 (a0.2.2.1)] ((k : Int), ex63, ex63, (List.replicate ((a0.1).toNat) (0 : Int)), a0.2.2.1)]) _ _ (sortMR (seqB a0 k ++ ((hReads a0 (k : Int)).take v).map (haltRl a0 (k : Int)))) _ _ ((k : Int), ex63, ex63, (List.replicate ((a0.1).toNat) (0 : Int)), a0.2.2.1) _ _ HH348.focus (by first | omega | (simp only [putMR_len, palS_len, List.length_nil]; omega))) fun e w' hr => ?_
                            obtain ⟨Ar74_90, cr74_90, Sr74_90, rfl, hbr74⟩ := hr
                            have HH349 := HH348.back hbr74
                            clear hbr74
                            have HH350 : Held Nob w ([rVec eMultiRule 104 Sr74_90 Ar74_90 cr74_90 (putMR (sortMR (seqB a0 k ++ ((hReads a0 (k : Int)).take v).map (haltRl a0 (k : Int)))) ((k : Int), ex63, ex63, (List.replicate ((a0.1).toNat) (0 : Int)), a0.2.2.1))] ++ [rEls (eSl eInt) S67 ((css.zip (hReads a0 (k : Int))).drop (v + 1)), rBlk q30 55 [.int .i64 (a0.1), .int .i64 (a0.2.1), .int .i64 ((a0.2.2.1 + a1.2.2.1)), .slice A_6_3 ((List.length (sortMR (seqB a0 k ++ ((hReads a0 (k : Int)).take v).map (haltRl a0 (k : Int)))))) c_6_3], rVec (eRaw (eSl eInt).size (eSl eInt).pos) 37 Sx (some ⟨be68, 0, none⟩) cr57_0 css, rBlk q23 55 [.int .i64 (0), .int .i64 (0), .int .i64 (0), .slice none (0) 0], rBlk q22 55 [.int .i64 (a1.1), .int .i64 (a1.2.1), .int .i64 (a1.2.2.1), .slice Az1_3 (a1.2.2.2.length) cz1_3], rBlk q21 55 [.int .i64 (a0.1), .int .i64 (a0.2.1), .int .i64 (a0.2.2.1), .slice Az0_3 (a0.2.2.2.length) cz0_3]]) _ := HH349
                            refine ⟨_, rfl, fun a_351 HE352 => hK337 _ _ (by exact HH350.sel [1, 3, 4, 5, 6] (by decide) rfl) ?_⟩
                            have HS353 := HH350.sel [1, 3, 4, 5, 6] (by decide) rfl
                            refine dr_take (i := 19) (ls' := #[true, true, true, true, true, true, true, true, true, true, true, true, true, true, true, true, true, true, true, true, false]) HE352 HS353 rfl (by kernel_rfl) (by kernel_rfl) (by kernel_rfl) (fun _ _ _ h => h) rfl (wt0 rfl) (x_fieldAddr fa_55_3 rfl) rfl rfl fun a_354 HE355 => ?_
                            refine dr_one (i := 20) (ls' := #[true, true, true, true, true, true, true, true, true, true, true, true, true, true, true, true, true, true, true, true, true]) rfl (by kernel_rfl) rfl fun K_356 hK357 => ?_
                            refine st_store (vs := [.slice Ar74_90 ((putMR (sortMR (seqB a0 k ++ ((hReads a0 (k : Int)).take v).map (haltRl a0 (k : Int)))) ((k : Int), ex63, ex63, (List.replicate ((a0.1).toNat) (0 : Int)), a0.2.2.1)).length) cr74_90]) 2 HE355 HH350 tv_53 rfl rfl rfl rfl rfl rfl (by simp [Value.oneCell']) (wt0 rfl) fun w' HH358 => hK357 _ _ (by exact HH358.sel [1, 3, 4, 5, 6] (by decide) rfl) ?_
                            have HS359 := HH358.sel [1, 3, 4, 5, 6] (by decide) rfl
                            refine dr_done (by kernel_rfl) ?_
                            clear HH275 HH284 HH285 HH286 HH287 a_282 HE283 a_290 HE291 a_292 HE293 a_294 HE295 a_296 HE297 a_298 HE299 a_300 HE301 a_302 HE303 a_304 HE305 a_306 HE307 a_308 HE309 a_310 HE311 a_312 HE313 a_314 HE315 a_316 HE317 K_318 hK319 HH288 a_320 HE321 HS289 K_322 hK323 a_325 HE326 HH324 HS327 a_330 HE331 K_328 hK329 HH332 HH338 HH339 HH340 HH341 HH342 HH343 HH344 HH345 HH346 HH347 HH348 HH349 a_334 HE335 HS333 a_351 HE352 K_336 hK337 HH350 HS353 hK357 K_356
                            exact nrm ⟨_, _, _, HE355.sub ⟨rfl, rfl, rfl, rfl, rfl, rfl, rfl, trivial⟩, HH358.sel [0, 1, 2, 3, 4, 5, 6] (by decide) rfl⟩
                          · refine st_make (E := eInt) (x := (0 : Int)) (k := ((a0.1).toNat)) HE321 HH288 ts_37 tv_2 rfl (fun _ => oI ⟨by omega, by omega⟩) rfl rfl (by omega) (by omega) (by omega) (by omega) (wt0 rfl) rfl fun q75 a_360 w' HE361 HH362 => hK323 _ _ (by exact HH362.sel [2, 5, 6, 7, 8] (by decide) rfl) ?_
                            have hlq75 : (List.replicate ((a0.1).toNat) (0 : Int)).length = (a0.1).toNat := List.length_replicate
                            have HS363 := HH362.sel [2, 5, 6, 7, 8] (by decide) rfl
                            refine dr_one (i := 11) (ls' := #[true, true, true, true, true, true, true, true, true, true, true, true, true, true, true, true, true, false, false, false, false]) rfl (by kernel_rfl) rfl fun K_364 hK365 => ?_
                            refine st_call HE361 (wt0 rfl) rfl rfl rfl en_42 rfl rfl (spec_l00Own _ _ ex63 _ (HH362.sl (i := 1) rfl) (by omega)) fun e w' hr => ?_
                            obtain ⟨Ar76_0, cr76_0, rfl, hor76_0, hbr76⟩ := hr
                            obtain ⟨Sr76, HH366⟩ := HH362.newS hbr76 hor76_0
                            refine ⟨_, rfl, fun a_367 HE368 => hK365 _ _ (by exact HH366.sel [3, 6, 7, 8, 9] (by decide) rfl) ?_⟩
                            have HS369 := HH366.sel [3, 6, 7, 8, 9] (by decide) rfl
                            refine dr_take (i := 17) (ls' := #[true, true, true, true, true, true, true, true, true, true, true, true, true, true, true, true, true, true, false, false, false]) HE368 HS369 rfl (by kernel_rfl) (by kernel_rfl) (by kernel_rfl) (fun _ _ _ h => h) rfl (wt0 rfl) (show XS _ _ _ _ (.agg #[.int .i64 ((k : Int)), .slice A64 (ex63.length) c65, .slice Ar76_0 (ex63.length) cr76_0, .slice (some ⟨q75, 0, none⟩) ((List.replicate ((a0.1).toNat) (0 : Int)).length) ((a0.1).toNat), .int .i64 (a0.2.2.1)]) from x_build (vs := [(0, .int .i64 ((k : Int))), (1, .slice A64 (ex63.length) c65), (2, .slice Ar76_0 (ex63.length) cr76_0), (3, .slice (some ⟨q75, 0, none⟩) ((List.replicate ((a0.1).toNat) (0 : Int)).length) ((a0.1).toNat)), (4, .int .i64 (a0.2.2.1))]) tb_104 rfl (by simp [Value.oneCell'])) rfl rfl fun a_370 HE371 => ?_
                            refine dr_one (i := 18) (ls' := #[true, true, true, true, true, true, true, true, true, true, true, true, true, true, true, true, true, true, true, false, false]) rfl (by kernel_rfl) rfl fun K_372 hK373 => ?_
                            have HH374 := HH366.sel [2, 0, 1, 3, 4, 5, 6, 7, 8, 9] (by decide) rfl
                            have HH375 := HH374.sel [2, 0, 1, 3, 4, 5, 6, 7, 8, 9] (by decide) rfl
                            have HH376 := HH375.pairB (F := eInt) (c2 := [.int .i64 (a0.2.2.1)]) (y := a0.2.2.1) (oI (by exact ⟨by omega, by omega⟩))
                            have HH377 := HH376.sel [2, 0, 1, 3, 4, 5, 6, 7, 8, 9] (by decide) rfl
                            have HH378 := HH377.pair
                            have HH379 := HH378.sel [1, 0, 2, 3, 4, 5, 6, 7, 8] (by decide) rfl
                            have HH380 := HH379.pair
                            have HH381 := HH380.pairF (E := eInt) (c1 := [.int .i64 ((k : Int))]) (x := (k : Int)) (oI (by exact ⟨by omega, by omega⟩))
                            obtain ⟨S77, HH382⟩ : ∃ S, Held Nob w (rO eMultiRule S [.int .i64 ((k : Int)), .slice A64 (ex63.length) c65, .slice Ar76_0 (ex63.length) cr76_0, .slice (some ⟨q75, 0, none⟩) ((List.replicate ((a0.1).toNat) (0 : Int)).length) ((a0.1).toNat), .int .i64 (a0.2.2.1)] ((k : Int), ex63, ex63, (List.replicate ((a0.1).toNat) (0 : Int)), a0.2.2.1) :: _) _ := ⟨_, HH381⟩
                            have HH383 := HH382.sel [2, 0, 1, 3, 4, 5, 6, 7] (by decide) rfl
                            have HH384 : Held Nob w ([rVec eMultiRule 104 S_6_3 A_6_3 c_6_3 (sortMR (seqB a0 k ++ ((hReads a0 (k : Int)).take v).map (haltRl a0 (k : Int)))), rO eMultiRule S77 [.int .i64 ((k : Int)), .slice A64 (ex63.length) c65, .slice Ar76_0 (ex63.length) cr76_0, .slice (some ⟨q75, 0, none⟩) ((List.replicate ((a0.1).toNat) (0 : Int)).length) ((a0.1).toNat), .int .i64 (a0.2.2.1)] ((k : Int), ex63, ex63, (List.replicate ((a0.1).toNat) (0 : Int)), a0.2.2.1)] ++ [rEls (eSl eInt) S67 ((css.zip (hReads a0 (k : Int))).drop (v + 1)), rBlk q30 55 [.int .i64 (a0.1), .int .i64 (a0.2.1), .int .i64 ((a0.2.2.1 + a1.2.2.1)), .slice A_6_3 ((List.length (sortMR (seqB a0 k ++ ((hReads a0 (k : Int)).take v).map (haltRl a0 (k : Int)))))) c_6_3], rVec (eRaw (eSl eInt).size (eSl eInt).pos) 37 Sx (some ⟨be68, 0, none⟩) cr57_0 css, rBlk q23 55 [.int .i64 (0), .int .i64 (0), .int .i64 (0), .slice none (0) 0], rBlk q22 55 [.int .i64 (a1.1), .int .i64 (a1.2.1), .int .i64 (a1.2.2.1), .slice Az1_3 (a1.2.2.2.length) cz1_3], rBlk q21 55 [.int .i64 (a0.1), .int .i64 (a0.2.1), .int .i64 (a0.2.2.1), .slice Az0_3 (a0.2.2.2.length) cz0_3]]) _ := HH383
                            refine st_call HE371 (wt0 rfl) rfl rfl rfl en_69 rfl rfl (spec_l06Put (Foot [rVec eMultiRule 104 S_6_3 A_6_3 c_6_3 (sortMR (seqB a0 k ++ ((hReads a0 (k : Int)).take v).map (haltRl a0 (k : Int)))), rO eMultiRule S77 [.int .i64 ((k : Int)), .slice A64 (ex63.length) c65, .slice Ar76_0 (ex63.length) cr76_0, .slice (some ⟨q75, 0, none⟩) ((List.replicate ((a0.1).toNat) (0 : Int)).length) ((a0.1).toNat), .int .i64 (a0.2.2.1)] ((k : Int), ex63, ex63, (List.replicate ((a0.1).toNat) (0 : Int)), a0.2.2.1)]) _ _ (sortMR (seqB a0 k ++ ((hReads a0 (k : Int)).take v).map (haltRl a0 (k : Int)))) _ _ ((k : Int), ex63, ex63, (List.replicate ((a0.1).toNat) (0 : Int)), a0.2.2.1) _ _ HH384.focus (by first | omega | (simp only [putMR_len, palS_len, List.length_nil]; omega))) fun e w' hr => ?_
                            obtain ⟨Ar78_90, cr78_90, Sr78_90, rfl, hbr78⟩ := hr
                            have HH385 := HH384.back hbr78
                            clear hbr78
                            have HH386 : Held Nob w ([rVec eMultiRule 104 Sr78_90 Ar78_90 cr78_90 (putMR (sortMR (seqB a0 k ++ ((hReads a0 (k : Int)).take v).map (haltRl a0 (k : Int)))) ((k : Int), ex63, ex63, (List.replicate ((a0.1).toNat) (0 : Int)), a0.2.2.1))] ++ [rEls (eSl eInt) S67 ((css.zip (hReads a0 (k : Int))).drop (v + 1)), rBlk q30 55 [.int .i64 (a0.1), .int .i64 (a0.2.1), .int .i64 ((a0.2.2.1 + a1.2.2.1)), .slice A_6_3 ((List.length (sortMR (seqB a0 k ++ ((hReads a0 (k : Int)).take v).map (haltRl a0 (k : Int)))))) c_6_3], rVec (eRaw (eSl eInt).size (eSl eInt).pos) 37 Sx (some ⟨be68, 0, none⟩) cr57_0 css, rBlk q23 55 [.int .i64 (0), .int .i64 (0), .int .i64 (0), .slice none (0) 0], rBlk q22 55 [.int .i64 (a1.1), .int .i64 (a1.2.1), .int .i64 (a1.2.2.1), .slice Az1_3 (a1.2.2.2.length) cz1_3], rBlk q21 55 [.int .i64 (a0.1), .int .i64 (a0.2.1), .int .i64 (a0.2.2.1), .slice Az0_3 (a0.2.2.2.length) cz0_3]]) _ := HH385
                            refine ⟨_, rfl, fun a_387 HE388 => hK373 _ _ (by exact HH386.sel [1, 3, 4, 5, 6] (by decide) rfl) ?_⟩
                            have HS389 := HH386.sel [1, 3, 4, 5, 6] (by decide) rfl
                            refine dr_take (i := 19) (ls' := #[true, true, true, true, true, true, true, true, true, true, true, true, true, true, true, true, true, true, true, true, false]) HE388 HS389 rfl (by kernel_rfl) (by kernel_rfl) (by kernel_rfl) (fun _ _ _ h => h) rfl (wt0 rfl) (x_fieldAddr fa_55_3 rfl) rfl rfl fun a_390 HE391 => ?_
                            refine dr_one (i := 20) (ls' := #[true, true, true, true, true, true, true, true, true, true, true, true, true, true, true, true, true, true, true, true, true]) rfl (by kernel_rfl) rfl fun K_392 hK393 => ?_
                            refine st_store (vs := [.slice Ar78_90 ((putMR (sortMR (seqB a0 k ++ ((hReads a0 (k : Int)).take v).map (haltRl a0 (k : Int)))) ((k : Int), ex63, ex63, (List.replicate ((a0.1).toNat) (0 : Int)), a0.2.2.1)).length) cr78_90]) 2 HE391 HH386 tv_53 rfl rfl rfl rfl rfl rfl (by simp [Value.oneCell']) (wt0 rfl) fun w' HH394 => hK393 _ _ (by exact HH394.sel [1, 3, 4, 5, 6] (by decide) rfl) ?_
                            have HS395 := HH394.sel [1, 3, 4, 5, 6] (by decide) rfl
                            refine dr_done (by kernel_rfl) ?_
                            clear HH275 HH284 HH285 HH286 HH287 a_282 HE283 a_290 HE291 a_292 HE293 a_294 HE295 a_296 HE297 a_298 HE299 a_300 HE301 a_302 HE303 a_304 HE305 a_306 HE307 a_308 HE309 a_310 HE311 a_312 HE313 a_314 HE315 a_316 HE317 K_318 hK319 a_320 HE321 HH288 HS289 K_322 hK323 HH362 a_360 HE361 HS363 a_367 HE368 K_364 hK365 HH366 HH374 HH375 HH376 HH377 HH378 HH379 HH380 HH381 HH382 HH383 HH384 HH385 a_370 HE371 HS369 a_387 HE388 K_372 hK373 HH386 HS389 hK393 K_392
                            exact nrm ⟨_, _, _, HE391.sub ⟨rfl, rfl, rfl, rfl, rfl, rfl, rfl, trivial⟩, HH394.sel [0, 1, 2, 3, 4, 5, 6] (by decide) rfl⟩
                        · refine st_call HE317 (wt0 rfl) rfl rfl rfl en_42 rfl rfl (spec_l00Own _ _ ex63 _ (HH288.sl (i := 0) rfl) (by omega)) fun e w' hr => ?_
                          obtain ⟨Ar79_0, cr79_0, rfl, hor79_0, hbr79⟩ := hr
                          obtain ⟨Sr79, HH396⟩ := HH288.newS hbr79 hor79_0
                          refine ⟨_, rfl, fun a_397 HE398 => hK319 _ _ (by exact HH396.sel [2, 5, 6, 7, 8] (by decide) rfl) ?_⟩
                          have HS399 := HH396.sel [2, 5, 6, 7, 8] (by decide) rfl
                          refine dr_two (i := 1) (j := 14) (ls' := #[true, true, true, true, true, true, true, true, true, true, true, true, true, true, false, true, true, false, false, false, false]) (ls'' := #[true, false, true, true, true, true, true, true, true, true, true, true, true, true, true, true, true, false, false, false, false]) rfl rfl (by kernel_rfl) rfl rfl (fun K_400 hK401 => ?_) (fun K_400 hK401 => ?_)
                          · refine st_x HE398 HH396 (wt0 rfl) (x_load1 tv_53 rfl (c_blk 4 rfl rfl)) rfl rfl fun a_402 HE403 => hK401 _ _ HS399 ?_
                            refine dr_one (i := 14) (ls' := #[true, true, true, true, true, true, true, true, true, true, true, true, true, true, true, true, true, false, false, false, false]) rfl (by kernel_rfl) rfl fun K_404 hK405 => ?_
                            refine st_make (E := eInt) (x := (0 : Int)) (k := ((a0.1).toNat)) HE403 HH396 ts_37 tv_2 rfl (fun _ => oI ⟨by omega, by omega⟩) rfl rfl (by omega) (by omega) (by omega) (by omega) (wt0 rfl) rfl fun q80 a_406 w' HE407 HH408 => hK405 _ _ (by exact HH408.sel [3, 6, 7, 8, 9] (by decide) rfl) ?_
                            have hlq80 : (List.replicate ((a0.1).toNat) (0 : Int)).length = (a0.1).toNat := List.length_replicate
                            have HS409 := HH408.sel [3, 6, 7, 8, 9] (by decide) rfl
                            refine dr_take (i := 17) (ls' := #[true, true, true, true, true, true, true, true, true, true, true, true, true, true, true, true, true, true, false, false, false]) HE407 HS409 rfl (by kernel_rfl) (by kernel_rfl) (by kernel_rfl) (fun _ _ _ h => h) rfl (wt0 rfl) (show XS _ _ _ _ (.agg #[.int .i64 ((k : Int)), .slice A64 (ex63.length) c65, .slice Ar79_0 (ex63.length) cr79_0, .slice (some ⟨q80, 0, none⟩) ((List.replicate ((a0.1).toNat) (0 : Int)).length) ((a0.1).toNat), .int .i64 (a0.2.2.1)]) from x_build (vs := [(0, .int .i64 ((k : Int))), (1, .slice A64 (ex63.length) c65), (2, .slice Ar79_0 (ex63.length) cr79_0), (3, .slice (some ⟨q80, 0, none⟩) ((List.replicate ((a0.1).toNat) (0 : Int)).length) ((a0.1).toNat)), (4, .int .i64 (a0.2.2.1))]) tb_104 rfl (by simp [Value.oneCell'])) rfl rfl fun a_410 HE411 => ?_
                            refine dr_one (i := 18) (ls' := #[true, true, true, true, true, true, true, true, true, true, true, true, true, true, true, true, true, true, true, false, false]) rfl (by kernel_rfl) rfl fun K_412 hK413 => ?_
                            have HH414 := HH408.sel [2, 1, 0, 3, 4, 5, 6, 7, 8, 9] (by decide) rfl
                            have HH415 := HH414.sel [2, 0, 1, 3, 4, 5, 6, 7, 8, 9] (by decide) rfl
                            have HH416 := HH415.pairB (F := eInt) (c2 := [.int .i64 (a0.2.2.1)]) (y := a0.2.2.1) (oI (by exact ⟨by omega, by omega⟩))
                            have HH417 := HH416.sel [2, 0, 1, 3, 4, 5, 6, 7, 8, 9] (by decide) rfl
                            have HH418 := HH417.pair
                            have HH419 := HH418.sel [1, 0, 2, 3, 4, 5, 6, 7, 8] (by decide) rfl
                            have HH420 := HH419.pair
                            have HH421 := HH420.pairF (E := eInt) (c1 := [.int .i64 ((k : Int))]) (x := (k : Int)) (oI (by exact ⟨by omega, by omega⟩))
                            obtain ⟨S81, HH422⟩ : ∃ S, Held Nob w (rO eMultiRule S [.int .i64 ((k : Int)), .slice A64 (ex63.length) c65, .slice Ar79_0 (ex63.length) cr79_0, .slice (some ⟨q80, 0, none⟩) ((List.replicate ((a0.1).toNat) (0 : Int)).length) ((a0.1).toNat), .int .i64 (a0.2.2.1)] ((k : Int), ex63, ex63, (List.replicate ((a0.1).toNat) (0 : Int)), a0.2.2.1) :: _) _ := ⟨_, HH421⟩
                            have HH423 := HH422.sel [2, 0, 1, 3, 4, 5, 6, 7] (by decide) rfl
                            have HH424 : Held Nob w ([rVec eMultiRule 104 S_6_3 A_6_3 c_6_3 (sortMR (seqB a0 k ++ ((hReads a0 (k : Int)).take v).map (haltRl a0 (k : Int)))), rO eMultiRule S81 [.int .i64 ((k : Int)), .slice A64 (ex63.length) c65, .slice Ar79_0 (ex63.length) cr79_0, .slice (some ⟨q80, 0, none⟩) ((List.replicate ((a0.1).toNat) (0 : Int)).length) ((a0.1).toNat), .int .i64 (a0.2.2.1)] ((k : Int), ex63, ex63, (List.replicate ((a0.1).toNat) (0 : Int)), a0.2.2.1)] ++ [rEls (eSl eInt) S67 ((css.zip (hReads a0 (k : Int))).drop (v + 1)), rBlk q30 55 [.int .i64 (a0.1), .int .i64 (a0.2.1), .int .i64 ((a0.2.2.1 + a1.2.2.1)), .slice A_6_3 ((List.length (sortMR (seqB a0 k ++ ((hReads a0 (k : Int)).take v).map (haltRl a0 (k : Int)))))) c_6_3], rVec (eRaw (eSl eInt).size (eSl eInt).pos) 37 Sx (some ⟨be68, 0, none⟩) cr57_0 css, rBlk q23 55 [.int .i64 (0), .int .i64 (0), .int .i64 (0), .slice none (0) 0], rBlk q22 55 [.int .i64 (a1.1), .int .i64 (a1.2.1), .int .i64 (a1.2.2.1), .slice Az1_3 (a1.2.2.2.length) cz1_3], rBlk q21 55 [.int .i64 (a0.1), .int .i64 (a0.2.1), .int .i64 (a0.2.2.1), .slice Az0_3 (a0.2.2.2.length) cz0_3]]) _ := HH423
                            refine st_call HE411 (wt0 rfl) rfl rfl rfl en_69 rfl rfl (spec_l06Put (Foot [rVec eMultiRule 104 S_6_3 A_6_3 c_6_3 (sortMR (seqB a0 k ++ ((hReads a0 (k : Int)).take v).map (haltRl a0 (k : Int)))), rO eMultiRule S81 [.int .i64 ((k : Int)), .slice A64 (ex63.length) c65, .slice Ar79_0 (ex63.length) cr79_0, .slice (some ⟨q80, 0, none⟩) ((List.replicate ((a0.1).toNat) (0 : Int)).length) ((a0.1).toNat), .int .i64 (a0.2.2.1)] ((k : Int), ex63, ex63, (List.replicate ((a0.1).toNat) (0 : Int)), a0.2.2.1)]) _ _ (sortMR (seqB a0 k ++ ((hReads a0 (k : Int)).take v).map (haltRl a0 (k : Int)))) _ _ ((k : Int), ex63, ex63, (List.replicate ((a0.1).toNat) (0 : Int)), a0.2.2.1) _ _ HH424.focus (by first | omega | (simp only [putMR_len, palS_len, List.length_nil]; omega))) fun e w' hr => ?_
                            obtain ⟨Ar82_90, cr82_90, Sr82_90, rfl, hbr82⟩ := hr
                            have HH425 := HH424.back hbr82
                            clear hbr82
                            have HH426 : Held Nob w ([rVec eMultiRule 104 Sr82_90 Ar82_90 cr82_90 (putMR (sortMR (seqB a0 k ++ ((hReads a0 (k : Int)).take v).map (haltRl a0 (k : Int)))) ((k : Int), ex63, ex63, (List.replicate ((a0.1).toNat) (0 : Int)), a0.2.2.1))] ++ [rEls (eSl eInt) S67 ((css.zip (hReads a0 (k : Int))).drop (v + 1)), rBlk q30 55 [.int .i64 (a0.1), .int .i64 (a0.2.1), .int .i64 ((a0.2.2.1 + a1.2.2.1)), .slice A_6_3 ((List.length (sortMR (seqB a0 k ++ ((hReads a0 (k : Int)).take v).map (haltRl a0 (k : Int)))))) c_6_3], rVec (eRaw (eSl eInt).size (eSl eInt).pos) 37 Sx (some ⟨be68, 0, none⟩) cr57_0 css, rBlk q23 55 [.int .i64 (0), .int .i64 (0), .int .i64 (0), .slice none (0) 0], rBlk q22 55 [.int .i64 (a1.1), .int .i64 (a1.2.1), .int .i64 (a1.2.2.1), .slice Az1_3 (a1.2.2.2.length) cz1_3], rBlk q21 55 [.int .i64 (a0.1), .int .i64 (a0.2.1), .int .i64 (a0.2.2.1), .slice Az0_3 (a0.2.2.2.length) cz0_3]]) _ := HH425
                            refine ⟨_, rfl, fun a_427 HE428 => hK413 _ _ (by exact HH426.sel [1, 3, 4, 5, 6] (by decide) rfl) ?_⟩
                            have HS429 := HH426.sel [1, 3, 4, 5, 6] (by decide) rfl
                            refine dr_take (i := 19) (ls' := #[true, true, true, true, true, true, true, true, true, true, true, true, true, true, true, true, true, true, true, true, false]) HE428 HS429 rfl (by kernel_rfl) (by kernel_rfl) (by kernel_rfl) (fun _ _ _ h => h) rfl (wt0 rfl) (x_fieldAddr fa_55_3 rfl) rfl rfl fun a_430 HE431 => ?_
                            refine dr_one (i := 20) (ls' := #[true, true, true, true, true, true, true, true, true, true, true, true, true, true, true, true, true, true, true, true, true]) rfl (by kernel_rfl) rfl fun K_432 hK433 => ?_
                            refine st_store (vs := [.slice Ar82_90 ((putMR (sortMR (seqB a0 k ++ ((hReads a0 (k : Int)).take v).map (haltRl a0 (k : Int)))) ((k : Int), ex63, ex63, (List.replicate ((a0.1).toNat) (0 : Int)), a0.2.2.1)).length) cr82_90]) 2 HE431 HH426 tv_53 rfl rfl rfl rfl rfl rfl (by simp [Value.oneCell']) (wt0 rfl) fun w' HH434 => hK433 _ _ (by exact HH434.sel [1, 3, 4, 5, 6] (by decide) rfl) ?_
                            have HS435 := HH434.sel [1, 3, 4, 5, 6] (by decide) rfl
                            refine dr_done (by kernel_rfl) ?_
                            clear HH275 HH284 HH285 HH286 HH287 a_282 HE283 a_290 HE291 a_292 HE293 a_294 HE295 a_296 HE297 a_298 HE299 a_300 HE301 a_302 HE303 a_304 HE305 a_306 HE307 a_308 HE309 a_310 HE311 a_312 HE313 a_314 HE315 HH288 a_316 HE317 HS289 K_318 hK319 a_397 HE398 K_400 hK401 a_402 HE403 HH396 HS399 a_406 HE407 K_404 hK405 HH408 HH414 HH415 HH416 HH417 HH418 HH419 HH420 HH421 HH422 HH423 HH424 HH425 a_410 HE411 HS409 a_427 HE428 K_412 hK413 HH426 HS429 hK433 K_432
                            exact nrm ⟨_, _, _, HE431.sub ⟨rfl, rfl, rfl, rfl, rfl, rfl, rfl, trivial⟩, HH434.sel [0, 1, 2, 3, 4, 5, 6] (by decide) rfl⟩
                          · refine st_make (E := eInt) (x := (0 : Int)) (k := ((a0.1).toNat)) HE398 HH396 ts_37 tv_2 rfl (fun _ => oI ⟨by omega, by omega⟩) rfl rfl (by omega) (by omega) (by omega) (by omega) (wt0 rfl) rfl fun q83 a_436 w' HE437 HH438 => hK401 _ _ (by exact HH438.sel [3, 6, 7, 8, 9] (by decide) rfl) ?_
                            have hlq83 : (List.replicate ((a0.1).toNat) (0 : Int)).length = (a0.1).toNat := List.length_replicate
                            have HS439 := HH438.sel [3, 6, 7, 8, 9] (by decide) rfl
                            refine dr_take (i := 17) (ls' := #[true, false, true, true, true, true, true, true, true, true, true, true, true, true, true, true, true, true, false, false, false]) HE437 HS439 rfl (by kernel_rfl) (by kernel_rfl) (by kernel_rfl) (fun _ _ _ h => h) rfl (wt0 rfl) (show XS _ _ _ _ (.agg #[.int .i64 ((k : Int)), .slice A64 (ex63.length) c65, .slice Ar79_0 (ex63.length) cr79_0, .slice (some ⟨q83, 0, none⟩) ((List.replicate ((a0.1).toNat) (0 : Int)).length) ((a0.1).toNat), .int .i64 (a0.2.2.1)]) from x_build (vs := [(0, .int .i64 ((k : Int))), (1, .slice A64 (ex63.length) c65), (2, .slice Ar79_0 (ex63.length) cr79_0), (3, .slice (some ⟨q83, 0, none⟩) ((List.replicate ((a0.1).toNat) (0 : Int)).length) ((a0.1).toNat)), (4, .int .i64 (a0.2.2.1))]) tb_104 rfl (by simp [Value.oneCell'])) rfl rfl fun a_440 HE441 => ?_
                            refine dr_one (i := 1) (ls' := #[true, true, true, true, true, true, true, true, true, true, true, true, true, true, true, true, true, true, false, false, false]) rfl (by kernel_rfl) rfl fun K_442 hK443 => ?_
                            refine st_x HE441 HH438 (wt0 rfl) (x_load1 tv_53 rfl (c_blk 5 rfl rfl)) rfl rfl fun a_444 HE445 => hK443 _ _ HS439 ?_
                            refine dr_one (i := 18) (ls' := #[true, true, true, true, true, true, true, true, true, true, true, true, true, true, true, true, true, true, true, false, false]) rfl (by kernel_rfl) rfl fun K_446 hK447 => ?_
                            have HH448 := HH438.sel [2, 1, 0, 3, 4, 5, 6, 7, 8, 9] (by decide) rfl
                            have HH449 := HH448.sel [2, 0, 1, 3, 4, 5, 6, 7, 8, 9] (by decide) rfl
                            have HH450 := HH449.pairB (F := eInt) (c2 := [.int .i64 (a0.2.2.1)]) (y := a0.2.2.1) (oI (by exact ⟨by omega, by omega⟩))
                            have HH451 := HH450.sel [2, 0, 1, 3, 4, 5, 6, 7, 8, 9] (by decide) rfl
                            have HH452 := HH451.pair
                            have HH453 := HH452.sel [1, 0, 2, 3, 4, 5, 6, 7, 8] (by decide) rfl
                            have HH454 := HH453.pair
                            have HH455 := HH454.pairF (E := eInt) (c1 := [.int .i64 ((k : Int))]) (x := (k : Int)) (oI (by exact ⟨by omega, by omega⟩))
                            obtain ⟨S84, HH456⟩ : ∃ S, Held Nob w (rO eMultiRule S [.int .i64 ((k : Int)), .slice A64 (ex63.length) c65, .slice Ar79_0 (ex63.length) cr79_0, .slice (some ⟨q83, 0, none⟩) ((List.replicate ((a0.1).toNat) (0 : Int)).length) ((a0.1).toNat), .int .i64 (a0.2.2.1)] ((k : Int), ex63, ex63, (List.replicate ((a0.1).toNat) (0 : Int)), a0.2.2.1) :: _) _ := ⟨_, HH455⟩
                            have HH457 := HH456.sel [2, 0, 1, 3, 4, 5, 6, 7] (by decide) rfl
                            have HH458 : Held Nob w ([rVec eMultiRule 104 S_6_3 A_6_3 c_6_3 (sortMR (seqB a0 k ++ ((hReads a0 (k : Int)).take v).map (haltRl a0 (k : Int)))), rO eMultiRule S84 [.int .i64 ((k : Int)), .slice A64 (ex63.length) c65, .slice Ar79_0 (ex63.length) cr79_0, .slice (some ⟨q83, 0, none⟩) ((List.replicate ((a0.1).toNat) (0 : Int)).length) ((a0.1).toNat), .int .i64 (a0.2.2.1)] ((k : Int), ex63, ex63, (List.replicate ((a0.1).toNat) (0 : Int)), a0.2.2.1)] ++ [rEls (eSl eInt) S67 ((css.zip (hReads a0 (k : Int))).drop (v + 1)), rBlk q30 55 [.int .i64 (a0.1), .int .i64 (a0.2.1), .int .i64 ((a0.2.2.1 + a1.2.2.1)), .slice A_6_3 ((List.length (sortMR (seqB a0 k ++ ((hReads a0 (k : Int)).take v).map (haltRl a0 (k : Int)))))) c_6_3], rVec (eRaw (eSl eInt).size (eSl eInt).pos) 37 Sx (some ⟨be68, 0, none⟩) cr57_0 css, rBlk q23 55 [.int .i64 (0), .int .i64 (0), .int .i64 (0), .slice none (0) 0], rBlk q22 55 [.int .i64 (a1.1), .int .i64 (a1.2.1), .int .i64 (a1.2.2.1), .slice Az1_3 (a1.2.2.2.length) cz1_3], rBlk q21 55 [.int .i64 (a0.1), .int .i64 (a0.2.1), .int .i64 (a0.2.2.1), .slice Az0_3 (a0.2.2.2.length) cz0_3]]) _ := HH457
                            refine st_call HE445 (wt0 rfl) rfl rfl rfl en_69 rfl rfl (spec_l06Put (Foot [rVec eMultiRule 104 S_6_3 A_6_3 c_6_3 (sortMR (seqB a0 k ++ ((hReads a0 (k : Int)).take v).map (haltRl a0 (k : Int)))), rO eMultiRule S84 [.int .i64 ((k : Int)), .slice A64 (ex63.length) c65, .slice Ar79_0 (ex63.length) cr79_0, .slice (some ⟨q83, 0, none⟩) ((List.replicate ((a0.1).toNat) (0 : Int)).length) ((a0.1).toNat), .int .i64 (a0.2.2.1)] ((k : Int), ex63, ex63, (List.replicate ((a0.1).toNat) (0 : Int)), a0.2.2.1)]) _ _ (sortMR (seqB a0 k ++ ((hReads a0 (k : Int)).take v).map (haltRl a0 (k : Int)))) _ _ ((k : Int), ex63, ex63, (List.replicate ((a0.1).toNat) (0 : Int)), a0.2.2.1) _ _ HH458.focus (by first | omega | (simp only [putMR_len, palS_len, List.length_nil]; omega))) fun e w' hr => ?_
                            obtain ⟨Ar85_90, cr85_90, Sr85_90, rfl, hbr85⟩ := hr
                            have HH459 := HH458.back hbr85
                            clear hbr85
                            have HH460 : Held Nob w ([rVec eMultiRule 104 Sr85_90 Ar85_90 cr85_90 (putMR (sortMR (seqB a0 k ++ ((hReads a0 (k : Int)).take v).map (haltRl a0 (k : Int)))) ((k : Int), ex63, ex63, (List.replicate ((a0.1).toNat) (0 : Int)), a0.2.2.1))] ++ [rEls (eSl eInt) S67 ((css.zip (hReads a0 (k : Int))).drop (v + 1)), rBlk q30 55 [.int .i64 (a0.1), .int .i64 (a0.2.1), .int .i64 ((a0.2.2.1 + a1.2.2.1)), .slice A_6_3 ((List.length (sortMR (seqB a0 k ++ ((hReads a0 (k : Int)).take v).map (haltRl a0 (k : Int)))))) c_6_3], rVec (eRaw (eSl eInt).size (eSl eInt).pos) 37 Sx (some ⟨be68, 0, none⟩) cr57_0 css, rBlk q23 55 [.int .i64 (0), .int .i64 (0), .int .i64 (0), .slice none (0) 0], rBlk q22 55 [.int .i64 (a1.1), .int .i64 (a1.2.1), .int .i64 (a1.2.2.1), .slice Az1_3 (a1.2.2.2.length) cz1_3], rBlk q21 55 [.int .i64 (a0.1), .int .i64 (a0.2.1), .int .i64 (a0.2.2.1), .slice Az0_3 (a0.2.2.2.length) cz0_3]]) _ := HH459
                            refine ⟨_, rfl, fun a_461 HE462 => hK447 _ _ (by exact HH460.sel [1, 3, 4, 5, 6] (by decide) rfl) ?_⟩
                            have HS463 := HH460.sel [1, 3, 4, 5, 6] (by decide) rfl
                            refine dr_take (i := 19) (ls' := #[true, true, true, true, true, true, true, true, true, true, true, true, true, true, true, true, true, true, true, true, false]) HE462 HS463 rfl (by kernel_rfl) (by kernel_rfl) (by kernel_rfl) (fun _ _ _ h => h) rfl (wt0 rfl) (x_fieldAddr fa_55_3 rfl) rfl rfl fun a_464 HE465 => ?_
                            refine dr_one (i := 20) (ls' := #[true, true, true, true, true, true, true, true, true, true, true, true, true, true, true, true, true, true, true, true, true]) rfl (by kernel_rfl) rfl fun K_466 hK467 => ?_
                            refine st_store (vs := [.slice Ar85_90 ((putMR (sortMR (seqB a0 k ++ ((hReads a0 (k : Int)).take v).map (haltRl a0 (k : Int)))) ((k : Int), ex63, ex63, (List.replicate ((a0.1).toNat) (0 : Int)), a0.2.2.1)).length) cr85_90]) 2 HE465 HH460 tv_53 rfl rfl rfl rfl rfl rfl (by simp [Value.oneCell']) (wt0 rfl) fun w' HH468 => hK467 _ _ (by exact HH468.sel [1, 3, 4, 5, 6] (by decide) rfl) ?_
                            have HS469 := HH468.sel [1, 3, 4, 5, 6] (by decide) rfl
                            refine dr_done (by kernel_rfl) ?_
                            clear HH275 HH284 HH285 HH286 HH287 a_282 HE283 a_290 HE291 a_292 HE293 a_294 HE295 a_296 HE297 a_298 HE299 a_300 HE301 a_302 HE303 a_304 HE305 a_306 HE307 a_308 HE309 a_310 HE311 a_312 HE313 a_314 HE315 HH288 a_316 HE317 HS289 K_318 hK319 a_397 HE398 HH396 HS399 a_436 HE437 K_400 hK401 a_440 HE441 K_442 hK443 HH438 HH448 HH449 HH450 HH451 HH452 HH453 HH454 HH455 HH456 HH457 HH458 HH459 a_444 HE445 HS439 a_461 HE462 K_446 hK447 HH460 HS463 hK467 K_466
                            exact nrm ⟨_, _, _, HE465.sub ⟨rfl, rfl, rfl, rfl, rfl, rfl, rfl, trivial⟩, HH468.sel [0, 1, 2, 3, 4, 5, 6] (by decide) rfl⟩
                        · refine st_make (E := eInt) (x := (0 : Int)) (k := ((a0.1).toNat)) HE317 HH288 ts_37 tv_2 rfl (fun _ => oI ⟨by omega, by omega⟩) rfl rfl (by omega) (by omega) (by omega) (by omega) (wt0 rfl) rfl fun q86 a_470 w' HE471 HH472 => hK319 _ _ (by exact HH472.sel [2, 5, 6, 7, 8] (by decide) rfl) ?_
                          have hlq86 : (List.replicate ((a0.1).toNat) (0 : Int)).length = (a0.1).toNat := List.length_replicate
                          have HS473 := HH472.sel [2, 5, 6, 7, 8] (by decide) rfl
                          refine dr_two (i := 1) (j := 11) (ls' := #[true, true, true, true, true, true, true, true, true, true, true, false, true, true, true, true, true, false, false, false, false]) (ls'' := #[true, false, true, true, true, true, true, true, true, true, true, true, true, true, true, true, true, false, false, false, false]) rfl rfl (by kernel_rfl) rfl rfl (fun K_474 hK475 => ?_) (fun K_474 hK475 => ?_)
                          · refine st_x HE471 HH472 (wt0 rfl) (x_load1 tv_53 rfl (c_blk 4 rfl rfl)) rfl rfl fun a_476 HE477 => hK475 _ _ HS473 ?_
                            refine dr_one (i := 11) (ls' := #[true, true, true, true, true, true, true, true, true, true, true, true, true, true, true, true, true, false, false, false, false]) rfl (by kernel_rfl) rfl fun K_478 hK479 => ?_
                            refine st_call HE477 (wt0 rfl) rfl rfl rfl en_42 rfl rfl (spec_l00Own _ _ ex63 _ (HH472.sl (i := 1) rfl) (by omega)) fun e w' hr => ?_
                            obtain ⟨Ar87_0, cr87_0, rfl, hor87_0, hbr87⟩ := hr
                            obtain ⟨Sr87, HH480⟩ := HH472.newS hbr87 hor87_0
                            refine ⟨_, rfl, fun a_481 HE482 => hK479 _ _ (by exact HH480.sel [3, 6, 7, 8, 9] (by decide) rfl) ?_⟩
                            have HS483 := HH480.sel [3, 6, 7, 8, 9] (by decide) rfl
                            refine dr_take (i := 17) (ls' := #[true, true, true, true, true, true, true, true, true, true, true, true, true, true, true, true, true, true, false, false, false]) HE482 HS483 rfl (by kernel_rfl) (by kernel_rfl) (by kernel_rfl) (fun _ _ _ h => h) rfl (wt0 rfl) (show XS _ _ _ _ (.agg #[.int .i64 ((k : Int)), .slice A64 (ex63.length) c65, .slice Ar87_0 (ex63.length) cr87_0, .slice (some ⟨q86, 0, none⟩) ((List.replicate ((a0.1).toNat) (0 : Int)).length) ((a0.1).toNat), .int .i64 (a0.2.2.1)]) from x_build (vs := [(0, .int .i64 ((k : Int))), (1, .slice A64 (ex63.length) c65), (2, .slice Ar87_0 (ex63.length) cr87_0), (3, .slice (some ⟨q86, 0, none⟩) ((List.replicate ((a0.1).toNat) (0 : Int)).length) ((a0.1).toNat)), (4, .int .i64 (a0.2.2.1))]) tb_104 rfl (by simp [Value.oneCell'])) rfl rfl fun a_484 HE485 => ?_
                            refine dr_one (i := 18) (ls' := #[true, true, true, true, true, true, true, true, true, true, true, true, true, true, true, true, true, true, true, false, false]) rfl (by kernel_rfl) rfl fun K_486 hK487 => ?_
                            have HH488 := HH480.sel [2, 0, 1, 3, 4, 5, 6, 7, 8, 9] (by decide) rfl
                            have HH489 := HH488.sel [2, 0, 1, 3, 4, 5, 6, 7, 8, 9] (by decide) rfl
                            have HH490 := HH489.pairB (F := eInt) (c2 := [.int .i64 (a0.2.2.1)]) (y := a0.2.2.1) (oI (by exact ⟨by omega, by omega⟩))
                            have HH491 := HH490.sel [2, 0, 1, 3, 4, 5, 6, 7, 8, 9] (by decide) rfl
                            have HH492 := HH491.pair
                            have HH493 := HH492.sel [1, 0, 2, 3, 4, 5, 6, 7, 8] (by decide) rfl
                            have HH494 := HH493.pair
                            have HH495 := HH494.pairF (E := eInt) (c1 := [.int .i64 ((k : Int))]) (x := (k : Int)) (oI (by exact ⟨by omega, by omega⟩))
                            obtain ⟨S88, HH496⟩ : ∃ S, Held Nob w (rO eMultiRule S [.int .i64 ((k : Int)), .slice A64 (ex63.length) c65, .slice Ar87_0 (ex63.length) cr87_0, .slice (some ⟨q86, 0, none⟩) ((List.replicate ((a0.1).toNat) (0 : Int)).length) ((a0.1).toNat), .int .i64 (a0.2.2.1)] ((k : Int), ex63, ex63, (List.replicate ((a0.1).toNat) (0 : Int)), a0.2.2.1) :: _) _ := ⟨_, HH495⟩
                            have HH497 := HH496.sel [2, 0, 1, 3, 4, 5, 6, 7] (by decide) rfl
                            have HH498 : Held Nob w ([rVec eMultiRule 104 S_6_3 A_6_3 c_6_3 (sortMR (seqB a0 k ++ ((hReads a0 (k : Int)).take v).map (haltRl a0 (k : Int)))), rO eMultiRule S88 [.int .i64 ((k : Int)), .slice A64 (ex63.length) c65, .slice Ar87_0 (ex63.length) cr87_0, .slice (some ⟨q86, 0, none⟩) ((List.replicate ((a0.1).toNat) (0 : Int)).length) ((a0.1).toNat), .int .i64 (a0.2.2.1)] ((k : Int), ex63, ex63, (List.replicate ((a0.1).toNat) (0 : Int)), a0.2.2.1)] ++ [rEls (eSl eInt) S67 ((css.zip (hReads a0 (k : Int))).drop (v + 1)), rBlk q30 55 [.int .i64 (a0.1), .int .i64 (a0.2.1), .int .i64 ((a0.2.2.1 + a1.2.2.1)), .slice A_6_3 ((List.length (sortMR (seqB a0 k ++ ((hReads a0 (k : Int)).take v).map (haltRl a0 (k : Int)))))) c_6_3], rVec (eRaw (eSl eInt).size (eSl eInt).pos) 37 Sx (some ⟨be68, 0, none⟩) cr57_0 css, rBlk q23 55 [.int .i64 (0), .int .i64 (0), .int .i64 (0), .slice none (0) 0], rBlk q22 55 [.int .i64 (a1.1), .int .i64 (a1.2.1), .int .i64 (a1.2.2.1), .slice Az1_3 (a1.2.2.2.length) cz1_3], rBlk q21 55 [.int .i64 (a0.1), .int .i64 (a0.2.1), .int .i64 (a0.2.2.1), .slice Az0_3 (a0.2.2.2.length) cz0_3]]) _ := HH497
                            refine st_call HE485 (wt0 rfl) rfl rfl rfl en_69 rfl rfl (spec_l06Put (Foot [rVec eMultiRule 104 S_6_3 A_6_3 c_6_3 (sortMR (seqB a0 k ++ ((hReads a0 (k : Int)).take v).map (haltRl a0 (k : Int)))), rO eMultiRule S88 [.int .i64 ((k : Int)), .slice A64 (ex63.length) c65, .slice Ar87_0 (ex63.length) cr87_0, .slice (some ⟨q86, 0, none⟩) ((List.replicate ((a0.1).toNat) (0 : Int)).length) ((a0.1).toNat), .int .i64 (a0.2.2.1)] ((k : Int), ex63, ex63, (List.replicate ((a0.1).toNat) (0 : Int)), a0.2.2.1)]) _ _ (sortMR (seqB a0 k ++ ((hReads a0 (k : Int)).take v).map (haltRl a0 (k : Int)))) _ _ ((k : Int), ex63, ex63, (List.replicate ((a0.1).toNat) (0 : Int)), a0.2.2.1) _ _ HH498.focus (by first | omega | (simp only [putMR_len, palS_len, List.length_nil]; omega))) fun e w' hr => ?_
                            obtain ⟨Ar89_90, cr89_90, Sr89_90, rfl, hbr89⟩ := hr
                            have HH499 := HH498.back hbr89
                            clear hbr89
                            have HH500 : Held Nob w ([rVec eMultiRule 104 Sr89_90 Ar89_90 cr89_90 (putMR (sortMR (seqB a0 k ++ ((hReads a0 (k : Int)).take v).map (haltRl a0 (k : Int)))) ((k : Int), ex63, ex63, (List.replicate ((a0.1).toNat) (0 : Int)), a0.2.2.1))] ++ [rEls (eSl eInt) S67 ((css.zip (hReads a0 (k : Int))).drop (v + 1)), rBlk q30 55 [.int .i64 (a0.1), .int .i64 (a0.2.1), .int .i64 ((a0.2.2.1 + a1.2.2.1)), .slice A_6_3 ((List.length (sortMR (seqB a0 k ++ ((hReads a0 (k : Int)).take v).map (haltRl a0 (k : Int)))))) c_6_3], rVec (eRaw (eSl eInt).size (eSl eInt).pos) 37 Sx (some ⟨be68, 0, none⟩) cr57_0 css, rBlk q23 55 [.int .i64 (0), .int .i64 (0), .int .i64 (0), .slice none (0) 0], rBlk q22 55 [.int .i64 (a1.1), .int .i64 (a1.2.1), .int .i64 (a1.2.2.1), .slice Az1_3 (a1.2.2.2.length) cz1_3], rBlk q21 55 [.int .i64 (a0.1), .int .i64 (a0.2.1), .int .i64 (a0.2.2.1), .slice Az0_3 (a0.2.2.2.length) cz0_3]]) _ := HH499
                            refine ⟨_, rfl, fun a_501 HE502 => hK487 _ _ (by exact HH500.sel [1, 3, 4, 5, 6] (by decide) rfl) ?_⟩
                            have HS503 := HH500.sel [1, 3, 4, 5, 6] (by decide) rfl
                            refine dr_take (i := 19) (ls' := #[true, true, true, true, true, true, true, true, true, true, true, true, true, true, true, true, true, true, true, true, false]) HE502 HS503 rfl (by kernel_rfl) (by kernel_rfl) (by kernel_rfl) (fun _ _ _ h => h) rfl (wt0 rfl) (x_fieldAddr fa_55_3 rfl) rfl rfl fun a_504 HE505 => ?_
                            refine dr_one (i := 20) (ls' := #[true, true, true, true, true, true, true, true, true, true, true, true, true, true, true, true, true, true, true, true, true]) rfl (by kernel_rfl) rfl fun K_506 hK507 => ?_
                            refine st_store (vs := [.slice Ar89_90 ((putMR (sortMR (seqB a0 k ++ ((hReads a0 (k : Int)).take v).map (haltRl a0 (k : Int)))) ((k : Int), ex63, ex63, (List.replicate ((a0.1).toNat) (0 : Int)), a0.2.2.1)).length) cr89_90]) 2 HE505 HH500 tv_53 rfl rfl rfl rfl rfl rfl (by simp [Value.oneCell']) (wt0 rfl) fun w' HH508 => hK507 _ _ (by exact HH508.sel [1, 3, 4, 5, 6] (by decide) rfl) ?_
                            have HS509 := HH508.sel [1, 3, 4, 5, 6] (by decide) rfl
                            refine dr_done (by kernel_rfl) ?_
                            clear HH275 HH284 HH285 HH286 HH287 a_282 HE283 a_290 HE291 a_292 HE293 a_294 HE295 a_296 HE297 a_298 HE299 a_300 HE301 a_302 HE303 a_304 HE305 a_306 HE307 a_308 HE309 a_310 HE311 a_312 HE313 a_314 HE315 a_316 HE317 HH288 HS289 K_318 hK319 a_470 HE471 K_474 hK475 HH472 a_476 HE477 HS473 a_481 HE482 K_478 hK479 HH480 HH488 HH489 HH490 HH491 HH492 HH493 HH494 HH495 HH496 HH497 HH498 HH499 a_484 HE485 HS483 a_501 HE502 K_486 hK487 HH500 HS503 hK507 K_506
                            exact nrm ⟨_, _, _, HE505.sub ⟨rfl, rfl, rfl, rfl, rfl, rfl, rfl, trivial⟩, HH508.sel [0, 1, 2, 3, 4, 5, 6] (by decide) rfl⟩
                          · refine st_call HE471 (wt0 rfl) rfl rfl rfl en_42 rfl rfl (spec_l00Own _ _ ex63 _ (HH472.sl (i := 1) rfl) (by omega)) fun e w' hr => ?_
                            obtain ⟨Ar90_0, cr90_0, rfl, hor90_0, hbr90⟩ := hr
                            obtain ⟨Sr90, HH510⟩ := HH472.newS hbr90 hor90_0
                            refine ⟨_, rfl, fun a_511 HE512 => hK475 _ _ (by exact HH510.sel [3, 6, 7, 8, 9] (by decide) rfl) ?_⟩
                            have HS513 := HH510.sel [3, 6, 7, 8, 9] (by decide) rfl
                            refine dr_take (i := 17) (ls' := #[true, false, true, true, true, true, true, true, true, true, true, true, true, true, true, true, true, true, false, false, false]) HE512 HS513 rfl (by kernel_rfl) (by kernel_rfl) (by kernel_rfl) (fun _ _ _ h => h) rfl (wt0 rfl) (show XS _ _ _ _ (.agg #[.int .i64 ((k : Int)), .slice A64 (ex63.length) c65, .slice Ar90_0 (ex63.length) cr90_0, .slice (some ⟨q86, 0, none⟩) ((List.replicate ((a0.1).toNat) (0 : Int)).length) ((a0.1).toNat), .int .i64 (a0.2.2.1)]) from x_build (vs := [(0, .int .i64 ((k : Int))), (1, .slice A64 (ex63.length) c65), (2, .slice Ar90_0 (ex63.length) cr90_0), (3, .slice (some ⟨q86, 0, none⟩) ((List.replicate ((a0.1).toNat) (0 : Int)).length) ((a0.1).toNat)), (4, .int .i64 (a0.2.2.1))]) tb_104 rfl (by simp [Value.oneCell'])) rfl rfl fun a_514 HE515 => ?_
                            refine dr_one (i := 1) (ls' := #[true, true, true, true, true, true, true, true, true, true, true, true, true, true, true, true, true, true, false, false, false]) rfl (by kernel_rfl) rfl fun K_516 hK517 => ?_
                            refine st_x HE515 HH510 (wt0 rfl) (x_load1 tv_53 rfl (c_blk 5 rfl rfl)) rfl rfl fun a_518 HE519 => hK517 _ _ HS513 ?_
                            refine dr_one (i := 18) (ls' := #[true, true, true, true, true, true, true, true, true, true, true, true, true, true, true, true, true, true, true, false, false]) rfl (by kernel_rfl) rfl fun K_520 hK521 => ?_
                            have HH522 := HH510.sel [2, 0, 1, 3, 4, 5, 6, 7, 8, 9] (by decide) rfl
                            have HH523 := HH522.sel [2, 0, 1, 3, 4, 5, 6, 7, 8, 9] (by decide) rfl
                            have HH524 := HH523.pairB (F := eInt) (c2 := [.int .i64 (a0.2.2.1)]) (y := a0.2.2.1) (oI (by exact ⟨by omega, by omega⟩))
                            have HH525 := HH524.sel [2, 0, 1, 3, 4, 5, 6, 7, 8, 9] (by decide) rfl
                            have HH526 := HH525.pair
                            have HH527 := HH526.sel [1, 0, 2, 3, 4, 5, 6, 7, 8] (by decide) rfl
                            have HH528 := HH527.pair
                            have HH529 := HH528.pairF (E := eInt) (c1 := [.int .i64 ((k : Int))]) (x := (k : Int)) (oI (by exact ⟨by omega, by omega⟩))
                            obtain ⟨S91, HH530⟩ : ∃ S, Held Nob w (rO eMultiRule S [.int .i64 ((k : Int)), .slice A64 (ex63.length) c65, .slice Ar90_0 (ex63.length) cr90_0, .slice (some ⟨q86, 0, none⟩) ((List.replicate ((a0.1).toNat) (0 : Int)).length) ((a0.1).toNat), .int .i64 (a0.2.2.1)] ((k : Int), ex63, ex63, (List.replicate ((a0.1).toNat) (0 : Int)), a0.2.2.1) :: _) _ := ⟨_, HH529⟩
                            have HH531 := HH530.sel [2, 0, 1, 3, 4, 5, 6, 7] (by decide) rfl
                            have HH532 : Held Nob w ([rVec eMultiRule 104 S_6_3 A_6_3 c_6_3 (sortMR (seqB a0 k ++ ((hReads a0 (k : Int)).take v).map (haltRl a0 (k : Int)))), rO eMultiRule S91 [.int .i64 ((k : Int)), .slice A64 (ex63.length) c65, .slice Ar90_0 (ex63.length) cr90_0, .slice (some ⟨q86, 0, none⟩) ((List.replicate ((a0.1).toNat) (0 : Int)).length) ((a0.1).toNat), .int .i64 (a0.2.2.1)] ((k : Int), ex63, ex63, (List.replicate ((a0.1).toNat) (0 : Int)), a0.2.2.1)] ++ [rEls (eSl eInt) S67 ((css.zip (hReads a0 (k : Int))).drop (v + 1)), rBlk q30 55 [.int .i64 (a0.1), .int .i64 (a0.2.1), .int .i64 ((a0.2.2.1 + a1.2.2.1)), .slice A_6_3 ((List.length (sortMR (seqB a0 k ++ ((hReads a0 (k : Int)).take v).map (haltRl a0 (k : Int)))))) c_6_3], rVec (eRaw (eSl eInt).size (eSl eInt).pos) 37 Sx (some ⟨be68, 0, none⟩) cr57_0 css, rBlk q23 55 [.int .i64 (0), .int .i64 (0), .int .i64 (0), .slice none (0) 0], rBlk q22 55 [.int .i64 (a1.1), .int .i64 (a1.2.1), .int .i64 (a1.2.2.1), .slice Az1_3 (a1.2.2.2.length) cz1_3], rBlk q21 55 [.int .i64 (a0.1), .int .i64 (a0.2.1), .int .i64 (a0.2.2.1), .slice Az0_3 (a0.2.2.2.length) cz0_3]]) _ := HH531
                            refine st_call HE519 (wt0 rfl) rfl rfl rfl en_69 rfl rfl (spec_l06Put (Foot [rVec eMultiRule 104 S_6_3 A_6_3 c_6_3 (sortMR (seqB a0 k ++ ((hReads a0 (k : Int)).take v).map (haltRl a0 (k : Int)))), rO eMultiRule S91 [.int .i64 ((k : Int)), .slice A64 (ex63.length) c65, .slice Ar90_0 (ex63.length) cr90_0, .slice (some ⟨q86, 0, none⟩) ((List.replicate ((a0.1).toNat) (0 : Int)).length) ((a0.1).toNat), .int .i64 (a0.2.2.1)] ((k : Int), ex63, ex63, (List.replicate ((a0.1).toNat) (0 : Int)), a0.2.2.1)]) _ _ (sortMR (seqB a0 k ++ ((hReads a0 (k : Int)).take v).map (haltRl a0 (k : Int)))) _ _ ((k : Int), ex63, ex63, (List.replicate ((a0.1).toNat) (0 : Int)), a0.2.2.1) _ _ HH532.focus (by first | omega | (simp only [putMR_len, palS_len, List.length_nil]; omega))) fun e w' hr => ?_
                            obtain ⟨Ar92_90, cr92_90, Sr92_90, rfl, hbr92⟩ := hr
                            have HH533 := HH532.back hbr92
                            clear hbr92
                            have HH534 : Held Nob w ([rVec eMultiRule 104 Sr92_90 Ar92_90 cr92_90 (putMR (sortMR (seqB a0 k ++ ((hReads a0 (k : Int)).take v).map (haltRl a0 (k : Int)))) ((k : Int), ex63, ex63, (List.replicate ((a0.1).toNat) (0 : Int)), a0.2.2.1))] ++ [rEls (eSl eInt) S67 ((css.zip (hReads a0 (k : Int))).drop (v + 1)), rBlk q30 55 [.int .i64 (a0.1), .int .i64 (a0.2.1), .int .i64 ((a0.2.2.1 + a1.2.2.1)), .slice A_6_3 ((List.length (sortMR (seqB a0 k ++ ((hReads a0 (k : Int)).take v).map (haltRl a0 (k : Int)))))) c_6_3], rVec (eRaw (eSl eInt).size (eSl eInt).pos) 37 Sx (some ⟨be68, 0, none⟩) cr57_0 css, rBlk q23 55 [.int .i64 (0), .int .i64 (0), .int .i64 (0), .slice none (0) 0], rBlk q22 55 [.int .i64 (a1.1), .int .i64 (a1.2.1), .int .i64 (a1.2.2.1), .slice Az1_3 (a1.2.2.2.length) cz1_3], rBlk q21 55 [.int .i64 (a0.1), .int .i64 (a0.2.1), .int .i64 (a0.2.2.1), .slice Az0_3 (a0.2.2.2.length) cz0_3]]) _ := HH533
                            refine ⟨_, rfl, fun a_535 HE536 => hK521 _ _ (by exact HH534.sel [1, 3, 4, 5, 6] (by decide) rfl) ?_⟩
                            have HS537 := HH534.sel [1, 3, 4, 5, 6] (by decide) rfl
                            refine dr_take (i := 19) (ls' := #[true, true, true, true, true, true, true, true, true, true, true, true, true, true, true, true, true, true, true, true, false]) HE536 HS537 rfl (by kernel_rfl) (by kernel_rfl) (by kernel_rfl) (fun _ _ _ h => h) rfl (wt0 rfl) (x_fieldAddr fa_55_3 rfl) rfl rfl fun a_538 HE539 => ?_
                            refine dr_one (i := 20) (ls' := #[true, true, true, true, true, true, true, true, true, true, true, true, true, true, true, true, true, true, true, true, true]) rfl (by kernel_rfl) rfl fun K_540 hK541 => ?_
                            refine st_store (vs := [.slice Ar92_90 ((putMR (sortMR (seqB a0 k ++ ((hReads a0 (k : Int)).take v).map (haltRl a0 (k : Int)))) ((k : Int), ex63, ex63, (List.replicate ((a0.1).toNat) (0 : Int)), a0.2.2.1)).length) cr92_90]) 2 HE539 HH534 tv_53 rfl rfl rfl rfl rfl rfl (by simp [Value.oneCell']) (wt0 rfl) fun w' HH542 => hK541 _ _ (by exact HH542.sel [1, 3, 4, 5, 6] (by decide) rfl) ?_
                            have HS543 := HH542.sel [1, 3, 4, 5, 6] (by decide) rfl
                            refine dr_done (by kernel_rfl) ?_
                            clear HH275 HH284 HH285 HH286 HH287 a_282 HE283 a_290 HE291 a_292 HE293 a_294 HE295 a_296 HE297 a_298 HE299 a_300 HE301 a_302 HE303 a_304 HE305 a_306 HE307 a_308 HE309 a_310 HE311 a_312 HE313 a_314 HE315 a_316 HE317 HH288 HS289 K_318 hK319 HH472 a_470 HE471 HS473 a_511 HE512 K_474 hK475 a_514 HE515 K_516 hK517 HH510 HH522 HH523 HH524 HH525 HH526 HH527 HH528 HH529 HH530 HH531 HH532 HH533 a_518 HE519 HS513 a_535 HE536 K_520 hK521 HH534 HS537 hK541 K_540
                            exact nrm ⟨_, _, _, HE539.sub ⟨rfl, rfl, rfl, rfl, rfl, rfl, rfl, trivial⟩, HH542.sel [0, 1, 2, 3, 4, 5, 6] (by decide) rfl⟩
                      · rintro a_544 w' ⟨Sr74_90, Ar74_90, cr74_90, HE545, HH546⟩
                        refine blk_n ?_
                        refine nrm ?_
                        refine rg ?_
                        refine pl_x HE545 HH546 (wt0 rfl) (x_move rfl) rfl rfl fun a_547 HE548 => ?_
                        refine pl_x HE548 HH546 (wt0 rfl) (x_add rfl rfl (by exact ⟨by omega, by omega⟩)) rfl rfl fun a_549 HE550 => ?_
                        refine pl_x HE550 HH546 (wt0 rfl) (x_assign rfl) rfl rfl fun a_551 HE552 => ?_
                        refine wpList_nil ?_
                        clear HH275 HH284 HH285 HH286 a_282 HE283 HH287 a_544 HE545 a_547 HE548 a_549 HE550
                        have E93 : sortMR (seqB a0 k ++ ((hReads a0 (k : Int)).take (v + 1)).map (haltRl a0 (k : Int))) = (putMR (sortMR (seqB a0 k ++ ((hReads a0 (k : Int)).take v).map (haltRl a0 (k : Int)))) ((k : Int), ex63, ex63, (List.replicate ((a0.1).toNat) (0 : Int)), a0.2.2.1)) := by
                          rw [take_snocI hzx, List.map_append, ← List.append_assoc]; exact sortMR_snoc _ _
                        exact nrm ⟨(hReads a0 (k : Int)).length - (v + 1), (by omega), v + 1, Ar74_90, cr74_90, Sr74_90, S67, rfl, HE552.sub ⟨(lkI rfl (by first | rfl | omega | (simp [hc25, hc27, hc28, hc29, p32_0, hc33, p55_0, hc56, p60_0, hc61, xex63]; done))), rfl, rfl, rfl, rfl, rfl, rfl, trivial⟩, ((HH546.sel [0, 1, 2, 3, 4, 5, 6] (by decide) rfl).to (by first | rfl | (rw [E93]; done) | (rw [E93]; rfl) | (simp only [E93]; done) | (simp only [E93]; rfl) | (rw [E93]; simp only [List.length_set]; done))), (by first | omega | assumption | (simp; done) | simp_all)⟩
                    · refine wp_exit ?_
                      refine (thn_exit (thn_exit (blk_hit ?_)))
                      refine blk_n ?_
                      refine nrm ?_
                      refine rg ?_
                      refine pl_x HE283 HH275 (wt0 rfl) (x_move rfl) rfl rfl fun a_553 HE554 => ?_
                      refine pl_x HE554 HH275 (wt0 rfl) (x_add rfl rfl (by exact ⟨by omega, by omega⟩)) rfl rfl fun a_555 HE556 => ?_
                      refine pl_x HE556 HH275 (wt0 rfl) (x_assign rfl) rfl rfl fun a_557 HE558 => ?_
                      refine wpList_nil ?_
                      clear a_282 HE283 a_553 HE554 a_555 HE556
                      have E94 : sortMR (seqB a0 (k + 1)) = sortMR (seqB a0 k ++ ((hReads a0 (k : Int)).take v).map (haltRl a0 (k : Int))) := by
                        rw [seqB_succ, List.take_of_length_le (by omega)]
                      exact nrm ⟨a0.2.2.1.toNat - (k + 1), (by omega), k + 1, A_6_3, c_6_3, S_6_3, rfl, HE558.sub ⟨(lkI rfl (by first | rfl | omega | (simp [hc25, hc27, hc28, hc29, p32_0, hc33, p55_0, hc56, p60_0, hc61]; done))), rfl, rfl, rfl, rfl, trivial⟩, ((HH275.sel [0, 2, 4, 5, 6] (by decide) rfl).to (by first | rfl | (rw [E94]; done) | (rw [E94]; rfl) | (simp only [E94]; done) | (simp only [E94]; rfl) | (rw [E94]; simp only [List.length_set]; done))), (by first | omega | assumption | (simp; done) | simp_all)⟩
                · refine wp_exit ?_
                  refine (thn_exit (thn_exit (blk_hit ?_)))
                  refine nrm ?_
                  refine wp_seq ?_
                  refine wp_seq ?_
                  refine rg ?_
                  refine pl_x HE258 HH250 (wt0 rfl) (x_assign rfl) rfl rfl fun a_559 HE560 => ?_
                  refine wpList_nil ?_
                  clear a_257 HE258
                  refine nrm ?_
                  refine wp_block ?_
                  refine lp (fun m a w' => ∃ (j : Nat) (A_6_3 : Option Addr) (c_6_3 : Nat) (S_6_3 : Nat → Prop), m = a1.2.2.2.length - j ∧ Env 114 [(11, .int .i64 (j : Int)), (2, .pointer (some ⟨q21, 0, none⟩)), (3, .pointer (some ⟨q22, 0, none⟩)), (4, .pointer (some ⟨q23, 0, none⟩)), (6, .pointer (some ⟨q30, 0, none⟩))] a ∧ Held Nob w [rVec eMultiRule 104 S_6_3 A_6_3 c_6_3 (sortMR (seqB a0 a0.2.2.1.toNat ++ (a1.2.2.2.take j).map (moveRl a0.2.2.1))), rBlk q30 55 [.int .i64 a0.1, .int .i64 a0.2.1, .int .i64 (a0.2.2.1 + a1.2.2.1), .slice A_6_3 (List.length (sortMR (seqB a0 a0.2.2.1.toNat ++ (a1.2.2.2.take j).map (moveRl a0.2.2.1)))) c_6_3], rBlk q23 55 [.int .i64 (0), .int .i64 (0), .int .i64 (0), .slice none (0) 0], rBlk q22 55 [.int .i64 (a1.1), .int .i64 (a1.2.1), .int .i64 (a1.2.2.1), .slice Az1_3 (a1.2.2.2.length) cz1_3], rBlk q21 55 [.int .i64 (a0.1), .int .i64 (a0.2.1), .int .i64 (a0.2.2.1), .slice Az0_3 (a0.2.2.2.length) cz0_3]] w' ∧ (j ≤ a1.2.2.2.length)) (a1.2.2.2.length - (0)) ?_ ?_
                  · have E95 : sortMR (seqB a0 a0.2.2.1.toNat ++ (a1.2.2.2.take 0).map (moveRl a0.2.2.1)) = sortMR (seqB a0 k) := by
                      rw [show k = a0.2.2.1.toNat from by omega]; simp
                    exact ⟨0, A_6_3, c_6_3, S_6_3, rfl, HE560.sub ⟨(lkI rfl (by first | rfl | omega | (simp [hc25, hc27, hc28, hc29, p32_0, hc33, p55_0, hc56]; done))), rfl, rfl, rfl, rfl, trivial⟩, ((HH250.sel [0, 1, 2, 3, 4] (by decide) rfl).to (by first | rfl | (rw [E95]; done) | (rw [E95]; rfl) | (simp only [E95]; done) | (simp only [E95]; rfl) | (rw [E95]; simp only [List.length_set]; done))), (by first | omega | assumption | (simp; done) | simp_all)⟩
                  · rintro m a_561 w' ⟨j, A_6_3, c_6_3, S_6_3, rfl, HE562, HH563, p96_0⟩
                    have hb1 := seqB_len hva a0.2.2.1.toNat
                    have ol : (sortMR (seqB a0 a0.2.2.1.toNat ++ (a1.2.2.2.take j).map (moveRl a0.2.2.1))).length = (seqB a0 a0.2.2.1.toNat).length + j := by rw [sortMR_len, List.length_append, List.length_map, List.length_take]; omega
                    refine wp_seq ?_
                    refine wp_seq ?_
                    refine rg ?_
                    refine pl_x HE562 HH563 (wt0 rfl) (x_move rfl) rfl rfl fun a_564 HE565 => ?_
                    refine pl_x HE565 HH563 (wt0 rfl) (x_fieldAddr fa_55_3 rfl) rfl rfl fun a_566 HE567 => ?_
                    refine pl_x HE567 HH563 (wt0 rfl) (x_load1 tv_53 rfl (c_blk 3 rfl rfl)) rfl rfl fun a_568 HE569 => ?_
                    refine pl_x HE569 HH563 (wt0 rfl) (x_len Try.underlying53 rfl) rfl rfl fun a_570 HE571 => ?_
                    refine pl_x HE571 HH563 (wt0 rfl) (x_lss rfl rfl) rfl rfl fun a_572 HE573 => ?_
                    refine wpList_nil ?_
                    clear a_559 HE560 HH250 a_561 HE562 a_564 HE565 a_566 HE567 a_568 HE569 a_570 HE571
                    refine nrm ?_
                    refine cnd_d HE573 rfl (fun hc97 => ?_) (fun hc97 => ?_)
                    · refine wp_skip ?_
                      refine nrm ?_
                      refine wp_seq ?_
                      refine wp_block ?_
                      have ke98 : j < a1.2.2.2.length := by omega
                      obtain ⟨be98, fe98, ese98, Ae98, Re98, De98⟩ := el_old gz1_3 ke98
                      obtain ⟨e98, xe98⟩ : ∃ x_, x_ = a1.2.2.2[j] := ⟨_, rfl⟩
                      rw [← xe98] at Re98
                      have Qe98 := Re98
                      obtain ⟨Ae98_1, ce98_1, Ae98_2, ce98_2, Ae98_3, ce98_3, rfl, ge98_0, ge98_1, ge98_2, ge98_3, ge98_4⟩ := shape_MultiRule Re98
                      have je98_0 := ge98_0; unfold I64 at je98_0
                      have le98_1 := ge98_1.len
                      have le98_2 := ge98_2.len
                      have le98_3 := ge98_3.len
                      have je98_4 := ge98_4; unfold I64 at je98_4
                      have hre98 := hrb e98 (by rw [xe98]; exact List.getElem_mem _)
                      refine wp_join (fun a w' => ∃ (Sr107_90 : Nat → Prop), ∃ (Ar107_90 : Option Addr), ∃ (cr107_90 : Nat), Env 114 [(2, .pointer (some ⟨q21, 0, none⟩)), (3, .pointer (some ⟨q22, 0, none⟩)), (4, .pointer (some ⟨q23, 0, none⟩)), (6, .pointer (some ⟨q30, 0, none⟩)), (11, .int .i64 ((j : Int)))] a ∧ Held Nob w [rVec eMultiRule 104 Sr107_90 Ar107_90 cr107_90 (putMR (sortMR (seqB a0 a0.2.2.1.toNat ++ (a1.2.2.2.take j).map (moveRl a0.2.2.1))) (moveR2 e98 a0.2.2.1)), rBlk q30 55 [.int .i64 (a0.1), .int .i64 (a0.2.1), .int .i64 ((a0.2.2.1 + a1.2.2.1)), .slice Ar107_90 ((putMR (sortMR (seqB a0 a0.2.2.1.toNat ++ (a1.2.2.2.take j).map (moveRl a0.2.2.1))) (moveR2 e98 a0.2.2.1)).length) cr107_90], rBlk q23 55 [.int .i64 (0), .int .i64 (0), .int .i64 (0), .slice none (0) 0], rBlk q22 55 [.int .i64 (a1.1), .int .i64 (a1.2.1), .int .i64 (a1.2.2.1), .slice Az1_3 (a1.2.2.2.length) cz1_3], rBlk q21 55 [.int .i64 (a0.1), .int .i64 (a0.2.1), .int .i64 (a0.2.2.1), .slice Az0_3 (a0.2.2.2.length) cz0_3]] w') ?_ ?_
                      · refine dr_start (Held Nob w [rBlk q23 55 [.int .i64 (0), .int .i64 (0), .int .i64 (0), .slice none (0) 0], rBlk q22 55 [.int .i64 (a1.1), .int .i64 (a1.2.1), .int .i64 (a1.2.2.1), .slice Az1_3 (a1.2.2.2.length) cz1_3], rBlk q21 55 [.int .i64 (a0.1), .int .i64 (a0.2.1), .int .i64 (a0.2.2.1), .slice Az0_3 (a0.2.2.2.length) cz0_3]]) 12 #[false, false, false, false, false, false, false, false, false, false, false, false] hmix rfl rfl HH563 (fun _ h => h.sel [2, 3, 4] (by decide) rfl) fun w' HH574 => ?_
                        have HS575 := HH574.sel [2, 3, 4] (by decide) rfl
                        refine dr_take (i := 0) (ls' := #[true, false, false, false, false, false, false, false, false, false, false, false]) HE573 HS575 rfl (by kernel_rfl) (by kernel_rfl) (by kernel_rfl) (fun _ _ _ h => h) rfl (wt0 rfl) (x_fieldAddr fa_55_3 rfl) rfl rfl fun a_576 HE577 => ?_
                        refine dr_take (i := 2) (ls' := #[true, false, true, false, false, false, false, false, false, false, false, false]) HE577 HS575 rfl (by kernel_rfl) (by kernel_rfl) (by kernel_rfl) (fun _ _ _ h => h) rfl (wt0 rfl) (x_fieldAddr fa_55_3 rfl) rfl rfl fun a_578 HE579 => ?_
                        refine dr_take (i := 3) (ls' := #[true, false, true, true, false, false, false, false, false, false, false, false]) HE579 HS575 rfl (by kernel_rfl) (by kernel_rfl) (by kernel_rfl) (fun _ _ _ h => h) rfl (wt0 rfl) (x_load1 tv_53 rfl (c_blk 1 rfl rfl)) rfl rfl fun a_580 HE581 => ?_
                        refine dr_take (i := 4) (ls' := #[true, false, true, true, true, false, false, false, false, false, false, false]) HE581 HS575 rfl (by kernel_rfl) (by kernel_rfl) (by kernel_rfl) (fun _ _ _ h => h) rfl (wt0 rfl) (x_move rfl) rfl rfl fun a_582 HE583 => ?_
                        refine dr_take (i := 5) (ls' := #[true, false, true, true, true, true, false, false, false, false, false, false]) HE583 HS575 rfl (by kernel_rfl) (by kernel_rfl) (by kernel_rfl) (fun _ _ _ h => h) rfl (wt0 rfl) (x_indexAddr ts_53 rfl rfl Ae98 rfl ke98) rfl rfl fun a_584 HE585 => ?_
                        refine dr_take (i := 6) (ls' := #[true, false, true, true, true, true, true, false, false, false, false, false]) HE585 HS575 rfl (by kernel_rfl) (by kernel_rfl) (by kernel_rfl) (fun _ _ _ h => h) rfl (wt0 rfl) (x_fieldAddr fa_55_2 rfl) rfl rfl fun a_586 HE587 => ?_
                        refine dr_take (i := 7) (ls' := #[true, false, true, true, true, true, true, true, false, false, false, false]) HE587 HS575 rfl (by kernel_rfl) (by kernel_rfl) (by kernel_rfl) (fun _ _ _ h => h) rfl (wt0 rfl) (x_load1 tv_2 rfl (c_blk 2 rfl rfl)) rfl rfl fun a_588 HE589 => ?_
                        refine dr_two (i := 1) (j := 8) (ls' := #[true, true, true, true, true, true, true, true, false, false, false, false]) (ls'' := #[true, false, true, true, true, true, true, true, true, false, false, false]) rfl rfl (by kernel_rfl) rfl rfl (fun K_590 hK591 => ?_) (fun K_590 hK591 => ?_)
                        · refine st_x HE589 HH574 (wt0 rfl) (x_load1 tv_53 rfl (c_blk 1 rfl rfl)) rfl rfl fun a_592 HE593 => hK591 _ _ HS575 ?_
                          refine dr_one (i := 8) (ls' := #[true, true, true, true, true, true, true, true, true, false, false, false]) rfl (by kernel_rfl) rfl fun K_594 hK595 => ?_
                          refine st_call HE593 (wt0 rfl) rfl rfl rfl en_70 rfl rfl (spec_l06OwnRule _ _ _ e98 a0.2.2.1 _ (HH574.oldR Qe98) (c_oldN De98 _ HH574) (by omega) (by omega)) fun e w' hr => ?_
                          obtain ⟨esr99_0, rfl, hor99_0, hbr99⟩ := hr
                          have hr := eMultiRule.read hor99_0
                          obtain ⟨Sr99, HH596⟩ := HH574.newO hbr99 hor99_0
                          obtain ⟨Ar99_0_1, cr99_0_1, Ar99_0_2, cr99_0_2, Ar99_0_3, cr99_0_3, rfl, gr99_0_0, gr99_0_1, gr99_0_2, gr99_0_3, gr99_0_4⟩ := shape_MultiRule hr
                          have jr99_0_0 := gr99_0_0; unfold I64 at jr99_0_0
                          have jr99_0_4 := gr99_0_4; unfold I64 at jr99_0_4
                          have HH597 := HH596.unF rfl
                          obtain ⟨S100, S101, HH598⟩ := HH597.unP rfl
                          have HH599 := HH598.sel [1, 0, 2, 3, 4, 5, 6] (by decide) rfl
                          obtain ⟨S102, S103, HH600⟩ := HH599.unP rfl
                          have HH601 := HH600.sel [1, 0, 2, 3, 4, 5, 6, 7] (by decide) rfl
                          obtain ⟨S104, S105, HH602⟩ := HH601.unP rfl
                          have HH603 := HH602.sel [1, 0, 2, 3, 4, 5, 6, 7, 8] (by decide) rfl
                          have HH604 := HH603.sel [1, 2, 3, 4, 5, 6, 7, 8] (by decide) rfl
                          refine ⟨_, rfl, fun a_605 HE606 => hK595 _ _ (by exact HH604.sel [5, 6, 7] (by decide) rfl) ?_⟩
                          have HS607 := HH604.sel [5, 6, 7] (by decide) rfl
                          refine dr_one (i := 9) (ls' := #[true, true, true, true, true, true, true, true, true, true, false, false]) rfl (by kernel_rfl) rfl fun K_608 hK609 => ?_
                          have HH610 := HH604.sel [2, 1, 0, 3, 4, 5, 6, 7] (by decide) rfl
                          have HH611 := HH610.sel [2, 0, 1, 3, 4, 5, 6, 7] (by decide) rfl
                          have HH612 := HH611.pairB (F := eInt) (c2 := [.int .i64 ((moveR2 e98 a0.2.2.1).2.2.2.2)]) (y := (moveR2 e98 a0.2.2.1).2.2.2.2) (oI (by exact ⟨by omega, by omega⟩))
                          have HH613 := HH612.sel [2, 0, 1, 3, 4, 5, 6, 7] (by decide) rfl
                          have HH614 := HH613.pair
                          have HH615 := HH614.sel [1, 0, 2, 3, 4, 5, 6] (by decide) rfl
                          have HH616 := HH615.pair
                          have HH617 := HH616.pairF (E := eInt) (c1 := [.int .i64 ((moveR2 e98 a0.2.2.1).1)]) (x := (moveR2 e98 a0.2.2.1).1) (oI (by exact ⟨by omega, by omega⟩))
                          obtain ⟨S106, HH618⟩ : ∃ S, Held Nob w (rO eMultiRule S [.int .i64 ((moveR2 e98 a0.2.2.1).1), .slice Ar99_0_1 ((moveR2 e98 a0.2.2.1).2.1.length) cr99_0_1, .slice Ar99_0_2 ((moveR2 e98 a0.2.2.1).2.2.1.length) cr99_0_2, .slice Ar99_0_3 ((moveR2 e98 a0.2.2.1).2.2.2.1.length) cr99_0_3, .int .i64 ((moveR2 e98 a0.2.2.1).2.2.2.2)] (moveR2 e98 a0.2.2.1) :: _) _ := ⟨_, HH617⟩
                          have HH619 := HH618.sel [1, 0, 2, 3, 4, 5] (by decide) rfl
                          have HH620 : Held Nob w ([rVec eMultiRule 104 S_6_3 A_6_3 c_6_3 (sortMR (seqB a0 a0.2.2.1.toNat ++ (a1.2.2.2.take j).map (moveRl a0.2.2.1))), rO eMultiRule S106 [.int .i64 ((moveR2 e98 a0.2.2.1).1), .slice Ar99_0_1 ((moveR2 e98 a0.2.2.1).2.1.length) cr99_0_1, .slice Ar99_0_2 ((moveR2 e98 a0.2.2.1).2.2.1.length) cr99_0_2, .slice Ar99_0_3 ((moveR2 e98 a0.2.2.1).2.2.2.1.length) cr99_0_3, .int .i64 ((moveR2 e98 a0.2.2.1).2.2.2.2)] (moveR2 e98 a0.2.2.1)] ++ [rBlk q30 55 [.int .i64 (a0.1), .int .i64 (a0.2.1), .int .i64 ((a0.2.2.1 + a1.2.2.1)), .slice A_6_3 ((List.length (sortMR (seqB a0 a0.2.2.1.toNat ++ (a1.2.2.2.take j).map (moveRl a0.2.2.1))))) c_6_3], rBlk q23 55 [.int .i64 (0), .int .i64 (0), .int .i64 (0), .slice none (0) 0], rBlk q22 55 [.int .i64 (a1.1), .int .i64 (a1.2.1), .int .i64 (a1.2.2.1), .slice Az1_3 (a1.2.2.2.length) cz1_3], rBlk q21 55 [.int .i64 (a0.1), .int .i64 (a0.2.1), .int .i64 (a0.2.2.1), .slice Az0_3 (a0.2.2.2.length) cz0_3]]) _ := HH619
                          refine st_call HE606 (wt0 rfl) rfl rfl rfl en_69 rfl rfl (spec_l06Put (Foot [rVec eMultiRule 104 S_6_3 A_6_3 c_6_3 (sortMR (seqB a0 a0.2.2.1.toNat ++ (a1.2.2.2.take j).map (moveRl a0.2.2.1))), rO eMultiRule S106 [.int .i64 ((moveR2 e98 a0.2.2.1).1), .slice Ar99_0_1 ((moveR2 e98 a0.2.2.1).2.1.length) cr99_0_1, .slice Ar99_0_2 ((moveR2 e98 a0.2.2.1).2.2.1.length) cr99_0_2, .slice Ar99_0_3 ((moveR2 e98 a0.2.2.1).2.2.2.1.length) cr99_0_3, .int .i64 ((moveR2 e98 a0.2.2.1).2.2.2.2)] (moveR2 e98 a0.2.2.1)]) _ _ (sortMR (seqB a0 a0.2.2.1.toNat ++ (a1.2.2.2.take j).map (moveRl a0.2.2.1))) _ _ (moveR2 e98 a0.2.2.1) _ _ HH620.focus (by first | omega | (simp only [putMR_len, palS_len, List.length_nil]; omega))) fun e w' hr => ?_
                          obtain ⟨Ar107_90, cr107_90, Sr107_90, rfl, hbr107⟩ := hr
                          have HH621 := HH620.back hbr107
                          clear hbr107
                          have HH622 : Held Nob w ([rVec eMultiRule 104 Sr107_90 Ar107_90 cr107_90 (putMR (sortMR (seqB a0 a0.2.2.1.toNat ++ (a1.2.2.2.take j).map (moveRl a0.2.2.1))) (moveR2 e98 a0.2.2.1))] ++ [rBlk q30 55 [.int .i64 (a0.1), .int .i64 (a0.2.1), .int .i64 ((a0.2.2.1 + a1.2.2.1)), .slice A_6_3 ((List.length (sortMR (seqB a0 a0.2.2.1.toNat ++ (a1.2.2.2.take j).map (moveRl a0.2.2.1))))) c_6_3], rBlk q23 55 [.int .i64 (0), .int .i64 (0), .int .i64 (0), .slice none (0) 0], rBlk q22 55 [.int .i64 (a1.1), .int .i64 (a1.2.1), .int .i64 (a1.2.2.1), .slice Az1_3 (a1.2.2.2.length) cz1_3], rBlk q21 55 [.int .i64 (a0.1), .int .i64 (a0.2.1), .int .i64 (a0.2.2.1), .slice Az0_3 (a0.2.2.2.length) cz0_3]]) _ := HH621
                          refine ⟨_, rfl, fun a_623 HE624 => hK609 _ _ (by exact HH622.sel [2, 3, 4] (by decide) rfl) ?_⟩
                          have HS625 := HH622.sel [2, 3, 4] (by decide) rfl
                          refine dr_take (i := 10) (ls' := #[true, true, true, true, true, true, true, true, true, true, true, false]) HE624 HS625 rfl (by kernel_rfl) (by kernel_rfl) (by kernel_rfl) (fun _ _ _ h => h) rfl (wt0 rfl) (x_fieldAddr fa_55_3 rfl) rfl rfl fun a_626 HE627 => ?_
                          refine dr_one (i := 11) (ls' := #[true, true, true, true, true, true, true, true, true, true, true, true]) rfl (by kernel_rfl) rfl fun K_628 hK629 => ?_
                          refine st_store (vs := [.slice Ar107_90 ((putMR (sortMR (seqB a0 a0.2.2.1.toNat ++ (a1.2.2.2.take j).map (moveRl a0.2.2.1))) (moveR2 e98 a0.2.2.1)).length) cr107_90]) 1 HE627 HH622 tv_53 rfl rfl rfl rfl rfl rfl (by simp [Value.oneCell']) (wt0 rfl) fun w' HH630 => hK629 _ _ (by exact HH630.sel [2, 3, 4] (by decide) rfl) ?_
                          have HS631 := HH630.sel [2, 3, 4] (by decide) rfl
                          refine dr_done (by kernel_rfl) ?_
                          clear HH563 a_572 HE573 a_576 HE577 a_578 HE579 a_580 HE581 a_582 HE583 a_584 HE585 a_586 HE587 a_588 HE589 K_590 hK591 HH574 HH596 HH597 HH598 HH599 HH600 HH601 HH602 HH603 a_592 HE593 HS575 K_594 hK595 HH604 HH610 HH611 HH612 HH613 HH614 HH615 HH616 HH617 HH618 HH619 HH620 HH621 a_605 HE606 HS607 a_623 HE624 K_608 hK609 HH622 HS625 hK629 K_628
                          exact nrm ⟨_, _, _, HE627.sub ⟨rfl, rfl, rfl, rfl, rfl, trivial⟩, HH630.sel [0, 1, 2, 3, 4] (by decide) rfl⟩
                        · refine st_call HE589 (wt0 rfl) rfl rfl rfl en_70 rfl rfl (spec_l06OwnRule _ _ _ e98 a0.2.2.1 _ (HH574.oldR Qe98) (c_oldN De98 _ HH574) (by omega) (by omega)) fun e w' hr => ?_
                          obtain ⟨esr108_0, rfl, hor108_0, hbr108⟩ := hr
                          have hr := eMultiRule.read hor108_0
                          obtain ⟨Sr108, HH632⟩ := HH574.newO hbr108 hor108_0
                          obtain ⟨Ar108_0_1, cr108_0_1, Ar108_0_2, cr108_0_2, Ar108_0_3, cr108_0_3, rfl, gr108_0_0, gr108_0_1, gr108_0_2, gr108_0_3, gr108_0_4⟩ := shape_MultiRule hr
                          have jr108_0_0 := gr108_0_0; unfold I64 at jr108_0_0
                          have jr108_0_4 := gr108_0_4; unfold I64 at jr108_0_4
                          have HH633 := HH632.unF rfl
                          obtain ⟨S109, S110, HH634⟩ := HH633.unP rfl
                          have HH635 := HH634.sel [1, 0, 2, 3, 4, 5, 6] (by decide) rfl
                          obtain ⟨S111, S112, HH636⟩ := HH635.unP rfl
                          have HH637 := HH636.sel [1, 0, 2, 3, 4, 5, 6, 7] (by decide) rfl
                          obtain ⟨S113, S114, HH638⟩ := HH637.unP rfl
                          have HH639 := HH638.sel [1, 0, 2, 3, 4, 5, 6, 7, 8] (by decide) rfl
                          have HH640 := HH639.sel [1, 2, 3, 4, 5, 6, 7, 8] (by decide) rfl
                          refine ⟨_, rfl, fun a_641 HE642 => hK591 _ _ (by exact HH640.sel [5, 6, 7] (by decide) rfl) ?_⟩
                          have HS643 := HH640.sel [5, 6, 7] (by decide) rfl
                          refine dr_one (i := 1) (ls' := #[true, true, true, true, true, true, true, true, true, false, false, false]) rfl (by kernel_rfl) rfl fun K_644 hK645 => ?_
                          refine st_x HE642 HH640 (wt0 rfl) (x_load1 tv_53 rfl (c_blk 4 rfl rfl)) rfl rfl fun a_646 HE647 => hK645 _ _ HS643 ?_
                          refine dr_one (i := 9) (ls' := #[true, true, true, true, true, true, true, true, true, true, false, false]) rfl (by kernel_rfl) rfl fun K_648 hK649 => ?_
                          have HH650 := HH640.sel [2, 1, 0, 3, 4, 5, 6, 7] (by decide) rfl
                          have HH651 := HH650.sel [2, 0, 1, 3, 4, 5, 6, 7] (by decide) rfl
                          have HH652 := HH651.pairB (F := eInt) (c2 := [.int .i64 ((moveR2 e98 a0.2.2.1).2.2.2.2)]) (y := (moveR2 e98 a0.2.2.1).2.2.2.2) (oI (by exact ⟨by omega, by omega⟩))
                          have HH653 := HH652.sel [2, 0, 1, 3, 4, 5, 6, 7] (by decide) rfl
                          have HH654 := HH653.pair
                          have HH655 := HH654.sel [1, 0, 2, 3, 4, 5, 6] (by decide) rfl
                          have HH656 := HH655.pair
                          have HH657 := HH656.pairF (E := eInt) (c1 := [.int .i64 ((moveR2 e98 a0.2.2.1).1)]) (x := (moveR2 e98 a0.2.2.1).1) (oI (by exact ⟨by omega, by omega⟩))
                          obtain ⟨S115, HH658⟩ : ∃ S, Held Nob w (rO eMultiRule S [.int .i64 ((moveR2 e98 a0.2.2.1).1), .slice Ar108_0_1 ((moveR2 e98 a0.2.2.1).2.1.length) cr108_0_1, .slice Ar108_0_2 ((moveR2 e98 a0.2.2.1).2.2.1.length) cr108_0_2, .slice Ar108_0_3 ((moveR2 e98 a0.2.2.1).2.2.2.1.length) cr108_0_3, .int .i64 ((moveR2 e98 a0.2.2.1).2.2.2.2)] (moveR2 e98 a0.2.2.1) :: _) _ := ⟨_, HH657⟩
                          have HH659 := HH658.sel [1, 0, 2, 3, 4, 5] (by decide) rfl
                          have HH660 : Held Nob w ([rVec eMultiRule 104 S_6_3 A_6_3 c_6_3 (sortMR (seqB a0 a0.2.2.1.toNat ++ (a1.2.2.2.take j).map (moveRl a0.2.2.1))), rO eMultiRule S115 [.int .i64 ((moveR2 e98 a0.2.2.1).1), .slice Ar108_0_1 ((moveR2 e98 a0.2.2.1).2.1.length) cr108_0_1, .slice Ar108_0_2 ((moveR2 e98 a0.2.2.1).2.2.1.length) cr108_0_2, .slice Ar108_0_3 ((moveR2 e98 a0.2.2.1).2.2.2.1.length) cr108_0_3, .int .i64 ((moveR2 e98 a0.2.2.1).2.2.2.2)] (moveR2 e98 a0.2.2.1)] ++ [rBlk q30 55 [.int .i64 (a0.1), .int .i64 (a0.2.1), .int .i64 ((a0.2.2.1 + a1.2.2.1)), .slice A_6_3 ((List.length (sortMR (seqB a0 a0.2.2.1.toNat ++ (a1.2.2.2.take j).map (moveRl a0.2.2.1))))) c_6_3], rBlk q23 55 [.int .i64 (0), .int .i64 (0), .int .i64 (0), .slice none (0) 0], rBlk q22 55 [.int .i64 (a1.1), .int .i64 (a1.2.1), .int .i64 (a1.2.2.1), .slice Az1_3 (a1.2.2.2.length) cz1_3], rBlk q21 55 [.int .i64 (a0.1), .int .i64 (a0.2.1), .int .i64 (a0.2.2.1), .slice Az0_3 (a0.2.2.2.length) cz0_3]]) _ := HH659
                          refine st_call HE647 (wt0 rfl) rfl rfl rfl en_69 rfl rfl (spec_l06Put (Foot [rVec eMultiRule 104 S_6_3 A_6_3 c_6_3 (sortMR (seqB a0 a0.2.2.1.toNat ++ (a1.2.2.2.take j).map (moveRl a0.2.2.1))), rO eMultiRule S115 [.int .i64 ((moveR2 e98 a0.2.2.1).1), .slice Ar108_0_1 ((moveR2 e98 a0.2.2.1).2.1.length) cr108_0_1, .slice Ar108_0_2 ((moveR2 e98 a0.2.2.1).2.2.1.length) cr108_0_2, .slice Ar108_0_3 ((moveR2 e98 a0.2.2.1).2.2.2.1.length) cr108_0_3, .int .i64 ((moveR2 e98 a0.2.2.1).2.2.2.2)] (moveR2 e98 a0.2.2.1)]) _ _ (sortMR (seqB a0 a0.2.2.1.toNat ++ (a1.2.2.2.take j).map (moveRl a0.2.2.1))) _ _ (moveR2 e98 a0.2.2.1) _ _ HH660.focus (by first | omega | (simp only [putMR_len, palS_len, List.length_nil]; omega))) fun e w' hr => ?_
                          obtain ⟨Ar116_90, cr116_90, Sr116_90, rfl, hbr116⟩ := hr
                          have HH661 := HH660.back hbr116
                          clear hbr116
                          have HH662 : Held Nob w ([rVec eMultiRule 104 Sr116_90 Ar116_90 cr116_90 (putMR (sortMR (seqB a0 a0.2.2.1.toNat ++ (a1.2.2.2.take j).map (moveRl a0.2.2.1))) (moveR2 e98 a0.2.2.1))] ++ [rBlk q30 55 [.int .i64 (a0.1), .int .i64 (a0.2.1), .int .i64 ((a0.2.2.1 + a1.2.2.1)), .slice A_6_3 ((List.length (sortMR (seqB a0 a0.2.2.1.toNat ++ (a1.2.2.2.take j).map (moveRl a0.2.2.1))))) c_6_3], rBlk q23 55 [.int .i64 (0), .int .i64 (0), .int .i64 (0), .slice none (0) 0], rBlk q22 55 [.int .i64 (a1.1), .int .i64 (a1.2.1), .int .i64 (a1.2.2.1), .slice Az1_3 (a1.2.2.2.length) cz1_3], rBlk q21 55 [.int .i64 (a0.1), .int .i64 (a0.2.1), .int .i64 (a0.2.2.1), .slice Az0_3 (a0.2.2.2.length) cz0_3]]) _ := HH661
                          refine ⟨_, rfl, fun a_663 HE664 => hK649 _ _ (by exact HH662.sel [2, 3, 4] (by decide) rfl) ?_⟩
                          have HS665 := HH662.sel [2, 3, 4] (by decide) rfl
                          refine dr_take (i := 10) (ls' := #[true, true, true, true, true, true, true, true, true, true, true, false]) HE664 HS665 rfl (by kernel_rfl) (by kernel_rfl) (by kernel_rfl) (fun _ _ _ h => h) rfl (wt0 rfl) (x_fieldAddr fa_55_3 rfl) rfl rfl fun a_666 HE667 => ?_
                          refine dr_one (i := 11) (ls' := #[true, true, true, true, true, true, true, true, true, true, true, true]) rfl (by kernel_rfl) rfl fun K_668 hK669 => ?_
                          refine st_store (vs := [.slice Ar116_90 ((putMR (sortMR (seqB a0 a0.2.2.1.toNat ++ (a1.2.2.2.take j).map (moveRl a0.2.2.1))) (moveR2 e98 a0.2.2.1)).length) cr116_90]) 1 HE667 HH662 tv_53 rfl rfl rfl rfl rfl rfl (by simp [Value.oneCell']) (wt0 rfl) fun w' HH670 => hK669 _ _ (by exact HH670.sel [2, 3, 4] (by decide) rfl) ?_
                          have HS671 := HH670.sel [2, 3, 4] (by decide) rfl
                          refine dr_done (by kernel_rfl) ?_
                          clear HH563 a_572 HE573 a_576 HE577 a_578 HE579 a_580 HE581 a_582 HE583 a_584 HE585 a_586 HE587 HH574 HH632 HH633 HH634 HH635 HH636 HH637 HH638 HH639 a_588 HE589 HS575 K_590 hK591 a_641 HE642 K_644 hK645 HH640 HH650 HH651 HH652 HH653 HH654 HH655 HH656 HH657 HH658 HH659 HH660 HH661 a_646 HE647 HS643 a_663 HE664 K_648 hK649 HH662 HS665 hK669 K_668
                          exact nrm ⟨_, _, _, HE667.sub ⟨rfl, rfl, rfl, rfl, rfl, trivial⟩, HH670.sel [0, 1, 2, 3, 4] (by decide) rfl⟩
                      · rintro a_672 w' ⟨Sr107_90, Ar107_90, cr107_90, HE673, HH674⟩
                        refine blk_n ?_
                        refine nrm ?_
                        refine rg ?_
                        refine pl_x HE673 HH674 (wt0 rfl) (x_move rfl) rfl rfl fun a_675 HE676 => ?_
                        refine pl_x HE676 HH674 (wt0 rfl) (x_add rfl rfl (by exact ⟨by omega, by omega⟩)) rfl rfl fun a_677 HE678 => ?_
                        refine pl_x HE678 HH674 (wt0 rfl) (x_assign rfl) rfl rfl fun a_679 HE680 => ?_
                        refine wpList_nil ?_
                        clear a_572 HE573 HH563 a_672 HE673 a_675 HE676 a_677 HE678
                        have E117 : sortMR (seqB a0 a0.2.2.1.toNat ++ (a1.2.2.2.take (j + 1)).map (moveRl a0.2.2.1)) = (putMR (sortMR (seqB a0 a0.2.2.1.toNat ++ (a1.2.2.2.take j).map (moveRl a0.2.2.1))) (moveR2 e98 a0.2.2.1)) := by
                          rw [List.take_succ_eq_append_getElem (by omega), List.map_append, ← List.append_assoc, ← xe98]; exact sortMR_snoc _ _
                        exact nrm ⟨a1.2.2.2.length - (j + 1), (by omega), j + 1, Ar107_90, cr107_90, Sr107_90, rfl, HE680.sub ⟨(lkI rfl (by first | rfl | omega | (simp [hc25, hc27, hc28, hc29, p32_0, hc33, p55_0, hc56, p96_0, hc97, xe98]; done))), rfl, rfl, rfl, rfl, trivial⟩, ((HH674.sel [0, 1, 2, 3, 4] (by decide) rfl).to (by first | rfl | (rw [E117]; done) | (rw [E117]; rfl) | (simp only [E117]; done) | (simp only [E117]; rfl) | (rw [E117]; simp only [List.length_set]; done))), (by first | omega | assumption | (simp; done) | simp_all)⟩
                    · refine wp_exit ?_
                      refine (thn_exit (thn_exit (blk_hit ?_)))
                      refine nrm ?_
                      refine wp_seq ?_
                      refine wp_seq ?_
                      refine rg ?_
                      refine pl fun K_681 hK682 => ?_
                      refine st_call HE573 (wt0 rfl) rfl rfl rfl en_60 rfl rfl (spec_l06Is _ _ _ (a0.1, a0.2.1, (a0.2.2.1 + a1.2.2.1), sortMR (seqB a0 a0.2.2.1.toNat ++ (a1.2.2.2.take j).map (moveRl a0.2.2.1))) _ (rep_Multi (x := (a0.1, a0.2.1, (a0.2.2.1 + a1.2.2.1), sortMR (seqB a0 a0.2.2.1.toNat ++ (a1.2.2.2.take j).map (moveRl a0.2.2.1)))) (by first | exact ⟨by omega, by omega⟩ | (dsimp only; exact ⟨by omega, by omega⟩)) (by first | exact ⟨by omega, by omega⟩ | (dsimp only; exact ⟨by omega, by omega⟩)) (by first | exact ⟨by omega, by omega⟩ | (dsimp only; exact ⟨by omega, by omega⟩)) (HH563.vecSl (i := 0) rfl)) (c_blkN 1 rfl _ HH563)) fun e w' hr => ?_
                      obtain ⟨rfl, hbr118⟩ := hr
                      have HH683 := HH563.on hbr118
                      refine ⟨_, rfl, fun a_684 HE685 => hK682 _ _ ?_⟩
                      refine pl_x HE685 HH683 (wt0 rfl) (x_not rfl) rfl rfl fun a_686 HE687 => ?_
                      refine wpList_nil ?_
                      clear HH563 a_572 HE573 a_684 HE685 hK682 K_681
                      refine nrm ?_
                      refine cnd_nb HE687 rfl (fun hc119 => ?_) (fun hc119 => ?_)
                      · refine wp_seq ?_
                        refine rg ?_
                        refine pl_x HE687 HH683 (wt0 rfl) (show XS _ _ _ _ (.agg #[.int .i64 (0), .int .i64 (0), .int .i64 (0), .slice none (0) 0]) from x_build (vs := []) tb_55 rfl (by simp [Value.oneCell'])) rfl rfl fun a_688 HE689 => ?_
                        refine pl fun K_690 hK691 => ?_
                        refine st_store (vs := [.int .i64 (0), .int .i64 (0), .int .i64 (0), .slice none (0) 0]) 2 HE689 HH683 tv_55 rfl rfl rfl rfl rfl rfl (by simp [Value.oneCell']) (wt0 rfl) fun w' HH692 => hK691 _ _ ?_
                        refine pl_x HE689 HH692 (wt0 rfl) (x_assign rfl) rfl rfl fun a_693 HE694 => ?_
                        refine wpList_nil ?_
                        clear a_686 HE687 HH683 a_688 HE689 hK691 K_690
                        refine nrm ?_
                        refine wp_ret ?_
                        refine (thn_ret ?_)
                        refine ret2 HE694 rfl (rv_cell rfl (tv_55.loadN (cs := [.int .i64 (0), .int .i64 (0), .int .i64 (0), .slice none (0) 0]) rfl (c_blkN 2 rfl _ HH692))) (rv_tmp rfl) ?_
                        have HH695 := HH692.flatO (E := eMulti) (cs := [.int .i64 (0), .int .i64 (0), .int .i64 (0), .slice none (0) 0]) (x := (0, 0, 0, [])) (fun _ => (oPrN (oI (by exact ⟨by omega, by omega⟩)) (oPrN (oI (by exact ⟨by omega, by omega⟩)) (oPrN (oI (by exact ⟨by omega, by omega⟩)) (oSl (So.nil (Nat.zero_le _)))))))
                        have hF : (seqMulti a0 a1) = ((0, 0, 0, []), 5) := by
                          first | (have hmq : (a0.1, a0.2.1, (a0.2.2.1 + a1.2.2.1), (sortMR (seqB a0 a0.2.2.1.toNat ++ (a1.2.2.2.take j).map (moveRl a0.2.2.1)))) = seqM a0 a1 := (by rw [List.take_of_length_le (by omega)]; rfl); have hcc := hc119; rw [hmq] at hcc; unfold seqMulti; rw [if_pos ⟨hva, hvb⟩, if_pos ⟨by omega, by omega⟩]; first | (rw [if_pos hcc, hmq]; done) | (rw [if_pos hcc, hmq]; rfl) | (rw [if_neg (by rw [hcc]; exact Bool.false_ne_true)]; done)) | (simp [seqMulti, hc25, hc27, hc28, hc29, p32_0, hc33, p55_0, hc56, p96_0, hc97, hc119]; done) | (unfold seqMulti; rw [if_neg (by grind)]; done) | (unfold seqMulti; rw [if_pos ⟨hva, hvb⟩, if_neg (by grind)]; done)
                        exact ⟨_, by first | (rw [hF] <;> rfl) | rfl | (rw [hF]; simp only [Ending.returned.injEq, Value.slice.injEq, true_and, and_true]; first | omega | (simp; done)) | (rw [hF]; simp; omega), by rw [hF]; exact (HH695.o (i := 0) rfl), HH695.below⟩
                      · refine wp_skip ?_
                        refine nrm ?_
                        refine wp_seq ?_
                        refine rg ?_
                        refine pl_x HE687 HH683 (wt0 rfl) (x_loadN (cs := [.int .i64 (a0.1), .int .i64 (a0.2.1), .int .i64 ((a0.2.2.1 + a1.2.2.1)), .slice A_6_3 ((List.length (sortMR (seqB a0 a0.2.2.1.toNat ++ (a1.2.2.2.take j).map (moveRl a0.2.2.1))))) c_6_3]) tv_55 rfl rfl (c_blkN 1 rfl)) rfl rfl fun a_696 HE697 => ?_
                        refine pl fun K_698 hK699 => ?_
                        refine st_store (vs := [.int .i64 (a0.1), .int .i64 (a0.2.1), .int .i64 ((a0.2.2.1 + a1.2.2.1)), .slice A_6_3 ((List.length (sortMR (seqB a0 a0.2.2.1.toNat ++ (a1.2.2.2.take j).map (moveRl a0.2.2.1))))) c_6_3]) 2 HE697 HH683 tv_55 rfl rfl rfl rfl rfl rfl (by simp [Value.oneCell']) (wt0 rfl) fun w' HH700 => hK699 _ _ ?_
                        refine pl_x HE697 HH700 (wt0 rfl) (x_assign rfl) rfl rfl fun a_701 HE702 => ?_
                        refine wpList_nil ?_
                        clear a_686 HE687 HH683 a_696 HE697 hK699 K_698
                        refine nrm ?_
                        refine wp_ret ?_
                        refine ret2 HE702 rfl (rv_cell rfl (tv_55.loadN (cs := [.int .i64 (a0.1), .int .i64 (a0.2.1), .int .i64 ((a0.2.2.1 + a1.2.2.1)), .slice A_6_3 ((List.length (sortMR (seqB a0 a0.2.2.1.toNat ++ (a1.2.2.2.take j).map (moveRl a0.2.2.1))))) c_6_3]) rfl (c_blkN 2 rfl _ HH700))) (rv_tmp rfl) ?_
                        have HH703 := HH700.vecSo
                        have HH704 := HH703.pairF (E := eInt) (c1 := [.int .i64 ((a0.2.2.1 + a1.2.2.1))]) (x := (a0.2.2.1 + a1.2.2.1)) (oI (by exact ⟨by omega, by omega⟩))
                        have HH705 := HH704.pairF (E := eInt) (c1 := [.int .i64 (a0.2.1)]) (x := a0.2.1) (oI (by exact ⟨by omega, by omega⟩))
                        have HH706 := HH705.pairF (E := eInt) (c1 := [.int .i64 (a0.1)]) (x := a0.1) (oI (by exact ⟨by omega, by omega⟩))
                        obtain ⟨S120, HH707⟩ : ∃ S, Held Nob w (rO eMulti S [.int .i64 (a0.1), .int .i64 (a0.2.1), .int .i64 ((a0.2.2.1 + a1.2.2.1)), .slice A_6_3 ((List.length (sortMR (seqB a0 a0.2.2.1.toNat ++ (a1.2.2.2.take j).map (moveRl a0.2.2.1))))) c_6_3] (a0.1, a0.2.1, (a0.2.2.1 + a1.2.2.1), sortMR (seqB a0 a0.2.2.1.toNat ++ (a1.2.2.2.take j).map (moveRl a0.2.2.1))) :: _) _ := ⟨_, HH706⟩
                        have hF : (seqMulti a0 a1) = ((a0.1, a0.2.1, (a0.2.2.1 + a1.2.2.1), sortMR (seqB a0 a0.2.2.1.toNat ++ (a1.2.2.2.take j).map (moveRl a0.2.2.1))), 0) := by
                          first | (have hmq : (a0.1, a0.2.1, (a0.2.2.1 + a1.2.2.1), (sortMR (seqB a0 a0.2.2.1.toNat ++ (a1.2.2.2.take j).map (moveRl a0.2.2.1)))) = seqM a0 a1 := (by rw [List.take_of_length_le (by omega)]; rfl); have hcc := hc119; rw [hmq] at hcc; unfold seqMulti; rw [if_pos ⟨hva, hvb⟩, if_pos ⟨by omega, by omega⟩]; first | (rw [if_pos hcc, hmq]; done) | (rw [if_pos hcc, hmq]; rfl) | (rw [if_neg (by rw [hcc]; exact Bool.false_ne_true)]; done)) | (simp [seqMulti, hc25, hc27, hc28, hc29, p32_0, hc33, p55_0, hc56, p96_0, hc97, hc119]; done) | (unfold seqMulti; rw [if_neg (by grind)]; done) | (unfold seqMulti; rw [if_pos ⟨hva, hvb⟩, if_neg (by grind)]; done)
                        exact ⟨_, by first | (rw [hF] <;> rfl) | rfl | (rw [hF]; simp only [Ending.returned.injEq, Value.slice.injEq, true_and, and_true]; first | omega | (simp; done)) | (rw [hF]; simp; omega), by rw [hF]; exact (HH707.o (i := 0) rfl), HH707.below⟩
  · refine pl_no HE29 (wtF HE29 rfl rfl rfl (not_t hc25)) rfl rfl fun a_708 HE709 => ?_
    refine pl_no HE709 (wtF HE709 rfl rfl rfl (not_t hc25)) rfl rfl fun a_710 HE711 => ?_
    refine pl_x HE711 HH23 (wt0 rfl) (x_pickT rfl (not_t hc25) rfl) rfl rfl fun a_712 HE713 => ?_
    refine wpList_nil ?_
    clear HH18 a_19 HE20 a_24 HE25 a_26 HE27 a_28 HE29 a_708 HE709 a_710 HE711 hK22 K_21
    refine nrm ?_
    refine cndT HE713 rfl rfl ?_
    refine wp_seq ?_
    refine rg ?_
    refine pl_x HE713 HH23 (wt0 rfl) (show XS _ _ _ _ (.agg #[.int .i64 (0), .int .i64 (0), .int .i64 (0), .slice none (0) 0]) from x_build (vs := []) tb_55 rfl (by simp [Value.oneCell'])) rfl rfl fun a_714 HE715 => ?_
    refine pl fun K_716 hK717 => ?_
    refine st_store (vs := [.int .i64 (0), .int .i64 (0), .int .i64 (0), .slice none (0) 0]) 0 HE715 HH23 tv_55 rfl rfl rfl rfl rfl rfl (by simp [Value.oneCell']) (wt0 rfl) fun w' HH718 => hK717 _ _ ?_
    refine pl_x HE715 HH718 (wt0 rfl) (x_assign rfl) rfl rfl fun a_719 HE720 => ?_
    refine wpList_nil ?_
    clear a_712 HE713 HH23 a_714 HE715 hK717 K_716
    refine nrm ?_
    refine wp_ret ?_
    refine (thn_ret ?_)
    refine ret2 HE720 rfl (rv_cell rfl (tv_55.loadN (cs := [.int .i64 (0), .int .i64 (0), .int .i64 (0), .slice none (0) 0]) rfl (c_blkN 0 rfl _ HH718))) (rv_tmp rfl) ?_
    have HH721 := HH718.flatO (E := eMulti) (cs := [.int .i64 (0), .int .i64 (0), .int .i64 (0), .slice none (0) 0]) (x := (0, 0, 0, [])) (fun _ => (oPrN (oI (by exact ⟨by omega, by omega⟩)) (oPrN (oI (by exact ⟨by omega, by omega⟩)) (oPrN (oI (by exact ⟨by omega, by omega⟩)) (oSl (So.nil (Nat.zero_le _)))))))
    have hF : (seqMulti a0 a1) = ((0, 0, 0, []), 1) := by
      first | (have hmq : (a0.1, a0.2.1, (a0.2.2.1 + a1.2.2.1), (sortMR (seqB a0 a0.2.2.1.toNat ++ (a1.2.2.2.take j).map (moveRl a0.2.2.1)))) = seqM a0 a1 := (by rw [List.take_of_length_le (by omega)]; rfl); have hcc := hc25; rw [hmq] at hcc; unfold seqMulti; rw [if_pos ⟨hva, hvb⟩, if_pos ⟨by omega, by omega⟩]; first | (rw [if_pos hcc, hmq]; done) | (rw [if_pos hcc, hmq]; rfl) | (rw [if_neg (by rw [hcc]; exact Bool.false_ne_true)]; done)) | (simp [seqMulti, hc25]; done) | (unfold seqMulti; rw [if_neg (by grind)]; done) | (unfold seqMulti; rw [if_pos ⟨hva, hvb⟩, if_neg (by grind)]; done)
    exact ⟨_, by first | (rw [hF] <;> rfl) | rfl | (rw [hF]; simp only [Ending.returned.injEq, Value.slice.injEq, true_and, and_true]; first | omega | (simp; done)) | (rw [hF]; simp; omega), by rw [hF]; exact (HH721.o (i := 0) rfl), HH721.below⟩

end Go.Proofs.Ythfihlfjphiihaa
